/- Contracts of functions that FnExactTriangulate reaches, out of the lines of the kit's print. -/
import Derived.Test.YtnnchaggdnlfmaaQFnExactTriangulatex0
import Derived.Test.YtnnchaggdnlfmaaQFnExactTriangulatex2
import Derived.Test.YtnnchaggdnlfmaaQFnExactTriangulatex11
import Derived.Test.YtnnchaggdnlfmaaQFnExactTriangulatex15
namespace Go.Proofs.Ytnnchaggdnlfmaa.PFnExactTriangulate
set_option maxHeartbeats 8000000
set_option maxRecDepth 100000
open Go.RowKit Go.Proofs.YtnnchaggdnlfmaaW.PrintWords Go.Proofs.YtnnchaggdnlfmaaW.PrintLast Go.Proofs.YtnnchaggdnlfmaaW.PrintMore
open Bool renaming true → tT, false → fF
open Go.World renaming block_lt_of_cell? → bL
open List renaming length_take → lT, length_drop → lD, map_toArray → mT, map_cons → mC, map_nil → mN
open Option renaming bind_eq_some_iff → bE
attribute [local go_sem] max2_int min2_int max_two min_two max_three min_three max_four min_four
set_option linter.unusedVariables false
set_option linter.unusedSimpArgs false
def impl_Triangulate.f (k : Nat) (l0 : List (S73)) : Option ((List (List (S73))) × Int):=(impl_ValidPolygon.f k l0).bind fun t364 => (if t364 = true then ((impl_triangles.f k l0).bind fun t365 => (some (t365,0))) else (some (([] : List (List (S73))),1)))
theorem impl_Triangulate.calls (k : Nat) (A0 : Option Addr) (c0 : Nat) (l0 : List (S73)) (r1 : List (List (S73))) (r2 : Int) (w : World) (hr0 : Kd.C k73 w A0 l0.length l0) (hc0 : l0.length ≤ c0) (h : impl_Triangulate.f k l0 = some (r1,r2)) :
  Calls Try.prog 27 #[.slice A0 l0.length c0] w fun e w' => ∃ v0_ : Value,e = .returned (.tuple #[v0_,.int .i64 r2]) ∧ Kd.S (Kd.slice 73 k73) 25 w' w.heap.size (fun _ => True) v0_ r1 ∧ Below w.heap.size w w':=by
 have HR0:=Aside0.mk hr0
 have HC0:=Aside0.mk hc0
 clear hr0 hc0
 have HB:=Aside0.mk (Below.refl w.heap.size w)
 have H : ((impl_ValidPolygon.f k l0).bind fun t364 => (if t364 = true then ((impl_triangles.f k l0).bind fun t365 => (some (t365,0))) else (some (([] : List (List (S73))),1)))) = some (r1,r2):=h
 clear h
 replace H:=bE.mp H
 obtain ⟨t364,A20,H⟩:=H
 replace H : (if t364 = true then ((impl_triangles.f k l0).bind fun t365 => (some (t365,0))) else (some (([] : List (List (S73))),1))) = some (r1,r2):=H
 have A2:=Aside0.mk A20
 clear A20
 by_cases c3 : t364 = true
 ·subst c3
  have H1 : ((impl_triangles.f k l0).bind fun t365 => (some (t365,0))) = some (r1,r2):=by rw [if_pos rfl] at H;exact H
  clear H
  have H:=H1
  clear H1
  replace H:=bE.mp H
  obtain ⟨t365,A40,H⟩:=H
  replace H : (some (t365,0)) = some (r1,r2):=H
  have A4:=Aside0.mk A40
  clear A40
  simp only [Option.some.injEq,Prod.mk.injEq] at H
  obtain ⟨rfl,rfl⟩:=H
  go_enter Try.func27,Try.ntmps27
  go_wp2_with (first | ((with_reducible refine gate_callee (f:=61) rfl ?_);refine goesL_ (some 5) rfl rfl Try.func61 (by kernel_rfl) rfl #[.slice A0 l0.length c0] rfl (by (try simp only [mT,mC,mN]);first | done | rfl | (simp only [lD,lT];rfl)) ?_;(with_reducible refine (impl_ValidPolygon.calls k _ _ l0 true _ ?side1 ?side2 A2.out).mono ?_);(case side1 => exact cO HR0.out);(case side2 => exact HC0.out);rintro e w5 ⟨rfl,hb⟩;refine ⟨_,rfl,?_⟩;replace HB:=sb hb;(try clear hb);(try clear hb2);(try clear hk);(try clear hi)) | ((with_reducible refine gate_callee (f:=66) rfl ?_);refine goesL_ (some 8) rfl rfl Try.func66 (by kernel_rfl) rfl #[.slice A0 l0.length c0] rfl (by (try simp only [mT,mC,mN]);first | done | rfl | (simp only [lD,lT];rfl)) ?_;(with_reducible refine (impl_triangles.calls k _ _ l0 t365 _ ?side1 ?side2 A4.out).mono ?_);(case side1 => exact cO ((Kd.C_below HR0.out HB.out)));(case side2 => exact HC0.out);rintro e w6 ⟨v366,rfl,ho0,hb⟩;refine ⟨_,rfl,?_⟩;have HO367:=Aside0.mk (Kd.S_lower ho0 (below_size ib));replace HB:=sb hb;(try clear hb);(try clear hb2);(try clear hk);(try clear hi);(try clear ho0)))
  go_ret2
  exact ⟨_,by first | rfl | (simp [errW_none,errW_some] <;> rfl) | (simp [*,errW_none,errW_some] <;> rfl),sO HO367.out,ib⟩
 ·replace c3:=Bool.eq_false_iff.mpr c3
  subst c3
  have H1 : (some (([] : List (List (S73))),1)) = some (r1,r2):=by rw [if_neg (show ¬ (false = true) by decide)] at H;exact H
  clear H
  have H:=H1
  clear H1
  simp only [Option.some.injEq,Prod.mk.injEq] at H
  obtain ⟨rfl,rfl⟩:=H
  go_enter Try.func27,Try.ntmps27
  go_wp2_with (first | ((with_reducible refine gate_callee (f:=61) rfl ?_);refine goesL_ (some 5) rfl rfl Try.func61 (by kernel_rfl) rfl #[.slice A0 l0.length c0] rfl (by (try simp only [mT,mC,mN]);first | done | rfl | (simp only [lD,lT];rfl)) ?_;(with_reducible refine (impl_ValidPolygon.calls k _ _ l0 false _ ?side1 ?side2 A2.out).mono ?_);(case side1 => exact cO HR0.out);(case side2 => exact HC0.out);rintro e w7 ⟨rfl,hb⟩;refine ⟨_,rfl,?_⟩;replace HB:=sb hb;(try clear hb);(try clear hb2);(try clear hk);(try clear hi)))
  go_ret2
  exact ⟨_,by first | rfl | (simp [errW_none,errW_some] <;> rfl) | (simp [*,errW_none,errW_some] <;> rfl),by first | exact Kd.S_nil _ _ _ _ _ | exact Kd.N_nil _ _ _ _ _ | exact Kd.V_nil _ _ _ _ _ | exact Kd.Q_nil _ _ _ _ _ | exact Kd.R_nil _ _ _ _ _,ib⟩
def laws_eqPointSS.l0 : Nat → List (List (S73)) → List (List (S73)) → Int → Option (Bool)
 | 0,_,_,_ => none
 | k + 1,x0,x1,x5 => if x5 < (x0.length : Int) then (if 0 ≤ x5 then (if x5 < (x1.length : Int) then ((laws_eqPointS.f k (rd_L3 x0 x5) (rd_L3 x1 x5)).bind fun t370 => (if t370 = true then (laws_eqPointSS.l0 k x0 x1 (wrap64 (x5 + 1))) else (some false))) else (none)) else (none)) else (some true)
def laws_eqPointSS.f (k : Nat) (l0 : List (List (S73))) (l1 : List (List (S73))) : Option (Bool):=if (l0.length : Int) = (l1.length : Int) then (laws_eqPointSS.l0 k l0 l1 0) else (some false)
def laws_eqPointSS.T6 : Bool × List (List Nat × List Nat):=(true,[([],[]),([],[]),([0,1],[0,1]),([2],[2]),([],[]),([],[]),([4,5],[4,5]),([6],[6]),([3,7],[3,7]),([8],[8])])
def laws_eqPointSS.B6 : List Nat:=[0,0,3,7,0,0,48,112,255,511]
theorem laws_eqPointSS.tab6 : rtab .any (opsOf Try.f28 6) = laws_eqPointSS.T6:=by kernel_rfl
theorem laws_eqPointSS.bits6 : waitsOk laws_eqPointSS.T6.2 laws_eqPointSS.B6 = true:=by kernel_rfl
theorem laws_eqPointSS.calls (k : Nat) (A0 : Option Addr) (c0 : Nat) (l0 : List (List (S73))) (A1 : Option Addr) (c1 : Nat) (l1 : List (List (S73))) (r : Bool) (w : World) (hr0 : Kd.C (Kd.slice 73 k73) w A0 l0.length l0) (hc0 : l0.length ≤ c0) (hr1 : Kd.C (Kd.slice 73 k73) w A1 l1.length l1) (hc1 : l1.length ≤ c1) (h : laws_eqPointSS.f k l0 l1 = some r) :
  Calls Try.prog 28 #[.slice A0 l0.length c0,.slice A1 l1.length c1] w fun e w' => e = .returned (.bool r) ∧ Below w.heap.size w w':=by
 have HR0:=Aside0.mk hr0
 have HC0:=Aside0.mk hc0
 clear hr0 hc0
 have HR1:=Aside0.mk hr1
 have HC1:=Aside0.mk hc1
 clear hr1 hc1
 have HB:=Aside0.mk (Below.refl w.heap.size w)
 have H : (if (l0.length : Int) = (l1.length : Int) then (laws_eqPointSS.l0 k l0 l1 0) else (some false)) = some r:=h
 clear h
 by_cases c3 : (l0.length : Int) = (l1.length : Int)
 ·rw [if_pos c3] at H
  have c3b0 : ((l0.length : Int) == (l1.length : Int)) = true:=beq_iff_eq.mpr c3
  have c3b1 : ((l0.length : Int) != (l1.length : Int)) = false:=bne_eq_false_iff_eq.mpr c3
  have c3b2 : (l0.length == l1.length) = true:=by first | simpa using c3 | (simp at c3 ⊢;omega)
  clear c3
  have H':=Aside0.mk H
  clear H
  go_enter Try.func28,Try.ntmps28
  go_wp2
  go_loopg [5] k (fun kq v5 w' => ∃ (x5_1 : Int),v5 = .int .i64 x5_1 ∧ Aside0 (laws_eqPointSS.l0 kq l0 l1 x5_1 = some r) ∧ Aside0 (kq ≤ k) ∧ Aside0 (Below w.heap.size w w'))
  case atStart => exact ⟨(0),(by first | rfl | (simp;done) | (simp [*];done)),H',⟨Nat.le_refl _⟩,⟨ib⟩⟩
  case round =>
   clear H'
   try clear c1
   try clear c2
   try clear p2
   try clear c3
   try clear c3b0
   try clear c3b1
   try clear c3b2
   obtain ⟨x5_1,rfl,HA,HK1,HB⟩:=hrel
   cases gk with
   | zero => exact absurd HA.out (by simp [laws_eqPointSS.l0])
   | succ k1 =>
    have H:=HA.out
    clear HA
    simp only [laws_eqPointSS.l0] at H
    by_cases c4 : x5_1 < (l0.length : Int)
    ·rw [if_pos c4] at H
     have c4b0 : decide (x5_1 < (l0.length : Int)) = true:=decide_eq_true c4
     clear c4
     by_cases c5 : 0 ≤ x5_1
     ·rw [if_pos c5] at H
      have c5b0 : decide (0 ≤ x5_1) = true:=decide_eq_true c5
      clear c5
      by_cases c6 : x5_1 < (l1.length : Int)
      ·rw [if_pos c6] at H
       have c6b0 : decide (x5_1 < (l1.length : Int)) = true:=decide_eq_true c6
       clear c6
       replace H:=bE.mp H
       obtain ⟨t370,A70,H⟩:=H
       replace H : (if t370 = true then (laws_eqPointSS.l0 k1 l0 l1 (wrap64 (x5_1 + 1))) else (some false)) = some r:=H
       have A7:=Aside0.mk A70
       clear A70
       by_cases c8 : t370 = true
       ·subst c8
        have H1 : (laws_eqPointSS.l0 k1 l0 l1 (wrap64 (x5_1 + 1))) = some r:=by rw [if_pos rfl] at H;exact H
        clear H
        have H:=H1
        clear H1
        have H':=Aside0.mk H
        clear H
        try go_wp2
        replace HB:=Aside0.mk (below_drew1 HB.out)
        have p368 : 0 ≤ (x5_1 : Int):=da
        have q368 : x5_1 < (l0.length : Int):=da
        obtain ⟨ad368,A368_0,c368_0,e368,hx368_0,hl368_0,hi368_0⟩:=at_L3 HR0.out x5_1 p368 q368
        have hw368_0:=hx368_0
        cases e368
        replace hx368_0:=cq HB.out hx368_0
        have HR368_0:=Aside0.mk hi368_0
        have HC368_0:=Aside0.mk hl368_0
        clear hi368_0 hl368_0
        replace p368:=eq_true p368
        replace q368:=eq_true q368
        have p369 : 0 ≤ (x5_1 : Int):=da
        have q369 : x5_1 < (l1.length : Int):=da
        obtain ⟨ad369,A369_0,c369_0,e369,hx369_0,hl369_0,hi369_0⟩:=at_L3 HR1.out x5_1 p369 q369
        have hw369_0:=hx369_0
        cases e369
        replace hx369_0:=cq HB.out hx369_0
        have HR369_0:=Aside0.mk hi369_0
        have HC369_0:=Aside0.mk hl369_0
        clear hi369_0 hl369_0
        replace p369:=eq_true p369
        replace q369:=eq_true q369
        refine start_ (n:=10) (S:=fun w' => w'.cell? (ad368.add (x5_1).toNat) = some (.slice A368_0 (rd_L3 l0 x5_1).length c368_0) ∧ w'.cell? (ad369.add (x5_1).toNat) = some (.slice A369_0 (rd_L3 l1 x5_1).length c369_0)) (ds:=[]) #[fF,fF,fF,fF,fF,fF,fF,fF,fF,fF] (by kernel_rfl) rfl rfl ⟨cq HB.out hw368_0,cq HB.out hw369_0⟩ (fun hHeld => ?_);refine with_tabW laws_eqPointSS.tab6 laws_eqPointSS.bits6 (fun HT_ HW_ => ?_)
        generalize wr.drew = w9 at HB HR368_0 HR369_0 hx368_0 hx369_0 hHeld ⊢
        refine pu 0 17 HT_ ?_
        refine pu 1 18 HT_ ?_
        refine pu 2 19 HT_ ?_
        refine pu 4 21 HT_ ?_
        refine pu 5 22 HT_ ?_
        refine pu 6 23 HT_ ?_
        refine tk 3 20 HT_ HW_ hHeld ?_
        refine tk 7 24 HT_ HW_ hHeld ?_
        refine on 8 25 HT_ (fun K hK => ?_)
        refine goes_ Try.func19 (by kernel_rfl) rfl #[.slice A368_0 (rd_L3 l0 x5_1).length c368_0,.slice A369_0 (rd_L3 l1 x5_1).length c369_0] (by rfl) rfl rfl (by (try simp only [mT,mC,mN]);first | done | rfl | (simp only [lD,lT];rfl)) ?_
        with_reducible refine (laws_eqPointS.calls k1 _ _ (rd_L3 l0 x5_1) _ _ (rd_L3 l1 x5_1) true _ ?side1 ?side2 ?side3 ?side4 A7.out).mono ?_
        (case side1 => repeat (first | exact (Kd.C_below HR368_0.out HB.out) | exact HR368_0.out | (with_reducible refine Kd.C_alloc ?_ _) | (with_reducible refine Kd.C_drewN ?_ _) | (with_reducible refine Kd.C_drew ?_)))
        (case side2 => exact HC368_0.out)
        (case side3 => repeat (first | exact (Kd.C_below HR369_0.out HB.out) | exact HR369_0.out | (with_reducible refine Kd.C_alloc ?_ _) | (with_reducible refine Kd.C_drewN ?_ _) | (with_reducible refine Kd.C_drew ?_)))
        (case side4 => exact HC369_0.out)
        rintro e w10 ⟨rfl,hb⟩
        refine ⟨_,rfl,?_⟩
        replace HB:=sb hb
        (try clear hb)
        (try clear hb2)
        (try clear hk)
        (try clear hi)
        refine hK.out _ _ ⟨cq HB.out hw368_0,cq HB.out hw369_0⟩ (fun hHeld => ?_)
        clear hK K
        refine norm_ (a':=?_) ?_ ?_
        rotate_left
        ·show Act.put _ (some 25) _ = _
         simp only [Act.put,List.setIfInBounds_toArray,List.set_cons_zero,List.set_cons_succ,i64_w,i32_w]
         rfl
        refine pu 9 26 HT_ ?_
        refine done_ (done_of HT_.out (by kernel_rfl)) ?_
        try go_wp2
        go_roundg k1
        case measure => have:=HK1.out;omega
        case rel => exact ⟨(wrap64 (x5_1 + 1)),(by first | rfl | (simp;done) | (simp [*];done)),H',⟨by have:=HK1.out;omega⟩,⟨ib⟩⟩
       ·replace c8:=Bool.eq_false_iff.mpr c8
        subst c8
        have H1 : (some false) = some r:=by rw [if_neg (show ¬ (false = true) by decide)] at H;exact H
        clear H
        have H:=H1
        clear H1
        obtain rfl:=Option.some.inj H
        try go_wp2
        replace HB:=Aside0.mk (below_drew1 HB.out)
        have p368 : 0 ≤ (x5_1 : Int):=da
        have q368 : x5_1 < (l0.length : Int):=da
        obtain ⟨ad368,A368_0,c368_0,e368,hx368_0,hl368_0,hi368_0⟩:=at_L3 HR0.out x5_1 p368 q368
        have hw368_0:=hx368_0
        cases e368
        replace hx368_0:=cq HB.out hx368_0
        have HR368_0:=Aside0.mk hi368_0
        have HC368_0:=Aside0.mk hl368_0
        clear hi368_0 hl368_0
        replace p368:=eq_true p368
        replace q368:=eq_true q368
        have p369 : 0 ≤ (x5_1 : Int):=da
        have q369 : x5_1 < (l1.length : Int):=da
        obtain ⟨ad369,A369_0,c369_0,e369,hx369_0,hl369_0,hi369_0⟩:=at_L3 HR1.out x5_1 p369 q369
        have hw369_0:=hx369_0
        cases e369
        replace hx369_0:=cq HB.out hx369_0
        have HR369_0:=Aside0.mk hi369_0
        have HC369_0:=Aside0.mk hl369_0
        clear hi369_0 hl369_0
        replace p369:=eq_true p369
        replace q369:=eq_true q369
        refine start_ (n:=10) (S:=fun w' => w'.cell? (ad368.add (x5_1).toNat) = some (.slice A368_0 (rd_L3 l0 x5_1).length c368_0) ∧ w'.cell? (ad369.add (x5_1).toNat) = some (.slice A369_0 (rd_L3 l1 x5_1).length c369_0)) (ds:=[]) #[fF,fF,fF,fF,fF,fF,fF,fF,fF,fF] (by kernel_rfl) rfl rfl ⟨cq HB.out hw368_0,cq HB.out hw369_0⟩ (fun hHeld => ?_);refine with_tabW laws_eqPointSS.tab6 laws_eqPointSS.bits6 (fun HT_ HW_ => ?_)
        generalize wr.drew = w11 at HB HR368_0 HR369_0 hx368_0 hx369_0 hHeld ⊢
        refine pu 0 17 HT_ ?_
        refine pu 1 18 HT_ ?_
        refine pu 2 19 HT_ ?_
        refine pu 4 21 HT_ ?_
        refine pu 5 22 HT_ ?_
        refine pu 6 23 HT_ ?_
        refine tk 3 20 HT_ HW_ hHeld ?_
        refine tk 7 24 HT_ HW_ hHeld ?_
        refine on 8 25 HT_ (fun K hK => ?_)
        refine goes_ Try.func19 (by kernel_rfl) rfl #[.slice A368_0 (rd_L3 l0 x5_1).length c368_0,.slice A369_0 (rd_L3 l1 x5_1).length c369_0] (by rfl) rfl rfl (by (try simp only [mT,mC,mN]);first | done | rfl | (simp only [lD,lT];rfl)) ?_
        with_reducible refine (laws_eqPointS.calls k1 _ _ (rd_L3 l0 x5_1) _ _ (rd_L3 l1 x5_1) false _ ?side1 ?side2 ?side3 ?side4 A7.out).mono ?_
        (case side1 => repeat (first | exact (Kd.C_below HR368_0.out HB.out) | exact HR368_0.out | (with_reducible refine Kd.C_alloc ?_ _) | (with_reducible refine Kd.C_drewN ?_ _) | (with_reducible refine Kd.C_drew ?_)))
        (case side2 => exact HC368_0.out)
        (case side3 => repeat (first | exact (Kd.C_below HR369_0.out HB.out) | exact HR369_0.out | (with_reducible refine Kd.C_alloc ?_ _) | (with_reducible refine Kd.C_drewN ?_ _) | (with_reducible refine Kd.C_drew ?_)))
        (case side4 => exact HC369_0.out)
        rintro e w12 ⟨rfl,hb⟩
        refine ⟨_,rfl,?_⟩
        replace HB:=sb hb
        (try clear hb)
        (try clear hb2)
        (try clear hk)
        (try clear hi)
        refine hK.out _ _ ⟨cq HB.out hw368_0,cq HB.out hw369_0⟩ (fun hHeld => ?_)
        clear hK K
        refine norm_ (a':=?_) ?_ ?_
        rotate_left
        ·show Act.put _ (some 25) _ = _
         simp only [Act.put,List.setIfInBounds_toArray,List.set_cons_zero,List.set_cons_succ,i64_w,i32_w]
         rfl
        refine pu 9 26 HT_ ?_
        refine done_ (done_of HT_.out (by kernel_rfl)) ?_
        try go_wp2
        go_ret
        exact ⟨by first | rfl | (simp [errW_none,errW_some] <;> rfl) | (simp [*,errW_none,errW_some] <;> rfl),ib⟩
      ·rw [if_neg c6] at H
       exact absurd H (by simp)
     ·rw [if_neg c5] at H
      exact absurd H (by simp)
    ·rw [if_neg c4] at H
     have c4b0 : decide (x5_1 < (l0.length : Int)) = false:=decide_eq_false c4
     clear c4
     obtain rfl:=Option.some.inj H
     go_wp2
     go_ret
     exact ⟨by first | rfl | (simp [errW_none,errW_some] <;> rfl) | (simp [*,errW_none,errW_some] <;> rfl),ib⟩
 ·rw [if_neg c3] at H
  have c3b0 : ((l0.length : Int) == (l1.length : Int)) = false:=beq_eq_false_iff_ne.mpr c3
  have c3b1 : ((l0.length : Int) != (l1.length : Int)) = true:=bne_iff_ne.mpr c3
  have c3b2 : (l0.length == l1.length) = false:=by first | simpa using c3 | (simp at c3 ⊢;omega)
  obtain rfl:=Option.some.inj H
  go_enter Try.func28,Try.ntmps28
  go_wp2
  go_ret
  exact ⟨by first | rfl | (simp [errW_none,errW_some] <;> rfl) | (simp [*,errW_none,errW_some] <;> rfl),ib⟩
def laws_markPointSS.l0 : Nat → List (List (S73)) → Int → Int → Option (Int × List (List (S73)))
 | 0,_,_,_ => none
 | k + 1,x0,x1,x5 => if x5 < (x0.length : Int) then (if 0 ≤ x5 then ((laws_markPointS.f k (x0.getD x5.toNat ([] : List (S73))) x1).bind fun bt => (laws_markPointSS.l0 k (x0.set x5.toNat bt.2) bt.1 (wrap64 (x5 + 1)))) else (none)) else (some (x1,x0))
def laws_markPointSS.f (k : Nat) (l0 : List (List (S73))) (a1 : Int) : Option (Int × List (List (S73))):=laws_markPointSS.l0 k l0 a1 0
theorem laws_markPointSS.calls (k : Nat) (P0_ : Nat → Prop) (u9000_ : Value) (l0 : List (List (S73))) (a1 : Int) (r1 : Int) (r2 : List (List (S73))) (w0 w : World) (hB : Below w0.heap.size w0 w) (ho0 : Kd.S (Kd.slice 73 k73) 25 w w0.heap.size P0_ u9000_ l0) (h : laws_markPointSS.f k l0 a1 = some (r1,r2)) :
  Calls Try.prog 29 #[u9000_,.int .i64 a1] w fun e w' => e = .returned (.int .i64 r1) ∧ Kd.S (Kd.slice 73 k73) 25 w' w0.heap.size (fun k_ => (P0_ k_ ∨ w.heap.size ≤ k_)) u9000_ r2 ∧ Below w0.heap.size w0 w' ∧ Kept w w' (fun k_ => P0_ k_):=by
 have HO0:=Aside0.mk (show Kd.S (Kd.slice 73 k73) 25 w w0.heap.size (fun k_ => (P0_ k_ ∨ w.heap.size ≤ k_)) u9000_ l0 from Kd.S_mono ho0 (fun k_ hk => (.inl hk)))
 have HK:=Aside0.mk (Kept.refl w (fun k_ => P0_ k_))
 have HW0:=Aside0.mk hB.size
 have HB:=Aside0.mk hB
 clear hB ho0
 have H : (laws_markPointSS.l0 k l0 a1 0) = some (r1,r2):=h
 clear h
 have H':=Aside0.mk H
 clear H
 have HO_0:=HO0
 clear HO0
 go_enter Try.func29,Try.ntmps29
 go_wp2
 go_loopg [1,5] k (fun kq v1 v5 w' => ∃ (x0_1 : List (List (S73))) (x1_1 : Int) (x5_1 : Int),v1 = .int .i64 x1_1 ∧ v5 = .int .i64 x5_1 ∧ Aside0 (laws_markPointSS.l0 kq x0_1 x1_1 x5_1 = some (r1,r2)) ∧ Aside0 (kq ≤ k) ∧ Aside0 (Kd.S (Kd.slice 73 k73) 25 w' w0.heap.size (fun k_ => (P0_ k_ ∨ w.heap.size ≤ k_)) u9000_ x0_1) ∧ Aside0 (Kept w w' (fun k_ => P0_ k_)) ∧ Aside0 (Below w0.heap.size w0 w'))
 case atStart => exact ⟨(l0),(a1),(0),(by first | rfl | (simp;done) | (simp [*];done)),(by first | rfl | (simp;done) | (simp [*];done)),H',⟨Nat.le_refl _⟩,⟨(sO HO_0.out)⟩,⟨(by repeat (first | (with_reducible first | exact HK.out | apply Kept.alloc | apply Kept.drewN | apply Kept.drew) | exact HK.out))⟩,⟨ib⟩⟩
 case round =>
  clear H' HO_0 HK HB
  obtain ⟨x0_1,x1_1,x5_1,rfl,rfl,HA,HK1,HO_0,HK,HB⟩:=hrel
  cases gk with
  | zero => exact absurd HA.out (by simp [laws_markPointSS.l0])
  | succ k1 =>
   have H:=HA.out
   clear HA
   simp only [laws_markPointSS.l0] at H
   by_cases c3 : x5_1 < (x0_1.length : Int)
   ·rw [if_pos c3] at H
    have c3b0 : decide (x5_1 < (x0_1.length : Int)) = true:=decide_eq_true c3
    by_cases c4 : 0 ≤ x5_1
    ·rw [if_pos c4] at H
     have c4b0 : decide (0 ≤ x5_1) = true:=decide_eq_true c4
     replace H:=bE.mp H
     obtain ⟨⟨y1,y2⟩,A50,H⟩:=H
     replace H : (laws_markPointSS.l0 k1 (x0_1.set x5_1.toNat y2) y1 (wrap64 (x5_1 + 1))) = some (r1,r2):=H
     have H':=Aside0.mk H
     clear H
     obtain ⟨y5,hy5⟩ : ∃ y_ : List (S73),x0_1.getD x5_1.toNat ([] : List (S73)) = y_:=⟨_,rfl⟩
     rw [hy5] at A50
     have A5:=Aside0.mk A50
     clear A50
     obtain ⟨go5,co5,eo5,gb5,gl5,cl5,HG5⟩:=Kd.S_form HO_0.out (by omega)
     subst eo5
     clear gb5 gl5 HG5
     obtain ⟨oki,c,hcl,hM,hcc,hoki,hH⟩:=Kd.S_lend HO_0.out ([] : List (S73)) x5_1 c4 c3
     rw [hy5] at hM
     clear hy5
     obtain ⟨v5,rfl,hR⟩:=hM
     obtain ⟨A5_,c5_,e5_⟩:=Kd.R_slice hR
     subst e5_
     have hx5_0 : wr.cell? ⟨go5,x5_1.toNat,none⟩ = some (.slice A5_ y5.length c5_):=by
      have h_:=hcc 0 _ rfl
      rw [show x5_1.toNat * (Kd.slice 73 k73).sz + 0 = x5_1.toNat from (Nat.add_zero _).trans (Nat.mul_one _)] at h_
      exact h_
     have HR5:=Aside0.mk hR
     have HH5:=Aside0.mk hH
     have HOK:=Aside0.mk hoki
     clear hcl hcc hR hH hoki
     replace c3:=eq_true c3
     replace c4:=eq_true c4
     go_wp2_with (first | ((with_reducible refine gate_callee (f:=23) rfl ?_);refine goesL_ _ rfl rfl Try.func23 (by kernel_rfl) rfl #[.slice A5_ y5.length c5_,.int .i64 x1_1] rfl (by (try simp only [mT,mC,mN]);first | done | rfl | (simp only [lD,lT];rfl)) ?_;(with_reducible refine (laws_markPointS.calls k1 oki _ y5 x1_1 y1 y2 w0 _ ib (rO HR5.out) A5.out).mono ?_);rintro e w6 ⟨rfl,ho,hb,hk⟩;refine ⟨_,rfl,?_⟩;have hK_ : Kept w wr (fun k_ => P0_ k_):=(by repeat (first | (with_reducible first | exact HK.out | apply Kept.alloc | apply Kept.drewN | apply Kept.drew) | exact HK.out));replace HO_0:=Aside0.mk (Kd.H_back (Kd.H_step (Kd.H_widen (by (with_reducible repeat (first | apply Kd.H_drewN | apply Kd.H_drew));exact HH5.out)) (fun k_ _ hk2 hlt => hk.2 k_ hlt (fun h_ => hk2 (Or.inl h_)))) (okp:=fun k_ => oki k_ ∨ wr.heap.size ≤ k_) (x':=y2) (show (Kd.slice 73 k73).M w6 w0.heap.size (fun k_ => oki k_ ∨ wr.heap.size ≤ k_) y2 [.slice A5_ y5.length c5_] from Exists.intro _ (And.intro rfl ho)) (fun k_ h_ => Or.elim h_ Or.inl (fun h2_ => Or.inr (And.intro (Or.inr (Nat.le_trans hK_.1 h2_)) h2_))));replace HB:=Aside0.mk hb;replace HK:=Aside0.mk (Kept.then_ hK_ hk (fun k_ h_ => (HOK.out k_ h_).1));clear ho hb hk hK_ HR5 HH5 HOK))
     go_roundg k1
     case measure => have:=HK1.out;omega
     case rel => exact ⟨(x0_1.set x5_1.toNat y2),y1,(wrap64 (x5_1 + 1)),(by first | rfl | (simp;done) | (simp [*];done)),(by first | rfl | (simp;done) | (simp [*];done)),H',⟨by have:=HK1.out;omega⟩,⟨(sO HO_0.out)⟩,⟨(by repeat (first | (with_reducible first | exact HK.out | apply Kept.alloc | apply Kept.drewN | apply Kept.drew) | exact HK.out))⟩,⟨ib⟩⟩
    ·rw [if_neg c4] at H
     exact absurd H (by simp)
   ·rw [if_neg c3] at H
    have c3b0 : decide (x5_1 < (x0_1.length : Int)) = false:=decide_eq_false c3
    clear c3
    simp only [Option.some.injEq,Prod.mk.injEq] at H
    obtain ⟨rfl,rfl⟩:=H
    obtain ⟨Ao9,co9,eo9⟩:=Kd.S_slice HO_0.out
    subst eo9
    go_wp2
    go_ret
    exact ⟨by first | rfl | (simp [errW_none,errW_some] <;> rfl) | (simp [*,errW_none,errW_some] <;> rfl),(sO HO_0.out),ib,(by repeat (first | (with_reducible first | exact HK.out | apply Kept.alloc | apply Kept.drewN | apply Kept.drew) | exact HK.out))⟩
def laws_heldPointS.l0 : Nat → List (S73) → Int → Int → Option (Int)
 | 0,_,_,_ => none
 | k + 1,x0,x1,x5 => if x5 < (x0.length : Int) then (if 0 ≤ x5 then (if ((rd_T73 x0 x5).f0) = x1 then (if ((rd_T73 x0 x5).f1) = (wrap64 (x1 + 1)) then (laws_heldPointS.l0 k x0 (wrap64 ((wrap64 (x1 + 1)) + 1)) (wrap64 (x5 + 1))) else (some (-1))) else (some (-1))) else (none)) else (some x1)
def laws_heldPointS.f (k : Nat) (l0 : List (S73)) (a1 : Int) : Option (Int):=laws_heldPointS.l0 k l0 a1 0
theorem laws_heldPointS.calls (k : Nat) (A0 : Option Addr) (c0 : Nat) (l0 : List (S73)) (a1 : Int) (r : Int) (w : World) (hr0 : Kd.C k73 w A0 l0.length l0) (hc0 : l0.length ≤ c0) (h : laws_heldPointS.f k l0 a1 = some r) :
  Calls Try.prog 35 #[.slice A0 l0.length c0,.int .i64 a1] w fun e w' => e = .returned (.int .i64 r) ∧ Drawn0 w w':=by
 have HR0:=Aside0.mk hr0
 have HC0:=Aside0.mk hc0
 clear hr0 hc0
 have H : (laws_heldPointS.l0 k l0 a1 0) = some r:=h
 clear h
 have H':=Aside0.mk H
 clear H
 go_enter Try.func35,Try.ntmps35
 go_wp2
 go_loopg [1,5] k (fun kq v1 v5 w' => ∃ (x1_1 : Int) (x5_1 : Int),v1 = .int .i64 x1_1 ∧ v5 = .int .i64 x5_1 ∧ Aside0 (laws_heldPointS.l0 kq l0 x1_1 x5_1 = some r) ∧ Aside0 (kq ≤ k) ∧ Drawn0 w w')
 case atStart => exact ⟨(a1),(0),(by first | rfl | (simp;done) | (simp [*];done)),(by first | rfl | (simp;done) | (simp [*];done)),H',⟨Nat.le_refl _⟩,by repeat (first | exact Drawn0.refl _ | apply Drawn0.step)⟩
 case round =>
  clear H'
  try clear p2
  obtain ⟨x1_1,x5_1,rfl,rfl,HA,HK1,⟨m1,rfl⟩⟩:=hrel
  cases gk with
  | zero => exact absurd HA.out (by simp [laws_heldPointS.l0])
  | succ k1 =>
   have H:=HA.out
   clear HA
   simp only [laws_heldPointS.l0] at H
   by_cases c3 : x5_1 < (l0.length : Int)
   ·rw [if_pos c3] at H
    have c3b0 : decide (x5_1 < (l0.length : Int)) = true:=decide_eq_true c3
    clear c3
    by_cases c4 : 0 ≤ x5_1
    ·rw [if_pos c4] at H
     have c4b0 : decide (0 ≤ x5_1) = true:=decide_eq_true c4
     clear c4
     by_cases c5 : ((rd_T73 l0 x5_1).f0) = x1_1
     ·rw [if_pos c5] at H
      have c5b0 : (((rd_T73 l0 x5_1).f0) == x1_1) = true:=beq_iff_eq.mpr c5
      have c5b1 : (((rd_T73 l0 x5_1).f0) != x1_1) = false:=bne_eq_false_iff_eq.mpr c5
      clear c5
      by_cases c6 : ((rd_T73 l0 x5_1).f1) = (wrap64 (x1_1 + 1))
      ·rw [if_pos c6] at H
       have c6b0 : (((rd_T73 l0 x5_1).f1) == (wrap64 (x1_1 + 1))) = true:=beq_iff_eq.mpr c6
       have c6b1 : (((rd_T73 l0 x5_1).f1) != (wrap64 (x1_1 + 1))) = false:=bne_eq_false_iff_eq.mpr c6
       clear c6
       have H':=Aside0.mk H
       clear H
       have p371 : 0 ≤ (x5_1 : Int):=da
       have q371 : x5_1 < (l0.length : Int):=da
       obtain ⟨ad371,e371,hx371_0,hx371_1⟩:=at_T73 HR0.out x5_1 p371 q371
       cases e371
       replace p371:=eq_true p371
       replace q371:=eq_true q371
       have p372 : 0 ≤ (x5_1 : Int):=da
       have q372 : x5_1 < (l0.length : Int):=da
       obtain ⟨ad372,e372,hx372_0,hx372_1⟩:=at_T73 HR0.out x5_1 p372 q372
       obtain rfl : ad371 = ad372:=(by injection e372)
       replace p372:=eq_true p372
       replace q372:=eq_true q372
       go_wp2
       go_roundg k1
       case measure => have:=HK1.out;omega
       case rel => exact ⟨(wrap64 ((wrap64 (x1_1 + 1)) + 1)),(wrap64 (x5_1 + 1)),(by first | rfl | (simp;done) | (simp [*];done)),(by first | rfl | (simp;done) | (simp [*];done)),H',⟨by have:=HK1.out;omega⟩,by repeat (first | exact Drawn0.refl _ | apply Drawn0.step)⟩
      ·rw [if_neg c6] at H
       have c6b0 : (((rd_T73 l0 x5_1).f1) == (wrap64 (x1_1 + 1))) = false:=beq_eq_false_iff_ne.mpr c6
       have c6b1 : (((rd_T73 l0 x5_1).f1) != (wrap64 (x1_1 + 1))) = true:=bne_iff_ne.mpr c6
       obtain rfl:=Option.some.inj H
       have p371 : 0 ≤ (x5_1 : Int):=da
       have q371 : x5_1 < (l0.length : Int):=da
       obtain ⟨ad371,e371,hx371_0,hx371_1⟩:=at_T73 HR0.out x5_1 p371 q371
       cases e371
       replace p371:=eq_true p371
       replace q371:=eq_true q371
       have p372 : 0 ≤ (x5_1 : Int):=da
       have q372 : x5_1 < (l0.length : Int):=da
       obtain ⟨ad372,e372,hx372_0,hx372_1⟩:=at_T73 HR0.out x5_1 p372 q372
       obtain rfl : ad371 = ad372:=(by injection e372)
       replace p372:=eq_true p372
       replace q372:=eq_true q372
       go_wp2
       go_ret
       exact ⟨by first | rfl | (simp;done) | (simp [*];done),by repeat (first | exact Drawn0.refl _ | apply Drawn0.step)⟩
     ·rw [if_neg c5] at H
      have c5b0 : (((rd_T73 l0 x5_1).f0) == x1_1) = false:=beq_eq_false_iff_ne.mpr c5
      have c5b1 : (((rd_T73 l0 x5_1).f0) != x1_1) = true:=bne_iff_ne.mpr c5
      obtain rfl:=Option.some.inj H
      have p371 : 0 ≤ (x5_1 : Int):=da
      have q371 : x5_1 < (l0.length : Int):=da
      obtain ⟨ad371,e371,hx371_0,hx371_1⟩:=at_T73 HR0.out x5_1 p371 q371
      cases e371
      replace p371:=eq_true p371
      replace q371:=eq_true q371
      go_wp2
      go_ret
      exact ⟨by first | rfl | (simp;done) | (simp [*];done),by repeat (first | exact Drawn0.refl _ | apply Drawn0.step)⟩
    ·rw [if_neg c4] at H
     exact absurd H (by simp)
   ·rw [if_neg c3] at H
    have c3b0 : decide (x5_1 < (l0.length : Int)) = false:=decide_eq_false c3
    clear c3
    obtain rfl:=Option.some.inj H
    go_wp2
    go_ret
    exact ⟨by first | rfl | (simp;done) | (simp [*];done),by repeat (first | exact Drawn0.refl _ | apply Drawn0.step)⟩
def laws_heldPointSS.l0 : Nat → List (List (S73)) → Int → Int → Option (Int)
 | 0,_,_,_ => none
 | k + 1,x0,x1,x5 => if x5 < (x0.length : Int) then (if 0 ≤ x5 then ((laws_heldPointS.f k (rd_L3 x0 x5) x1).bind fun t374 => (if t374 < 0 then (some (-1)) else (laws_heldPointSS.l0 k x0 t374 (wrap64 (x5 + 1))))) else (none)) else (some x1)
def laws_heldPointSS.f (k : Nat) (l0 : List (List (S73))) (a1 : Int) : Option (Int):=laws_heldPointSS.l0 k l0 a1 0
theorem laws_heldPointSS.calls (k : Nat) (A0 : Option Addr) (c0 : Nat) (l0 : List (List (S73))) (a1 : Int) (r : Int) (w : World) (hr0 : Kd.C (Kd.slice 73 k73) w A0 l0.length l0) (hc0 : l0.length ≤ c0) (h : laws_heldPointSS.f k l0 a1 = some r) :
  Calls Try.prog 30 #[.slice A0 l0.length c0,.int .i64 a1] w fun e w' => e = .returned (.int .i64 r) ∧ Drawn0 w w':=by
 have HR0:=Aside0.mk hr0
 have HC0:=Aside0.mk hc0
 clear hr0 hc0
 have H : (laws_heldPointSS.l0 k l0 a1 0) = some r:=h
 clear h
 have H':=Aside0.mk H
 clear H
 go_enter Try.func30,Try.ntmps30
 go_wp2
 go_loopg [1,5] k (fun kq v1 v5 w' => ∃ (x1_1 : Int) (x5_1 : Int),v1 = .int .i64 x1_1 ∧ v5 = .int .i64 x5_1 ∧ Aside0 (laws_heldPointSS.l0 kq l0 x1_1 x5_1 = some r) ∧ Aside0 (kq ≤ k) ∧ Drawn0 w w')
 case atStart => exact ⟨(a1),(0),(by first | rfl | (simp;done) | (simp [*];done)),(by first | rfl | (simp;done) | (simp [*];done)),H',⟨Nat.le_refl _⟩,by repeat (first | exact Drawn0.refl _ | apply Drawn0.step)⟩
 case round =>
  clear H'
  try clear p2
  obtain ⟨x1_1,x5_1,rfl,rfl,HA,HK1,⟨m1,rfl⟩⟩:=hrel
  cases gk with
  | zero => exact absurd HA.out (by simp [laws_heldPointSS.l0])
  | succ k1 =>
   have H:=HA.out
   clear HA
   simp only [laws_heldPointSS.l0] at H
   by_cases c3 : x5_1 < (l0.length : Int)
   ·rw [if_pos c3] at H
    have c3b0 : decide (x5_1 < (l0.length : Int)) = true:=decide_eq_true c3
    clear c3
    by_cases c4 : 0 ≤ x5_1
    ·rw [if_pos c4] at H
     have c4b0 : decide (0 ≤ x5_1) = true:=decide_eq_true c4
     clear c4
     replace H:=bE.mp H
     obtain ⟨t374,A50,H⟩:=H
     replace H : (if t374 < 0 then (some (-1)) else (laws_heldPointSS.l0 k1 l0 t374 (wrap64 (x5_1 + 1)))) = some r:=H
     have A5:=Aside0.mk A50
     clear A50
     by_cases c6 : t374 < 0
     ·rw [if_pos c6] at H
      have c6b0 : decide (t374 < 0) = true:=decide_eq_true c6
      clear c6
      obtain rfl:=Option.some.inj H
      have p373 : 0 ≤ (x5_1 : Int):=da
      have q373 : x5_1 < (l0.length : Int):=da
      obtain ⟨ad373,A373_0,c373_0,e373,hx373_0,hl373_0,hi373_0⟩:=at_L3 HR0.out x5_1 p373 q373
      cases e373
      have HR373_0:=Aside0.mk hi373_0
      have HC373_0:=Aside0.mk hl373_0
      clear hi373_0 hl373_0
      replace p373:=eq_true p373
      replace q373:=eq_true q373
      go_wp2_with (first | ((with_reducible refine gate_callee (f:=35) rfl ?_);refine goesL_ (some 17) rfl rfl Try.func35 (by kernel_rfl) rfl #[.slice A373_0 (rd_L3 l0 x5_1).length c373_0,.int .i64 x1_1] rfl (by (try simp only [mT,mC,mN]);first | done | rfl | (simp only [lD,lT];rfl)) ?_;(with_reducible refine (laws_heldPointS.calls k1 _ _ (rd_L3 l0 x5_1) x1_1 t374 _ ?side1 ?side2 A5.out).mono ?_);(case side1 => exact cO HR373_0.out);(case side2 => exact HC373_0.out);rintro e w' ⟨rfl,⟨nd,rfl⟩⟩;refine ⟨_,rfl,?_⟩))
      go_ret
      exact ⟨by first | rfl | (simp;done) | (simp [*];done),by repeat (first | exact Drawn0.refl _ | apply Drawn0.step)⟩
     ·rw [if_neg c6] at H
      have c6b0 : decide (t374 < 0) = false:=decide_eq_false c6
      clear c6
      have H':=Aside0.mk H
      clear H
      have p373 : 0 ≤ (x5_1 : Int):=da
      have q373 : x5_1 < (l0.length : Int):=da
      obtain ⟨ad373,A373_0,c373_0,e373,hx373_0,hl373_0,hi373_0⟩:=at_L3 HR0.out x5_1 p373 q373
      cases e373
      have HR373_0:=Aside0.mk hi373_0
      have HC373_0:=Aside0.mk hl373_0
      clear hi373_0 hl373_0
      replace p373:=eq_true p373
      replace q373:=eq_true q373
      go_wp2_with (first | ((with_reducible refine gate_callee (f:=35) rfl ?_);refine goesL_ (some 17) rfl rfl Try.func35 (by kernel_rfl) rfl #[.slice A373_0 (rd_L3 l0 x5_1).length c373_0,.int .i64 x1_1] rfl (by (try simp only [mT,mC,mN]);first | done | rfl | (simp only [lD,lT];rfl)) ?_;(with_reducible refine (laws_heldPointS.calls k1 _ _ (rd_L3 l0 x5_1) x1_1 t374 _ ?side1 ?side2 A5.out).mono ?_);(case side1 => exact cO HR373_0.out);(case side2 => exact HC373_0.out);rintro e w' ⟨rfl,⟨nd,rfl⟩⟩;refine ⟨_,rfl,?_⟩))
      go_roundg k1
      case measure => have:=HK1.out;omega
      case rel => exact ⟨(t374),(wrap64 (x5_1 + 1)),(by first | rfl | (simp;done) | (simp [*];done)),(by first | rfl | (simp;done) | (simp [*];done)),H',⟨by have:=HK1.out;omega⟩,by repeat (first | exact Drawn0.refl _ | apply Drawn0.step)⟩
    ·rw [if_neg c4] at H
     exact absurd H (by simp)
   ·rw [if_neg c3] at H
    have c3b0 : decide (x5_1 < (l0.length : Int)) = false:=decide_eq_false c3
    clear c3
    obtain rfl:=Option.some.inj H
    go_wp2
    go_ret
    exact ⟨by first | rfl | (simp;done) | (simp [*];done),by repeat (first | exact Drawn0.refl _ | apply Drawn0.step)⟩
end Go.Proofs.Ytnnchaggdnlfmaa.PFnExactTriangulate
