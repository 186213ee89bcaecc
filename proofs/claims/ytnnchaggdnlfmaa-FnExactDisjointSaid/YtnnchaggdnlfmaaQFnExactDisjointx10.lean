/- Contracts of functions that FnExactDisjoint reaches, out of the lines of the kit's print. -/
import Derived.Test.YtnnchaggdnlfmaaQFnExactDisjointx0
import Derived.Test.YtnnchaggdnlfmaaQFnExactDisjointx8
import Derived.Test.YtnnchaggdnlfmaaQFnExactDisjointx9
namespace Go.Proofs.Ytnnchaggdnlfmaa.PFnExactDisjoint
open Go.RowKit Go.Proofs.YtnnchaggdnlfmaaW.PrintWords Go.Proofs.YtnnchaggdnlfmaaW.PrintLast Go.Proofs.YtnnchaggdnlfmaaW.PrintMore
open Bool renaming true → tT, false → fF
open Go.World renaming block_lt_of_cell? → bL
open List renaming setIfInBounds_toArray → iT, set_cons_zero → sZ, set_cons_succ → sC, length_take → lT, length_drop → lD, map_toArray → mT, map_cons → mC, map_nil → mN
open Option renaming bind_eq_some_iff → bE
attribute [local go_sem] max2_int min2_int max_two min_two max_three min_three max_four min_four
set_option linter.unusedVariables false
set_option linter.unusedSimpArgs false
mutual
def spec_l04Disjoint.l0 : Nat → List (List (S73)) → List (List (S73)) → Int → Option (Bool)
 | 0,_,_,_ => none
 | k + 1,x5,x6,x7 => if x7 < (x5.length : Int) then (spec_l04Disjoint.l1 k x5 x6 x7 0) else (some true)
def spec_l04Disjoint.l1 : Nat → List (List (S73)) → List (List (S73)) → Int → Int → Option (Bool)
 | 0,_,_,_,_ => none
 | k + 1,x5,x6,x7,x8 => if x8 < (x6.length : Int) then (if 0 ≤ x7 then (if x7 < (x5.length : Int) then (if 0 ≤ x8 then ((spec_l04Parted.f k (rd_L3 x5 x7) (rd_L3 x6 x8)).bind fun t270 => (if t270 = true then (spec_l04Disjoint.l1 k x5 x6 x7 (wrap64 (x8 + 1))) else ((spec_l04Parted.f k (rd_L3 x6 x8) (rd_L3 x5 x7)).bind fun t273 => (if t273 = true then (spec_l04Disjoint.l1 k x5 x6 x7 (wrap64 (x8 + 1))) else (some false))))) else (none)) else (none)) else (none)) else (spec_l04Disjoint.l0 k x5 x6 (wrap64 (x7 + 1)))
end
def spec_l04Disjoint.f (k : Nat) (l0 : List (S73)) (l1 : List (S73)) : Option (Bool):=(spec_l04Triangles.f k l0).bind fun t262 => ((spec_l04Triangles.f k l1).bind fun t265 => (spec_l04Disjoint.l0 k t262 t265 0))
def spec_l04Disjoint.T9 : Bool × List (List Nat × List Nat):=(true,[([],[]),([],[]),([0,1],[0,1]),([2],[2]),([],[]),([],[]),([4,5],[4,5]),([6],[6]),([3,7],[3,7]),([8],[8]),([9,8],[9]),([10],[10]),([10],[10]),([11,12,10],[10,11,12]),([13,10],[10,13]),([10],[10]),([10],[10]),([15,16,10],[10,15,16]),([17,10],[10,17]),([14,18,10,10],[10,14,18]),([19,10],[10,19]),([10,20],[10,20])])
def spec_l04Disjoint.B9 : List Nat:=[0,0,3,7,0,0,48,112,255,511,1023,2047,2047,8191,16383,2047,2047,100351,231423,524287,1048575,2097151]
theorem spec_l04Disjoint.tab9 : rtab .any (opsOf Try.f67 9) = spec_l04Disjoint.T9:=by kernel_rfl
theorem spec_l04Disjoint.bits9 : waitsOk spec_l04Disjoint.T9.2 spec_l04Disjoint.B9 = true:=by kernel_rfl
set_option maxHeartbeats 8000000 in
set_option maxRecDepth 100000 in
theorem spec_l04Disjoint.calls (k : Nat) (A0 : Option Addr) (c0 : Nat) (l0 : List (S73)) (A1 : Option Addr) (c1 : Nat) (l1 : List (S73)) (r : Bool) (w : World) (hr0 : Kd.C k73 w A0 l0.length l0) (hc0 : l0.length ≤ c0) (hr1 : Kd.C k73 w A1 l1.length l1) (hc1 : l1.length ≤ c1) (h : spec_l04Disjoint.f k l0 l1 = some r) :
  Calls Try.prog 67 #[.slice A0 l0.length c0,.slice A1 l1.length c1] w fun e w' => e = .returned (.bool r) ∧ Below w.heap.size w w':=by
 have HR0:=Aside0.mk hr0
 have HC0:=Aside0.mk hc0
 clear hr0 hc0
 have HR1:=Aside0.mk hr1
 have HC1:=Aside0.mk hc1
 clear hr1 hc1
 have HB:=Aside0.mk (Below.refl w.heap.size w)
 have H : ((spec_l04Triangles.f k l0).bind fun t262 => ((spec_l04Triangles.f k l1).bind fun t265 => (spec_l04Disjoint.l0 k t262 t265 0))) = some r:=h
 clear h
 replace H:=bE.mp H
 obtain ⟨t262,A30,H⟩:=H
 replace H : ((spec_l04Triangles.f k l1).bind fun t265 => (spec_l04Disjoint.l0 k t262 t265 0)) = some r:=H
 have A3:=Aside0.mk A30
 clear A30
 replace H:=bE.mp H
 obtain ⟨t265,A40,H⟩:=H
 replace H : (spec_l04Disjoint.l0 k t262 t265 0) = some r:=H
 have A4:=Aside0.mk A40
 clear A40
 have H':=Aside0.mk H
 clear H
 go_enter Try.func67,Try.ntmps67
 go_wp2_with (first | ((with_reducible refine gate_callee (f:=65) rfl ?_);refine goesL_ (some 10) rfl rfl Try.func65 (by kernel_rfl) rfl #[.slice A0 l0.length c0] rfl (by (try simp only [mT,mC,mN]);first | done | rfl | (simp only [lD,lT];rfl)) ?_;(with_reducible refine (spec_l04Triangles.calls k _ _ l0 t262 _ ?side1 ?side2 A3.out).mono ?_);(case side1 => exact cO HR0.out);(case side2 => exact HC0.out);rintro e w5 ⟨v263,rfl,ho0,hb⟩;refine ⟨_,rfl,?_⟩;have HO264:=Aside0.mk (Kd.S_lower ho0 (below_size ib));replace HB:=sb hb;(try clear hb);(try clear hb2);(try clear hk);(try clear hi);(try clear ho0)) | ((with_reducible refine gate_callee (f:=65) rfl ?_);refine goesL_ (some 12) rfl rfl Try.func65 (by kernel_rfl) rfl #[.slice A1 l1.length c1] rfl (by (try simp only [mT,mC,mN]);first | done | rfl | (simp only [lD,lT];rfl)) ?_;(with_reducible refine (spec_l04Triangles.calls k _ _ l1 t265 _ ?side1 ?side2 A4.out).mono ?_);(case side1 => exact cO ((Kd.C_below HR1.out HB.out)));(case side2 => exact HC1.out);rintro e w6 ⟨v266,rfl,ho0,hb⟩;refine ⟨_,rfl,?_⟩;have HO267:=Aside0.mk (Kd.S_lower (Kd.S_new' ho0 (Kd.S_lt (sO HO264.out))) (below_size ib));replace HO264:=Aside0.mk (Kd.S_elder' (sO HO264.out) (Kd.S_base ho0) hb);replace HB:=sb hb;(try clear hb);(try clear hb2);(try clear hk);(try clear hi);(try clear ho0)))
 go_loopg [7] k (fun kq v7 w' => ∃ (x7_1 : Int),v7 = .int .i64 x7_1 ∧ Aside0 (spec_l04Disjoint.l0 kq t262 t265 x7_1 = some r) ∧ Aside0 (kq ≤ k) ∧ Aside0 (Kd.S (Kd.slice 73 k73) 25 w' w.heap.size (fun k_ => some k_ ≠ (v266 : Value).ownBlock) v263 t262) ∧ Aside0 (Kd.S (Kd.slice 73 k73) 25 w' w.heap.size (fun k_ => some k_ ≠ (v263 : Value).ownBlock) v266 t265) ∧ Aside0 (Below w.heap.size w w'))
 case atStart => exact ⟨(0),(by first | rfl | (simp;done) | (simp [*];done)),H',⟨Nat.le_refl _⟩,⟨sO (Kd.S_mono HO264.out (fun _ hk => hk.2))⟩,⟨sO (Kd.S_mono HO267.out (fun _ hk => hk.2))⟩,⟨ib⟩⟩
 case round =>
  clear H'
  try clear c1
  try clear p2
  try clear c6
  obtain ⟨x7_1,rfl,HA,HK1,HO_5,HO_6,HB⟩:=hrel
  cases gk with
  | zero => exact absurd HA.out (by simp [spec_l04Disjoint.l0])
  | succ k1 =>
   have H:=HA.out
   clear HA
   simp only [spec_l04Disjoint.l0] at H
   by_cases c7 : x7_1 < (t262.length : Int)
   ·rw [if_pos c7] at H
    have c7b0 : decide (x7_1 < (t262.length : Int)) = true:=decide_eq_true c7
    clear c7
    have H':=Aside0.mk H
    clear H
    obtain ⟨Ao8,co8,eo8⟩:=Kd.S_slice HO_5.out
    subst eo8
    go_wp2
    go_loopg [8] k1 (fun kq v8 w' => ∃ (x8_2 : Int),v8 = .int .i64 x8_2 ∧ Aside0 (spec_l04Disjoint.l1 kq t262 t265 x7_1 x8_2 = some r) ∧ Aside0 (kq ≤ k1) ∧ Aside0 (Kd.S (Kd.slice 73 k73) 25 w' w.heap.size (fun k_ => some k_ ≠ (v266 : Value).ownBlock) (.slice Ao8 t262.length co8) t262) ∧ Aside0 (Kd.S (Kd.slice 73 k73) 25 w' w.heap.size (fun k_ => some k_ ≠ ((.slice Ao8 t262.length co8) : Value).ownBlock) v266 t265) ∧ Aside0 (Below w.heap.size w w'))
    case atStart => exact ⟨(0),(by first | rfl | (simp;done) | (simp [*];done)),H',⟨Nat.le_refl _⟩,⟨sO HO_5.out⟩,⟨sO HO_6.out⟩,⟨ib⟩⟩
    case round =>
     clear H'
     try clear c1
     try clear p2
     try clear c6
     try clear c7
     try clear c7b0
     try clear p2
     obtain ⟨x8_2,rfl,HA,HK2,HO_5,HO_6,HB⟩:=hrel
     cases gk with
     | zero => exact absurd HA.out (by simp [spec_l04Disjoint.l1])
     | succ k2 =>
      have H:=HA.out
      clear HA
      simp only [spec_l04Disjoint.l1] at H
      by_cases c9 : x8_2 < (t265.length : Int)
      ·rw [if_pos c9] at H
       have c9b0 : decide (x8_2 < (t265.length : Int)) = true:=decide_eq_true c9
       clear c9
       by_cases c10 : 0 ≤ x7_1
       ·rw [if_pos c10] at H
        have c10b0 : decide (0 ≤ x7_1) = true:=decide_eq_true c10
        clear c10
        by_cases c11 : x7_1 < (t262.length : Int)
        ·rw [if_pos c11] at H
         have c11b0 : decide (x7_1 < (t262.length : Int)) = true:=decide_eq_true c11
         clear c11
         by_cases c12 : 0 ≤ x8_2
         ·rw [if_pos c12] at H
          have c12b0 : decide (0 ≤ x8_2) = true:=decide_eq_true c12
          clear c12
          replace H:=bE.mp H
          obtain ⟨t270,A130,H⟩:=H
          replace H : (if t270 = true then (spec_l04Disjoint.l1 k2 t262 t265 x7_1 (wrap64 (x8_2 + 1))) else ((spec_l04Parted.f k2 (rd_L3 t265 x8_2) (rd_L3 t262 x7_1)).bind fun t273 => (if t273 = true then (spec_l04Disjoint.l1 k2 t262 t265 x7_1 (wrap64 (x8_2 + 1))) else (some false)))) = some r:=H
          have A13:=Aside0.mk A130
          clear A130
          by_cases c14 : t270 = true
          ·subst c14
           have H1 : (spec_l04Disjoint.l1 k2 t262 t265 x7_1 (wrap64 (x8_2 + 1))) = some r:=by rw [if_pos rfl] at H;exact H
           clear H
           have H:=H1
           clear H1
           have H':=Aside0.mk H
           clear H
           obtain ⟨Ao15,co15,eo15⟩:=Kd.S_slice HO_6.out
           subst eo15
           try go_wp2
           replace HO_5:=Aside0.mk (Kd.S_drew HO_5.out)
           replace HO_6:=Aside0.mk (Kd.S_drew HO_6.out)
           replace HB:=Aside0.mk (below_drew1 HB.out)
           have p268 : 0 ≤ (x7_1 : Int):=da
           have q268 : x7_1 < (t262.length : Int):=da
           obtain ⟨ad268,A268_0,c268_0,e268,hx268_0,hl268_0,hi268_0⟩:=at_L3 (Kd.S_reads' HO_5.out).2.2 x7_1 p268 q268
           cases e268
           obtain ⟨ce268,hce268,hMe268,hcc268⟩:=Kd.S_get HO_5.out [] x7_1 p268 (by first | exact q268 | exact da | (have e_:=(Kd.S_reads' HO_5.out).1;omega))
           obtain ⟨ve268_0,rfl,ge268_0⟩:=hMe268
           have hv268_0:=hcc268 0 _ rfl
           rw [Nat.add_zero,show ((Kd.slice 73 k73)).sz = 1 from rfl,Nat.mul_one] at hv268_0
           replace hv268_0:=Option.some.inj (hv268_0.symm.trans hx268_0)
           rw [hv268_0] at ge268_0
           have HL268_0:=Aside0.mk (show Kd.R k73 73 _ _ _ _ (rd_L3 t262 x7_1) from ge268_0)
           clear hv268_0 ge268_0
           clear hcc268 hce268
           have HR268_0:=Aside0.mk hi268_0
           have HC268_0:=Aside0.mk hl268_0
           clear hi268_0 hl268_0
           replace p268:=eq_true p268
           replace q268:=eq_true q268
           have p269 : 0 ≤ (x8_2 : Int):=da
           have q269 : x8_2 < (t265.length : Int):=da
           obtain ⟨ad269,A269_0,c269_0,e269,hx269_0,hl269_0,hi269_0⟩:=at_L3 (Kd.S_reads' HO_6.out).2.2 x8_2 p269 q269
           cases e269
           obtain ⟨ce269,hce269,hMe269,hcc269⟩:=Kd.S_get HO_6.out [] x8_2 p269 (by first | exact q269 | exact da | (have e_:=(Kd.S_reads' HO_6.out).1;omega))
           obtain ⟨ve269_0,rfl,ge269_0⟩:=hMe269
           have hv269_0:=hcc269 0 _ rfl
           rw [Nat.add_zero,show ((Kd.slice 73 k73)).sz = 1 from rfl,Nat.mul_one] at hv269_0
           replace hv269_0:=Option.some.inj (hv269_0.symm.trans hx269_0)
           rw [hv269_0] at ge269_0
           have HL269_0:=Aside0.mk (show Kd.R k73 73 _ _ _ _ (rd_L3 t265 x8_2) from ge269_0)
           clear hv269_0 ge269_0
           clear hcc269 hce269
           have HR269_0:=Aside0.mk hi269_0
           have HC269_0:=Aside0.mk hl269_0
           clear hi269_0 hl269_0
           replace p269:=eq_true p269
           replace q269:=eq_true q269
           refine start_ (n:=22) (S:=fun w' => w'.cell? (ad268.add (x7_1).toNat) = some (.slice A268_0 (rd_L3 t262 x7_1).length c268_0) ∧ w'.cell? (ad269.add (x8_2).toNat) = some (.slice A269_0 (rd_L3 t265 x8_2).length c269_0)) (ds:=[]) #[fF,fF,fF,fF,fF,fF,fF,fF,fF,fF,fF,fF,fF,fF,fF,fF,fF,fF,fF,fF,fF,fF] (by kernel_rfl) rfl rfl ⟨hx268_0,hx269_0⟩ (fun hHeld => ?_);refine with_tabW spec_l04Disjoint.tab9 spec_l04Disjoint.bits9 (fun HT_ HW_ => ?_)
           generalize wr.drew = w16 at HO_5 HO_6 HB HL268_0 HL269_0 HR268_0 HR269_0 hx268_0 hx269_0 hHeld ⊢
           refine pu 0 25 HT_ ?_
           refine pu 1 26 HT_ ?_
           refine pu 2 27 HT_ ?_
           refine pu 4 29 HT_ ?_
           refine pu 5 30 HT_ ?_
           refine pu 6 31 HT_ ?_
           refine tk 3 28 HT_ HW_ hHeld ?_
           refine tk 7 32 HT_ HW_ hHeld ?_
           refine on 8 33 HT_ (fun K hK => ?_)
           refine goes_ Try.func113 (by kernel_rfl) rfl #[.slice A268_0 (rd_L3 t262 x7_1).length c268_0,.slice A269_0 (rd_L3 t265 x8_2).length c269_0] (by rfl) rfl rfl (by (try simp only [mT,mC,mN]);first | done | rfl | (simp only [lD,lT];rfl)) ?_
           with_reducible refine (spec_l04Parted.calls k2 _ _ (rd_L3 t262 x7_1) _ _ (rd_L3 t265 x8_2) true _ ?side1 ?side2 ?side3 ?side4 A13.out).mono ?_
           (case side1 => repeat (first | exact (by repeat (first | (with_reducible exact HR268_0.out) | (with_reducible refine Kd.C_alloc ?_ _) | (with_reducible refine Kd.C_drewN ?_ _) | (with_reducible refine Kd.C_drew ?_) | exact HR268_0.out)) | (with_reducible refine Kd.C_alloc ?_ _) | (with_reducible refine Kd.C_drewN ?_ _) | (with_reducible refine Kd.C_drew ?_)))
           (case side2 => exact HC268_0.out)
           (case side3 => repeat (first | exact (by repeat (first | (with_reducible exact HR269_0.out) | (with_reducible refine Kd.C_alloc ?_ _) | (with_reducible refine Kd.C_drewN ?_ _) | (with_reducible refine Kd.C_drew ?_) | exact HR269_0.out)) | (with_reducible refine Kd.C_alloc ?_ _) | (with_reducible refine Kd.C_drewN ?_ _) | (with_reducible refine Kd.C_drew ?_)))
           (case side4 => exact HC269_0.out)
           rintro e w17 ⟨rfl,hb⟩
           have HS0_:=(hb.cell (bL _ _ (hHeld.1))).trans (hHeld.1)
           have HS1_:=(hb.cell (bL _ _ (hHeld.2))).trans (hHeld.2)
           refine ⟨_,rfl,?_⟩
           replace HO_5:=Aside0.mk (Kd.S_below (sO HO_5.out) hb)
           replace HO_6:=Aside0.mk (Kd.S_below (sO HO_6.out) hb)
           replace HL268_0:=Aside0.mk (Kd.R_below (rO HL268_0.out) hb)
           replace HL269_0:=Aside0.mk (Kd.R_below (rO HL269_0.out) hb)
           replace HR268_0:=Aside0.mk (Kd.C_below (by repeat (first | (with_reducible exact HR268_0.out) | (with_reducible refine Kd.C_alloc ?_ _) | (with_reducible refine Kd.C_drewN ?_ _) | (with_reducible refine Kd.C_drew ?_) | exact HR268_0.out)) hb)
           replace HR269_0:=Aside0.mk (Kd.C_below (by repeat (first | (with_reducible exact HR269_0.out) | (with_reducible refine Kd.C_alloc ?_ _) | (with_reducible refine Kd.C_drewN ?_ _) | (with_reducible refine Kd.C_drew ?_) | exact HR269_0.out)) hb)
           replace HB:=sb hb
           (try clear hb)
           (try clear hb2)
           (try clear hk)
           (try clear hi)
           refine hK.out _ _ ⟨HS0_,HS1_⟩ (fun hHeld => ?_)
           clear hK K
           refine norm_ (a':=?_) ?_ ?_
           rotate_left
           ·show Act.put _ (some 33) _ = _
            simp only [Act.put,iT,sZ,sC,i64_w,i32_w]
            rfl
           refine pu 9 34 HT_ ?_
           refine pu 10 35 HT_ ?_
           refine pd 11 36 HT_ ?_
           refine pd 12 37 HT_ ?_
           refine pd 13 38 HT_ ?_
           refine pd 14 39 HT_ ?_
           refine pd 15 40 HT_ ?_
           refine pd 16 41 HT_ ?_
           refine pd 17 42 HT_ ?_
           refine pd 18 43 HT_ ?_
           refine pd 19 44 HT_ ?_
           refine pd 20 45 HT_ ?_
           refine pu 21 46 HT_ ?_
           refine done_ (done_of HT_.out (by kernel_rfl)) ?_
           try go_wp2
           go_roundg k2
           case measure => have:=HK1.out;have:=HK2.out;omega
           case rel => exact ⟨(wrap64 (x8_2 + 1)),(by first | rfl | (simp;done) | (simp [*];done)),H',⟨by have:=HK1.out;have:=HK2.out;omega⟩,⟨sO HO_5.out⟩,⟨sO HO_6.out⟩,⟨ib⟩⟩
          ·replace c14:=Bool.eq_false_iff.mpr c14
           subst c14
           have H1 : ((spec_l04Parted.f k2 (rd_L3 t265 x8_2) (rd_L3 t262 x7_1)).bind fun t273 => (if t273 = true then (spec_l04Disjoint.l1 k2 t262 t265 x7_1 (wrap64 (x8_2 + 1))) else (some false))) = some r:=by rw [if_neg (show ¬ (false = true) by decide)] at H;exact H
           clear H
           have H:=H1
           clear H1
           replace H:=bE.mp H
           obtain ⟨t273,A180,H⟩:=H
           replace H : (if t273 = true then (spec_l04Disjoint.l1 k2 t262 t265 x7_1 (wrap64 (x8_2 + 1))) else (some false)) = some r:=H
           have A18:=Aside0.mk A180
           clear A180
           by_cases c19 : t273 = true
           ·subst c19
            have H1 : (spec_l04Disjoint.l1 k2 t262 t265 x7_1 (wrap64 (x8_2 + 1))) = some r:=by rw [if_pos rfl] at H;exact H
            clear H
            have H:=H1
            clear H1
            have H':=Aside0.mk H
            clear H
            obtain ⟨Ao20,co20,eo20⟩:=Kd.S_slice HO_6.out
            subst eo20
            try go_wp2
            replace HO_5:=Aside0.mk (Kd.S_drew HO_5.out)
            replace HO_6:=Aside0.mk (Kd.S_drew HO_6.out)
            replace HB:=Aside0.mk (below_drew1 HB.out)
            have p268 : 0 ≤ (x7_1 : Int):=da
            have q268 : x7_1 < (t262.length : Int):=da
            obtain ⟨ad268,A268_0,c268_0,e268,hx268_0,hl268_0,hi268_0⟩:=at_L3 (Kd.S_reads' HO_5.out).2.2 x7_1 p268 q268
            cases e268
            obtain ⟨ce268,hce268,hMe268,hcc268⟩:=Kd.S_get HO_5.out [] x7_1 p268 (by first | exact q268 | exact da | (have e_:=(Kd.S_reads' HO_5.out).1;omega))
            obtain ⟨ve268_0,rfl,ge268_0⟩:=hMe268
            have hv268_0:=hcc268 0 _ rfl
            rw [Nat.add_zero,show ((Kd.slice 73 k73)).sz = 1 from rfl,Nat.mul_one] at hv268_0
            replace hv268_0:=Option.some.inj (hv268_0.symm.trans hx268_0)
            rw [hv268_0] at ge268_0
            have HL268_0:=Aside0.mk (show Kd.R k73 73 _ _ _ _ (rd_L3 t262 x7_1) from ge268_0)
            clear hv268_0 ge268_0
            clear hcc268 hce268
            have HR268_0:=Aside0.mk hi268_0
            have HC268_0:=Aside0.mk hl268_0
            clear hi268_0 hl268_0
            replace p268:=eq_true p268
            replace q268:=eq_true q268
            have p269 : 0 ≤ (x8_2 : Int):=da
            have q269 : x8_2 < (t265.length : Int):=da
            obtain ⟨ad269,A269_0,c269_0,e269,hx269_0,hl269_0,hi269_0⟩:=at_L3 (Kd.S_reads' HO_6.out).2.2 x8_2 p269 q269
            cases e269
            obtain ⟨ce269,hce269,hMe269,hcc269⟩:=Kd.S_get HO_6.out [] x8_2 p269 (by first | exact q269 | exact da | (have e_:=(Kd.S_reads' HO_6.out).1;omega))
            obtain ⟨ve269_0,rfl,ge269_0⟩:=hMe269
            have hv269_0:=hcc269 0 _ rfl
            rw [Nat.add_zero,show ((Kd.slice 73 k73)).sz = 1 from rfl,Nat.mul_one] at hv269_0
            replace hv269_0:=Option.some.inj (hv269_0.symm.trans hx269_0)
            rw [hv269_0] at ge269_0
            have HL269_0:=Aside0.mk (show Kd.R k73 73 _ _ _ _ (rd_L3 t265 x8_2) from ge269_0)
            clear hv269_0 ge269_0
            clear hcc269 hce269
            have HR269_0:=Aside0.mk hi269_0
            have HC269_0:=Aside0.mk hl269_0
            clear hi269_0 hl269_0
            replace p269:=eq_true p269
            replace q269:=eq_true q269
            have p271 : 0 ≤ (x8_2 : Int):=da
            have q271 : x8_2 < (t265.length : Int):=da
            obtain ⟨ad271,A271_0,c271_0,e271,hx271_0,hl271_0,hi271_0⟩:=at_L3 (Kd.S_reads' HO_6.out).2.2 x8_2 p271 q271
            obtain rfl : ad269 = ad271:=(by injection e271)
            obtain ⟨rfl,rfl⟩ : A269_0 = A271_0 ∧ c269_0 = c271_0:=by have h_:=hx269_0.symm.trans hx271_0;injection h_ with h_;injection h_ with h1_ _ h3_;exact ⟨h1_,h3_⟩
            obtain ⟨ce271,hce271,hMe271,hcc271⟩:=Kd.S_get HO_6.out [] x8_2 p271 (by first | exact q271 | exact da | (have e_:=(Kd.S_reads' HO_6.out).1;omega))
            obtain ⟨ve271_0,rfl,ge271_0⟩:=hMe271
            have hv271_0:=hcc271 0 _ rfl
            rw [Nat.add_zero,show ((Kd.slice 73 k73)).sz = 1 from rfl,Nat.mul_one] at hv271_0
            replace hv271_0:=Option.some.inj (hv271_0.symm.trans hx271_0)
            rw [hv271_0] at ge271_0
            have HL271_0:=Aside0.mk (show Kd.R k73 73 _ _ _ _ (rd_L3 t265 x8_2) from ge271_0)
            clear hv271_0 ge271_0
            clear hcc271 hce271
            have HR271_0:=Aside0.mk hi271_0
            have HC271_0:=Aside0.mk hl271_0
            clear hi271_0 hl271_0
            replace p271:=eq_true p271
            replace q271:=eq_true q271
            have p272 : 0 ≤ (x7_1 : Int):=da
            have q272 : x7_1 < (t262.length : Int):=da
            obtain ⟨ad272,A272_0,c272_0,e272,hx272_0,hl272_0,hi272_0⟩:=at_L3 (Kd.S_reads' HO_5.out).2.2 x7_1 p272 q272
            obtain rfl : ad268 = ad272:=(by injection e272)
            obtain ⟨rfl,rfl⟩ : A268_0 = A272_0 ∧ c268_0 = c272_0:=by have h_:=hx268_0.symm.trans hx272_0;injection h_ with h_;injection h_ with h1_ _ h3_;exact ⟨h1_,h3_⟩
            obtain ⟨ce272,hce272,hMe272,hcc272⟩:=Kd.S_get HO_5.out [] x7_1 p272 (by first | exact q272 | exact da | (have e_:=(Kd.S_reads' HO_5.out).1;omega))
            obtain ⟨ve272_0,rfl,ge272_0⟩:=hMe272
            have hv272_0:=hcc272 0 _ rfl
            rw [Nat.add_zero,show ((Kd.slice 73 k73)).sz = 1 from rfl,Nat.mul_one] at hv272_0
            replace hv272_0:=Option.some.inj (hv272_0.symm.trans hx272_0)
            rw [hv272_0] at ge272_0
            have HL272_0:=Aside0.mk (show Kd.R k73 73 _ _ _ _ (rd_L3 t262 x7_1) from ge272_0)
            clear hv272_0 ge272_0
            clear hcc272 hce272
            have HR272_0:=Aside0.mk hi272_0
            have HC272_0:=Aside0.mk hl272_0
            clear hi272_0 hl272_0
            replace p272:=eq_true p272
            replace q272:=eq_true q272
            refine start_ (n:=22) (S:=fun w' => w'.cell? (ad268.add (x7_1).toNat) = some (.slice A268_0 (rd_L3 t262 x7_1).length c268_0) ∧ w'.cell? (ad269.add (x8_2).toNat) = some (.slice A269_0 (rd_L3 t265 x8_2).length c269_0) ∧ w'.cell? (ad269.add (x8_2).toNat) = some (.slice A269_0 (rd_L3 t265 x8_2).length c269_0) ∧ w'.cell? (ad268.add (x7_1).toNat) = some (.slice A268_0 (rd_L3 t262 x7_1).length c268_0)) (ds:=[]) #[fF,fF,fF,fF,fF,fF,fF,fF,fF,fF,fF,fF,fF,fF,fF,fF,fF,fF,fF,fF,fF,fF] (by kernel_rfl) rfl rfl ⟨hx268_0,hx269_0,hx271_0,hx272_0⟩ (fun hHeld => ?_);refine with_tabW spec_l04Disjoint.tab9 spec_l04Disjoint.bits9 (fun HT_ HW_ => ?_)
            generalize wr.drew = w21 at HO_5 HO_6 HB HL268_0 HL269_0 HL271_0 HL272_0 HR268_0 HR269_0 HR271_0 HR272_0 hx268_0 hx269_0 hx271_0 hx272_0 hHeld ⊢
            refine pu 0 25 HT_ ?_
            refine pu 1 26 HT_ ?_
            refine pu 2 27 HT_ ?_
            refine pu 4 29 HT_ ?_
            refine pu 5 30 HT_ ?_
            refine pu 6 31 HT_ ?_
            refine tk 3 28 HT_ HW_ hHeld ?_
            refine tk 7 32 HT_ HW_ hHeld ?_
            refine on 8 33 HT_ (fun K hK => ?_)
            refine goes_ Try.func113 (by kernel_rfl) rfl #[.slice A268_0 (rd_L3 t262 x7_1).length c268_0,.slice A269_0 (rd_L3 t265 x8_2).length c269_0] (by rfl) rfl rfl (by (try simp only [mT,mC,mN]);first | done | rfl | (simp only [lD,lT];rfl)) ?_
            with_reducible refine (spec_l04Parted.calls k2 _ _ (rd_L3 t262 x7_1) _ _ (rd_L3 t265 x8_2) false _ ?side1 ?side2 ?side3 ?side4 A13.out).mono ?_
            (case side1 => repeat (first | exact (by repeat (first | (with_reducible exact HR268_0.out) | (with_reducible refine Kd.C_alloc ?_ _) | (with_reducible refine Kd.C_drewN ?_ _) | (with_reducible refine Kd.C_drew ?_) | exact HR268_0.out)) | (with_reducible refine Kd.C_alloc ?_ _) | (with_reducible refine Kd.C_drewN ?_ _) | (with_reducible refine Kd.C_drew ?_)))
            (case side2 => exact HC268_0.out)
            (case side3 => repeat (first | exact (by repeat (first | (with_reducible exact HR269_0.out) | (with_reducible refine Kd.C_alloc ?_ _) | (with_reducible refine Kd.C_drewN ?_ _) | (with_reducible refine Kd.C_drew ?_) | exact HR269_0.out)) | (with_reducible refine Kd.C_alloc ?_ _) | (with_reducible refine Kd.C_drewN ?_ _) | (with_reducible refine Kd.C_drew ?_)))
            (case side4 => exact HC269_0.out)
            rintro e w22 ⟨rfl,hb⟩
            have HS0_:=(hb.cell (bL _ _ (hHeld.1))).trans (hHeld.1)
            have HS1_:=(hb.cell (bL _ _ (hHeld.2.1))).trans (hHeld.2.1)
            have HS2_:=(hb.cell (bL _ _ (hHeld.2.2.1))).trans (hHeld.2.2.1)
            have HS3_:=(hb.cell (bL _ _ (hHeld.2.2.2))).trans (hHeld.2.2.2)
            refine ⟨_,rfl,?_⟩
            replace HO_5:=Aside0.mk (Kd.S_below (sO HO_5.out) hb)
            replace HO_6:=Aside0.mk (Kd.S_below (sO HO_6.out) hb)
            replace HL268_0:=Aside0.mk (Kd.R_below (rO HL268_0.out) hb)
            replace HL269_0:=Aside0.mk (Kd.R_below (rO HL269_0.out) hb)
            replace HR268_0:=Aside0.mk (Kd.C_below (by repeat (first | (with_reducible exact HR268_0.out) | (with_reducible refine Kd.C_alloc ?_ _) | (with_reducible refine Kd.C_drewN ?_ _) | (with_reducible refine Kd.C_drew ?_) | exact HR268_0.out)) hb)
            replace HR269_0:=Aside0.mk (Kd.C_below (by repeat (first | (with_reducible exact HR269_0.out) | (with_reducible refine Kd.C_alloc ?_ _) | (with_reducible refine Kd.C_drewN ?_ _) | (with_reducible refine Kd.C_drew ?_) | exact HR269_0.out)) hb)
            replace HB:=sb hb
            (try clear hb)
            (try clear hb2)
            (try clear hk)
            (try clear hi)
            refine hK.out _ _ ⟨HS0_,HS1_,HS2_,HS3_⟩ (fun hHeld => ?_)
            clear hK K
            refine norm_ (a':=?_) ?_ ?_
            rotate_left
            ·show Act.put _ (some 33) _ = _
             simp only [Act.put,iT,sZ,sC,i64_w,i32_w]
             rfl
            refine pu 9 34 HT_ ?_
            refine pu 10 35 HT_ ?_
            refine pu 11 36 HT_ ?_
            refine pu 12 37 HT_ ?_
            refine pu 13 38 HT_ ?_
            refine pu 15 40 HT_ ?_
            refine pu 16 41 HT_ ?_
            refine pu 17 42 HT_ ?_
            refine tk 14 39 HT_ HW_ hHeld ?_
            refine tk 18 43 HT_ HW_ hHeld ?_
            refine on 19 44 HT_ (fun K hK => ?_)
            refine goes_ Try.func113 (by kernel_rfl) rfl #[.slice A269_0 (rd_L3 t265 x8_2).length c269_0,.slice A268_0 (rd_L3 t262 x7_1).length c268_0] (by rfl) rfl rfl (by (try simp only [mT,mC,mN]);first | done | rfl | (simp only [lD,lT];rfl)) ?_
            with_reducible refine (spec_l04Parted.calls k2 _ _ (rd_L3 t265 x8_2) _ _ (rd_L3 t262 x7_1) true _ ?side1 ?side2 ?side3 ?side4 A18.out).mono ?_
            (case side1 => repeat (first | exact (by repeat (first | (with_reducible exact HR269_0.out) | (with_reducible refine Kd.C_alloc ?_ _) | (with_reducible refine Kd.C_drewN ?_ _) | (with_reducible refine Kd.C_drew ?_) | exact HR269_0.out)) | (with_reducible refine Kd.C_alloc ?_ _) | (with_reducible refine Kd.C_drewN ?_ _) | (with_reducible refine Kd.C_drew ?_)))
            (case side2 => exact HC269_0.out)
            (case side3 => repeat (first | exact (by repeat (first | (with_reducible exact HR268_0.out) | (with_reducible refine Kd.C_alloc ?_ _) | (with_reducible refine Kd.C_drewN ?_ _) | (with_reducible refine Kd.C_drew ?_) | exact HR268_0.out)) | (with_reducible refine Kd.C_alloc ?_ _) | (with_reducible refine Kd.C_drewN ?_ _) | (with_reducible refine Kd.C_drew ?_)))
            (case side4 => exact HC268_0.out)
            rintro e w23 ⟨rfl,hb⟩
            have HS0_:=(hb.cell (bL _ _ (hHeld.1))).trans (hHeld.1)
            have HS1_:=(hb.cell (bL _ _ (hHeld.2.1))).trans (hHeld.2.1)
            have HS2_:=(hb.cell (bL _ _ (hHeld.2.2.1))).trans (hHeld.2.2.1)
            have HS3_:=(hb.cell (bL _ _ (hHeld.2.2.2))).trans (hHeld.2.2.2)
            refine ⟨_,rfl,?_⟩
            replace HO_5:=Aside0.mk (Kd.S_below (sO HO_5.out) hb)
            replace HO_6:=Aside0.mk (Kd.S_below (sO HO_6.out) hb)
            replace HL271_0:=Aside0.mk (Kd.R_below (rO HL269_0.out) hb)
            replace HL269_0:=Aside0.mk (Kd.R_below (rO HL269_0.out) hb)
            replace HL272_0:=Aside0.mk (Kd.R_below (rO HL268_0.out) hb)
            replace HL268_0:=Aside0.mk (Kd.R_below (rO HL268_0.out) hb)
            replace HR271_0:=Aside0.mk (Kd.C_below (by repeat (first | (with_reducible exact HR269_0.out) | (with_reducible refine Kd.C_alloc ?_ _) | (with_reducible refine Kd.C_drewN ?_ _) | (with_reducible refine Kd.C_drew ?_) | exact HR269_0.out)) hb)
            replace HR269_0:=Aside0.mk (Kd.C_below (by repeat (first | (with_reducible exact HR269_0.out) | (with_reducible refine Kd.C_alloc ?_ _) | (with_reducible refine Kd.C_drewN ?_ _) | (with_reducible refine Kd.C_drew ?_) | exact HR269_0.out)) hb)
            replace HR272_0:=Aside0.mk (Kd.C_below (by repeat (first | (with_reducible exact HR268_0.out) | (with_reducible refine Kd.C_alloc ?_ _) | (with_reducible refine Kd.C_drewN ?_ _) | (with_reducible refine Kd.C_drew ?_) | exact HR268_0.out)) hb)
            replace HR268_0:=Aside0.mk (Kd.C_below (by repeat (first | (with_reducible exact HR268_0.out) | (with_reducible refine Kd.C_alloc ?_ _) | (with_reducible refine Kd.C_drewN ?_ _) | (with_reducible refine Kd.C_drew ?_) | exact HR268_0.out)) hb)
            replace HB:=sb hb
            (try clear hb)
            (try clear hb2)
            (try clear hk)
            (try clear hi)
            refine hK.out _ _ ⟨HS0_,HS1_,HS2_,HS3_⟩ (fun hHeld => ?_)
            clear hK K
            refine norm_ (a':=?_) ?_ ?_
            rotate_left
            ·show Act.put _ (some 44) _ = _
             simp only [Act.put,iT,sZ,sC,i64_w,i32_w]
             rfl
            refine pu 20 45 HT_ ?_
            refine pu 21 46 HT_ ?_
            refine done_ (done_of HT_.out (by kernel_rfl)) ?_
            try go_wp2
            go_roundg k2
            case measure => have:=HK1.out;have:=HK2.out;omega
            case rel => exact ⟨(wrap64 (x8_2 + 1)),(by first | rfl | (simp;done) | (simp [*];done)),H',⟨by have:=HK1.out;have:=HK2.out;omega⟩,⟨sO HO_5.out⟩,⟨sO HO_6.out⟩,⟨ib⟩⟩
           ·replace c19:=Bool.eq_false_iff.mpr c19
            subst c19
            have H1 : (some false) = some r:=by rw [if_neg (show ¬ (false = true) by decide)] at H;exact H
            clear H
            have H:=H1
            clear H1
            obtain rfl:=Option.some.inj H
            obtain ⟨Ao24,co24,eo24⟩:=Kd.S_slice HO_6.out
            subst eo24
            try go_wp2
            replace HO_5:=Aside0.mk (Kd.S_drew HO_5.out)
            replace HO_6:=Aside0.mk (Kd.S_drew HO_6.out)
            replace HB:=Aside0.mk (below_drew1 HB.out)
            have p268 : 0 ≤ (x7_1 : Int):=da
            have q268 : x7_1 < (t262.length : Int):=da
            obtain ⟨ad268,A268_0,c268_0,e268,hx268_0,hl268_0,hi268_0⟩:=at_L3 (Kd.S_reads' HO_5.out).2.2 x7_1 p268 q268
            cases e268
            obtain ⟨ce268,hce268,hMe268,hcc268⟩:=Kd.S_get HO_5.out [] x7_1 p268 (by first | exact q268 | exact da | (have e_:=(Kd.S_reads' HO_5.out).1;omega))
            obtain ⟨ve268_0,rfl,ge268_0⟩:=hMe268
            have hv268_0:=hcc268 0 _ rfl
            rw [Nat.add_zero,show ((Kd.slice 73 k73)).sz = 1 from rfl,Nat.mul_one] at hv268_0
            replace hv268_0:=Option.some.inj (hv268_0.symm.trans hx268_0)
            rw [hv268_0] at ge268_0
            have HL268_0:=Aside0.mk (show Kd.R k73 73 _ _ _ _ (rd_L3 t262 x7_1) from ge268_0)
            clear hv268_0 ge268_0
            clear hcc268 hce268
            have HR268_0:=Aside0.mk hi268_0
            have HC268_0:=Aside0.mk hl268_0
            clear hi268_0 hl268_0
            replace p268:=eq_true p268
            replace q268:=eq_true q268
            have p269 : 0 ≤ (x8_2 : Int):=da
            have q269 : x8_2 < (t265.length : Int):=da
            obtain ⟨ad269,A269_0,c269_0,e269,hx269_0,hl269_0,hi269_0⟩:=at_L3 (Kd.S_reads' HO_6.out).2.2 x8_2 p269 q269
            cases e269
            obtain ⟨ce269,hce269,hMe269,hcc269⟩:=Kd.S_get HO_6.out [] x8_2 p269 (by first | exact q269 | exact da | (have e_:=(Kd.S_reads' HO_6.out).1;omega))
            obtain ⟨ve269_0,rfl,ge269_0⟩:=hMe269
            have hv269_0:=hcc269 0 _ rfl
            rw [Nat.add_zero,show ((Kd.slice 73 k73)).sz = 1 from rfl,Nat.mul_one] at hv269_0
            replace hv269_0:=Option.some.inj (hv269_0.symm.trans hx269_0)
            rw [hv269_0] at ge269_0
            have HL269_0:=Aside0.mk (show Kd.R k73 73 _ _ _ _ (rd_L3 t265 x8_2) from ge269_0)
            clear hv269_0 ge269_0
            clear hcc269 hce269
            have HR269_0:=Aside0.mk hi269_0
            have HC269_0:=Aside0.mk hl269_0
            clear hi269_0 hl269_0
            replace p269:=eq_true p269
            replace q269:=eq_true q269
            have p271 : 0 ≤ (x8_2 : Int):=da
            have q271 : x8_2 < (t265.length : Int):=da
            obtain ⟨ad271,A271_0,c271_0,e271,hx271_0,hl271_0,hi271_0⟩:=at_L3 (Kd.S_reads' HO_6.out).2.2 x8_2 p271 q271
            obtain rfl : ad269 = ad271:=(by injection e271)
            obtain ⟨rfl,rfl⟩ : A269_0 = A271_0 ∧ c269_0 = c271_0:=by have h_:=hx269_0.symm.trans hx271_0;injection h_ with h_;injection h_ with h1_ _ h3_;exact ⟨h1_,h3_⟩
            obtain ⟨ce271,hce271,hMe271,hcc271⟩:=Kd.S_get HO_6.out [] x8_2 p271 (by first | exact q271 | exact da | (have e_:=(Kd.S_reads' HO_6.out).1;omega))
            obtain ⟨ve271_0,rfl,ge271_0⟩:=hMe271
            have hv271_0:=hcc271 0 _ rfl
            rw [Nat.add_zero,show ((Kd.slice 73 k73)).sz = 1 from rfl,Nat.mul_one] at hv271_0
            replace hv271_0:=Option.some.inj (hv271_0.symm.trans hx271_0)
            rw [hv271_0] at ge271_0
            have HL271_0:=Aside0.mk (show Kd.R k73 73 _ _ _ _ (rd_L3 t265 x8_2) from ge271_0)
            clear hv271_0 ge271_0
            clear hcc271 hce271
            have HR271_0:=Aside0.mk hi271_0
            have HC271_0:=Aside0.mk hl271_0
            clear hi271_0 hl271_0
            replace p271:=eq_true p271
            replace q271:=eq_true q271
            have p272 : 0 ≤ (x7_1 : Int):=da
            have q272 : x7_1 < (t262.length : Int):=da
            obtain ⟨ad272,A272_0,c272_0,e272,hx272_0,hl272_0,hi272_0⟩:=at_L3 (Kd.S_reads' HO_5.out).2.2 x7_1 p272 q272
            obtain rfl : ad268 = ad272:=(by injection e272)
            obtain ⟨rfl,rfl⟩ : A268_0 = A272_0 ∧ c268_0 = c272_0:=by have h_:=hx268_0.symm.trans hx272_0;injection h_ with h_;injection h_ with h1_ _ h3_;exact ⟨h1_,h3_⟩
            obtain ⟨ce272,hce272,hMe272,hcc272⟩:=Kd.S_get HO_5.out [] x7_1 p272 (by first | exact q272 | exact da | (have e_:=(Kd.S_reads' HO_5.out).1;omega))
            obtain ⟨ve272_0,rfl,ge272_0⟩:=hMe272
            have hv272_0:=hcc272 0 _ rfl
            rw [Nat.add_zero,show ((Kd.slice 73 k73)).sz = 1 from rfl,Nat.mul_one] at hv272_0
            replace hv272_0:=Option.some.inj (hv272_0.symm.trans hx272_0)
            rw [hv272_0] at ge272_0
            have HL272_0:=Aside0.mk (show Kd.R k73 73 _ _ _ _ (rd_L3 t262 x7_1) from ge272_0)
            clear hv272_0 ge272_0
            clear hcc272 hce272
            have HR272_0:=Aside0.mk hi272_0
            have HC272_0:=Aside0.mk hl272_0
            clear hi272_0 hl272_0
            replace p272:=eq_true p272
            replace q272:=eq_true q272
            refine start_ (n:=22) (S:=fun w' => w'.cell? (ad268.add (x7_1).toNat) = some (.slice A268_0 (rd_L3 t262 x7_1).length c268_0) ∧ w'.cell? (ad269.add (x8_2).toNat) = some (.slice A269_0 (rd_L3 t265 x8_2).length c269_0) ∧ w'.cell? (ad269.add (x8_2).toNat) = some (.slice A269_0 (rd_L3 t265 x8_2).length c269_0) ∧ w'.cell? (ad268.add (x7_1).toNat) = some (.slice A268_0 (rd_L3 t262 x7_1).length c268_0)) (ds:=[]) #[fF,fF,fF,fF,fF,fF,fF,fF,fF,fF,fF,fF,fF,fF,fF,fF,fF,fF,fF,fF,fF,fF] (by kernel_rfl) rfl rfl ⟨hx268_0,hx269_0,hx271_0,hx272_0⟩ (fun hHeld => ?_);refine with_tabW spec_l04Disjoint.tab9 spec_l04Disjoint.bits9 (fun HT_ HW_ => ?_)
            generalize wr.drew = w25 at HO_5 HO_6 HB HL268_0 HL269_0 HL271_0 HL272_0 HR268_0 HR269_0 HR271_0 HR272_0 hx268_0 hx269_0 hx271_0 hx272_0 hHeld ⊢
            refine pu 0 25 HT_ ?_
            refine pu 1 26 HT_ ?_
            refine pu 2 27 HT_ ?_
            refine pu 4 29 HT_ ?_
            refine pu 5 30 HT_ ?_
            refine pu 6 31 HT_ ?_
            refine tk 3 28 HT_ HW_ hHeld ?_
            refine tk 7 32 HT_ HW_ hHeld ?_
            refine on 8 33 HT_ (fun K hK => ?_)
            refine goes_ Try.func113 (by kernel_rfl) rfl #[.slice A268_0 (rd_L3 t262 x7_1).length c268_0,.slice A269_0 (rd_L3 t265 x8_2).length c269_0] (by rfl) rfl rfl (by (try simp only [mT,mC,mN]);first | done | rfl | (simp only [lD,lT];rfl)) ?_
            with_reducible refine (spec_l04Parted.calls k2 _ _ (rd_L3 t262 x7_1) _ _ (rd_L3 t265 x8_2) false _ ?side1 ?side2 ?side3 ?side4 A13.out).mono ?_
            (case side1 => repeat (first | exact (by repeat (first | (with_reducible exact HR268_0.out) | (with_reducible refine Kd.C_alloc ?_ _) | (with_reducible refine Kd.C_drewN ?_ _) | (with_reducible refine Kd.C_drew ?_) | exact HR268_0.out)) | (with_reducible refine Kd.C_alloc ?_ _) | (with_reducible refine Kd.C_drewN ?_ _) | (with_reducible refine Kd.C_drew ?_)))
            (case side2 => exact HC268_0.out)
            (case side3 => repeat (first | exact (by repeat (first | (with_reducible exact HR269_0.out) | (with_reducible refine Kd.C_alloc ?_ _) | (with_reducible refine Kd.C_drewN ?_ _) | (with_reducible refine Kd.C_drew ?_) | exact HR269_0.out)) | (with_reducible refine Kd.C_alloc ?_ _) | (with_reducible refine Kd.C_drewN ?_ _) | (with_reducible refine Kd.C_drew ?_)))
            (case side4 => exact HC269_0.out)
            rintro e w26 ⟨rfl,hb⟩
            have HS0_:=(hb.cell (bL _ _ (hHeld.1))).trans (hHeld.1)
            have HS1_:=(hb.cell (bL _ _ (hHeld.2.1))).trans (hHeld.2.1)
            have HS2_:=(hb.cell (bL _ _ (hHeld.2.2.1))).trans (hHeld.2.2.1)
            have HS3_:=(hb.cell (bL _ _ (hHeld.2.2.2))).trans (hHeld.2.2.2)
            refine ⟨_,rfl,?_⟩
            replace HO_5:=Aside0.mk (Kd.S_below (sO HO_5.out) hb)
            replace HO_6:=Aside0.mk (Kd.S_below (sO HO_6.out) hb)
            replace HL268_0:=Aside0.mk (Kd.R_below (rO HL268_0.out) hb)
            replace HL269_0:=Aside0.mk (Kd.R_below (rO HL269_0.out) hb)
            replace HR268_0:=Aside0.mk (Kd.C_below (by repeat (first | (with_reducible exact HR268_0.out) | (with_reducible refine Kd.C_alloc ?_ _) | (with_reducible refine Kd.C_drewN ?_ _) | (with_reducible refine Kd.C_drew ?_) | exact HR268_0.out)) hb)
            replace HR269_0:=Aside0.mk (Kd.C_below (by repeat (first | (with_reducible exact HR269_0.out) | (with_reducible refine Kd.C_alloc ?_ _) | (with_reducible refine Kd.C_drewN ?_ _) | (with_reducible refine Kd.C_drew ?_) | exact HR269_0.out)) hb)
            replace HB:=sb hb
            (try clear hb)
            (try clear hb2)
            (try clear hk)
            (try clear hi)
            refine hK.out _ _ ⟨HS0_,HS1_,HS2_,HS3_⟩ (fun hHeld => ?_)
            clear hK K
            refine norm_ (a':=?_) ?_ ?_
            rotate_left
            ·show Act.put _ (some 33) _ = _
             simp only [Act.put,iT,sZ,sC,i64_w,i32_w]
             rfl
            refine pu 9 34 HT_ ?_
            refine pu 10 35 HT_ ?_
            refine pu 11 36 HT_ ?_
            refine pu 12 37 HT_ ?_
            refine pu 13 38 HT_ ?_
            refine pu 15 40 HT_ ?_
            refine pu 16 41 HT_ ?_
            refine pu 17 42 HT_ ?_
            refine tk 14 39 HT_ HW_ hHeld ?_
            refine tk 18 43 HT_ HW_ hHeld ?_
            refine on 19 44 HT_ (fun K hK => ?_)
            refine goes_ Try.func113 (by kernel_rfl) rfl #[.slice A269_0 (rd_L3 t265 x8_2).length c269_0,.slice A268_0 (rd_L3 t262 x7_1).length c268_0] (by rfl) rfl rfl (by (try simp only [mT,mC,mN]);first | done | rfl | (simp only [lD,lT];rfl)) ?_
            with_reducible refine (spec_l04Parted.calls k2 _ _ (rd_L3 t265 x8_2) _ _ (rd_L3 t262 x7_1) false _ ?side1 ?side2 ?side3 ?side4 A18.out).mono ?_
            (case side1 => repeat (first | exact (by repeat (first | (with_reducible exact HR269_0.out) | (with_reducible refine Kd.C_alloc ?_ _) | (with_reducible refine Kd.C_drewN ?_ _) | (with_reducible refine Kd.C_drew ?_) | exact HR269_0.out)) | (with_reducible refine Kd.C_alloc ?_ _) | (with_reducible refine Kd.C_drewN ?_ _) | (with_reducible refine Kd.C_drew ?_)))
            (case side2 => exact HC269_0.out)
            (case side3 => repeat (first | exact (by repeat (first | (with_reducible exact HR268_0.out) | (with_reducible refine Kd.C_alloc ?_ _) | (with_reducible refine Kd.C_drewN ?_ _) | (with_reducible refine Kd.C_drew ?_) | exact HR268_0.out)) | (with_reducible refine Kd.C_alloc ?_ _) | (with_reducible refine Kd.C_drewN ?_ _) | (with_reducible refine Kd.C_drew ?_)))
            (case side4 => exact HC268_0.out)
            rintro e w27 ⟨rfl,hb⟩
            have HS0_:=(hb.cell (bL _ _ (hHeld.1))).trans (hHeld.1)
            have HS1_:=(hb.cell (bL _ _ (hHeld.2.1))).trans (hHeld.2.1)
            have HS2_:=(hb.cell (bL _ _ (hHeld.2.2.1))).trans (hHeld.2.2.1)
            have HS3_:=(hb.cell (bL _ _ (hHeld.2.2.2))).trans (hHeld.2.2.2)
            refine ⟨_,rfl,?_⟩
            replace HO_5:=Aside0.mk (Kd.S_below (sO HO_5.out) hb)
            replace HO_6:=Aside0.mk (Kd.S_below (sO HO_6.out) hb)
            replace HL271_0:=Aside0.mk (Kd.R_below (rO HL269_0.out) hb)
            replace HL269_0:=Aside0.mk (Kd.R_below (rO HL269_0.out) hb)
            replace HL272_0:=Aside0.mk (Kd.R_below (rO HL268_0.out) hb)
            replace HL268_0:=Aside0.mk (Kd.R_below (rO HL268_0.out) hb)
            replace HR271_0:=Aside0.mk (Kd.C_below (by repeat (first | (with_reducible exact HR269_0.out) | (with_reducible refine Kd.C_alloc ?_ _) | (with_reducible refine Kd.C_drewN ?_ _) | (with_reducible refine Kd.C_drew ?_) | exact HR269_0.out)) hb)
            replace HR269_0:=Aside0.mk (Kd.C_below (by repeat (first | (with_reducible exact HR269_0.out) | (with_reducible refine Kd.C_alloc ?_ _) | (with_reducible refine Kd.C_drewN ?_ _) | (with_reducible refine Kd.C_drew ?_) | exact HR269_0.out)) hb)
            replace HR272_0:=Aside0.mk (Kd.C_below (by repeat (first | (with_reducible exact HR268_0.out) | (with_reducible refine Kd.C_alloc ?_ _) | (with_reducible refine Kd.C_drewN ?_ _) | (with_reducible refine Kd.C_drew ?_) | exact HR268_0.out)) hb)
            replace HR268_0:=Aside0.mk (Kd.C_below (by repeat (first | (with_reducible exact HR268_0.out) | (with_reducible refine Kd.C_alloc ?_ _) | (with_reducible refine Kd.C_drewN ?_ _) | (with_reducible refine Kd.C_drew ?_) | exact HR268_0.out)) hb)
            replace HB:=sb hb
            (try clear hb)
            (try clear hb2)
            (try clear hk)
            (try clear hi)
            refine hK.out _ _ ⟨HS0_,HS1_,HS2_,HS3_⟩ (fun hHeld => ?_)
            clear hK K
            refine norm_ (a':=?_) ?_ ?_
            rotate_left
            ·show Act.put _ (some 44) _ = _
             simp only [Act.put,iT,sZ,sC,i64_w,i32_w]
             rfl
            refine pu 20 45 HT_ ?_
            refine pu 21 46 HT_ ?_
            refine done_ (done_of HT_.out (by kernel_rfl)) ?_
            try go_wp2
            go_ret
            exact ⟨by first | rfl | (simp [errW_none,errW_some] <;> rfl) | (simp [*,errW_none,errW_some] <;> rfl),ib⟩
         ·rw [if_neg c12] at H
          exact absurd H (by simp)
        ·first | (exfalso;have z_:=of_decide_eq_true c7b0;omega) | (rw [if_neg c11] at H;exact absurd H (by simp))
       ·rw [if_neg c10] at H
        exact absurd H (by simp)
      ·rw [if_neg c9] at H
       have c9b0 : decide (x8_2 < (t265.length : Int)) = false:=decide_eq_false c9
       clear c9
       have H':=Aside0.mk H
       clear H
       obtain ⟨Ao28,co28,eo28⟩:=Kd.S_slice HO_6.out
       subst eo28
       go_wp2
       go_roundg k2
       case measure => have:=HK1.out;have:=HK2.out;omega
       case rel => exact ⟨(wrap64 (x7_1 + 1)),(by first | rfl | (simp;done) | (simp [*];done)),H',⟨by have:=HK1.out;have:=HK2.out;omega⟩,⟨sO HO_5.out⟩,⟨sO HO_6.out⟩,⟨ib⟩⟩
   ·rw [if_neg c7] at H
    have c7b0 : decide (x7_1 < (t262.length : Int)) = false:=decide_eq_false c7
    clear c7
    obtain rfl:=Option.some.inj H
    obtain ⟨Ao29,co29,eo29⟩:=Kd.S_slice HO_5.out
    subst eo29
    go_wp2
    go_ret
    exact ⟨by first | rfl | (simp [errW_none,errW_some] <;> rfl) | (simp [*,errW_none,errW_some] <;> rfl),ib⟩
end Go.Proofs.Ytnnchaggdnlfmaa.PFnExactDisjoint
