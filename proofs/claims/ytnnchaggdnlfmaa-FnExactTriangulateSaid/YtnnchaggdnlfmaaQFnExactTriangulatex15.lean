/- Contracts of functions that FnExactTriangulate reaches, out of the lines of the kit's print. -/
import Derived.Test.YtnnchaggdnlfmaaQFnExactTriangulatex0
import Derived.Test.YtnnchaggdnlfmaaQFnExactTriangulatex12
import Derived.Test.YtnnchaggdnlfmaaQFnExactTriangulatex13
import Derived.Test.YtnnchaggdnlfmaaQFnExactTriangulatex14
namespace Go.Proofs.Ytnnchaggdnlfmaa.PFnExactTriangulate
open Go.RowKit Go.Proofs.YtnnchaggdnlfmaaW.PrintWords Go.Proofs.YtnnchaggdnlfmaaW.PrintLast Go.Proofs.YtnnchaggdnlfmaaW.PrintMore
open Bool renaming true → tT, false → fF
open Go.World renaming block_lt_of_cell? → bL
open List renaming setIfInBounds_toArray → iT, set_cons_zero → sZ, set_cons_succ → sC, length_take → lT, length_drop → lD, map_toArray → mT, map_cons → mC, map_nil → mN
open Option renaming bind_eq_some_iff → bE
attribute [local go_sem] max2_int min2_int max_two min_two max_three min_three max_four min_four
set_option linter.unusedVariables false
set_option linter.unusedSimpArgs false
mutual
def impl_triangles.l0 : Nat → List (List (S73)) → List (S73) → Option ((List (List (S73))))
 | 0,_,_ => none
 | k + 1,x3,x4 => if (x4.length : Int) > 3 then (impl_triangles.l1 k x3 x4 (x4.length : Int) (-1) (x4.length : Int) 0) else (if x3.length < 5864062014805 then (some (x3 ++ [x4])) else (none))
def impl_triangles.l1 : Nat → List (List (S73)) → List (S73) → Int → Int → Int → Int → Option ((List (List (S73))))
 | 0,_,_,_,_,_,_ => none
 | k + 1,x3,x4,x5,x6,x17,x18 => if x18 < x17 then ((impl_ear.f k x4 x18).bind fun t339 => (if t339 = true then (if x18 < 0 then (some x3) else (if x5 = 0 then (none) else (if 0 ≤ (Int.tmod (wrap64 ((wrap64 (x18 + x5)) - 1)) x5) then (if (Int.tmod (wrap64 ((wrap64 (x18 + x5)) - 1)) x5) < (x4.length : Int) then (if 0 ≤ x18 then (if x18 < (x4.length : Int) then (if 0 ≤ (Int.tmod (wrap64 (x18 + 1)) x5) then (if (Int.tmod (wrap64 (x18 + 1)) x5) < (x4.length : Int) then (if x3.length < 5864062014805 then ((impl_Point_112.f x4 x18 (wrap64 (x18 + 1))).bind fun t349 => (impl_triangles.l0 k (x3 ++ [(([(⟨(rd_T73 x4 (Int.tmod (wrap64 ((wrap64 (x18 + x5)) - 1)) x5)).f0,(rd_T73 x4 (Int.tmod (wrap64 ((wrap64 (x18 + x5)) - 1)) x5)).f1⟩ : S73),(⟨(rd_T73 x4 x18).f0,(rd_T73 x4 x18).f1⟩ : S73),(⟨(rd_T73 x4 (Int.tmod (wrap64 (x18 + 1)) x5)).f0,(rd_T73 x4 (Int.tmod (wrap64 (x18 + 1)) x5)).f1⟩ : S73)] : List (S73)))]) t349)) else (none)) else (none)) else (none)) else (none)) else (none)) else (none)) else (none)))) else (impl_triangles.l1 k x3 x4 x5 x6 x17 (wrap64 (x18 + 1))))) else (if x6 < 0 then (some x3) else (if x5 = 0 then (none) else (if 0 ≤ (Int.tmod (wrap64 ((wrap64 (x6 + x5)) - 1)) x5) then (if (Int.tmod (wrap64 ((wrap64 (x6 + x5)) - 1)) x5) < (x4.length : Int) then (if 0 ≤ x6 then (if x6 < (x4.length : Int) then (if 0 ≤ (Int.tmod (wrap64 (x6 + 1)) x5) then (if (Int.tmod (wrap64 (x6 + 1)) x5) < (x4.length : Int) then (if x3.length < 5864062014805 then ((impl_Point_112.f x4 x6 (wrap64 (x6 + 1))).bind fun t361 => (impl_triangles.l0 k (x3 ++ [(([(⟨(rd_T73 x4 (Int.tmod (wrap64 ((wrap64 (x6 + x5)) - 1)) x5)).f0,(rd_T73 x4 (Int.tmod (wrap64 ((wrap64 (x6 + x5)) - 1)) x5)).f1⟩ : S73),(⟨(rd_T73 x4 x6).f0,(rd_T73 x4 x6).f1⟩ : S73),(⟨(rd_T73 x4 (Int.tmod (wrap64 (x6 + 1)) x5)).f0,(rd_T73 x4 (Int.tmod (wrap64 (x6 + 1)) x5)).f1⟩ : S73)] : List (S73)))]) t361)) else (none)) else (none)) else (none)) else (none)) else (none)) else (none)) else (none))))
end
def impl_triangles.f (k : Nat) (l0 : List (S73)) : Option ((List (List (S73)))):=(impl_Point_110.f l0).bind fun t333 => (impl_triangles.l0 k (([] : List (List (S73)))) t333)
def impl_triangles.T12 : Bool × List (List Nat × List Nat):=(true,[([],[]),([],[]),([],[]),([],[]),([2,3],[2,3]),([4],[4]),([],[]),([5,6],[5,6]),([1,7],[1,7]),([8],[8]),([],[]),([],[]),([10,11],[10,11]),([12],[12]),([],[]),([],[]),([15],[15]),([],[]),([16,17],[16,17]),([14,18],[14,18]),([19],[19]),([9,13,20],[9,13,20]),([21],[21]),([0,22],[0,22]),([23,23,0,1,2,3,4,5,6,7,8,9,10,11,12,13,14,15,16,17,18,19,20,21,22,23],[0,23])])
def impl_triangles.B12 : List Nat:=[0,0,0,0,12,28,0,124,254,510,0,0,3072,7168,0,0,32768,0,229376,507904,1032192,2097150,4194302,8388607,16777215]
theorem impl_triangles.tab12 : rtab .any (opsOf Try.f66 12) = impl_triangles.T12:=by kernel_rfl
theorem impl_triangles.bits12 : waitsOk impl_triangles.T12.2 impl_triangles.B12 = true:=by kernel_rfl
set_option maxHeartbeats 8000000 in
set_option maxRecDepth 100000 in
theorem impl_triangles.calls (k : Nat) (A0 : Option Addr) (c0 : Nat) (l0 : List (S73)) (r : List (List (S73))) (w : World) (hr0 : Kd.C k73 w A0 l0.length l0) (hc0 : l0.length ≤ c0) (h : impl_triangles.f k l0 = some r) :
  Calls Try.prog 66 #[.slice A0 l0.length c0] w fun e w' => ∃ v0_ : Value,e = .returned (v0_) ∧ Kd.S (Kd.slice 73 k73) 25 w' w.heap.size (fun _ => True) v0_ r ∧ Below w.heap.size w w':=by
 have hu73:=Try.underlying73
 have HR0:=Aside0.mk hr0
 have HC0:=Aside0.mk hc0
 clear hr0 hc0
 have HB:=Aside0.mk (Below.refl w.heap.size w)
 have H : ((impl_Point_110.f l0).bind fun t333 => (impl_triangles.l0 k (([] : List (List (S73)))) t333)) = some r:=h
 clear h
 obtain ⟨y330,hy330⟩ : ∃ y_ : List (List (S73)),y_ = (([] : List (List (S73)))):=⟨_,rfl⟩
 replace H : ((impl_Point_110.f l0).bind fun t333 => (impl_triangles.l0 k y330 t333)) = some r:=by first | (rw [hy330];with_reducible exact H) | (have H2_:=(Option.bind_some _ _).symm.trans H;rw [hy330];with_reducible exact H2_) | (have H2_:=(Option.bind_some _ _).symm.trans H;with_reducible exact H2_) | with_reducible exact H | (rw [hy330];exact H) | exact H
 have Ny330:=Aside0.mk hy330
 clear hy330
 replace H:=bE.mp H
 obtain ⟨t333,A20,H⟩:=H
 replace H : (impl_triangles.l0 k y330 t333) = some r:=H
 have A2:=Aside0.mk A20
 clear A20
 have H':=Aside0.mk H
 clear H
 go_enter Try.func66,Try.ntmps66
 go_wp2_with (first | ((with_reducible refine gate_dst (N:=8) rfl ?_);refine Kd.S_lit (Kd.slice 73 k73) _ 25 ?hg (N:=8) ?hd (xs:=([] : List (List (S73)))) (inner:=[]) (ok:=fun _ => True) (okp:=fun _ => True) ?hr ?hp (fun _ hk => hk) trivial (Below.refl _ _) (Nat.le_refl _) (by simp) ?_;(case hd => rfl);(case hg => rfl);(case hr => first | (go_simp;done) | (go_simp;rfl));(case hp => exact (Reps.none _ _));intro v331 w3 ho4 hb hg_ hnew_;clear hg_ hnew_;(first | rw [← Ny330.out] at ho4 | (simp only [Int.reduceToNat] at ho4;rw [← Ny330.out] at ho4));have HO332:=Aside0.mk (Kd.S_lower ho4 (below_size ib));replace HB:=sb hb;clear hb ho4) | ((with_reducible refine gate_callee (f:=110) rfl ?_);refine goesL_ (some 10) rfl rfl Try.func110 (by kernel_rfl) rfl #[.slice A0 l0.length c0] rfl (by (try simp only [mT,mC,mN]);first | done | rfl | (simp only [lD,lT];rfl)) ?_;(with_reducible refine (impl_Point_110.calls _ _ l0 t333 _ ?side1 ?side2 A2.out).mono ?_);(case side1 => exact cO ((Kd.C_below HR0.out HB.out)));(case side2 => exact HC0.out);rintro e w5 ⟨v334,rfl,ho0,hb⟩;refine ⟨_,rfl,?_⟩;replace HO332:=Aside0.mk (Kd.S_elder' (sO HO332.out) (Kd.R_base ho0) hb);have HO335:=Aside0.mk (Kd.R_lower ho0 (below_size ib));replace HB:=sb hb;(try clear hb);(try clear hb2);(try clear hk);(try clear hi);(try clear ho0)))
 go_loopg [3,4] k (fun kq v3 v4 w' => ∃ (x3_1 : List (List (S73))) (x4_1 : List (S73)),Aside0 (impl_triangles.l0 kq x3_1 x4_1 = some r) ∧ Aside0 (kq ≤ k) ∧ Aside0 (Kd.S (Kd.slice 73 k73) 25 w' w.heap.size (fun k_ => some k_ ≠ (v4 : Value).ownBlock) v3 x3_1) ∧ Aside0 (Kd.R k73 73 w' w.heap.size (fun _ => True) v4 x4_1) ∧ Aside0 (Below w.heap.size w w'))
 case atStart => exact ⟨(y330),(t333),H',⟨Nat.le_refl _⟩,⟨sO (Kd.S_mono HO332.out (fun _ hk => hk.2))⟩,⟨rO HO335.out⟩,⟨ib⟩⟩
 case round =>
  clear H'
  try clear c1
  try clear p2
  obtain ⟨x3_1,x4_1,HA,HK1,HO_3,HO_4,HB⟩:=hrel
  cases gk with
  | zero => exact absurd HA.out (by simp [impl_triangles.l0])
  | succ k1 =>
   have H:=HA.out
   clear HA
   simp only [impl_triangles.l0] at H
   by_cases c6 : (x4_1.length : Int) > 3
   ·rw [if_pos c6] at H
    have c6b0 : decide (3 < (x4_1.length : Int)) = true:=decide_eq_true c6
    have c6b1 : decide (3 < x4_1.length) = true:=decide_eq_true (by omega)
    clear c6
    have H':=Aside0.mk H
    clear H
    obtain ⟨Ao7,co7,eo7⟩:=Kd.R_slice HO_4.out
    subst eo7
    go_wp2
    go_loopg [6,18] k1 (fun kq v6 v18 w' => ∃ (x6_2 : Int) (x18_2 : Int),v6 = .int .i64 x6_2 ∧ v18 = .int .i64 x18_2 ∧ Aside0 (impl_triangles.l1 kq x3_1 x4_1 (x4_1.length : Int) x6_2 (x4_1.length : Int) x18_2 = some r) ∧ Aside0 (kq ≤ k1) ∧ Aside0 (Kd.S (Kd.slice 73 k73) 25 w' w.heap.size (fun k_ => some k_ ≠ ((.slice Ao7 x4_1.length co7) : Value).ownBlock) u3 x3_1) ∧ Aside0 (Kd.R k73 73 w' w.heap.size (fun _ => True) (.slice Ao7 x4_1.length co7) x4_1) ∧ Aside0 (Below w.heap.size w w'))
    case atStart => exact ⟨((-1)),(0),(by first | rfl | (simp;done) | (simp [*];done)),(by first | rfl | (simp;done) | (simp [*];done)),H',⟨Nat.le_refl _⟩,⟨sO HO_3.out⟩,⟨rO HO_4.out⟩,⟨ib⟩⟩
    case round =>
     clear H'
     try clear c1
     try clear p2
     try clear c6
     try clear c6b0
     try clear c6b1
     try clear p2
     obtain ⟨x6_2,x18_2,rfl,rfl,HA,HK2,HO_3,HO_4,HB⟩:=hrel
     cases gk with
     | zero => exact absurd HA.out (by simp [impl_triangles.l1])
     | succ k2 =>
      have H:=HA.out
      clear HA
      simp only [impl_triangles.l1] at H
      by_cases c8 : x18_2 < (x4_1.length : Int)
      ·rw [if_pos c8] at H
       have c8b0 : decide (x18_2 < (x4_1.length : Int)) = true:=decide_eq_true c8
       clear c8
       replace H:=bE.mp H
       obtain ⟨t339,A90,H⟩:=H
       replace H : (if t339 = true then (if x18_2 < 0 then (some x3_1) else (if (x4_1.length : Int) = 0 then (none) else (if 0 ≤ (Int.tmod (wrap64 ((wrap64 (x18_2 + (x4_1.length : Int))) - 1)) (x4_1.length : Int)) then (if (Int.tmod (wrap64 ((wrap64 (x18_2 + (x4_1.length : Int))) - 1)) (x4_1.length : Int)) < (x4_1.length : Int) then (if 0 ≤ x18_2 then (if x18_2 < (x4_1.length : Int) then (if 0 ≤ (Int.tmod (wrap64 (x18_2 + 1)) (x4_1.length : Int)) then (if (Int.tmod (wrap64 (x18_2 + 1)) (x4_1.length : Int)) < (x4_1.length : Int) then (if x3_1.length < 5864062014805 then ((impl_Point_112.f x4_1 x18_2 (wrap64 (x18_2 + 1))).bind fun t349 => (impl_triangles.l0 k2 (x3_1 ++ [(([(⟨(rd_T73 x4_1 (Int.tmod (wrap64 ((wrap64 (x18_2 + (x4_1.length : Int))) - 1)) (x4_1.length : Int))).f0,(rd_T73 x4_1 (Int.tmod (wrap64 ((wrap64 (x18_2 + (x4_1.length : Int))) - 1)) (x4_1.length : Int))).f1⟩ : S73),(⟨(rd_T73 x4_1 x18_2).f0,(rd_T73 x4_1 x18_2).f1⟩ : S73),(⟨(rd_T73 x4_1 (Int.tmod (wrap64 (x18_2 + 1)) (x4_1.length : Int))).f0,(rd_T73 x4_1 (Int.tmod (wrap64 (x18_2 + 1)) (x4_1.length : Int))).f1⟩ : S73)] : List (S73)))]) t349)) else (none)) else (none)) else (none)) else (none)) else (none)) else (none)) else (none)))) else (impl_triangles.l1 k2 x3_1 x4_1 (x4_1.length : Int) x6_2 (x4_1.length : Int) (wrap64 (x18_2 + 1)))) = some r:=H
       have A9:=Aside0.mk A90
       clear A90
       by_cases c10 : t339 = true
       ·subst c10
        have H1 : (if x18_2 < 0 then (some x3_1) else (if (x4_1.length : Int) = 0 then (none) else (if 0 ≤ (Int.tmod (wrap64 ((wrap64 (x18_2 + (x4_1.length : Int))) - 1)) (x4_1.length : Int)) then (if (Int.tmod (wrap64 ((wrap64 (x18_2 + (x4_1.length : Int))) - 1)) (x4_1.length : Int)) < (x4_1.length : Int) then (if 0 ≤ x18_2 then (if x18_2 < (x4_1.length : Int) then (if 0 ≤ (Int.tmod (wrap64 (x18_2 + 1)) (x4_1.length : Int)) then (if (Int.tmod (wrap64 (x18_2 + 1)) (x4_1.length : Int)) < (x4_1.length : Int) then (if x3_1.length < 5864062014805 then ((impl_Point_112.f x4_1 x18_2 (wrap64 (x18_2 + 1))).bind fun t349 => (impl_triangles.l0 k2 (x3_1 ++ [(([(⟨(rd_T73 x4_1 (Int.tmod (wrap64 ((wrap64 (x18_2 + (x4_1.length : Int))) - 1)) (x4_1.length : Int))).f0,(rd_T73 x4_1 (Int.tmod (wrap64 ((wrap64 (x18_2 + (x4_1.length : Int))) - 1)) (x4_1.length : Int))).f1⟩ : S73),(⟨(rd_T73 x4_1 x18_2).f0,(rd_T73 x4_1 x18_2).f1⟩ : S73),(⟨(rd_T73 x4_1 (Int.tmod (wrap64 (x18_2 + 1)) (x4_1.length : Int))).f0,(rd_T73 x4_1 (Int.tmod (wrap64 (x18_2 + 1)) (x4_1.length : Int))).f1⟩ : S73)] : List (S73)))]) t349)) else (none)) else (none)) else (none)) else (none)) else (none)) else (none)) else (none)))) = some r:=by rw [if_pos rfl] at H;exact H
        clear H
        have H:=H1
        clear H1
        by_cases c11 : x18_2 < 0
        ·rw [if_pos c11] at H
         have c11b0 : decide (x18_2 < 0) = true:=decide_eq_true c11
         clear c11
         obtain rfl:=Option.some.inj H
         go_wp2_with (first | ((with_reducible refine gate_callee (f:=111) rfl ?_);refine goesL_ (some 23) rfl rfl Try.func111 (by kernel_rfl) rfl #[.slice Ao7 x4_1.length co7,.int .i64 x18_2] rfl (by (try simp only [mT,mC,mN]);first | done | rfl | (simp only [lD,lT];rfl)) ?_;(with_reducible refine (impl_ear.calls k2 _ _ x4_1 x18_2 true _ ?side1 ?side2 A9.out).mono ?_);(case side1 => exact cO ((Kd.R_reads' HO_4.out).2.2));(case side2 => exact (Kd.R_reads' HO_4.out).2.1);rintro e w12 ⟨rfl,hb⟩;refine ⟨_,rfl,?_⟩;replace HO_3:=Aside0.mk (Kd.S_below (sO HO_3.out) hb);replace HO_4:=Aside0.mk (Kd.R_below (rO HO_4.out) hb);replace HB:=sb hb;(try clear hb);(try clear hb2);(try clear hk);(try clear hi)))
         go_ret
         exact ⟨_,by first | rfl | (simp [errW_none,errW_some] <;> rfl) | (simp [*,errW_none,errW_some] <;> rfl),sO (Kd.S_mono HO_3.out (fun _ hk => trivial)),ib⟩
        ·rw [if_neg c11] at H
         have c11b0 : decide (x18_2 < 0) = false:=decide_eq_false c11
         clear c11
         by_cases c13 : (x4_1.length : Int) = 0
         ·rw [if_pos c13] at H
          exact absurd H (by simp)
         ·rw [if_neg c13] at H
          have c13b0 : ((x4_1.length : Int) == 0) = false:=beq_eq_false_iff_ne.mpr c13
          have c13b1 : ((x4_1.length : Int) != 0) = true:=bne_iff_ne.mpr c13
          have c13b2 : ¬ (x4_1 = []):=fun h_ => c13 (by rw [h_];rfl)
          obtain ⟨ji14,hji14⟩ : ∃ j_ : Int,(Int.tmod (wrap64 ((wrap64 (x18_2 + (x4_1.length : Int))) - 1)) (x4_1.length : Int)) = j_:=⟨_,rfl⟩
          replace H : (if 0 ≤ (ji14) then (if (ji14) < (x4_1.length : Int) then (if 0 ≤ x18_2 then (if x18_2 < (x4_1.length : Int) then (if 0 ≤ (Int.tmod (wrap64 (x18_2 + 1)) (x4_1.length : Int)) then (if (Int.tmod (wrap64 (x18_2 + 1)) (x4_1.length : Int)) < (x4_1.length : Int) then (if x3_1.length < 5864062014805 then ((impl_Point_112.f x4_1 x18_2 (wrap64 (x18_2 + 1))).bind fun t349 => (impl_triangles.l0 k2 (x3_1 ++ [(([(⟨(rd_T73 x4_1 (ji14)).f0,(rd_T73 x4_1 (ji14)).f1⟩ : S73),(⟨(rd_T73 x4_1 x18_2).f0,(rd_T73 x4_1 x18_2).f1⟩ : S73),(⟨(rd_T73 x4_1 (Int.tmod (wrap64 (x18_2 + 1)) (x4_1.length : Int))).f0,(rd_T73 x4_1 (Int.tmod (wrap64 (x18_2 + 1)) (x4_1.length : Int))).f1⟩ : S73)] : List (S73)))]) t349)) else (none)) else (none)) else (none)) else (none)) else (none)) else (none)) else (none)) = some r:=by first | (rw [hji14] at H;exact H) | (simp only [hji14] at H ⊢;exact H)
          (try rw [hji14] at A9)
          by_cases c15 : 0 ≤ (ji14)
          ·rw [if_pos c15] at H
           have c15b0 : decide (0 ≤ (ji14)) = true:=decide_eq_true c15
           clear c15
           by_cases c16 : (ji14) < (x4_1.length : Int)
           ·rw [if_pos c16] at H
            have c16b0 : decide ((ji14) < (x4_1.length : Int)) = true:=decide_eq_true c16
            clear c16
            by_cases c17 : 0 ≤ x18_2
            ·rw [if_pos c17] at H
             have c17b0 : decide (0 ≤ x18_2) = true:=decide_eq_true c17
             clear c17
             by_cases c18 : x18_2 < (x4_1.length : Int)
             ·rw [if_pos c18] at H
              have c18b0 : decide (x18_2 < (x4_1.length : Int)) = true:=decide_eq_true c18
              clear c18
              obtain ⟨ji19,hji19⟩ : ∃ j_ : Int,(Int.tmod (wrap64 (x18_2 + 1)) (x4_1.length : Int)) = j_:=⟨_,rfl⟩
              replace H : (if 0 ≤ (ji19) then (if (ji19) < (x4_1.length : Int) then (if x3_1.length < 5864062014805 then ((impl_Point_112.f x4_1 x18_2 (wrap64 (x18_2 + 1))).bind fun t349 => (impl_triangles.l0 k2 (x3_1 ++ [(([(⟨(rd_T73 x4_1 (ji14)).f0,(rd_T73 x4_1 (ji14)).f1⟩ : S73),(⟨(rd_T73 x4_1 x18_2).f0,(rd_T73 x4_1 x18_2).f1⟩ : S73),(⟨(rd_T73 x4_1 (ji19)).f0,(rd_T73 x4_1 (ji19)).f1⟩ : S73)] : List (S73)))]) t349)) else (none)) else (none)) else (none)) = some r:=by first | (rw [hji19] at H;exact H) | (simp only [hji19] at H ⊢;exact H)
              (try rw [hji19] at A9)
              by_cases c20 : 0 ≤ (ji19)
              ·rw [if_pos c20] at H
               have c20b0 : decide (0 ≤ (ji19)) = true:=decide_eq_true c20
               clear c20
               by_cases c21 : (ji19) < (x4_1.length : Int)
               ·rw [if_pos c21] at H
                have c21b0 : decide ((ji19) < (x4_1.length : Int)) = true:=decide_eq_true c21
                clear c21
                obtain ⟨y343,hy343⟩ : ∃ y_ : List (S73),y_ = (([(⟨(rd_T73 x4_1 (ji14)).f0,(rd_T73 x4_1 (ji14)).f1⟩ : S73),(⟨(rd_T73 x4_1 x18_2).f0,(rd_T73 x4_1 x18_2).f1⟩ : S73),(⟨(rd_T73 x4_1 (ji19)).f0,(rd_T73 x4_1 (ji19)).f1⟩ : S73)] : List (S73))):=⟨_,rfl⟩
                replace H : (if x3_1.length < 5864062014805 then ((impl_Point_112.f x4_1 x18_2 (wrap64 (x18_2 + 1))).bind fun t349 => (impl_triangles.l0 k2 (x3_1 ++ [y343]) t349)) else (none)) = some r:=by first | (rw [hy343];with_reducible exact H) | (have H2_:=(Option.bind_some _ _).symm.trans H;rw [hy343];with_reducible exact H2_) | (have H2_:=(Option.bind_some _ _).symm.trans H;with_reducible exact H2_) | with_reducible exact H | (rw [hy343];exact H) | exact H
                have Ny343:=Aside0.mk hy343
                clear hy343
                by_cases c22 : x3_1.length < 5864062014805
                ·rw [if_pos c22] at H
                 have LMc22:=Aside0.mk c22
                 clear c22
                 obtain ⟨y346,hy346⟩ : ∃ y_ : List (List (S73)),y_ = (x3_1 ++ [y343]):=⟨_,rfl⟩
                 replace H : ((impl_Point_112.f x4_1 x18_2 (wrap64 (x18_2 + 1))).bind fun t349 => (impl_triangles.l0 k2 y346 t349)) = some r:=by first | (rw [hy346];with_reducible exact H) | (have H2_:=(Option.bind_some _ _).symm.trans H;rw [hy346];with_reducible exact H2_) | (have H2_:=(Option.bind_some _ _).symm.trans H;with_reducible exact H2_) | with_reducible exact H | (rw [hy346];exact H) | exact H
                 have Ny346:=Aside0.mk hy346
                 clear hy346
                 replace H:=bE.mp H
                 obtain ⟨t349,A230,H⟩:=H
                 replace H : (impl_triangles.l0 k2 y346 t349) = some r:=H
                 have A23:=Aside0.mk A230
                 clear A230
                 have H':=Aside0.mk H
                 clear H
                 try go_wp2_with (first | ((with_reducible refine gate_callee (f:=111) rfl ?_);refine goesL_ (some 23) rfl rfl Try.func111 (by kernel_rfl) rfl #[.slice Ao7 x4_1.length co7,.int .i64 x18_2] rfl (by (try simp only [mT,mC,mN]);first | done | rfl | (simp only [lD,lT];rfl)) ?_;(with_reducible refine (impl_ear.calls k2 _ _ x4_1 x18_2 true _ ?side1 ?side2 A9.out).mono ?_);(case side1 => exact cO ((Kd.R_reads' HO_4.out).2.2));(case side2 => exact (Kd.R_reads' HO_4.out).2.1);rintro e w24 ⟨rfl,hb⟩;refine ⟨_,rfl,?_⟩;replace HO_3:=Aside0.mk (Kd.S_below (sO HO_3.out) hb);replace HO_4:=Aside0.mk (Kd.R_below (rO HO_4.out) hb);replace HB:=sb hb;(try clear hb);(try clear hb2);(try clear hk);(try clear hi)))
                 replace HO_3:=Aside0.mk (Kd.S_drew HO_3.out)
                 replace HO_4:=Aside0.mk (Kd.R_drew HO_4.out)
                 replace HB:=Aside0.mk (below_drew1 HB.out)
                 have p340 : 0 ≤ ((ji14) : Int):=da
                 have q340 : (ji14) < (x4_1.length : Int):=da
                 obtain ⟨ad340,e340,hx340_0,hx340_1⟩:=at_T73 (Kd.R_reads' HO_4.out).2.2 (ji14) p340 q340
                 cases e340
                 replace p340:=eq_true p340
                 replace q340:=eq_true q340
                 have p341 : 0 ≤ (x18_2 : Int):=da
                 have q341 : x18_2 < (x4_1.length : Int):=da
                 obtain ⟨ad341,e341,hx341_0,hx341_1⟩:=at_T73 (Kd.R_reads' HO_4.out).2.2 x18_2 p341 q341
                 obtain rfl : ad340 = ad341:=(by injection e341)
                 replace p341:=eq_true p341
                 replace q341:=eq_true q341
                 have p342 : 0 ≤ ((ji19) : Int):=da
                 have q342 : (ji19) < (x4_1.length : Int):=da
                 obtain ⟨ad342,e342,hx342_0,hx342_1⟩:=at_T73 (Kd.R_reads' HO_4.out).2.2 (ji19) p342 q342
                 obtain rfl : ad340 = ad342:=(by injection e342)
                 replace p342:=eq_true p342
                 replace q342:=eq_true q342
                 refine start_ (n:=25) (S:=fun w' => w'.cell? (ad340.add (((ji14)).toNat * 2)) = some (.int .i64 ((rd_T73 x4_1 (ji14)).f0)) ∧ w'.cell? ⟨(ad340.add (((ji14)).toNat * 2)).block,(ad340.add (((ji14)).toNat * 2)).off + 1,none⟩ = some (.int .i64 ((rd_T73 x4_1 (ji14)).f1)) ∧ w'.cell? (ad340.add ((x18_2).toNat * 2)) = some (.int .i64 ((rd_T73 x4_1 x18_2).f0)) ∧ w'.cell? ⟨(ad340.add ((x18_2).toNat * 2)).block,(ad340.add ((x18_2).toNat * 2)).off + 1,none⟩ = some (.int .i64 ((rd_T73 x4_1 x18_2).f1)) ∧ w'.cell? (ad340.add (((ji19)).toNat * 2)) = some (.int .i64 ((rd_T73 x4_1 (ji19)).f0)) ∧ w'.cell? ⟨(ad340.add (((ji19)).toNat * 2)).block,(ad340.add (((ji19)).toNat * 2)).off + 1,none⟩ = some (.int .i64 ((rd_T73 x4_1 (ji19)).f1))) (ds:=[22,23]) #[fF,fF,fF,fF,fF,fF,fF,fF,fF,fF,fF,fF,fF,fF,fF,fF,fF,fF,fF,fF,fF,fF,fF,fF,fF] (by kernel_rfl) rfl rfl ⟨hx340_0,hx340_1,hx341_0,hx341_1,hx342_0,hx342_1⟩ (fun hHeld => ?_);refine with_tabW impl_triangles.tab12 impl_triangles.bits12 (fun HT_ HW_ => ?_)
                 generalize w24.drew = w25 at HO_3 HO_4 HB hx340_0 hx340_1 hx341_0 hx341_1 hx342_0 hx342_1 hHeld ⊢
                 refine pu 0 29 HT_ ?_
                 refine pu 1 30 HT_ ?_
                 refine pu 2 31 HT_ ?_
                 refine pu 3 32 HT_ ?_
                 refine pu 4 33 HT_ ?_
                 refine pu 5 34 HT_ ?_
                 refine pu 6 35 HT_ ?_
                 refine pu 7 36 HT_ ?_
                 refine pu 8 37 HT_ ?_
                 refine pu 10 39 HT_ ?_
                 refine pu 11 40 HT_ ?_
                 refine pu 12 41 HT_ ?_
                 refine pu 14 43 HT_ ?_
                 refine pu 15 44 HT_ ?_
                 refine pu 16 45 HT_ ?_
                 refine pu 17 46 HT_ ?_
                 refine pu 18 47 HT_ ?_
                 refine pu 19 48 HT_ ?_
                 refine tk 9 38 HT_ HW_ hHeld ?_
                 refine tk 13 42 HT_ HW_ hHeld ?_
                 refine tk 20 49 HT_ HW_ hHeld ?_
                 refine on 21 50 HT_ (fun K hK => ?_)
                 refine Kd.R_lit_step k73 _ 73 ?hg (N:=50) ?hd (xs:=([(⟨(rd_T73 x4_1 (ji14)).f0,(rd_T73 x4_1 (ji14)).f1⟩ : S73),(⟨(rd_T73 x4_1 x18_2).f0,(rd_T73 x4_1 x18_2).f1⟩ : S73),(⟨(rd_T73 x4_1 (ji19)).f0,(rd_T73 x4_1 (ji19)).f1⟩ : S73)] : List (S73))) (inner:=[.int .i64 ((rd_T73 x4_1 (ji14)).f0),.int .i64 ((rd_T73 x4_1 (ji14)).f1),.int .i64 ((rd_T73 x4_1 x18_2).f0),.int .i64 ((rd_T73 x4_1 x18_2).f1),.int .i64 ((rd_T73 x4_1 (ji19)).f0),.int .i64 ((rd_T73 x4_1 (ji19)).f1)]) (ok:=fun _ => True) (okp:=fun _ => True) ?hr ?hp (fun _ hk => hk) trivial (Below.refl _ _) (Nat.le_refl _) (by simp) ?_;(case hd => rfl);(case hg => rfl);(case hr => first | (go_simp;done) | (go_simp;rfl));(case hp => exact (Reps.c2 (show Kd.M k73 _ _ _ (⟨(rd_T73 x4_1 (ji14)).f0,(rd_T73 x4_1 (ji14)).f1⟩ : S73) [.int .i64 ((rd_T73 x4_1 (ji14)).f0),.int .i64 ((rd_T73 x4_1 (ji14)).f1)] from (k73_mkM _ _ _ (⟨(rd_T73 x4_1 (ji14)).f0,(rd_T73 x4_1 (ji14)).f1⟩ : S73) )) (Reps.c2 (show Kd.M k73 _ _ _ (⟨(rd_T73 x4_1 x18_2).f0,(rd_T73 x4_1 x18_2).f1⟩ : S73) [.int .i64 ((rd_T73 x4_1 x18_2).f0),.int .i64 ((rd_T73 x4_1 x18_2).f1)] from (k73_mkM _ _ _ (⟨(rd_T73 x4_1 x18_2).f0,(rd_T73 x4_1 x18_2).f1⟩ : S73) )) (Reps.c2 (show Kd.M k73 _ _ _ (⟨(rd_T73 x4_1 (ji19)).f0,(rd_T73 x4_1 (ji19)).f1⟩ : S73) [.int .i64 ((rd_T73 x4_1 (ji19)).f0),.int .i64 ((rd_T73 x4_1 (ji19)).f1)] from (k73_mkM _ _ _ (⟨(rd_T73 x4_1 (ji19)).f0,(rd_T73 x4_1 (ji19)).f1⟩ : S73) )) (Reps.none _ _)))))
                 intro v344 w26 ho27 hb hg_ hnew_
                 have HS0_:=(hb.cell (bL _ _ (hHeld.1))).trans (hHeld.1)
                 have HS1_:=(hb.cell (bL _ _ (hHeld.2.1))).trans (hHeld.2.1)
                 have HS2_:=(hb.cell (bL _ _ (hHeld.2.2.1))).trans (hHeld.2.2.1)
                 have HS3_:=(hb.cell (bL _ _ (hHeld.2.2.2.1))).trans (hHeld.2.2.2.1)
                 have HS4_:=(hb.cell (bL _ _ (hHeld.2.2.2.2.1))).trans (hHeld.2.2.2.2.1)
                 have HS5_:=(hb.cell (bL _ _ (hHeld.2.2.2.2.2))).trans (hHeld.2.2.2.2.2)
                 clear hg_ hnew_
                 (first | rw [← Ny343.out] at ho27 | (simp only [Int.reduceToNat] at ho27;rw [← Ny343.out] at ho27))
                 replace HO_3:=Aside0.mk (Kd.S_elder' (sO HO_3.out) (Kd.R_base ho27) hb)
                 have HO345:=Aside0.mk (Kd.R_lower (Kd.R_new' ho27 (Kd.R_lt (rO HO_4.out))) (below_size ib))
                 replace HO_4:=Aside0.mk (Kd.R_elder' (rO HO_4.out) (Kd.R_base ho27) hb)
                 replace HB:=sb hb
                 clear hb ho27
                 obtain ⟨Ao29,co29,eo29⟩:=Kd.R_slice HO345.out
                 (first | subst eo29 | (injection eo29 with f1_ f2_ f3_;have f4_:=f1_.symm;have f5_:=f3_.symm;clear f1_ f2_ f3_;subst f4_;subst f5_))
                 refine hK.out _ _ ⟨HS0_,HS1_,HS2_,HS3_,HS4_,HS5_⟩ (fun hHeld => ?_)
                 clear hK K
                 refine norm_ (a':=?_) ?_ ?_
                 rotate_left
                 ·show Act.put _ (some 50) _ = _
                  simp only [Act.put,iT,sZ,sC,i64_w,i32_w]
                  rfl
                 refine last_ (i:=22) (N:=some 51) #[tT,tT,tT,tT,tT,tT,tT,tT,tT,tT,tT,tT,tT,tT,tT,tT,tT,tT,tT,tT,tT,tT,tT,fF,fF] rfl rfl (one_of HT_.out (by kernel_rfl)) (by decide) (fun K hK => ?_)
                 refine value_ (w1:=?_) (v:=?_) (by rfl) rfl ?_ ?_
                 rotate_left 2
                 ·go_simp
                  constructor
                  ·rfl
                  ·rfl
                 refine hK.out _ _ ?_
                 clear hK K
                 refine norm_ (a':=?_) ?_ ?_
                 rotate_left
                 ·show Act.put _ (some 51) _ = _
                  simp only [Act.put,iT,sZ,sC,i64_w,i32_w]
                  rfl
                 refine last_ (i:=23) (N:=some 52) #[tT,tT,tT,tT,tT,tT,tT,tT,tT,tT,tT,tT,tT,tT,tT,tT,tT,tT,tT,tT,tT,tT,tT,tT,fF] rfl rfl (one_of HT_.out (by kernel_rfl)) (by decide) (fun K hK => ?_)
                 refine Kd.S_append_step (Kd.slice 73 k73) (w0:=w) w.heap.size (by rfl) (.tmp 29) (.tmp 51) 36 25 (.slice none 0 0) 24 rfl Try.underlying36 info25 rfl (by decide) (by omega) u3 x3_1 y343 [.slice Ao29 y343.length co29] (fun k_ => some k_ ≠ (.slice (some ad340) x4_1.length co7 : Value).ownBlock) (fun k_ => some k_ = (.slice Ao29 y343.length co29 : Value).ownBlock) rfl rfl ?aP (fun k_ hk_ => ((Kd.R_mono (ok':=fun k_ => ((fun k_ => some k_ ≠ (.slice (some ad340) x4_1.length co7 : Value).ownBlock)) k_ ∧ some k_ ≠ (u3 : Value).ownBlock) (Kd.R_apart' (HO345.out) (Kd.S_typed HO_3.out) (by decide)) (fun k_ hk => ⟨hk.1.2,hk.2⟩))).1 k_ hk_.symm) ?aF ?aO ?aB ?aS ?aL ?_
                 (case aP => exact Kd.M_row (Kd.R_mono (Kd.R_tight rfl (Kd.R_mono (ok':=fun k_ => ((fun k_ => some k_ ≠ (.slice (some ad340) x4_1.length co7 : Value).ownBlock)) k_ ∧ some k_ ≠ (u3 : Value).ownBlock) (Kd.R_apart' (HO345.out) (Kd.S_typed HO_3.out) (by decide)) (fun k_ hk => ⟨hk.1.2,hk.2⟩))) (fun _ h_ => h_)))
                 (case aB => exact ib)
                 (case aF => exact (fun k_ hk => Kd.fresh' (Kd.R_lt (rO HO_4.out)) k_ hk))
                 (case aO => exact (sO (Kd.S_mono HO_3.out (fun k_ hk => ⟨hk.1,fun e_ => hk.2 e_⟩))))
                 (case aS => exact (below_size ib))
                 (case aL => have:=LMc22.out;omega)
                 intro v347 w28 ho hb hg hat
                 rw [← Ny346.out] at ho
                 replace HO_4:=Aside0.mk (Kd.R_over' (rO HO_4.out) (Kd.S_typed (sO HO_3.out)) (by decide) hg)
                 replace HB:=Aside0.mk (hb)
                 have HO348:=Aside0.mk (ho)
                 clear HO_3 HO345
                 clear ho hb hg hat
                 refine hK.out _ _ ?_
                 clear hK K
                 refine norm_ (a':=?_) ?_ ?_
                 rotate_left
                 ·show Act.put _ (some 52) _ = _
                  simp only [Act.put,iT,sZ,sC,i64_w,i32_w]
                  rfl
                 refine pu 24 3 HT_ ?_
                 refine done_ (done_of HT_.out (by kernel_rfl)) ?_
                 try go_wp2_with (first | ((with_reducible refine gate_callee (f:=112) rfl ?_);refine goesL_ (some 57) rfl rfl Try.func112 (by kernel_rfl) rfl #[.slice (some ad340) x4_1.length co7,.int .i64 x18_2,.int .i64 (wrap64 (x18_2 + 1))] rfl (by (try simp only [mT,mC,mN]);first | done | rfl | (simp only [lD,lT];rfl)) ?_;(with_reducible refine (impl_Point_112.calls (fun k_ => some k_ = (.slice (some ad340) x4_1.length co7 : Value).ownBlock) (.slice (some ad340) x4_1.length co7) x4_1 x18_2 (wrap64 (x18_2 + 1)) t349 w _ ?side1 ?side2 A23.out).mono ?_);(case side1 => repeat (first | (with_reducible first | exact HB.out | apply below_alloc | apply pw_below_drewN | apply below_drew1) | exact HB.out));(case side2 => exact Kd.R_tight rfl HO_4.out);rintro e w30 ⟨v350,rfl,ho0,hb,hkp⟩;refine ⟨_,rfl,?_⟩;replace HO348:=Aside0.mk (Kd.S_mono (ok':=fun k_ => some k_ ≠ (v350 : Value).ownBlock) (Kd.S_keptB (HO348.out) hkp (fun k_ hk_ hs_ => (hk_) hs_)) (fun k_ hk_ => fun e_ => Or.elim (ho0.1 k_ e_.symm) (fun hs_ => hk_.2.1 hs_) (fun hn_ => Nat.not_le.2 hk_.2.2 hn_)));have HO351:=Aside0.mk (Kd.R_mono (ok':=fun k_ => True) ho0 (fun k_ hk_ => trivial));replace HB:=Aside0.mk (hb);clear HO_4;(try clear hb);(try clear hkp);(try clear ho0)))
                 go_roundg k2
                 case measure => have:=HK1.out;have:=HK2.out;omega
                 case rel => exact ⟨(y346),(t349),H',⟨by have:=HK1.out;have:=HK2.out;omega⟩,⟨sO HO348.out⟩,⟨rO HO351.out⟩,⟨ib⟩⟩
                ·rw [if_neg c22] at H
                 exact absurd H (by simp)
               ·rw [if_neg c21] at H
                exact absurd H (by simp)
              ·rw [if_neg c20] at H
               exact absurd H (by simp)
             ·first | (exfalso;have z_:=of_decide_eq_true c8b0;omega) | (rw [if_neg c18] at H;exact absurd H (by simp))
            ·first | (exfalso;have z_:=of_decide_eq_false c11b0;omega) | (rw [if_neg c17] at H;exact absurd H (by simp))
           ·rw [if_neg c16] at H
            exact absurd H (by simp)
          ·rw [if_neg c15] at H
           exact absurd H (by simp)
       ·replace c10:=Bool.eq_false_iff.mpr c10
        subst c10
        have H1 : (impl_triangles.l1 k2 x3_1 x4_1 (x4_1.length : Int) x6_2 (x4_1.length : Int) (wrap64 (x18_2 + 1))) = some r:=by rw [if_neg (show ¬ (false = true) by decide)] at H;exact H
        clear H
        have H:=H1
        clear H1
        have H':=Aside0.mk H
        clear H
        go_wp2_with (first | ((with_reducible refine gate_callee (f:=111) rfl ?_);refine goesL_ (some 23) rfl rfl Try.func111 (by kernel_rfl) rfl #[.slice Ao7 x4_1.length co7,.int .i64 x18_2] rfl (by (try simp only [mT,mC,mN]);first | done | rfl | (simp only [lD,lT];rfl)) ?_;(with_reducible refine (impl_ear.calls k2 _ _ x4_1 x18_2 false _ ?side1 ?side2 A9.out).mono ?_);(case side1 => exact cO ((Kd.R_reads' HO_4.out).2.2));(case side2 => exact (Kd.R_reads' HO_4.out).2.1);rintro e w31 ⟨rfl,hb⟩;refine ⟨_,rfl,?_⟩;replace HO_3:=Aside0.mk (Kd.S_below (sO HO_3.out) hb);replace HO_4:=Aside0.mk (Kd.R_below (rO HO_4.out) hb);replace HB:=sb hb;(try clear hb);(try clear hb2);(try clear hk);(try clear hi)))
        go_roundg k2
        case measure => have:=HK1.out;have:=HK2.out;omega
        case rel => exact ⟨(x6_2),(wrap64 (x18_2 + 1)),(by first | rfl | (simp;done) | (simp [*];done)),(by first | rfl | (simp;done) | (simp [*];done)),H',⟨by have:=HK1.out;have:=HK2.out;omega⟩,⟨sO HO_3.out⟩,⟨rO HO_4.out⟩,⟨ib⟩⟩
      ·rw [if_neg c8] at H
       have c8b0 : decide (x18_2 < (x4_1.length : Int)) = false:=decide_eq_false c8
       clear c8
       by_cases c32 : x6_2 < 0
       ·rw [if_pos c32] at H
        have c32b0 : decide (x6_2 < 0) = true:=decide_eq_true c32
        clear c32
        obtain rfl:=Option.some.inj H
        go_wp2
        go_ret
        exact ⟨_,by first | rfl | (simp [errW_none,errW_some] <;> rfl) | (simp [*,errW_none,errW_some] <;> rfl),sO (Kd.S_mono HO_3.out (fun _ hk => trivial)),ib⟩
       ·rw [if_neg c32] at H
        have c32b0 : decide (x6_2 < 0) = false:=decide_eq_false c32
        clear c32
        by_cases c33 : (x4_1.length : Int) = 0
        ·rw [if_pos c33] at H
         exact absurd H (by simp)
        ·rw [if_neg c33] at H
         have c33b0 : ((x4_1.length : Int) == 0) = false:=beq_eq_false_iff_ne.mpr c33
         have c33b1 : ((x4_1.length : Int) != 0) = true:=bne_iff_ne.mpr c33
         have c33b2 : ¬ (x4_1 = []):=fun h_ => c33 (by rw [h_];rfl)
         obtain ⟨ji34,hji34⟩ : ∃ j_ : Int,(Int.tmod (wrap64 ((wrap64 (x6_2 + (x4_1.length : Int))) - 1)) (x4_1.length : Int)) = j_:=⟨_,rfl⟩
         replace H : (if 0 ≤ (ji34) then (if (ji34) < (x4_1.length : Int) then (if 0 ≤ x6_2 then (if x6_2 < (x4_1.length : Int) then (if 0 ≤ (Int.tmod (wrap64 (x6_2 + 1)) (x4_1.length : Int)) then (if (Int.tmod (wrap64 (x6_2 + 1)) (x4_1.length : Int)) < (x4_1.length : Int) then (if x3_1.length < 5864062014805 then ((impl_Point_112.f x4_1 x6_2 (wrap64 (x6_2 + 1))).bind fun t361 => (impl_triangles.l0 k2 (x3_1 ++ [(([(⟨(rd_T73 x4_1 (ji34)).f0,(rd_T73 x4_1 (ji34)).f1⟩ : S73),(⟨(rd_T73 x4_1 x6_2).f0,(rd_T73 x4_1 x6_2).f1⟩ : S73),(⟨(rd_T73 x4_1 (Int.tmod (wrap64 (x6_2 + 1)) (x4_1.length : Int))).f0,(rd_T73 x4_1 (Int.tmod (wrap64 (x6_2 + 1)) (x4_1.length : Int))).f1⟩ : S73)] : List (S73)))]) t361)) else (none)) else (none)) else (none)) else (none)) else (none)) else (none)) else (none)) = some r:=by first | (rw [hji34] at H;exact H) | (simp only [hji34] at H ⊢;exact H)
         by_cases c35 : 0 ≤ (ji34)
         ·rw [if_pos c35] at H
          have c35b0 : decide (0 ≤ (ji34)) = true:=decide_eq_true c35
          clear c35
          by_cases c36 : (ji34) < (x4_1.length : Int)
          ·rw [if_pos c36] at H
           have c36b0 : decide ((ji34) < (x4_1.length : Int)) = true:=decide_eq_true c36
           clear c36
           by_cases c37 : 0 ≤ x6_2
           ·rw [if_pos c37] at H
            have c37b0 : decide (0 ≤ x6_2) = true:=decide_eq_true c37
            clear c37
            by_cases c38 : x6_2 < (x4_1.length : Int)
            ·rw [if_pos c38] at H
             have c38b0 : decide (x6_2 < (x4_1.length : Int)) = true:=decide_eq_true c38
             clear c38
             obtain ⟨ji39,hji39⟩ : ∃ j_ : Int,(Int.tmod (wrap64 (x6_2 + 1)) (x4_1.length : Int)) = j_:=⟨_,rfl⟩
             replace H : (if 0 ≤ (ji39) then (if (ji39) < (x4_1.length : Int) then (if x3_1.length < 5864062014805 then ((impl_Point_112.f x4_1 x6_2 (wrap64 (x6_2 + 1))).bind fun t361 => (impl_triangles.l0 k2 (x3_1 ++ [(([(⟨(rd_T73 x4_1 (ji34)).f0,(rd_T73 x4_1 (ji34)).f1⟩ : S73),(⟨(rd_T73 x4_1 x6_2).f0,(rd_T73 x4_1 x6_2).f1⟩ : S73),(⟨(rd_T73 x4_1 (ji39)).f0,(rd_T73 x4_1 (ji39)).f1⟩ : S73)] : List (S73)))]) t361)) else (none)) else (none)) else (none)) = some r:=by first | (rw [hji39] at H;exact H) | (simp only [hji39] at H ⊢;exact H)
             by_cases c40 : 0 ≤ (ji39)
             ·rw [if_pos c40] at H
              have c40b0 : decide (0 ≤ (ji39)) = true:=decide_eq_true c40
              clear c40
              by_cases c41 : (ji39) < (x4_1.length : Int)
              ·rw [if_pos c41] at H
               have c41b0 : decide ((ji39) < (x4_1.length : Int)) = true:=decide_eq_true c41
               clear c41
               obtain ⟨y355,hy355⟩ : ∃ y_ : List (S73),y_ = (([(⟨(rd_T73 x4_1 (ji34)).f0,(rd_T73 x4_1 (ji34)).f1⟩ : S73),(⟨(rd_T73 x4_1 x6_2).f0,(rd_T73 x4_1 x6_2).f1⟩ : S73),(⟨(rd_T73 x4_1 (ji39)).f0,(rd_T73 x4_1 (ji39)).f1⟩ : S73)] : List (S73))):=⟨_,rfl⟩
               replace H : (if x3_1.length < 5864062014805 then ((impl_Point_112.f x4_1 x6_2 (wrap64 (x6_2 + 1))).bind fun t361 => (impl_triangles.l0 k2 (x3_1 ++ [y355]) t361)) else (none)) = some r:=by first | (rw [hy355];with_reducible exact H) | (have H2_:=(Option.bind_some _ _).symm.trans H;rw [hy355];with_reducible exact H2_) | (have H2_:=(Option.bind_some _ _).symm.trans H;with_reducible exact H2_) | with_reducible exact H | (rw [hy355];exact H) | exact H
               have Ny355:=Aside0.mk hy355
               clear hy355
               by_cases c42 : x3_1.length < 5864062014805
               ·rw [if_pos c42] at H
                have LMc42:=Aside0.mk c42
                clear c42
                obtain ⟨y358,hy358⟩ : ∃ y_ : List (List (S73)),y_ = (x3_1 ++ [y355]):=⟨_,rfl⟩
                replace H : ((impl_Point_112.f x4_1 x6_2 (wrap64 (x6_2 + 1))).bind fun t361 => (impl_triangles.l0 k2 y358 t361)) = some r:=by first | (rw [hy358];with_reducible exact H) | (have H2_:=(Option.bind_some _ _).symm.trans H;rw [hy358];with_reducible exact H2_) | (have H2_:=(Option.bind_some _ _).symm.trans H;with_reducible exact H2_) | with_reducible exact H | (rw [hy358];exact H) | exact H
                have Ny358:=Aside0.mk hy358
                clear hy358
                replace H:=bE.mp H
                obtain ⟨t361,A430,H⟩:=H
                replace H : (impl_triangles.l0 k2 y358 t361) = some r:=H
                have A43:=Aside0.mk A430
                clear A430
                have H':=Aside0.mk H
                clear H
                try go_wp2
                replace HO_3:=Aside0.mk (Kd.S_drew HO_3.out)
                replace HO_4:=Aside0.mk (Kd.R_drew HO_4.out)
                replace HB:=Aside0.mk (below_drew1 HB.out)
                have p352 : 0 ≤ ((ji34) : Int):=da
                have q352 : (ji34) < (x4_1.length : Int):=da
                obtain ⟨ad352,e352,hx352_0,hx352_1⟩:=at_T73 (Kd.R_reads' HO_4.out).2.2 (ji34) p352 q352
                cases e352
                replace p352:=eq_true p352
                replace q352:=eq_true q352
                have p353 : 0 ≤ (x6_2 : Int):=da
                have q353 : x6_2 < (x4_1.length : Int):=da
                obtain ⟨ad353,e353,hx353_0,hx353_1⟩:=at_T73 (Kd.R_reads' HO_4.out).2.2 x6_2 p353 q353
                obtain rfl : ad352 = ad353:=(by injection e353)
                replace p353:=eq_true p353
                replace q353:=eq_true q353
                have p354 : 0 ≤ ((ji39) : Int):=da
                have q354 : (ji39) < (x4_1.length : Int):=da
                obtain ⟨ad354,e354,hx354_0,hx354_1⟩:=at_T73 (Kd.R_reads' HO_4.out).2.2 (ji39) p354 q354
                obtain rfl : ad352 = ad354:=(by injection e354)
                replace p354:=eq_true p354
                replace q354:=eq_true q354
                refine start_ (n:=25) (S:=fun w' => w'.cell? (ad352.add (((ji34)).toNat * 2)) = some (.int .i64 ((rd_T73 x4_1 (ji34)).f0)) ∧ w'.cell? ⟨(ad352.add (((ji34)).toNat * 2)).block,(ad352.add (((ji34)).toNat * 2)).off + 1,none⟩ = some (.int .i64 ((rd_T73 x4_1 (ji34)).f1)) ∧ w'.cell? (ad352.add ((x6_2).toNat * 2)) = some (.int .i64 ((rd_T73 x4_1 x6_2).f0)) ∧ w'.cell? ⟨(ad352.add ((x6_2).toNat * 2)).block,(ad352.add ((x6_2).toNat * 2)).off + 1,none⟩ = some (.int .i64 ((rd_T73 x4_1 x6_2).f1)) ∧ w'.cell? (ad352.add (((ji39)).toNat * 2)) = some (.int .i64 ((rd_T73 x4_1 (ji39)).f0)) ∧ w'.cell? ⟨(ad352.add (((ji39)).toNat * 2)).block,(ad352.add (((ji39)).toNat * 2)).off + 1,none⟩ = some (.int .i64 ((rd_T73 x4_1 (ji39)).f1))) (ds:=[22,23]) #[fF,fF,fF,fF,fF,fF,fF,fF,fF,fF,fF,fF,fF,fF,fF,fF,fF,fF,fF,fF,fF,fF,fF,fF,fF] (by kernel_rfl) rfl rfl ⟨hx352_0,hx352_1,hx353_0,hx353_1,hx354_0,hx354_1⟩ (fun hHeld => ?_);refine with_tabW impl_triangles.tab12 impl_triangles.bits12 (fun HT_ HW_ => ?_)
                generalize wr.drew = w44 at HO_3 HO_4 HB hx352_0 hx352_1 hx353_0 hx353_1 hx354_0 hx354_1 hHeld ⊢
                refine pu 0 29 HT_ ?_
                refine pu 1 30 HT_ ?_
                refine pu 2 31 HT_ ?_
                refine pu 3 32 HT_ ?_
                refine pu 4 33 HT_ ?_
                refine pu 5 34 HT_ ?_
                refine pu 6 35 HT_ ?_
                refine pu 7 36 HT_ ?_
                refine pu 8 37 HT_ ?_
                refine pu 10 39 HT_ ?_
                refine pu 11 40 HT_ ?_
                refine pu 12 41 HT_ ?_
                refine pu 14 43 HT_ ?_
                refine pu 15 44 HT_ ?_
                refine pu 16 45 HT_ ?_
                refine pu 17 46 HT_ ?_
                refine pu 18 47 HT_ ?_
                refine pu 19 48 HT_ ?_
                refine tk 9 38 HT_ HW_ hHeld ?_
                refine tk 13 42 HT_ HW_ hHeld ?_
                refine tk 20 49 HT_ HW_ hHeld ?_
                refine on 21 50 HT_ (fun K hK => ?_)
                refine Kd.R_lit_step k73 _ 73 ?hg (N:=50) ?hd (xs:=([(⟨(rd_T73 x4_1 (ji34)).f0,(rd_T73 x4_1 (ji34)).f1⟩ : S73),(⟨(rd_T73 x4_1 x6_2).f0,(rd_T73 x4_1 x6_2).f1⟩ : S73),(⟨(rd_T73 x4_1 (ji39)).f0,(rd_T73 x4_1 (ji39)).f1⟩ : S73)] : List (S73))) (inner:=[.int .i64 ((rd_T73 x4_1 (ji34)).f0),.int .i64 ((rd_T73 x4_1 (ji34)).f1),.int .i64 ((rd_T73 x4_1 x6_2).f0),.int .i64 ((rd_T73 x4_1 x6_2).f1),.int .i64 ((rd_T73 x4_1 (ji39)).f0),.int .i64 ((rd_T73 x4_1 (ji39)).f1)]) (ok:=fun _ => True) (okp:=fun _ => True) ?hr ?hp (fun _ hk => hk) trivial (Below.refl _ _) (Nat.le_refl _) (by simp) ?_;(case hd => rfl);(case hg => rfl);(case hr => first | (go_simp;done) | (go_simp;rfl));(case hp => exact (Reps.c2 (show Kd.M k73 _ _ _ (⟨(rd_T73 x4_1 (ji34)).f0,(rd_T73 x4_1 (ji34)).f1⟩ : S73) [.int .i64 ((rd_T73 x4_1 (ji34)).f0),.int .i64 ((rd_T73 x4_1 (ji34)).f1)] from (k73_mkM _ _ _ (⟨(rd_T73 x4_1 (ji34)).f0,(rd_T73 x4_1 (ji34)).f1⟩ : S73) )) (Reps.c2 (show Kd.M k73 _ _ _ (⟨(rd_T73 x4_1 x6_2).f0,(rd_T73 x4_1 x6_2).f1⟩ : S73) [.int .i64 ((rd_T73 x4_1 x6_2).f0),.int .i64 ((rd_T73 x4_1 x6_2).f1)] from (k73_mkM _ _ _ (⟨(rd_T73 x4_1 x6_2).f0,(rd_T73 x4_1 x6_2).f1⟩ : S73) )) (Reps.c2 (show Kd.M k73 _ _ _ (⟨(rd_T73 x4_1 (ji39)).f0,(rd_T73 x4_1 (ji39)).f1⟩ : S73) [.int .i64 ((rd_T73 x4_1 (ji39)).f0),.int .i64 ((rd_T73 x4_1 (ji39)).f1)] from (k73_mkM _ _ _ (⟨(rd_T73 x4_1 (ji39)).f0,(rd_T73 x4_1 (ji39)).f1⟩ : S73) )) (Reps.none _ _)))))
                intro v356 w45 ho46 hb hg_ hnew_
                have HS0_:=(hb.cell (bL _ _ (hHeld.1))).trans (hHeld.1)
                have HS1_:=(hb.cell (bL _ _ (hHeld.2.1))).trans (hHeld.2.1)
                have HS2_:=(hb.cell (bL _ _ (hHeld.2.2.1))).trans (hHeld.2.2.1)
                have HS3_:=(hb.cell (bL _ _ (hHeld.2.2.2.1))).trans (hHeld.2.2.2.1)
                have HS4_:=(hb.cell (bL _ _ (hHeld.2.2.2.2.1))).trans (hHeld.2.2.2.2.1)
                have HS5_:=(hb.cell (bL _ _ (hHeld.2.2.2.2.2))).trans (hHeld.2.2.2.2.2)
                clear hg_ hnew_
                (first | rw [← Ny355.out] at ho46 | (simp only [Int.reduceToNat] at ho46;rw [← Ny355.out] at ho46))
                replace HO_3:=Aside0.mk (Kd.S_elder' (sO HO_3.out) (Kd.R_base ho46) hb)
                have HO357:=Aside0.mk (Kd.R_lower (Kd.R_new' ho46 (Kd.R_lt (rO HO_4.out))) (below_size ib))
                replace HO_4:=Aside0.mk (Kd.R_elder' (rO HO_4.out) (Kd.R_base ho46) hb)
                replace HB:=sb hb
                clear hb ho46
                obtain ⟨Ao48,co48,eo48⟩:=Kd.R_slice HO357.out
                (first | subst eo48 | (injection eo48 with f1_ f2_ f3_;have f4_:=f1_.symm;have f5_:=f3_.symm;clear f1_ f2_ f3_;subst f4_;subst f5_))
                refine hK.out _ _ ⟨HS0_,HS1_,HS2_,HS3_,HS4_,HS5_⟩ (fun hHeld => ?_)
                clear hK K
                refine norm_ (a':=?_) ?_ ?_
                rotate_left
                ·show Act.put _ (some 50) _ = _
                 simp only [Act.put,iT,sZ,sC,i64_w,i32_w]
                 rfl
                refine last_ (i:=22) (N:=some 51) #[tT,tT,tT,tT,tT,tT,tT,tT,tT,tT,tT,tT,tT,tT,tT,tT,tT,tT,tT,tT,tT,tT,tT,fF,fF] rfl rfl (one_of HT_.out (by kernel_rfl)) (by decide) (fun K hK => ?_)
                refine value_ (w1:=?_) (v:=?_) (by rfl) rfl ?_ ?_
                rotate_left 2
                ·go_simp
                 constructor
                 ·rfl
                 ·rfl
                refine hK.out _ _ ?_
                clear hK K
                refine norm_ (a':=?_) ?_ ?_
                rotate_left
                ·show Act.put _ (some 51) _ = _
                 simp only [Act.put,iT,sZ,sC,i64_w,i32_w]
                 rfl
                refine last_ (i:=23) (N:=some 52) #[tT,tT,tT,tT,tT,tT,tT,tT,tT,tT,tT,tT,tT,tT,tT,tT,tT,tT,tT,tT,tT,tT,tT,tT,fF] rfl rfl (one_of HT_.out (by kernel_rfl)) (by decide) (fun K hK => ?_)
                refine Kd.S_append_step (Kd.slice 73 k73) (w0:=w) w.heap.size (by rfl) (.tmp 29) (.tmp 51) 36 25 (.slice none 0 0) 24 rfl Try.underlying36 info25 rfl (by decide) (by omega) u3 x3_1 y355 [.slice Ao48 y355.length co48] (fun k_ => some k_ ≠ (.slice (some ad352) x4_1.length co7 : Value).ownBlock) (fun k_ => some k_ = (.slice Ao48 y355.length co48 : Value).ownBlock) rfl rfl ?aP (fun k_ hk_ => ((Kd.R_mono (ok':=fun k_ => ((fun k_ => some k_ ≠ (.slice (some ad352) x4_1.length co7 : Value).ownBlock)) k_ ∧ some k_ ≠ (u3 : Value).ownBlock) (Kd.R_apart' (HO357.out) (Kd.S_typed HO_3.out) (by decide)) (fun k_ hk => ⟨hk.1.2,hk.2⟩))).1 k_ hk_.symm) ?aF ?aO ?aB ?aS ?aL ?_
                (case aP => exact Kd.M_row (Kd.R_mono (Kd.R_tight rfl (Kd.R_mono (ok':=fun k_ => ((fun k_ => some k_ ≠ (.slice (some ad352) x4_1.length co7 : Value).ownBlock)) k_ ∧ some k_ ≠ (u3 : Value).ownBlock) (Kd.R_apart' (HO357.out) (Kd.S_typed HO_3.out) (by decide)) (fun k_ hk => ⟨hk.1.2,hk.2⟩))) (fun _ h_ => h_)))
                (case aB => exact ib)
                (case aF => exact (fun k_ hk => Kd.fresh' (Kd.R_lt (rO HO_4.out)) k_ hk))
                (case aO => exact (sO (Kd.S_mono HO_3.out (fun k_ hk => ⟨hk.1,fun e_ => hk.2 e_⟩))))
                (case aS => exact (below_size ib))
                (case aL => have:=LMc42.out;omega)
                intro v359 w47 ho hb hg hat
                rw [← Ny358.out] at ho
                replace HO_4:=Aside0.mk (Kd.R_over' (rO HO_4.out) (Kd.S_typed (sO HO_3.out)) (by decide) hg)
                replace HB:=Aside0.mk (hb)
                have HO360:=Aside0.mk (ho)
                clear HO_3 HO357
                clear ho hb hg hat
                refine hK.out _ _ ?_
                clear hK K
                refine norm_ (a':=?_) ?_ ?_
                rotate_left
                ·show Act.put _ (some 52) _ = _
                 simp only [Act.put,iT,sZ,sC,i64_w,i32_w]
                 rfl
                refine pu 24 3 HT_ ?_
                refine done_ (done_of HT_.out (by kernel_rfl)) ?_
                try go_wp2_with (first | ((with_reducible refine gate_callee (f:=112) rfl ?_);refine goesL_ (some 57) rfl rfl Try.func112 (by kernel_rfl) rfl #[.slice (some ad352) x4_1.length co7,.int .i64 x6_2,.int .i64 (wrap64 (x6_2 + 1))] rfl (by (try simp only [mT,mC,mN]);first | done | rfl | (simp only [lD,lT];rfl)) ?_;(with_reducible refine (impl_Point_112.calls (fun k_ => some k_ = (.slice (some ad352) x4_1.length co7 : Value).ownBlock) (.slice (some ad352) x4_1.length co7) x4_1 x6_2 (wrap64 (x6_2 + 1)) t361 w _ ?side1 ?side2 A43.out).mono ?_);(case side1 => repeat (first | (with_reducible first | exact HB.out | apply below_alloc | apply pw_below_drewN | apply below_drew1) | exact HB.out));(case side2 => exact Kd.R_tight rfl HO_4.out);rintro e w49 ⟨v362,rfl,ho0,hb,hkp⟩;refine ⟨_,rfl,?_⟩;replace HO360:=Aside0.mk (Kd.S_mono (ok':=fun k_ => some k_ ≠ (v362 : Value).ownBlock) (Kd.S_keptB (HO360.out) hkp (fun k_ hk_ hs_ => (hk_) hs_)) (fun k_ hk_ => fun e_ => Or.elim (ho0.1 k_ e_.symm) (fun hs_ => hk_.2.1 hs_) (fun hn_ => Nat.not_le.2 hk_.2.2 hn_)));have HO363:=Aside0.mk (Kd.R_mono (ok':=fun k_ => True) ho0 (fun k_ hk_ => trivial));replace HB:=Aside0.mk (hb);clear HO_4;(try clear hb);(try clear hkp);(try clear ho0)))
                go_roundg k2
                case measure => have:=HK1.out;have:=HK2.out;omega
                case rel => exact ⟨(y358),(t361),H',⟨by have:=HK1.out;have:=HK2.out;omega⟩,⟨sO HO360.out⟩,⟨rO HO363.out⟩,⟨ib⟩⟩
               ·rw [if_neg c42] at H
                exact absurd H (by simp)
              ·rw [if_neg c41] at H
               exact absurd H (by simp)
             ·rw [if_neg c40] at H
              exact absurd H (by simp)
            ·rw [if_neg c38] at H
             exact absurd H (by simp)
           ·first | (exfalso;have z_:=of_decide_eq_false c32b0;omega) | (rw [if_neg c37] at H;exact absurd H (by simp))
          ·rw [if_neg c36] at H
           exact absurd H (by simp)
         ·rw [if_neg c35] at H
          exact absurd H (by simp)
   ·rw [if_neg c6] at H
    have c6b0 : decide (3 < (x4_1.length : Int)) = false:=decide_eq_false c6
    have c6b1 : decide (3 < x4_1.length) = false:=decide_eq_false (by omega)
    clear c6
    by_cases c50 : x3_1.length < 5864062014805
    ·rw [if_pos c50] at H
     have LMc50:=Aside0.mk c50
     clear c50
     obtain ⟨y336,hy336⟩ : ∃ y_ : List (List (S73)),y_ = (x3_1 ++ [x4_1]):=⟨_,rfl⟩
     replace H : (some y336) = some r:=by first | (rw [hy336];with_reducible exact H) | (have H2_:=(Option.bind_some _ _).symm.trans H;rw [hy336];with_reducible exact H2_) | (have H2_:=(Option.bind_some _ _).symm.trans H;with_reducible exact H2_) | with_reducible exact H | (rw [hy336];exact H) | exact H
     have Ny336:=Aside0.mk hy336
     clear hy336
     obtain rfl:=Option.some.inj H
     obtain ⟨Ao51,co51,eo51⟩:=Kd.R_slice HO_4.out
     subst eo51
     go_wp2_with (first | ((with_reducible refine gate_builtin (b:=.append) (xs:=#[.tmp 58,.tmp 60]) rfl ?_);at_builtin;refine Kd.S_append (Kd.slice 73 k73) (w0:=w) w.heap.size rfl (.tmp 58) (.tmp 60) 36 25 (.slice none 0 0) 24 rfl Try.underlying36 info25 rfl (by decide) (by omega) u3 x3_1 x4_1 [.slice Ao51 x4_1.length co51] (fun _ => True) (fun k_ => some k_ = (.slice Ao51 x4_1.length co51 : Value).ownBlock) rfl rfl ?aP (fun k_ hk_ => ((Kd.R_mono (ok':=fun k_ => ((fun _ => True)) k_ ∧ some k_ ≠ (u3 : Value).ownBlock) (Kd.R_apart' (HO_4.out) (Kd.S_typed HO_3.out) (by decide)) (fun k_ hk => ⟨trivial,hk.2⟩))).1 k_ hk_.symm) ?aF ?aO ?aB ?aS ?aL ?_;(case aP => exact Kd.M_row (Kd.R_mono (Kd.R_tight rfl (Kd.R_mono (ok':=fun k_ => ((fun _ => True)) k_ ∧ some k_ ≠ (u3 : Value).ownBlock) (Kd.R_apart' (HO_4.out) (Kd.S_typed HO_3.out) (by decide)) (fun k_ hk => ⟨trivial,hk.2⟩))) (fun _ h_ => h_)));(case aB => exact ib);(case aF => exact (fun _ _ => trivial));(case aO => exact (sO (Kd.S_mono HO_3.out (fun k_ hk => ⟨trivial,fun e_ => hk e_⟩))));(case aS => exact (below_size ib));(case aL => have:=LMc50.out;omega);intro v337 w52 ho hb hg hat;rw [← Ny336.out] at ho;replace HB:=Aside0.mk (hb);have HO338:=Aside0.mk (ho);clear HO_3 HO_4;clear ho hb hg hat))
     go_ret
     exact ⟨_,by first | rfl | (simp [errW_none,errW_some] <;> rfl) | (simp [*,errW_none,errW_some] <;> rfl),sO HO338.out,ib⟩
    ·rw [if_neg c50] at H
     exact absurd H (by simp)
end Go.Proofs.Ytnnchaggdnlfmaa.PFnExactTriangulate
