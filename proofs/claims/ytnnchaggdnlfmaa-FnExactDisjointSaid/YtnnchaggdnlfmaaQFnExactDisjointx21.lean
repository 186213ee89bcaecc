/- Contracts of functions that FnExactDisjoint reaches, out of the lines of the kit's print. -/
import Derived.Test.YtnnchaggdnlfmaaQFnExactDisjointx0
import Derived.Test.YtnnchaggdnlfmaaQFnExactDisjointx2
import Derived.Test.YtnnchaggdnlfmaaQFnExactDisjointx11
import Derived.Test.YtnnchaggdnlfmaaQFnExactDisjointx13
import Derived.Test.YtnnchaggdnlfmaaQFnExactDisjointx20
namespace Go.Proofs.Ytnnchaggdnlfmaa.PFnExactDisjoint
set_option maxHeartbeats 8000000
set_option maxRecDepth 100000
open Go.RowKit Go.Proofs.YtnnchaggdnlfmaaW.PrintWords Go.Proofs.YtnnchaggdnlfmaaW.PrintLast Go.Proofs.YtnnchaggdnlfmaaW.PrintMore
open Bool renaming true → tT, false → fF
open Go.World renaming block_lt_of_cell? → bL
open List renaming length_take → lT, length_drop → lD, map_toArray → mT, map_cons → mC, map_nil → mN
open Option renaming bind_eq_some_iff → bE
attribute [local go_sem] max2_int min2_int max_two min_two max_three min_three max_four min_four
set_option linter.unusedVariables false
set_option linter.unusedSimpArgs false
def impl_Disjoint.f (k : Nat) (l0 : List (S73)) (l1 : List (S73)) : Option (Bool):=(impl_ValidPolygon.f k l0).bind fun t412 => (if t412 = true then ((impl_ValidPolygon.f k l1).bind fun t413 => (if t413 = true then ((impl_apart.f k l0 l1).bind fun t414 => (some t414)) else (some false))) else (some false))
theorem impl_Disjoint.calls (k : Nat) (A0 : Option Addr) (c0 : Nat) (l0 : List (S73)) (A1 : Option Addr) (c1 : Nat) (l1 : List (S73)) (r : Bool) (w : World) (hr0 : Kd.C k73 w A0 l0.length l0) (hc0 : l0.length ≤ c0) (hr1 : Kd.C k73 w A1 l1.length l1) (hc1 : l1.length ≤ c1) (h : impl_Disjoint.f k l0 l1 = some r) :
  Calls Try.prog 32 #[.slice A0 l0.length c0,.slice A1 l1.length c1] w fun e w' => e = .returned (.bool r) ∧ Below w.heap.size w w':=by
 have HR0:=Aside0.mk hr0
 have HC0:=Aside0.mk hc0
 clear hr0 hc0
 have HR1:=Aside0.mk hr1
 have HC1:=Aside0.mk hc1
 clear hr1 hc1
 have HB:=Aside0.mk (Below.refl w.heap.size w)
 have H : ((impl_ValidPolygon.f k l0).bind fun t412 => (if t412 = true then ((impl_ValidPolygon.f k l1).bind fun t413 => (if t413 = true then ((impl_apart.f k l0 l1).bind fun t414 => (some t414)) else (some false))) else (some false))) = some r:=h
 clear h
 replace H:=bE.mp H
 obtain ⟨t412,A30,H⟩:=H
 replace H : (if t412 = true then ((impl_ValidPolygon.f k l1).bind fun t413 => (if t413 = true then ((impl_apart.f k l0 l1).bind fun t414 => (some t414)) else (some false))) else (some false)) = some r:=H
 have A3:=Aside0.mk A30
 clear A30
 by_cases c4 : t412 = true
 ·subst c4
  have H1 : ((impl_ValidPolygon.f k l1).bind fun t413 => (if t413 = true then ((impl_apart.f k l0 l1).bind fun t414 => (some t414)) else (some false))) = some r:=by rw [if_pos rfl] at H;exact H
  clear H
  have H:=H1
  clear H1
  replace H:=bE.mp H
  obtain ⟨t413,A50,H⟩:=H
  replace H : (if t413 = true then ((impl_apart.f k l0 l1).bind fun t414 => (some t414)) else (some false)) = some r:=H
  have A5:=Aside0.mk A50
  clear A50
  by_cases c6 : t413 = true
  ·subst c6
   have H1 : ((impl_apart.f k l0 l1).bind fun t414 => (some t414)) = some r:=by rw [if_pos rfl] at H;exact H
   clear H
   have H:=H1
   clear H1
   replace H:=bE.mp H
   obtain ⟨t414,A70,H⟩:=H
   replace H : (some t414) = some r:=H
   have A7:=Aside0.mk A70
   clear A70
   obtain rfl:=Option.some.inj H
   go_enter Try.func32,Try.ntmps32
   go_wp2_with (first | ((with_reducible refine gate_callee (f:=61) rfl ?_);refine goesL_ (some 6) rfl rfl Try.func61 (by kernel_rfl) rfl #[.slice A0 l0.length c0] rfl (by (try simp only [mT,mC,mN]);first | done | rfl | (simp only [lD,lT];rfl)) ?_;(with_reducible refine (impl_ValidPolygon.calls k _ _ l0 true _ ?side1 ?side2 A3.out).mono ?_);(case side1 => exact cO HR0.out);(case side2 => exact HC0.out);rintro e w8 ⟨rfl,hb⟩;refine ⟨_,rfl,?_⟩;replace HB:=sb hb;(try clear hb);(try clear hb2);(try clear hk);(try clear hi)) | (go_at_call 61;(with_reducible refine (impl_ValidPolygon.calls k _ _ l1 true _ ?side1 ?side2 A5.out).mono ?_);(case side1 => exact cO ((Kd.C_below HR1.out HB.out)));(case side2 => exact HC1.out);rintro e w9 ⟨rfl,hb⟩;replace HB:=sb hb;(try clear hb);(try clear hb2);(try clear hk);(try clear hi)) | (go_at_call 68;(with_reducible refine (impl_apart.calls k _ _ l0 _ _ l1 t414 _ ?side1 ?side2 ?side3 ?side4 A7.out).mono ?_);(case side1 => exact cO ((Kd.C_below HR0.out HB.out)));(case side2 => exact HC0.out);(case side3 => exact cO ((Kd.C_below HR1.out HB.out)));(case side4 => exact HC1.out);rintro e w10 ⟨rfl,hb⟩;replace HB:=sb hb;(try clear hb);(try clear hb2);(try clear hk);(try clear hi)))
   go_ret
   exact ⟨by first | rfl | (simp [errW_none,errW_some] <;> rfl) | (simp [*,errW_none,errW_some] <;> rfl),ib⟩
  ·replace c6:=Bool.eq_false_iff.mpr c6
   subst c6
   have H1 : (some false) = some r:=by rw [if_neg (show ¬ (false = true) by decide)] at H;exact H
   clear H
   have H:=H1
   clear H1
   obtain rfl:=Option.some.inj H
   go_enter Try.func32,Try.ntmps32
   go_wp2_with (first | ((with_reducible refine gate_callee (f:=61) rfl ?_);refine goesL_ (some 6) rfl rfl Try.func61 (by kernel_rfl) rfl #[.slice A0 l0.length c0] rfl (by (try simp only [mT,mC,mN]);first | done | rfl | (simp only [lD,lT];rfl)) ?_;(with_reducible refine (impl_ValidPolygon.calls k _ _ l0 true _ ?side1 ?side2 A3.out).mono ?_);(case side1 => exact cO HR0.out);(case side2 => exact HC0.out);rintro e w11 ⟨rfl,hb⟩;refine ⟨_,rfl,?_⟩;replace HB:=sb hb;(try clear hb);(try clear hb2);(try clear hk);(try clear hi)) | (go_at_call 61;(with_reducible refine (impl_ValidPolygon.calls k _ _ l1 false _ ?side1 ?side2 A5.out).mono ?_);(case side1 => exact cO ((Kd.C_below HR1.out HB.out)));(case side2 => exact HC1.out);rintro e w12 ⟨rfl,hb⟩;replace HB:=sb hb;(try clear hb);(try clear hb2);(try clear hk);(try clear hi)))
   go_ret
   exact ⟨by first | rfl | (simp [errW_none,errW_some] <;> rfl) | (simp [*,errW_none,errW_some] <;> rfl),ib⟩
 ·replace c4:=Bool.eq_false_iff.mpr c4
  subst c4
  have H1 : (some false) = some r:=by rw [if_neg (show ¬ (false = true) by decide)] at H;exact H
  clear H
  have H:=H1
  clear H1
  obtain rfl:=Option.some.inj H
  go_enter Try.func32,Try.ntmps32
  go_wp2_with (first | ((with_reducible refine gate_callee (f:=61) rfl ?_);refine goesL_ (some 6) rfl rfl Try.func61 (by kernel_rfl) rfl #[.slice A0 l0.length c0] rfl (by (try simp only [mT,mC,mN]);first | done | rfl | (simp only [lD,lT];rfl)) ?_;(with_reducible refine (impl_ValidPolygon.calls k _ _ l0 false _ ?side1 ?side2 A3.out).mono ?_);(case side1 => exact cO HR0.out);(case side2 => exact HC0.out);rintro e w13 ⟨rfl,hb⟩;refine ⟨_,rfl,?_⟩;replace HB:=sb hb;(try clear hb);(try clear hb2);(try clear hk);(try clear hi)))
  go_ret
  exact ⟨by first | rfl | (simp [errW_none,errW_some] <;> rfl) | (simp [*,errW_none,errW_some] <;> rfl),ib⟩
def laws_FnExactDisjoint.f (k : Nat) (l0 : List (S75)) (l1 : List (S75)) : Option (Bool):=(laws_szPointS.f l0 1048576).bind fun t415 => (if t415 < 0 then (some true) else ((laws_szPointS.f l1 t415).bind fun t416 => (if t416 < 0 then (some true) else ((laws_toPointS.f k l0).bind fun t417 => ((laws_toPointS.f k l1).bind fun t420 => ((spec_Disjoint.f k t417 t420).bind fun t423 => ((laws_toPointS.f k l0).bind fun t424 => ((laws_toPointS.f k l1).bind fun t427 => ((impl_Disjoint.f k t424 t427).bind fun t430 => (if (t430 != t423) = true then (some false) else ((laws_toPointS.f k l0).bind fun t431 => ((laws_eqPointS.f k t424 t431).bind fun t434 => (if t434 = true then ((laws_toPointS.f k l1).bind fun t435 => ((laws_eqPointS.f k t427 t435).bind fun t438 => (if t438 = true then (some true) else (some false)))) else (some false))))))))))))))
theorem laws_FnExactDisjoint.calls (k : Nat) (A0 : Option Addr) (c0 : Nat) (l0 : List (S75)) (A1 : Option Addr) (c1 : Nat) (l1 : List (S75)) (w : World) (hr0 : Kd.C k75 w A0 l0.length l0) (hc0 : l0.length ≤ c0) (hr1 : Kd.C k75 w A1 l1.length l1) (hc1 : l1.length ≤ c1) (h : laws_FnExactDisjoint.f k l0 l1 = some true) :
  Calls Try.prog 6 #[.slice A0 l0.length c0,.slice A1 l1.length c1] w fun e w' => e = .returned (.bool true) ∧ Below w.heap.size w w':=by
 have HR0:=Aside0.mk hr0
 have HC0:=Aside0.mk hc0
 clear hr0 hc0
 have HR1:=Aside0.mk hr1
 have HC1:=Aside0.mk hc1
 clear hr1 hc1
 have HB:=Aside0.mk (Below.refl w.heap.size w)
 have H : ((laws_szPointS.f l0 1048576).bind fun t415 => (if t415 < 0 then (some true) else ((laws_szPointS.f l1 t415).bind fun t416 => (if t416 < 0 then (some true) else ((laws_toPointS.f k l0).bind fun t417 => ((laws_toPointS.f k l1).bind fun t420 => ((spec_Disjoint.f k t417 t420).bind fun t423 => ((laws_toPointS.f k l0).bind fun t424 => ((laws_toPointS.f k l1).bind fun t427 => ((impl_Disjoint.f k t424 t427).bind fun t430 => (if (t430 != t423) = true then (some false) else ((laws_toPointS.f k l0).bind fun t431 => ((laws_eqPointS.f k t424 t431).bind fun t434 => (if t434 = true then ((laws_toPointS.f k l1).bind fun t435 => ((laws_eqPointS.f k t427 t435).bind fun t438 => (if t438 = true then (some true) else (some false)))) else (some false))))))))))))))) = some true:=h
 clear h
 replace H:=bE.mp H
 obtain ⟨t415,A30,H⟩:=H
 replace H : (if t415 < 0 then (some true) else ((laws_szPointS.f l1 t415).bind fun t416 => (if t416 < 0 then (some true) else ((laws_toPointS.f k l0).bind fun t417 => ((laws_toPointS.f k l1).bind fun t420 => ((spec_Disjoint.f k t417 t420).bind fun t423 => ((laws_toPointS.f k l0).bind fun t424 => ((laws_toPointS.f k l1).bind fun t427 => ((impl_Disjoint.f k t424 t427).bind fun t430 => (if (t430 != t423) = true then (some false) else ((laws_toPointS.f k l0).bind fun t431 => ((laws_eqPointS.f k t424 t431).bind fun t434 => (if t434 = true then ((laws_toPointS.f k l1).bind fun t435 => ((laws_eqPointS.f k t427 t435).bind fun t438 => (if t438 = true then (some true) else (some false)))) else (some false)))))))))))))) = some true:=H
 have A3:=Aside0.mk A30
 clear A30
 by_cases c4 : t415 < 0
 ·rw [if_pos c4] at H
  have c4b0 : decide (t415 < 0) = true:=decide_eq_true c4
  clear c4
  clear H
  go_enter Try.func6,Try.ntmps6
  go_wp2_with (first | ((with_reducible refine gate_callee (f:=15) rfl ?_);refine goesL_ (some 12) rfl rfl Try.func15 (by kernel_rfl) rfl #[.slice A0 l0.length c0,.int .i64 1048576] rfl (by (try simp only [mT,mC,mN]);first | done | rfl | (simp only [lD,lT];rfl)) ?_;(with_reducible refine (laws_szPointS.calls _ _ l0 1048576 t415 _ ?side1 ?side2 A3.out).mono ?_);(case side1 => exact cO HR0.out);(case side2 => exact HC0.out);rintro e w' ⟨rfl,⟨nd,rfl⟩⟩;refine ⟨_,rfl,?_⟩))
  go_ret
  exact ⟨by first | rfl | (simp [errW_none,errW_some] <;> rfl) | (simp [*,errW_none,errW_some] <;> rfl),ib⟩
 ·rw [if_neg c4] at H
  have c4b0 : decide (t415 < 0) = false:=decide_eq_false c4
  clear c4
  replace H:=bE.mp H
  obtain ⟨t416,A50,H⟩:=H
  replace H : (if t416 < 0 then (some true) else ((laws_toPointS.f k l0).bind fun t417 => ((laws_toPointS.f k l1).bind fun t420 => ((spec_Disjoint.f k t417 t420).bind fun t423 => ((laws_toPointS.f k l0).bind fun t424 => ((laws_toPointS.f k l1).bind fun t427 => ((impl_Disjoint.f k t424 t427).bind fun t430 => (if (t430 != t423) = true then (some false) else ((laws_toPointS.f k l0).bind fun t431 => ((laws_eqPointS.f k t424 t431).bind fun t434 => (if t434 = true then ((laws_toPointS.f k l1).bind fun t435 => ((laws_eqPointS.f k t427 t435).bind fun t438 => (if t438 = true then (some true) else (some false)))) else (some false)))))))))))) = some true:=H
  have A5:=Aside0.mk A50
  clear A50
  by_cases c6 : t416 < 0
  ·rw [if_pos c6] at H
   have c6b0 : decide (t416 < 0) = true:=decide_eq_true c6
   clear c6
   clear H
   go_enter Try.func6,Try.ntmps6
   go_wp2_with (first | ((with_reducible refine gate_callee (f:=15) rfl ?_);refine goesL_ (some 12) rfl rfl Try.func15 (by kernel_rfl) rfl #[.slice A0 l0.length c0,.int .i64 1048576] rfl (by (try simp only [mT,mC,mN]);first | done | rfl | (simp only [lD,lT];rfl)) ?_;(with_reducible refine (laws_szPointS.calls _ _ l0 1048576 t415 _ ?side1 ?side2 A3.out).mono ?_);(case side1 => exact cO HR0.out);(case side2 => exact HC0.out);rintro e w' ⟨rfl,⟨nd,rfl⟩⟩;refine ⟨_,rfl,?_⟩) | ((with_reducible refine gate_callee (f:=15) rfl ?_);refine goesL_ (some 17) rfl rfl Try.func15 (by kernel_rfl) rfl #[.slice A1 l1.length c1,.int .i64 t415] rfl (by (try simp only [mT,mC,mN]);first | done | rfl | (simp only [lD,lT];rfl)) ?_;(with_reducible refine (laws_szPointS.calls _ _ l1 t415 t416 _ ?side1 ?side2 A5.out).mono ?_);(case side1 => exact cO HR1.out);(case side2 => exact HC1.out);rintro e w' ⟨rfl,⟨nd,rfl⟩⟩;refine ⟨_,rfl,?_⟩))
   go_ret
   exact ⟨by first | rfl | (simp [errW_none,errW_some] <;> rfl) | (simp [*,errW_none,errW_some] <;> rfl),ib⟩
  ·rw [if_neg c6] at H
   have c6b0 : decide (t416 < 0) = false:=decide_eq_false c6
   clear c6
   replace H:=bE.mp H
   obtain ⟨t417,A70,H⟩:=H
   replace H : ((laws_toPointS.f k l1).bind fun t420 => ((spec_Disjoint.f k t417 t420).bind fun t423 => ((laws_toPointS.f k l0).bind fun t424 => ((laws_toPointS.f k l1).bind fun t427 => ((impl_Disjoint.f k t424 t427).bind fun t430 => (if (t430 != t423) = true then (some false) else ((laws_toPointS.f k l0).bind fun t431 => ((laws_eqPointS.f k t424 t431).bind fun t434 => (if t434 = true then ((laws_toPointS.f k l1).bind fun t435 => ((laws_eqPointS.f k t427 t435).bind fun t438 => (if t438 = true then (some true) else (some false)))) else (some false)))))))))) = some true:=H
   have A7:=Aside0.mk A70
   clear A70
   replace H:=bE.mp H
   obtain ⟨t420,A80,H⟩:=H
   replace H : ((spec_Disjoint.f k t417 t420).bind fun t423 => ((laws_toPointS.f k l0).bind fun t424 => ((laws_toPointS.f k l1).bind fun t427 => ((impl_Disjoint.f k t424 t427).bind fun t430 => (if (t430 != t423) = true then (some false) else ((laws_toPointS.f k l0).bind fun t431 => ((laws_eqPointS.f k t424 t431).bind fun t434 => (if t434 = true then ((laws_toPointS.f k l1).bind fun t435 => ((laws_eqPointS.f k t427 t435).bind fun t438 => (if t438 = true then (some true) else (some false)))) else (some false))))))))) = some true:=H
   have A8:=Aside0.mk A80
   clear A80
   replace H:=bE.mp H
   obtain ⟨t423,A90,H⟩:=H
   replace H : ((laws_toPointS.f k l0).bind fun t424 => ((laws_toPointS.f k l1).bind fun t427 => ((impl_Disjoint.f k t424 t427).bind fun t430 => (if (t430 != t423) = true then (some false) else ((laws_toPointS.f k l0).bind fun t431 => ((laws_eqPointS.f k t424 t431).bind fun t434 => (if t434 = true then ((laws_toPointS.f k l1).bind fun t435 => ((laws_eqPointS.f k t427 t435).bind fun t438 => (if t438 = true then (some true) else (some false)))) else (some false)))))))) = some true:=H
   have A9:=Aside0.mk A90
   clear A90
   replace H:=bE.mp H
   obtain ⟨t424,A100,H⟩:=H
   replace H : ((laws_toPointS.f k l1).bind fun t427 => ((impl_Disjoint.f k t424 t427).bind fun t430 => (if (t430 != t423) = true then (some false) else ((laws_toPointS.f k l0).bind fun t431 => ((laws_eqPointS.f k t424 t431).bind fun t434 => (if t434 = true then ((laws_toPointS.f k l1).bind fun t435 => ((laws_eqPointS.f k t427 t435).bind fun t438 => (if t438 = true then (some true) else (some false)))) else (some false))))))) = some true:=H
   have A10:=Aside0.mk A100
   clear A100
   replace H:=bE.mp H
   obtain ⟨t427,A110,H⟩:=H
   replace H : ((impl_Disjoint.f k t424 t427).bind fun t430 => (if (t430 != t423) = true then (some false) else ((laws_toPointS.f k l0).bind fun t431 => ((laws_eqPointS.f k t424 t431).bind fun t434 => (if t434 = true then ((laws_toPointS.f k l1).bind fun t435 => ((laws_eqPointS.f k t427 t435).bind fun t438 => (if t438 = true then (some true) else (some false)))) else (some false)))))) = some true:=H
   have A11:=Aside0.mk A110
   clear A110
   replace H:=bE.mp H
   obtain ⟨t430,A120,H⟩:=H
   replace H : (if (t430 != t423) = true then (some false) else ((laws_toPointS.f k l0).bind fun t431 => ((laws_eqPointS.f k t424 t431).bind fun t434 => (if t434 = true then ((laws_toPointS.f k l1).bind fun t435 => ((laws_eqPointS.f k t427 t435).bind fun t438 => (if t438 = true then (some true) else (some false)))) else (some false))))) = some true:=H
   have A12:=Aside0.mk A120
   clear A120
   by_cases c13 : (t430 != t423) = true
   ·rw [if_pos c13] at H
    have c13b0 : (t430 != t423) = true:=c13
    (try (have c13b1 : decide (t430 = t423) = false:=by simpa using c13))
    (try (have c13b2 : (t430 == t423) = false:=by simpa using c13))
    (try (have c13b3 : ¬ (t430 = t423):=by simpa using c13))
    clear c13
    cases H
   ·rw [if_neg c13] at H
    have c13b0 : (t430 != t423) = false:=by simpa using c13
    (try (have c13b1 : decide (t430 = t423) = true:=by simpa using c13))
    (try (have c13b2 : (t430 == t423) = true:=by simpa using c13))
    clear c13
    replace H:=bE.mp H
    obtain ⟨t431,A240,H⟩:=H
    replace H : ((laws_eqPointS.f k t424 t431).bind fun t434 => (if t434 = true then ((laws_toPointS.f k l1).bind fun t435 => ((laws_eqPointS.f k t427 t435).bind fun t438 => (if t438 = true then (some true) else (some false)))) else (some false))) = some true:=H
    have A24:=Aside0.mk A240
    clear A240
    replace H:=bE.mp H
    obtain ⟨t434,A250,H⟩:=H
    replace H : (if t434 = true then ((laws_toPointS.f k l1).bind fun t435 => ((laws_eqPointS.f k t427 t435).bind fun t438 => (if t438 = true then (some true) else (some false)))) else (some false)) = some true:=H
    have A25:=Aside0.mk A250
    clear A250
    by_cases c26 : t434 = true
    ·subst c26
     have H1 : ((laws_toPointS.f k l1).bind fun t435 => ((laws_eqPointS.f k t427 t435).bind fun t438 => (if t438 = true then (some true) else (some false)))) = some true:=by rw [if_pos rfl] at H;exact H
     clear H
     have H:=H1
     clear H1
     replace H:=bE.mp H
     obtain ⟨t435,A270,H⟩:=H
     replace H : ((laws_eqPointS.f k t427 t435).bind fun t438 => (if t438 = true then (some true) else (some false))) = some true:=H
     have A27:=Aside0.mk A270
     clear A270
     replace H:=bE.mp H
     obtain ⟨t438,A280,H⟩:=H
     replace H : (if t438 = true then (some true) else (some false)) = some true:=H
     have A28:=Aside0.mk A280
     clear A280
     by_cases c29 : t438 = true
     ·subst c29
      have H1 : (some true) = some true:=rfl
      clear H
      have H:=H1
      clear H1
      clear H
      go_enter Try.func6,Try.ntmps6
      go_wp2_with (first | ((with_reducible refine gate_callee (f:=15) rfl ?_);refine goesL_ (some 12) rfl rfl Try.func15 (by kernel_rfl) rfl #[.slice A0 l0.length c0,.int .i64 1048576] rfl (by (try simp only [mT,mC,mN]);first | done | rfl | (simp only [lD,lT];rfl)) ?_;(with_reducible refine (laws_szPointS.calls _ _ l0 1048576 t415 _ ?side1 ?side2 A3.out).mono ?_);(case side1 => exact cO HR0.out);(case side2 => exact HC0.out);rintro e w' ⟨rfl,⟨nd,rfl⟩⟩;refine ⟨_,rfl,?_⟩) | ((with_reducible refine gate_callee (f:=15) rfl ?_);refine goesL_ (some 17) rfl rfl Try.func15 (by kernel_rfl) rfl #[.slice A1 l1.length c1,.int .i64 t415] rfl (by (try simp only [mT,mC,mN]);first | done | rfl | (simp only [lD,lT];rfl)) ?_;(with_reducible refine (laws_szPointS.calls _ _ l1 t415 t416 _ ?side1 ?side2 A5.out).mono ?_);(case side1 => exact cO HR1.out);(case side2 => exact HC1.out);rintro e w' ⟨rfl,⟨nd,rfl⟩⟩;refine ⟨_,rfl,?_⟩) | ((with_reducible refine gate_callee (f:=17) rfl ?_);refine goesL_ (some 21) rfl rfl Try.func17 (by kernel_rfl) rfl #[.slice A0 l0.length c0] rfl (by (try simp only [mT,mC,mN]);first | done | rfl | (simp only [lD,lT];rfl)) ?_;(with_reducible refine (laws_toPointS.calls k _ _ l0 t417 _ ?side1 ?side2 A7.out).mono ?_);(case side1 => exact cO HR0.out);(case side2 => exact HC0.out);rintro e w30 ⟨v418,rfl,ho0,hb⟩;refine ⟨_,rfl,?_⟩;have HO419:=Aside0.mk (Kd.R_lower ho0 (below_size ib));replace HB:=sb hb;(try clear hb);(try clear hb2);(try clear hk);(try clear hi);(try clear ho0)) | ((with_reducible refine gate_callee (f:=17) rfl ?_);refine goesL_ (some 23) rfl rfl Try.func17 (by kernel_rfl) rfl #[.slice A1 l1.length c1] rfl (by (try simp only [mT,mC,mN]);first | done | rfl | (simp only [lD,lT];rfl)) ?_;(with_reducible refine (laws_toPointS.calls k _ _ l1 t420 _ ?side1 ?side2 A8.out).mono ?_);(case side1 => exact cO ((Kd.C_below HR1.out HB.out)));(case side2 => exact HC1.out);rintro e w31 ⟨v421,rfl,ho0,hb⟩;refine ⟨_,rfl,?_⟩;have HO422:=Aside0.mk (Kd.R_lower (Kd.R_new' ho0 (Kd.R_lt (rO HO419.out))) (below_size ib));replace HO419:=Aside0.mk (Kd.R_elder' (rO HO419.out) (Kd.R_base ho0) hb);replace HB:=sb hb;(try clear hb);(try clear hb2);(try clear hk);(try clear hi);(try clear ho0);obtain ⟨Ao32,co32,eo32⟩:=Kd.R_slice HO419.out;subst eo32;obtain ⟨Ao33,co33,eo33⟩:=Kd.R_slice HO422.out;subst eo33) | ((with_reducible refine gate_callee (f:=31) rfl ?_);refine goesL_ (some 24) rfl rfl Try.func31 (by kernel_rfl) rfl #[.slice Ao32 t417.length co32,.slice Ao33 t420.length co33] rfl (by (try simp only [mT,mC,mN]);first | done | rfl | (simp only [lD,lT];rfl)) ?_;(with_reducible refine (spec_Disjoint.calls k _ _ t417 _ _ t420 t423 _ ?side1 ?side2 ?side3 ?side4 A9.out).mono ?_);(case side1 => exact cO ((Kd.R_reads' HO419.out).2.2));(case side2 => exact (Kd.R_reads' HO419.out).2.1);(case side3 => exact cO ((Kd.R_reads' HO422.out).2.2));(case side4 => exact (Kd.R_reads' HO422.out).2.1);rintro e w34 ⟨rfl,hb⟩;refine ⟨_,rfl,?_⟩;replace HO419:=Aside0.mk (Kd.R_below (rO HO419.out) hb);replace HO422:=Aside0.mk (Kd.R_below (rO HO422.out) hb);replace HB:=sb hb;(try clear hb);(try clear hb2);(try clear hk);(try clear hi)) | ((with_reducible refine gate_callee (f:=17) rfl ?_);refine goesL_ (some 26) rfl rfl Try.func17 (by kernel_rfl) rfl #[.slice A0 l0.length c0] rfl (by (try simp only [mT,mC,mN]);first | done | rfl | (simp only [lD,lT];rfl)) ?_;(with_reducible refine (laws_toPointS.calls k _ _ l0 t424 _ ?side1 ?side2 A10.out).mono ?_);(case side1 => exact cO ((Kd.C_below HR0.out HB.out)));(case side2 => exact HC0.out);rintro e w35 ⟨v425,rfl,ho0,hb⟩;refine ⟨_,rfl,?_⟩;have HO426:=Aside0.mk (Kd.R_lower (Kd.R_new' (Kd.R_new' ho0 (Kd.R_lt (rO HO419.out))) (Kd.R_lt (rO HO422.out))) (below_size ib));replace HO419:=Aside0.mk (Kd.R_elder' (rO HO419.out) (Kd.R_base ho0) hb);replace HO422:=Aside0.mk (Kd.R_elder' (rO HO422.out) (Kd.R_base ho0) hb);replace HB:=sb hb;(try clear hb);(try clear hb2);(try clear hk);(try clear hi);(try clear ho0)) | ((with_reducible refine gate_callee (f:=17) rfl ?_);refine goesL_ (some 28) rfl rfl Try.func17 (by kernel_rfl) rfl #[.slice A1 l1.length c1] rfl (by (try simp only [mT,mC,mN]);first | done | rfl | (simp only [lD,lT];rfl)) ?_;(with_reducible refine (laws_toPointS.calls k _ _ l1 t427 _ ?side1 ?side2 A11.out).mono ?_);(case side1 => exact cO ((Kd.C_below HR1.out HB.out)));(case side2 => exact HC1.out);rintro e w36 ⟨v428,rfl,ho0,hb⟩;refine ⟨_,rfl,?_⟩;have HO429:=Aside0.mk (Kd.R_lower (Kd.R_new' (Kd.R_new' (Kd.R_new' ho0 (Kd.R_lt (rO HO419.out))) (Kd.R_lt (rO HO422.out))) (Kd.R_lt (rO HO426.out))) (below_size ib));replace HO419:=Aside0.mk (Kd.R_elder' (rO HO419.out) (Kd.R_base ho0) hb);replace HO422:=Aside0.mk (Kd.R_elder' (rO HO422.out) (Kd.R_base ho0) hb);replace HO426:=Aside0.mk (Kd.R_elder' (rO HO426.out) (Kd.R_base ho0) hb);replace HB:=sb hb;(try clear hb);(try clear hb2);(try clear hk);(try clear hi);(try clear ho0);obtain ⟨Ao37,co37,eo37⟩:=Kd.R_slice HO426.out;subst eo37;obtain ⟨Ao38,co38,eo38⟩:=Kd.R_slice HO429.out;subst eo38) | ((with_reducible refine gate_callee (f:=32) rfl ?_);refine goesL_ (some 31) rfl rfl Try.func32 (by kernel_rfl) rfl #[.slice Ao37 t424.length co37,.slice Ao38 t427.length co38] rfl (by (try simp only [mT,mC,mN]);first | done | rfl | (simp only [lD,lT];rfl)) ?_;(with_reducible refine (impl_Disjoint.calls k _ _ t424 _ _ t427 t430 _ ?side1 ?side2 ?side3 ?side4 A12.out).mono ?_);(case side1 => exact cO ((Kd.R_reads' HO426.out).2.2));(case side2 => exact (Kd.R_reads' HO426.out).2.1);(case side3 => exact cO ((Kd.R_reads' HO429.out).2.2));(case side4 => exact (Kd.R_reads' HO429.out).2.1);rintro e w39 ⟨rfl,hb⟩;refine ⟨_,rfl,?_⟩;replace HO419:=Aside0.mk (Kd.R_below (rO HO419.out) hb);replace HO422:=Aside0.mk (Kd.R_below (rO HO422.out) hb);replace HO426:=Aside0.mk (Kd.R_below (rO HO426.out) hb);replace HO429:=Aside0.mk (Kd.R_below (rO HO429.out) hb);replace HB:=sb hb;(try clear hb);(try clear hb2);(try clear hk);(try clear hi)) | ((with_reducible refine gate_callee (f:=17) rfl ?_);refine goesL_ (some 37) rfl rfl Try.func17 (by kernel_rfl) rfl #[.slice A0 l0.length c0] rfl (by (try simp only [mT,mC,mN]);first | done | rfl | (simp only [lD,lT];rfl)) ?_;(with_reducible refine (laws_toPointS.calls k _ _ l0 t431 _ ?side1 ?side2 A24.out).mono ?_);(case side1 => exact cO ((Kd.C_below HR0.out HB.out)));(case side2 => exact HC0.out);rintro e w40 ⟨v432,rfl,ho0,hb⟩;refine ⟨_,rfl,?_⟩;have HO433:=Aside0.mk (Kd.R_lower (Kd.R_new' (Kd.R_new' (Kd.R_new' (Kd.R_new' ho0 (Kd.R_lt (rO HO419.out))) (Kd.R_lt (rO HO422.out))) (Kd.R_lt (rO HO426.out))) (Kd.R_lt (rO HO429.out))) (below_size ib));replace HO419:=Aside0.mk (Kd.R_elder' (rO HO419.out) (Kd.R_base ho0) hb);replace HO422:=Aside0.mk (Kd.R_elder' (rO HO422.out) (Kd.R_base ho0) hb);replace HO426:=Aside0.mk (Kd.R_elder' (rO HO426.out) (Kd.R_base ho0) hb);replace HO429:=Aside0.mk (Kd.R_elder' (rO HO429.out) (Kd.R_base ho0) hb);replace HB:=sb hb;(try clear hb);(try clear hb2);(try clear hk);(try clear hi);(try clear ho0);obtain ⟨Ao41,co41,eo41⟩:=Kd.R_slice HO433.out;subst eo41) | ((with_reducible refine gate_callee (f:=19) rfl ?_);refine goesL_ (some 38) rfl rfl Try.func19 (by kernel_rfl) rfl #[.slice Ao37 t424.length co37,.slice Ao41 t431.length co41] rfl (by (try simp only [mT,mC,mN]);first | done | rfl | (simp only [lD,lT];rfl)) ?_;(with_reducible refine (laws_eqPointS.calls k _ _ t424 _ _ t431 true _ ?side1 ?side2 ?side3 ?side4 A25.out).mono ?_);(case side1 => exact cO ((Kd.R_reads' HO426.out).2.2));(case side2 => exact (Kd.R_reads' HO426.out).2.1);(case side3 => exact cO ((Kd.R_reads' HO433.out).2.2));(case side4 => exact (Kd.R_reads' HO433.out).2.1);rintro e w42 ⟨rfl,hb⟩;refine ⟨_,rfl,?_⟩;replace HO419:=Aside0.mk (Kd.R_below (rO HO419.out) hb);replace HO422:=Aside0.mk (Kd.R_below (rO HO422.out) hb);replace HO426:=Aside0.mk (Kd.R_below (rO HO426.out) hb);replace HO429:=Aside0.mk (Kd.R_below (rO HO429.out) hb);replace HO433:=Aside0.mk (Kd.R_below (rO HO433.out) hb);replace HB:=sb hb;(try clear hb);(try clear hb2);(try clear hk);(try clear hi)) | ((with_reducible refine gate_callee (f:=17) rfl ?_);refine goesL_ (some 42) rfl rfl Try.func17 (by kernel_rfl) rfl #[.slice A1 l1.length c1] rfl (by (try simp only [mT,mC,mN]);first | done | rfl | (simp only [lD,lT];rfl)) ?_;(with_reducible refine (laws_toPointS.calls k _ _ l1 t435 _ ?side1 ?side2 A27.out).mono ?_);(case side1 => exact cO ((Kd.C_below HR1.out HB.out)));(case side2 => exact HC1.out);rintro e w43 ⟨v436,rfl,ho0,hb⟩;refine ⟨_,rfl,?_⟩;have HO437:=Aside0.mk (Kd.R_lower (Kd.R_new' (Kd.R_new' (Kd.R_new' (Kd.R_new' (Kd.R_new' ho0 (Kd.R_lt (rO HO419.out))) (Kd.R_lt (rO HO422.out))) (Kd.R_lt (rO HO426.out))) (Kd.R_lt (rO HO429.out))) (Kd.R_lt (rO HO433.out))) (below_size ib));replace HO419:=Aside0.mk (Kd.R_elder' (rO HO419.out) (Kd.R_base ho0) hb);replace HO422:=Aside0.mk (Kd.R_elder' (rO HO422.out) (Kd.R_base ho0) hb);replace HO426:=Aside0.mk (Kd.R_elder' (rO HO426.out) (Kd.R_base ho0) hb);replace HO429:=Aside0.mk (Kd.R_elder' (rO HO429.out) (Kd.R_base ho0) hb);replace HO433:=Aside0.mk (Kd.R_elder' (rO HO433.out) (Kd.R_base ho0) hb);replace HB:=sb hb;(try clear hb);(try clear hb2);(try clear hk);(try clear hi);(try clear ho0);obtain ⟨Ao44,co44,eo44⟩:=Kd.R_slice HO437.out;subst eo44) | ((with_reducible refine gate_callee (f:=19) rfl ?_);refine goesL_ (some 43) rfl rfl Try.func19 (by kernel_rfl) rfl #[.slice Ao38 t427.length co38,.slice Ao44 t435.length co44] rfl (by (try simp only [mT,mC,mN]);first | done | rfl | (simp only [lD,lT];rfl)) ?_;(with_reducible refine (laws_eqPointS.calls k _ _ t427 _ _ t435 true _ ?side1 ?side2 ?side3 ?side4 A28.out).mono ?_);(case side1 => exact cO ((Kd.R_reads' HO429.out).2.2));(case side2 => exact (Kd.R_reads' HO429.out).2.1);(case side3 => exact cO ((Kd.R_reads' HO437.out).2.2));(case side4 => exact (Kd.R_reads' HO437.out).2.1);rintro e w45 ⟨rfl,hb⟩;refine ⟨_,rfl,?_⟩;replace HO419:=Aside0.mk (Kd.R_below (rO HO419.out) hb);replace HO422:=Aside0.mk (Kd.R_below (rO HO422.out) hb);replace HO426:=Aside0.mk (Kd.R_below (rO HO426.out) hb);replace HO429:=Aside0.mk (Kd.R_below (rO HO429.out) hb);replace HO433:=Aside0.mk (Kd.R_below (rO HO433.out) hb);replace HO437:=Aside0.mk (Kd.R_below (rO HO437.out) hb);replace HB:=sb hb;(try clear hb);(try clear hb2);(try clear hk);(try clear hi)))
      go_ret
      exact ⟨by first | rfl | (simp [errW_none,errW_some] <;> rfl) | (simp [*,errW_none,errW_some] <;> rfl),ib⟩
     ·replace c29:=Bool.eq_false_iff.mpr c29
      subst c29
      have H1 : (some false) = some true:=by rw [if_neg (show ¬ (false = true) by decide)] at H;exact H
      clear H
      have H:=H1
      clear H1
      cases H
    ·replace c26:=Bool.eq_false_iff.mpr c26
     subst c26
     have H1 : (some false) = some true:=by rw [if_neg (show ¬ (false = true) by decide)] at H;exact H
     clear H
     have H:=H1
     clear H1
     cases H
end Go.Proofs.Ytnnchaggdnlfmaa.PFnExactDisjoint
