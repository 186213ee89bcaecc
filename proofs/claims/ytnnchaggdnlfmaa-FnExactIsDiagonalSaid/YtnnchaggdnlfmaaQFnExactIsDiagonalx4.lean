/- Contracts of functions that FnExactIsDiagonal reaches, out of the lines of the kit's print. -/
import Derived.Test.YtnnchaggdnlfmaaQFnExactIsDiagonalx0
import Derived.Test.YtnnchaggdnlfmaaQFnExactIsDiagonalx2
import Derived.Test.YtnnchaggdnlfmaaQFnExactIsDiagonalx3
namespace Go.Proofs.Ytnnchaggdnlfmaa.PFnExactIsDiagonal
open Go.RowKit Go.Proofs.YtnnchaggdnlfmaaW.PrintWords Go.Proofs.YtnnchaggdnlfmaaW.PrintLast Go.Proofs.YtnnchaggdnlfmaaW.PrintMore
open Bool renaming true → tT, false → fF
open Go.World renaming block_lt_of_cell? → bL
attribute [local go_sem] max2_int min2_int max_two min_two max_three min_three max_four min_four
set_option linter.unusedVariables false
set_option linter.unusedSimpArgs false
def spec_l02Crosses.f (a0_0 : Int) (a0_1 : Int) (a1_0 : Int) (a1_1 : Int) (a2_0 : Int) (a2_1 : Int) (a3_0 : Int) (a3_1 : Int) : Option (Bool) := (spec_l02Side.f a0_0 a0_1 a1_0 a1_1 a2_0 a2_1).bind fun t125 => ((spec_l02Side.f a0_0 a0_1 a1_0 a1_1 a3_0 a3_1).bind fun t126 => (if (wrap64 (t125 * t126)) < 0 then ((spec_l02Side.f a2_0 a2_1 a3_0 a3_1 a0_0 a0_1).bind fun t127 => ((spec_l02Side.f a2_0 a2_1 a3_0 a3_1 a1_0 a1_1).bind fun t128 => (some (decide ((wrap64 (t127 * t128)) < 0))))) else (some false)))
def spec_l02Crosses.T1 : Bool × List (List Nat × List Nat) := (true, [([], []), ([], []), ([], []), ([0, 1, 2], [0, 1, 2]), ([], []), ([], []), ([], []), ([4, 5, 6, 3], [4, 5, 6]), ([3, 7], [3, 7]), ([8], [8]), ([9, 7], [9]), ([10], [10]), ([10], [10]), ([10], [10]), ([11, 12, 13, 10, 10], [10, 11, 12, 13]), ([10], [10]), ([10], [10]), ([10], [10]), ([15, 16, 17, 14, 10], [10, 15, 16, 17]), ([14, 18, 10], [10, 14, 18]), ([19, 10], [10, 19]), ([10, 20], [10, 20]), ([21, 18, 0, 1, 2, 3, 4, 5, 6, 7, 8, 9, 10, 11, 12, 13, 14, 15, 16, 17, 18, 19, 20, 21], [21])])
def spec_l02Crosses.B1 : List Nat := [0, 0, 0, 7, 0, 0, 0, 127, 255, 511, 1023, 2047, 2047, 2047, 16383, 2047, 2047, 2047, 262143, 524287, 1048575, 2097151, 4194303]
theorem spec_l02Crosses.tab1 : rtab .any (opsOf Try.f102 1) = spec_l02Crosses.T1 := by kernel_rfl
theorem spec_l02Crosses.bits1 : waitsOk spec_l02Crosses.T1.2 spec_l02Crosses.B1 = true := by kernel_rfl
set_option maxHeartbeats 8000000 in
set_option maxRecDepth 100000 in
theorem spec_l02Crosses.calls (a0_0 : Int) (a0_1 : Int) (a1_0 : Int) (a1_1 : Int) (a2_0 : Int) (a2_1 : Int) (a3_0 : Int) (a3_1 : Int) (r : Bool) (w : World) (h : spec_l02Crosses.f a0_0 a0_1 a1_0 a1_1 a2_0 a2_1 a3_0 a3_1 = some r) :
  Calls Try.prog 102 #[.agg #[.int .i64 a0_0, .int .i64 a0_1], .agg #[.int .i64 a1_0, .int .i64 a1_1], .agg #[.int .i64 a2_0, .int .i64 a2_1], .agg #[.int .i64 a3_0, .int .i64 a3_1]] w fun e w' => e = .returned (.bool r) ∧ Below w.heap.size w w' := by
 have hu73 := Try.underlying73
 have HB := Aside0.mk (Below.refl w.heap.size w)
 have H : ((spec_l02Side.f a0_0 a0_1 a1_0 a1_1 a2_0 a2_1).bind fun t125 => ((spec_l02Side.f a0_0 a0_1 a1_0 a1_1 a3_0 a3_1).bind fun t126 => (if (wrap64 (t125 * t126)) < 0 then ((spec_l02Side.f a2_0 a2_1 a3_0 a3_1 a0_0 a0_1).bind fun t127 => ((spec_l02Side.f a2_0 a2_1 a3_0 a3_1 a1_0 a1_1).bind fun t128 => (some (decide ((wrap64 (t127 * t128)) < 0))))) else (some false)))) = some r := h
 clear h
 replace H := Option.bind_eq_some_iff.mp H
 obtain ⟨t125, A50, H⟩ := H
 replace H : ((spec_l02Side.f a0_0 a0_1 a1_0 a1_1 a3_0 a3_1).bind fun t126 => (if (wrap64 (t125 * t126)) < 0 then ((spec_l02Side.f a2_0 a2_1 a3_0 a3_1 a0_0 a0_1).bind fun t127 => ((spec_l02Side.f a2_0 a2_1 a3_0 a3_1 a1_0 a1_1).bind fun t128 => (some (decide ((wrap64 (t127 * t128)) < 0))))) else (some false))) = some r := H
 have A5 := Aside0.mk A50
 clear A50
 replace H := Option.bind_eq_some_iff.mp H
 obtain ⟨t126, A60, H⟩ := H
 replace H : (if (wrap64 (t125 * t126)) < 0 then ((spec_l02Side.f a2_0 a2_1 a3_0 a3_1 a0_0 a0_1).bind fun t127 => ((spec_l02Side.f a2_0 a2_1 a3_0 a3_1 a1_0 a1_1).bind fun t128 => (some (decide ((wrap64 (t127 * t128)) < 0))))) else (some false)) = some r := H
 have A6 := Aside0.mk A60
 clear A60
 by_cases c7 : (wrap64 (t125 * t126)) < 0
 ·rw [if_pos c7] at H
  have c7b0 : decide ((wrap64 (t125 * t126)) < 0) = true := decide_eq_true c7
  clear c7
  replace H := Option.bind_eq_some_iff.mp H
  obtain ⟨t127, A80, H⟩ := H
  replace H : ((spec_l02Side.f a2_0 a2_1 a3_0 a3_1 a1_0 a1_1).bind fun t128 => (some (decide ((wrap64 (t127 * t128)) < 0)))) = some r := H
  have A8 := Aside0.mk A80
  clear A80
  replace H := Option.bind_eq_some_iff.mp H
  obtain ⟨t128, A90, H⟩ := H
  replace H : (some (decide ((wrap64 (t127 * t128)) < 0))) = some r := H
  have A9 := Aside0.mk A90
  clear A90
  obtain rfl := Option.some.inj H
  go_enter Try.func102, Try.ntmps102
  try go_wp2_with (first | ((with_reducible refine gate_dst (N := 4) rfl ?_); refine bx (cs := #[.int .i64 a0_0, .int .i64 a0_1]) (t := 73) ?_; intro gb121 hg w10 hbox hb; have n0_ := sb hb; have n1_ := Aside0.mk (hbox); have n2_ := zb hg; have n3_ := zb hg; clear HB; have HB := n0_; have BK121 := n1_; have GW121 := n2_; have GE121 := n3_; clear n0_ n1_ n2_ n3_; clear hb hbox hg) | ((with_reducible refine gate_dst (N := 5) rfl ?_); refine bx (cs := #[.int .i64 a1_0, .int .i64 a1_1]) (t := 73) ?_; intro gb122 hg w11 hbox hb; have n0_ := kb BK121 hb; have n1_ := sb hb; have n2_ := Aside0.mk (hbox); have n3_ := zb hg; have n4_ := zb hg; have n5_ := nl BK121 hg; have n6_ := ng BK121 hg; clear BK121; clear HB; have BK121 := n0_; have HB := n1_; have BK122 := n2_; have GW122 := n3_; have GE122 := n4_; have NB121_122 := n5_; have NB122_121 := n6_; clear n0_ n1_ n2_ n3_ n4_ n5_ n6_; clear hb hbox hg) | ((with_reducible refine gate_dst (N := 6) rfl ?_); refine bx (cs := #[.int .i64 a2_0, .int .i64 a2_1]) (t := 73) ?_; intro gb123 hg w12 hbox hb; have n0_ := kb BK121 hb; have n1_ := kb BK122 hb; have n2_ := sb hb; have n3_ := Aside0.mk (hbox); have n4_ := zb hg; have n5_ := zb hg; have n6_ := nl BK121 hg; have n7_ := ng BK121 hg; have n8_ := nl BK122 hg; have n9_ := ng BK122 hg; clear BK121; clear BK122; clear HB; have BK121 := n0_; have BK122 := n1_; have HB := n2_; have BK123 := n3_; have GW123 := n4_; have GE123 := n5_; have NB121_123 := n6_; have NB123_121 := n7_; have NB122_123 := n8_; have NB123_122 := n9_; clear n0_ n1_ n2_ n3_ n4_ n5_ n6_ n7_ n8_ n9_; clear hb hbox hg) | ((with_reducible refine gate_dst (N := 7) rfl ?_); refine bx (cs := #[.int .i64 a3_0, .int .i64 a3_1]) (t := 73) ?_; intro gb124 hg w13 hbox hb; have n0_ := kb BK121 hb; have n1_ := kb BK122 hb; have n2_ := kb BK123 hb; have n3_ := sb hb; have n4_ := Aside0.mk (hbox); have n5_ := zb hg; have n6_ := zb hg; have n7_ := nl BK121 hg; have n8_ := ng BK121 hg; have n9_ := nl BK122 hg; have n10_ := ng BK122 hg; have n11_ := nl BK123 hg; have n12_ := ng BK123 hg; clear BK121; clear BK122; clear BK123; clear HB; have BK121 := n0_; have BK122 := n1_; have BK123 := n2_; have HB := n3_; have BK124 := n4_; have GW124 := n5_; have GE124 := n6_; have NB121_124 := n7_; have NB124_121 := n8_; have NB122_124 := n9_; have NB124_122 := n10_; have NB123_124 := n11_; have NB124_123 := n12_; clear n0_ n1_ n2_ n3_ n4_ n5_ n6_ n7_ n8_ n9_ n10_ n11_ n12_; clear hb hbox hg))
  have n0_ := Aside0.mk (blk_drew BK121.out)
  have n1_ := Aside0.mk (blk_drew BK122.out)
  have n2_ := Aside0.mk (blk_drew BK123.out)
  have n3_ := Aside0.mk (blk_drew BK124.out)
  have n4_ := Aside0.mk (below_drew1 HB.out)
  clear BK121
  clear BK122
  clear BK123
  clear BK124
  clear HB
  have BK121 := n0_
  have BK122 := n1_
  have BK123 := n2_
  have BK124 := n3_
  have HB := n4_
  clear n0_ n1_ n2_ n3_ n4_
  refine start_ (n := 23) (S := fun w' => w'.cell? ⟨gb121, 0, none⟩ = some (.int .i64 a0_0) ∧ w'.cell? ⟨gb121, 1, none⟩ = some (.int .i64 a0_1) ∧ w'.cell? ⟨gb122, 0, none⟩ = some (.int .i64 a1_0) ∧ w'.cell? ⟨gb122, 1, none⟩ = some (.int .i64 a1_1) ∧ w'.cell? ⟨gb123, 0, none⟩ = some (.int .i64 a2_0) ∧ w'.cell? ⟨gb123, 1, none⟩ = some (.int .i64 a2_1) ∧ w'.cell? ⟨gb124, 0, none⟩ = some (.int .i64 a3_0) ∧ w'.cell? ⟨gb124, 1, none⟩ = some (.int .i64 a3_1)) (ds := []) #[fF,fF,fF,fF,fF,fF,fF,fF,fF,fF,fF,fF,fF,fF,fF,fF,fF,fF,fF,fF,fF,fF,fF] (by kernel_rfl) rfl rfl ⟨(blk_cell BK121.out 0).trans rfl, (blk_cell BK121.out 1).trans rfl, (blk_cell BK122.out 0).trans rfl, (blk_cell BK122.out 1).trans rfl, (blk_cell BK123.out 0).trans rfl, (blk_cell BK123.out 1).trans rfl, (blk_cell BK124.out 0).trans rfl, (blk_cell BK124.out 1).trans rfl⟩ (fun hHeld => ?_); refine with_tabW spec_l02Crosses.tab1 spec_l02Crosses.bits1 (fun HT_ HW_ => ?_)
  generalize w13.drew = w14 at BK121 BK122 BK123 BK124 HB hHeld ⊢
  refine tk 0 9 HT_ HW_ hHeld ?_
  refine tk 1 10 HT_ HW_ hHeld ?_
  refine tk 2 11 HT_ HW_ hHeld ?_
  refine tk 4 13 HT_ HW_ hHeld ?_
  refine tk 5 14 HT_ HW_ hHeld ?_
  refine tk 6 15 HT_ HW_ hHeld ?_
  refine on 3 12 HT_ (fun K hK => ?_)
  refine goes_ Try.func103 (by kernel_rfl) rfl #[.agg #[.int .i64 a0_0, .int .i64 a0_1], .agg #[.int .i64 a1_0, .int .i64 a1_1], .agg #[.int .i64 a2_0, .int .i64 a2_1]] (by rfl) rfl rfl (by (try simp only [List.map_toArray, List.map_cons, List.map_nil]); first | done | rfl | (simp only [List.length_drop, List.length_take]; rfl)) ?_
  with_reducible refine (spec_l02Side.calls a0_0 a0_1 a1_0 a1_1 a2_0 a2_1 t125 _ A5.out).mono ?_
  rintro e w15 ⟨rfl, hb⟩
  refine ⟨_, rfl, ?_⟩
  have n0_ := kb BK121 hb
  have n1_ := kb BK122 hb
  have n2_ := kb BK123 hb
  have n3_ := kb BK124 hb
  have n4_ := sb hb
  clear BK121
  clear BK122
  clear BK123
  clear BK124
  clear HB
  have BK121 := n0_
  have BK122 := n1_
  have BK123 := n2_
  have BK124 := n3_
  have HB := n4_
  clear n0_ n1_ n2_ n3_ n4_
  (try clear hb)
  (try clear hb2)
  (try clear hk)
  (try clear hi)
  refine hK.out _ _ ⟨(blk_cell BK121.out 0).trans rfl, (blk_cell BK121.out 1).trans rfl, (blk_cell BK122.out 0).trans rfl, (blk_cell BK122.out 1).trans rfl, (blk_cell BK123.out 0).trans rfl, (blk_cell BK123.out 1).trans rfl, (blk_cell BK124.out 0).trans rfl, (blk_cell BK124.out 1).trans rfl⟩ (fun hHeld => ?_)
  clear hK K
  refine norm_ (a' := ?_) ?_ ?_
  rotate_left
  ·show Act.put _ (some 12) _ = _
   simp only [Act.put, List.setIfInBounds_toArray, List.set_cons_zero, List.set_cons_succ, i64_w, i32_w]
   rfl
  refine on 7 16 HT_ (fun K hK => ?_)
  refine goes_ Try.func103 (by kernel_rfl) rfl #[.agg #[.int .i64 a0_0, .int .i64 a0_1], .agg #[.int .i64 a1_0, .int .i64 a1_1], .agg #[.int .i64 a3_0, .int .i64 a3_1]] (by rfl) rfl rfl (by (try simp only [List.map_toArray, List.map_cons, List.map_nil]); first | done | rfl | (simp only [List.length_drop, List.length_take]; rfl)) ?_
  with_reducible refine (spec_l02Side.calls a0_0 a0_1 a1_0 a1_1 a3_0 a3_1 t126 _ A6.out).mono ?_
  rintro e w16 ⟨rfl, hb⟩
  refine ⟨_, rfl, ?_⟩
  have n0_ := kb BK121 hb
  have n1_ := kb BK122 hb
  have n2_ := kb BK123 hb
  have n3_ := kb BK124 hb
  have n4_ := sb hb
  clear BK121
  clear BK122
  clear BK123
  clear BK124
  clear HB
  have BK121 := n0_
  have BK122 := n1_
  have BK123 := n2_
  have BK124 := n3_
  have HB := n4_
  clear n0_ n1_ n2_ n3_ n4_
  (try clear hb)
  (try clear hb2)
  (try clear hk)
  (try clear hi)
  refine hK.out _ _ ⟨(blk_cell BK121.out 0).trans rfl, (blk_cell BK121.out 1).trans rfl, (blk_cell BK122.out 0).trans rfl, (blk_cell BK122.out 1).trans rfl, (blk_cell BK123.out 0).trans rfl, (blk_cell BK123.out 1).trans rfl, (blk_cell BK124.out 0).trans rfl, (blk_cell BK124.out 1).trans rfl⟩ (fun hHeld => ?_)
  clear hK K
  refine norm_ (a' := ?_) ?_ ?_
  rotate_left
  ·show Act.put _ (some 16) _ = _
   simp only [Act.put, List.setIfInBounds_toArray, List.set_cons_zero, List.set_cons_succ, i64_w, i32_w]
   rfl
  refine pu 8 17 HT_ ?_
  refine pu 9 18 HT_ ?_
  refine pu 10 19 HT_ ?_
  refine tk 11 20 HT_ HW_ hHeld ?_
  refine tk 12 21 HT_ HW_ hHeld ?_
  refine tk 13 22 HT_ HW_ hHeld ?_
  refine tk 15 24 HT_ HW_ hHeld ?_
  refine tk 16 25 HT_ HW_ hHeld ?_
  refine tk 17 26 HT_ HW_ hHeld ?_
  refine on 14 23 HT_ (fun K hK => ?_)
  refine goes_ Try.func103 (by kernel_rfl) rfl #[.agg #[.int .i64 a2_0, .int .i64 a2_1], .agg #[.int .i64 a3_0, .int .i64 a3_1], .agg #[.int .i64 a0_0, .int .i64 a0_1]] (by rfl) rfl rfl (by (try simp only [List.map_toArray, List.map_cons, List.map_nil]); first | done | rfl | (simp only [List.length_drop, List.length_take]; rfl)) ?_
  with_reducible refine (spec_l02Side.calls a2_0 a2_1 a3_0 a3_1 a0_0 a0_1 t127 _ A8.out).mono ?_
  rintro e w17 ⟨rfl, hb⟩
  refine ⟨_, rfl, ?_⟩
  have n0_ := kb BK121 hb
  have n1_ := kb BK122 hb
  have n2_ := kb BK123 hb
  have n3_ := kb BK124 hb
  have n4_ := sb hb
  clear BK121
  clear BK122
  clear BK123
  clear BK124
  clear HB
  have BK121 := n0_
  have BK122 := n1_
  have BK123 := n2_
  have BK124 := n3_
  have HB := n4_
  clear n0_ n1_ n2_ n3_ n4_
  (try clear hb)
  (try clear hb2)
  (try clear hk)
  (try clear hi)
  refine hK.out _ _ ⟨(blk_cell BK121.out 0).trans rfl, (blk_cell BK121.out 1).trans rfl, (blk_cell BK122.out 0).trans rfl, (blk_cell BK122.out 1).trans rfl, (blk_cell BK123.out 0).trans rfl, (blk_cell BK123.out 1).trans rfl, (blk_cell BK124.out 0).trans rfl, (blk_cell BK124.out 1).trans rfl⟩ (fun hHeld => ?_)
  clear hK K
  refine norm_ (a' := ?_) ?_ ?_
  rotate_left
  ·show Act.put _ (some 23) _ = _
   simp only [Act.put, List.setIfInBounds_toArray, List.set_cons_zero, List.set_cons_succ, i64_w, i32_w]
   rfl
  refine on 18 27 HT_ (fun K hK => ?_)
  refine goes_ Try.func103 (by kernel_rfl) rfl #[.agg #[.int .i64 a2_0, .int .i64 a2_1], .agg #[.int .i64 a3_0, .int .i64 a3_1], .agg #[.int .i64 a1_0, .int .i64 a1_1]] (by rfl) rfl rfl (by (try simp only [List.map_toArray, List.map_cons, List.map_nil]); first | done | rfl | (simp only [List.length_drop, List.length_take]; rfl)) ?_
  with_reducible refine (spec_l02Side.calls a2_0 a2_1 a3_0 a3_1 a1_0 a1_1 t128 _ A9.out).mono ?_
  rintro e w18 ⟨rfl, hb⟩
  refine ⟨_, rfl, ?_⟩
  have n0_ := kb BK121 hb
  have n1_ := kb BK122 hb
  have n2_ := kb BK123 hb
  have n3_ := kb BK124 hb
  have n4_ := sb hb
  clear BK121
  clear BK122
  clear BK123
  clear BK124
  clear HB
  have BK121 := n0_
  have BK122 := n1_
  have BK123 := n2_
  have BK124 := n3_
  have HB := n4_
  clear n0_ n1_ n2_ n3_ n4_
  (try clear hb)
  (try clear hb2)
  (try clear hk)
  (try clear hi)
  refine hK.out _ _ ⟨(blk_cell BK121.out 0).trans rfl, (blk_cell BK121.out 1).trans rfl, (blk_cell BK122.out 0).trans rfl, (blk_cell BK122.out 1).trans rfl, (blk_cell BK123.out 0).trans rfl, (blk_cell BK123.out 1).trans rfl, (blk_cell BK124.out 0).trans rfl, (blk_cell BK124.out 1).trans rfl⟩ (fun hHeld => ?_)
  clear hK K
  refine norm_ (a' := ?_) ?_ ?_
  rotate_left
  ·show Act.put _ (some 27) _ = _
   simp only [Act.put, List.setIfInBounds_toArray, List.set_cons_zero, List.set_cons_succ, i64_w, i32_w]
   rfl
  refine pu 19 28 HT_ ?_
  refine pu 20 29 HT_ ?_
  refine pu 21 30 HT_ ?_
  refine pu 22 8 HT_ ?_
  refine done_ (done_of HT_.out (by kernel_rfl)) ?_
  try go_wp2
  go_ret
  exact ⟨by first | rfl | (simp [errW_none, errW_some] <;> rfl) | (simp [*, errW_none, errW_some] <;> rfl), by repeat (first | (with_reducible first | exact HB.out | apply below_alloc | apply pw_below_drewN | apply below_drew1 | refine below_set ?_ GE121.out | refine below_set ?_ GE122.out | refine below_set ?_ GE123.out | refine below_set ?_ GE124.out) | exact HB.out)⟩
 ·rw [if_neg c7] at H
  have c7b0 : decide ((wrap64 (t125 * t126)) < 0) = false := decide_eq_false c7
  clear c7
  obtain rfl := Option.some.inj H
  go_enter Try.func102, Try.ntmps102
  try go_wp2_with (first | ((with_reducible refine gate_dst (N := 4) rfl ?_); refine bx (cs := #[.int .i64 a0_0, .int .i64 a0_1]) (t := 73) ?_; intro gb121 hg w19 hbox hb; have n0_ := sb hb; have n1_ := Aside0.mk (hbox); have n2_ := zb hg; have n3_ := zb hg; clear HB; have HB := n0_; have BK121 := n1_; have GW121 := n2_; have GE121 := n3_; clear n0_ n1_ n2_ n3_; clear hb hbox hg) | ((with_reducible refine gate_dst (N := 5) rfl ?_); refine bx (cs := #[.int .i64 a1_0, .int .i64 a1_1]) (t := 73) ?_; intro gb122 hg w20 hbox hb; have n0_ := kb BK121 hb; have n1_ := sb hb; have n2_ := Aside0.mk (hbox); have n3_ := zb hg; have n4_ := zb hg; have n5_ := nl BK121 hg; have n6_ := ng BK121 hg; clear BK121; clear HB; have BK121 := n0_; have HB := n1_; have BK122 := n2_; have GW122 := n3_; have GE122 := n4_; have NB121_122 := n5_; have NB122_121 := n6_; clear n0_ n1_ n2_ n3_ n4_ n5_ n6_; clear hb hbox hg) | ((with_reducible refine gate_dst (N := 6) rfl ?_); refine bx (cs := #[.int .i64 a2_0, .int .i64 a2_1]) (t := 73) ?_; intro gb123 hg w21 hbox hb; have n0_ := kb BK121 hb; have n1_ := kb BK122 hb; have n2_ := sb hb; have n3_ := Aside0.mk (hbox); have n4_ := zb hg; have n5_ := zb hg; have n6_ := nl BK121 hg; have n7_ := ng BK121 hg; have n8_ := nl BK122 hg; have n9_ := ng BK122 hg; clear BK121; clear BK122; clear HB; have BK121 := n0_; have BK122 := n1_; have HB := n2_; have BK123 := n3_; have GW123 := n4_; have GE123 := n5_; have NB121_123 := n6_; have NB123_121 := n7_; have NB122_123 := n8_; have NB123_122 := n9_; clear n0_ n1_ n2_ n3_ n4_ n5_ n6_ n7_ n8_ n9_; clear hb hbox hg) | ((with_reducible refine gate_dst (N := 7) rfl ?_); refine bx (cs := #[.int .i64 a3_0, .int .i64 a3_1]) (t := 73) ?_; intro gb124 hg w22 hbox hb; have n0_ := kb BK121 hb; have n1_ := kb BK122 hb; have n2_ := kb BK123 hb; have n3_ := sb hb; have n4_ := Aside0.mk (hbox); have n5_ := zb hg; have n6_ := zb hg; have n7_ := nl BK121 hg; have n8_ := ng BK121 hg; have n9_ := nl BK122 hg; have n10_ := ng BK122 hg; have n11_ := nl BK123 hg; have n12_ := ng BK123 hg; clear BK121; clear BK122; clear BK123; clear HB; have BK121 := n0_; have BK122 := n1_; have BK123 := n2_; have HB := n3_; have BK124 := n4_; have GW124 := n5_; have GE124 := n6_; have NB121_124 := n7_; have NB124_121 := n8_; have NB122_124 := n9_; have NB124_122 := n10_; have NB123_124 := n11_; have NB124_123 := n12_; clear n0_ n1_ n2_ n3_ n4_ n5_ n6_ n7_ n8_ n9_ n10_ n11_ n12_; clear hb hbox hg))
  have n0_ := Aside0.mk (blk_drew BK121.out)
  have n1_ := Aside0.mk (blk_drew BK122.out)
  have n2_ := Aside0.mk (blk_drew BK123.out)
  have n3_ := Aside0.mk (blk_drew BK124.out)
  have n4_ := Aside0.mk (below_drew1 HB.out)
  clear BK121
  clear BK122
  clear BK123
  clear BK124
  clear HB
  have BK121 := n0_
  have BK122 := n1_
  have BK123 := n2_
  have BK124 := n3_
  have HB := n4_
  clear n0_ n1_ n2_ n3_ n4_
  refine start_ (n := 23) (S := fun w' => w'.cell? ⟨gb121, 0, none⟩ = some (.int .i64 a0_0) ∧ w'.cell? ⟨gb121, 1, none⟩ = some (.int .i64 a0_1) ∧ w'.cell? ⟨gb122, 0, none⟩ = some (.int .i64 a1_0) ∧ w'.cell? ⟨gb122, 1, none⟩ = some (.int .i64 a1_1) ∧ w'.cell? ⟨gb123, 0, none⟩ = some (.int .i64 a2_0) ∧ w'.cell? ⟨gb123, 1, none⟩ = some (.int .i64 a2_1) ∧ w'.cell? ⟨gb124, 0, none⟩ = some (.int .i64 a3_0) ∧ w'.cell? ⟨gb124, 1, none⟩ = some (.int .i64 a3_1)) (ds := []) #[fF,fF,fF,fF,fF,fF,fF,fF,fF,fF,fF,fF,fF,fF,fF,fF,fF,fF,fF,fF,fF,fF,fF] (by kernel_rfl) rfl rfl ⟨(blk_cell BK121.out 0).trans rfl, (blk_cell BK121.out 1).trans rfl, (blk_cell BK122.out 0).trans rfl, (blk_cell BK122.out 1).trans rfl, (blk_cell BK123.out 0).trans rfl, (blk_cell BK123.out 1).trans rfl, (blk_cell BK124.out 0).trans rfl, (blk_cell BK124.out 1).trans rfl⟩ (fun hHeld => ?_); refine with_tabW spec_l02Crosses.tab1 spec_l02Crosses.bits1 (fun HT_ HW_ => ?_)
  generalize w22.drew = w23 at BK121 BK122 BK123 BK124 HB hHeld ⊢
  refine tk 0 9 HT_ HW_ hHeld ?_
  refine tk 1 10 HT_ HW_ hHeld ?_
  refine tk 2 11 HT_ HW_ hHeld ?_
  refine tk 4 13 HT_ HW_ hHeld ?_
  refine tk 5 14 HT_ HW_ hHeld ?_
  refine tk 6 15 HT_ HW_ hHeld ?_
  refine on 3 12 HT_ (fun K hK => ?_)
  refine goes_ Try.func103 (by kernel_rfl) rfl #[.agg #[.int .i64 a0_0, .int .i64 a0_1], .agg #[.int .i64 a1_0, .int .i64 a1_1], .agg #[.int .i64 a2_0, .int .i64 a2_1]] (by rfl) rfl rfl (by (try simp only [List.map_toArray, List.map_cons, List.map_nil]); first | done | rfl | (simp only [List.length_drop, List.length_take]; rfl)) ?_
  with_reducible refine (spec_l02Side.calls a0_0 a0_1 a1_0 a1_1 a2_0 a2_1 t125 _ A5.out).mono ?_
  rintro e w24 ⟨rfl, hb⟩
  refine ⟨_, rfl, ?_⟩
  have n0_ := kb BK121 hb
  have n1_ := kb BK122 hb
  have n2_ := kb BK123 hb
  have n3_ := kb BK124 hb
  have n4_ := sb hb
  clear BK121
  clear BK122
  clear BK123
  clear BK124
  clear HB
  have BK121 := n0_
  have BK122 := n1_
  have BK123 := n2_
  have BK124 := n3_
  have HB := n4_
  clear n0_ n1_ n2_ n3_ n4_
  (try clear hb)
  (try clear hb2)
  (try clear hk)
  (try clear hi)
  refine hK.out _ _ ⟨(blk_cell BK121.out 0).trans rfl, (blk_cell BK121.out 1).trans rfl, (blk_cell BK122.out 0).trans rfl, (blk_cell BK122.out 1).trans rfl, (blk_cell BK123.out 0).trans rfl, (blk_cell BK123.out 1).trans rfl, (blk_cell BK124.out 0).trans rfl, (blk_cell BK124.out 1).trans rfl⟩ (fun hHeld => ?_)
  clear hK K
  refine norm_ (a' := ?_) ?_ ?_
  rotate_left
  ·show Act.put _ (some 12) _ = _
   simp only [Act.put, List.setIfInBounds_toArray, List.set_cons_zero, List.set_cons_succ, i64_w, i32_w]
   rfl
  refine on 7 16 HT_ (fun K hK => ?_)
  refine goes_ Try.func103 (by kernel_rfl) rfl #[.agg #[.int .i64 a0_0, .int .i64 a0_1], .agg #[.int .i64 a1_0, .int .i64 a1_1], .agg #[.int .i64 a3_0, .int .i64 a3_1]] (by rfl) rfl rfl (by (try simp only [List.map_toArray, List.map_cons, List.map_nil]); first | done | rfl | (simp only [List.length_drop, List.length_take]; rfl)) ?_
  with_reducible refine (spec_l02Side.calls a0_0 a0_1 a1_0 a1_1 a3_0 a3_1 t126 _ A6.out).mono ?_
  rintro e w25 ⟨rfl, hb⟩
  refine ⟨_, rfl, ?_⟩
  have n0_ := kb BK121 hb
  have n1_ := kb BK122 hb
  have n2_ := kb BK123 hb
  have n3_ := kb BK124 hb
  have n4_ := sb hb
  clear BK121
  clear BK122
  clear BK123
  clear BK124
  clear HB
  have BK121 := n0_
  have BK122 := n1_
  have BK123 := n2_
  have BK124 := n3_
  have HB := n4_
  clear n0_ n1_ n2_ n3_ n4_
  (try clear hb)
  (try clear hb2)
  (try clear hk)
  (try clear hi)
  refine hK.out _ _ ⟨(blk_cell BK121.out 0).trans rfl, (blk_cell BK121.out 1).trans rfl, (blk_cell BK122.out 0).trans rfl, (blk_cell BK122.out 1).trans rfl, (blk_cell BK123.out 0).trans rfl, (blk_cell BK123.out 1).trans rfl, (blk_cell BK124.out 0).trans rfl, (blk_cell BK124.out 1).trans rfl⟩ (fun hHeld => ?_)
  clear hK K
  refine norm_ (a' := ?_) ?_ ?_
  rotate_left
  ·show Act.put _ (some 16) _ = _
   simp only [Act.put, List.setIfInBounds_toArray, List.set_cons_zero, List.set_cons_succ, i64_w, i32_w]
   rfl
  refine pu 8 17 HT_ ?_
  refine pu 9 18 HT_ ?_
  refine pu 10 19 HT_ ?_
  refine pd 11 20 HT_ ?_
  refine pd 12 21 HT_ ?_
  refine pd 13 22 HT_ ?_
  refine pd 14 23 HT_ ?_
  refine pd 15 24 HT_ ?_
  refine pd 16 25 HT_ ?_
  refine pd 17 26 HT_ ?_
  refine pd 18 27 HT_ ?_
  refine pd 19 28 HT_ ?_
  refine pd 20 29 HT_ ?_
  refine pu 21 30 HT_ ?_
  refine pu 22 8 HT_ ?_
  refine done_ (done_of HT_.out (by kernel_rfl)) ?_
  try go_wp2
  go_ret
  exact ⟨by first | rfl | (simp [errW_none, errW_some] <;> rfl) | (simp [*, errW_none, errW_some] <;> rfl), by repeat (first | (with_reducible first | exact HB.out | apply below_alloc | apply pw_below_drewN | apply below_drew1 | refine below_set ?_ GE121.out | refine below_set ?_ GE122.out | refine below_set ?_ GE123.out | refine below_set ?_ GE124.out) | exact HB.out)⟩
def spec_l03Meet.f (a0_0 : Int) (a0_1 : Int) (a1_0 : Int) (a1_1 : Int) (a2_0 : Int) (a2_1 : Int) (a3_0 : Int) (a3_1 : Int) : Option (Bool) := (spec_l02Crosses.f a0_0 a0_1 a1_0 a1_1 a2_0 a2_1 a3_0 a3_1).bind fun t133 => (if t133 = true then (some true) else ((spec_l02On.f a0_0 a0_1 a1_0 a1_1 a2_0 a2_1).bind fun t134 => (if t134 = true then (some true) else ((spec_l02On.f a0_0 a0_1 a1_0 a1_1 a3_0 a3_1).bind fun t135 => (if t135 = true then (some true) else ((spec_l02On.f a2_0 a2_1 a3_0 a3_1 a0_0 a0_1).bind fun t136 => (if t136 = true then (some true) else ((spec_l02On.f a2_0 a2_1 a3_0 a3_1 a1_0 a1_1).bind fun t137 => (some t137)))))))))
set_option maxHeartbeats 8000000 in
set_option maxRecDepth 100000 in
theorem spec_l03Meet.calls (a0_0 : Int) (a0_1 : Int) (a1_0 : Int) (a1_1 : Int) (a2_0 : Int) (a2_1 : Int) (a3_0 : Int) (a3_1 : Int) (r : Bool) (w : World) (h : spec_l03Meet.f a0_0 a0_1 a1_0 a1_1 a2_0 a2_1 a3_0 a3_1 = some r) :
  Calls Try.prog 100 #[.agg #[.int .i64 a0_0, .int .i64 a0_1], .agg #[.int .i64 a1_0, .int .i64 a1_1], .agg #[.int .i64 a2_0, .int .i64 a2_1], .agg #[.int .i64 a3_0, .int .i64 a3_1]] w fun e w' => e = .returned (.bool r) ∧ Below w.heap.size w w' := by
 have hu73 := Try.underlying73
 have HB := Aside0.mk (Below.refl w.heap.size w)
 have H : ((spec_l02Crosses.f a0_0 a0_1 a1_0 a1_1 a2_0 a2_1 a3_0 a3_1).bind fun t133 => (if t133 = true then (some true) else ((spec_l02On.f a0_0 a0_1 a1_0 a1_1 a2_0 a2_1).bind fun t134 => (if t134 = true then (some true) else ((spec_l02On.f a0_0 a0_1 a1_0 a1_1 a3_0 a3_1).bind fun t135 => (if t135 = true then (some true) else ((spec_l02On.f a2_0 a2_1 a3_0 a3_1 a0_0 a0_1).bind fun t136 => (if t136 = true then (some true) else ((spec_l02On.f a2_0 a2_1 a3_0 a3_1 a1_0 a1_1).bind fun t137 => (some t137)))))))))) = some r := h
 clear h
 replace H := Option.bind_eq_some_iff.mp H
 obtain ⟨t133, A50, H⟩ := H
 replace H : (if t133 = true then (some true) else ((spec_l02On.f a0_0 a0_1 a1_0 a1_1 a2_0 a2_1).bind fun t134 => (if t134 = true then (some true) else ((spec_l02On.f a0_0 a0_1 a1_0 a1_1 a3_0 a3_1).bind fun t135 => (if t135 = true then (some true) else ((spec_l02On.f a2_0 a2_1 a3_0 a3_1 a0_0 a0_1).bind fun t136 => (if t136 = true then (some true) else ((spec_l02On.f a2_0 a2_1 a3_0 a3_1 a1_0 a1_1).bind fun t137 => (some t137))))))))) = some r := H
 have A5 := Aside0.mk A50
 clear A50
 by_cases c6 : t133 = true
 ·subst c6
  have H1 : (some true) = some r := by rw [if_pos rfl] at H; exact H
  clear H
  have H := H1
  clear H1
  obtain rfl := Option.some.inj H
  go_enter Try.func100, Try.ntmps100
  go_wp2_with (first | ((with_reducible refine gate_dst (N := 4) rfl ?_); refine bx (cs := #[.int .i64 a0_0, .int .i64 a0_1]) (t := 73) ?_; intro gb129 hg w7 hbox hb; have n0_ := sb hb; have n1_ := Aside0.mk (hbox); have n2_ := zb hg; have n3_ := zb hg; clear HB; have HB := n0_; have BK129 := n1_; have GW129 := n2_; have GE129 := n3_; clear n0_ n1_ n2_ n3_; clear hb hbox hg) | ((with_reducible refine gate_dst (N := 5) rfl ?_); refine bx (cs := #[.int .i64 a1_0, .int .i64 a1_1]) (t := 73) ?_; intro gb130 hg w8 hbox hb; have n0_ := kb BK129 hb; have n1_ := sb hb; have n2_ := Aside0.mk (hbox); have n3_ := zb hg; have n4_ := zb hg; have n5_ := nl BK129 hg; have n6_ := ng BK129 hg; clear BK129; clear HB; have BK129 := n0_; have HB := n1_; have BK130 := n2_; have GW130 := n3_; have GE130 := n4_; have NB129_130 := n5_; have NB130_129 := n6_; clear n0_ n1_ n2_ n3_ n4_ n5_ n6_; clear hb hbox hg) | ((with_reducible refine gate_dst (N := 6) rfl ?_); refine bx (cs := #[.int .i64 a2_0, .int .i64 a2_1]) (t := 73) ?_; intro gb131 hg w9 hbox hb; have n0_ := kb BK129 hb; have n1_ := kb BK130 hb; have n2_ := sb hb; have n3_ := Aside0.mk (hbox); have n4_ := zb hg; have n5_ := zb hg; have n6_ := nl BK129 hg; have n7_ := ng BK129 hg; have n8_ := nl BK130 hg; have n9_ := ng BK130 hg; clear BK129; clear BK130; clear HB; have BK129 := n0_; have BK130 := n1_; have HB := n2_; have BK131 := n3_; have GW131 := n4_; have GE131 := n5_; have NB129_131 := n6_; have NB131_129 := n7_; have NB130_131 := n8_; have NB131_130 := n9_; clear n0_ n1_ n2_ n3_ n4_ n5_ n6_ n7_ n8_ n9_; clear hb hbox hg) | ((with_reducible refine gate_dst (N := 7) rfl ?_); refine bx (cs := #[.int .i64 a3_0, .int .i64 a3_1]) (t := 73) ?_; intro gb132 hg w10 hbox hb; have n0_ := kb BK129 hb; have n1_ := kb BK130 hb; have n2_ := kb BK131 hb; have n3_ := sb hb; have n4_ := Aside0.mk (hbox); have n5_ := zb hg; have n6_ := zb hg; have n7_ := nl BK129 hg; have n8_ := ng BK129 hg; have n9_ := nl BK130 hg; have n10_ := ng BK130 hg; have n11_ := nl BK131 hg; have n12_ := ng BK131 hg; clear BK129; clear BK130; clear BK131; clear HB; have BK129 := n0_; have BK130 := n1_; have BK131 := n2_; have HB := n3_; have BK132 := n4_; have GW132 := n5_; have GE132 := n6_; have NB129_132 := n7_; have NB132_129 := n8_; have NB130_132 := n9_; have NB132_130 := n10_; have NB131_132 := n11_; have NB132_131 := n12_; clear n0_ n1_ n2_ n3_ n4_ n5_ n6_ n7_ n8_ n9_ n10_ n11_ n12_; clear hb hbox hg; have hnb11 := NB129_130.out; have hnc11 := NB130_129.out; have hnb12 := NB129_131.out; have hnc12 := NB131_129.out; have hnb13 := NB129_132.out; have hnc13 := NB132_129.out; have hcz14_0 := ck BK129 0; have hcz14_1 := ck BK129 1; have hfz14_0 := blk_frozen BK129.out 0; have hfz14_1 := blk_frozen BK129.out 1; have hnb15 := NB130_131.out; have hnc15 := NB131_130.out; have hnb16 := NB130_132.out; have hnc16 := NB132_130.out; have hcz17_0 := ck BK130 0; have hcz17_1 := ck BK130 1; have hfz17_0 := blk_frozen BK130.out 0; have hfz17_1 := blk_frozen BK130.out 1; have hnb18 := NB131_132.out; have hnc18 := NB132_131.out; have hcz19_0 := ck BK131 0; have hcz19_1 := ck BK131 1; have hfz19_0 := blk_frozen BK131.out 0; have hfz19_1 := blk_frozen BK131.out 1; have hcz20_0 := ck BK132 0; have hcz20_1 := ck BK132 1; have hfz20_0 := blk_frozen BK132.out 0; have hfz20_1 := blk_frozen BK132.out 1) | ((with_reducible refine gate_callee (f := 102) rfl ?_); refine goesL_ (some 13) rfl rfl Try.func102 (by kernel_rfl) rfl #[.agg #[.int .i64 a0_0, .int .i64 a0_1], .agg #[.int .i64 a1_0, .int .i64 a1_1], .agg #[.int .i64 a2_0, .int .i64 a2_1], .agg #[.int .i64 a3_0, .int .i64 a3_1]] rfl (by (try simp only [List.map_toArray, List.map_cons, List.map_nil]); first | done | rfl | (simp only [List.length_drop, List.length_take]; rfl)) ?_; (with_reducible refine (spec_l02Crosses.calls a0_0 a0_1 a1_0 a1_1 a2_0 a2_1 a3_0 a3_1 true _ A5.out).mono ?_); rintro e w21 ⟨rfl, hb⟩; refine ⟨_, rfl, ?_⟩; have n0_ := kb BK129 hb; have n1_ := kb BK130 hb; have n2_ := kb BK131 hb; have n3_ := kb BK132 hb; have n4_ := sb hb; clear BK129; clear BK130; clear BK131; clear BK132; clear HB; have BK129 := n0_; have BK130 := n1_; have BK131 := n2_; have BK132 := n3_; have HB := n4_; clear n0_ n1_ n2_ n3_ n4_; (try clear hb); (try clear hb2); (try clear hk); (try clear hi)))
  go_ret
  exact ⟨by first | rfl | (simp [errW_none, errW_some] <;> rfl) | (simp [*, errW_none, errW_some] <;> rfl), by repeat (first | (with_reducible first | exact HB.out | apply below_alloc | apply pw_below_drewN | apply below_drew1 | refine below_set ?_ GE129.out | refine below_set ?_ GE130.out | refine below_set ?_ GE131.out | refine below_set ?_ GE132.out) | exact HB.out)⟩
 ·replace c6 := Bool.eq_false_iff.mpr c6
  subst c6
  have H1 : ((spec_l02On.f a0_0 a0_1 a1_0 a1_1 a2_0 a2_1).bind fun t134 => (if t134 = true then (some true) else ((spec_l02On.f a0_0 a0_1 a1_0 a1_1 a3_0 a3_1).bind fun t135 => (if t135 = true then (some true) else ((spec_l02On.f a2_0 a2_1 a3_0 a3_1 a0_0 a0_1).bind fun t136 => (if t136 = true then (some true) else ((spec_l02On.f a2_0 a2_1 a3_0 a3_1 a1_0 a1_1).bind fun t137 => (some t137)))))))) = some r := by rw [if_neg (show ¬ (false = true) by decide)] at H; exact H
  clear H
  have H := H1
  clear H1
  replace H := Option.bind_eq_some_iff.mp H
  obtain ⟨t134, A220, H⟩ := H
  replace H : (if t134 = true then (some true) else ((spec_l02On.f a0_0 a0_1 a1_0 a1_1 a3_0 a3_1).bind fun t135 => (if t135 = true then (some true) else ((spec_l02On.f a2_0 a2_1 a3_0 a3_1 a0_0 a0_1).bind fun t136 => (if t136 = true then (some true) else ((spec_l02On.f a2_0 a2_1 a3_0 a3_1 a1_0 a1_1).bind fun t137 => (some t137))))))) = some r := H
  have A22 := Aside0.mk A220
  clear A220
  by_cases c23 : t134 = true
  ·subst c23
   have H1 : (some true) = some r := by rw [if_pos rfl] at H; exact H
   clear H
   have H := H1
   clear H1
   obtain rfl := Option.some.inj H
   go_enter Try.func100, Try.ntmps100
   go_wp2_with (first | ((with_reducible refine gate_dst (N := 4) rfl ?_); refine bx (cs := #[.int .i64 a0_0, .int .i64 a0_1]) (t := 73) ?_; intro gb129 hg w24 hbox hb; have n0_ := sb hb; have n1_ := Aside0.mk (hbox); have n2_ := zb hg; have n3_ := zb hg; clear HB; have HB := n0_; have BK129 := n1_; have GW129 := n2_; have GE129 := n3_; clear n0_ n1_ n2_ n3_; clear hb hbox hg) | ((with_reducible refine gate_dst (N := 5) rfl ?_); refine bx (cs := #[.int .i64 a1_0, .int .i64 a1_1]) (t := 73) ?_; intro gb130 hg w25 hbox hb; have n0_ := kb BK129 hb; have n1_ := sb hb; have n2_ := Aside0.mk (hbox); have n3_ := zb hg; have n4_ := zb hg; have n5_ := nl BK129 hg; have n6_ := ng BK129 hg; clear BK129; clear HB; have BK129 := n0_; have HB := n1_; have BK130 := n2_; have GW130 := n3_; have GE130 := n4_; have NB129_130 := n5_; have NB130_129 := n6_; clear n0_ n1_ n2_ n3_ n4_ n5_ n6_; clear hb hbox hg) | ((with_reducible refine gate_dst (N := 6) rfl ?_); refine bx (cs := #[.int .i64 a2_0, .int .i64 a2_1]) (t := 73) ?_; intro gb131 hg w26 hbox hb; have n0_ := kb BK129 hb; have n1_ := kb BK130 hb; have n2_ := sb hb; have n3_ := Aside0.mk (hbox); have n4_ := zb hg; have n5_ := zb hg; have n6_ := nl BK129 hg; have n7_ := ng BK129 hg; have n8_ := nl BK130 hg; have n9_ := ng BK130 hg; clear BK129; clear BK130; clear HB; have BK129 := n0_; have BK130 := n1_; have HB := n2_; have BK131 := n3_; have GW131 := n4_; have GE131 := n5_; have NB129_131 := n6_; have NB131_129 := n7_; have NB130_131 := n8_; have NB131_130 := n9_; clear n0_ n1_ n2_ n3_ n4_ n5_ n6_ n7_ n8_ n9_; clear hb hbox hg) | ((with_reducible refine gate_dst (N := 7) rfl ?_); refine bx (cs := #[.int .i64 a3_0, .int .i64 a3_1]) (t := 73) ?_; intro gb132 hg w27 hbox hb; have n0_ := kb BK129 hb; have n1_ := kb BK130 hb; have n2_ := kb BK131 hb; have n3_ := sb hb; have n4_ := Aside0.mk (hbox); have n5_ := zb hg; have n6_ := zb hg; have n7_ := nl BK129 hg; have n8_ := ng BK129 hg; have n9_ := nl BK130 hg; have n10_ := ng BK130 hg; have n11_ := nl BK131 hg; have n12_ := ng BK131 hg; clear BK129; clear BK130; clear BK131; clear HB; have BK129 := n0_; have BK130 := n1_; have BK131 := n2_; have HB := n3_; have BK132 := n4_; have GW132 := n5_; have GE132 := n6_; have NB129_132 := n7_; have NB132_129 := n8_; have NB130_132 := n9_; have NB132_130 := n10_; have NB131_132 := n11_; have NB132_131 := n12_; clear n0_ n1_ n2_ n3_ n4_ n5_ n6_ n7_ n8_ n9_ n10_ n11_ n12_; clear hb hbox hg; have hnb28 := NB129_130.out; have hnc28 := NB130_129.out; have hnb29 := NB129_131.out; have hnc29 := NB131_129.out; have hnb30 := NB129_132.out; have hnc30 := NB132_129.out; have hcz31_0 := ck BK129 0; have hcz31_1 := ck BK129 1; have hfz31_0 := blk_frozen BK129.out 0; have hfz31_1 := blk_frozen BK129.out 1; have hnb32 := NB130_131.out; have hnc32 := NB131_130.out; have hnb33 := NB130_132.out; have hnc33 := NB132_130.out; have hcz34_0 := ck BK130 0; have hcz34_1 := ck BK130 1; have hfz34_0 := blk_frozen BK130.out 0; have hfz34_1 := blk_frozen BK130.out 1; have hnb35 := NB131_132.out; have hnc35 := NB132_131.out; have hcz36_0 := ck BK131 0; have hcz36_1 := ck BK131 1; have hfz36_0 := blk_frozen BK131.out 0; have hfz36_1 := blk_frozen BK131.out 1; have hcz37_0 := ck BK132 0; have hcz37_1 := ck BK132 1; have hfz37_0 := blk_frozen BK132.out 0; have hfz37_1 := blk_frozen BK132.out 1) | ((with_reducible refine gate_callee (f := 102) rfl ?_); refine goesL_ (some 13) rfl rfl Try.func102 (by kernel_rfl) rfl #[.agg #[.int .i64 a0_0, .int .i64 a0_1], .agg #[.int .i64 a1_0, .int .i64 a1_1], .agg #[.int .i64 a2_0, .int .i64 a2_1], .agg #[.int .i64 a3_0, .int .i64 a3_1]] rfl (by (try simp only [List.map_toArray, List.map_cons, List.map_nil]); first | done | rfl | (simp only [List.length_drop, List.length_take]; rfl)) ?_; (with_reducible refine (spec_l02Crosses.calls a0_0 a0_1 a1_0 a1_1 a2_0 a2_1 a3_0 a3_1 false _ A5.out).mono ?_); rintro e w38 ⟨rfl, hb⟩; refine ⟨_, rfl, ?_⟩; have n0_ := kb BK129 hb; have n1_ := kb BK130 hb; have n2_ := kb BK131 hb; have n3_ := kb BK132 hb; have n4_ := sb hb; clear BK129; clear BK130; clear BK131; clear BK132; clear HB; have BK129 := n0_; have BK130 := n1_; have BK131 := n2_; have BK132 := n3_; have HB := n4_; clear n0_ n1_ n2_ n3_ n4_; (try clear hb); (try clear hb2); (try clear hk); (try clear hi); have hcz39_0 := ck BK129 0; have hcz39_1 := ck BK129 1; have hfz39_0 := blk_frozen BK129.out 0; have hfz39_1 := blk_frozen BK129.out 1; have hcz40_0 := ck BK130 0; have hcz40_1 := ck BK130 1; have hfz40_0 := blk_frozen BK130.out 0; have hfz40_1 := blk_frozen BK130.out 1; have hcz41_0 := ck BK131 0; have hcz41_1 := ck BK131 1; have hfz41_0 := blk_frozen BK131.out 0; have hfz41_1 := blk_frozen BK131.out 1) | (go_at_call 99; (with_reducible refine (spec_l02On.calls a0_0 a0_1 a1_0 a1_1 a2_0 a2_1 true _ A22.out).mono ?_); rintro e w42 ⟨rfl, hb⟩; have n0_ := kb BK129 hb; have n1_ := kb BK130 hb; have n2_ := kb BK131 hb; have n3_ := kb BK132 hb; have n4_ := sb hb; clear BK129; clear BK130; clear BK131; clear BK132; clear HB; have BK129 := n0_; have BK130 := n1_; have BK131 := n2_; have BK132 := n3_; have HB := n4_; clear n0_ n1_ n2_ n3_ n4_; (try clear hb); (try clear hb2); (try clear hk); (try clear hi)))
   go_ret
   exact ⟨by first | rfl | (simp [errW_none, errW_some] <;> rfl) | (simp [*, errW_none, errW_some] <;> rfl), by repeat (first | (with_reducible first | exact HB.out | apply below_alloc | apply pw_below_drewN | apply below_drew1 | refine below_set ?_ GE129.out | refine below_set ?_ GE130.out | refine below_set ?_ GE131.out | refine below_set ?_ GE132.out) | exact HB.out)⟩
  ·replace c23 := Bool.eq_false_iff.mpr c23
   subst c23
   have H1 : ((spec_l02On.f a0_0 a0_1 a1_0 a1_1 a3_0 a3_1).bind fun t135 => (if t135 = true then (some true) else ((spec_l02On.f a2_0 a2_1 a3_0 a3_1 a0_0 a0_1).bind fun t136 => (if t136 = true then (some true) else ((spec_l02On.f a2_0 a2_1 a3_0 a3_1 a1_0 a1_1).bind fun t137 => (some t137)))))) = some r := by rw [if_neg (show ¬ (false = true) by decide)] at H; exact H
   clear H
   have H := H1
   clear H1
   replace H := Option.bind_eq_some_iff.mp H
   obtain ⟨t135, A430, H⟩ := H
   replace H : (if t135 = true then (some true) else ((spec_l02On.f a2_0 a2_1 a3_0 a3_1 a0_0 a0_1).bind fun t136 => (if t136 = true then (some true) else ((spec_l02On.f a2_0 a2_1 a3_0 a3_1 a1_0 a1_1).bind fun t137 => (some t137))))) = some r := H
   have A43 := Aside0.mk A430
   clear A430
   by_cases c44 : t135 = true
   ·subst c44
    have H1 : (some true) = some r := by rw [if_pos rfl] at H; exact H
    clear H
    have H := H1
    clear H1
    obtain rfl := Option.some.inj H
    go_enter Try.func100, Try.ntmps100
    go_wp2_with (first | ((with_reducible refine gate_dst (N := 4) rfl ?_); refine bx (cs := #[.int .i64 a0_0, .int .i64 a0_1]) (t := 73) ?_; intro gb129 hg w45 hbox hb; have n0_ := sb hb; have n1_ := Aside0.mk (hbox); have n2_ := zb hg; have n3_ := zb hg; clear HB; have HB := n0_; have BK129 := n1_; have GW129 := n2_; have GE129 := n3_; clear n0_ n1_ n2_ n3_; clear hb hbox hg) | ((with_reducible refine gate_dst (N := 5) rfl ?_); refine bx (cs := #[.int .i64 a1_0, .int .i64 a1_1]) (t := 73) ?_; intro gb130 hg w46 hbox hb; have n0_ := kb BK129 hb; have n1_ := sb hb; have n2_ := Aside0.mk (hbox); have n3_ := zb hg; have n4_ := zb hg; have n5_ := nl BK129 hg; have n6_ := ng BK129 hg; clear BK129; clear HB; have BK129 := n0_; have HB := n1_; have BK130 := n2_; have GW130 := n3_; have GE130 := n4_; have NB129_130 := n5_; have NB130_129 := n6_; clear n0_ n1_ n2_ n3_ n4_ n5_ n6_; clear hb hbox hg) | ((with_reducible refine gate_dst (N := 6) rfl ?_); refine bx (cs := #[.int .i64 a2_0, .int .i64 a2_1]) (t := 73) ?_; intro gb131 hg w47 hbox hb; have n0_ := kb BK129 hb; have n1_ := kb BK130 hb; have n2_ := sb hb; have n3_ := Aside0.mk (hbox); have n4_ := zb hg; have n5_ := zb hg; have n6_ := nl BK129 hg; have n7_ := ng BK129 hg; have n8_ := nl BK130 hg; have n9_ := ng BK130 hg; clear BK129; clear BK130; clear HB; have BK129 := n0_; have BK130 := n1_; have HB := n2_; have BK131 := n3_; have GW131 := n4_; have GE131 := n5_; have NB129_131 := n6_; have NB131_129 := n7_; have NB130_131 := n8_; have NB131_130 := n9_; clear n0_ n1_ n2_ n3_ n4_ n5_ n6_ n7_ n8_ n9_; clear hb hbox hg) | ((with_reducible refine gate_dst (N := 7) rfl ?_); refine bx (cs := #[.int .i64 a3_0, .int .i64 a3_1]) (t := 73) ?_; intro gb132 hg w48 hbox hb; have n0_ := kb BK129 hb; have n1_ := kb BK130 hb; have n2_ := kb BK131 hb; have n3_ := sb hb; have n4_ := Aside0.mk (hbox); have n5_ := zb hg; have n6_ := zb hg; have n7_ := nl BK129 hg; have n8_ := ng BK129 hg; have n9_ := nl BK130 hg; have n10_ := ng BK130 hg; have n11_ := nl BK131 hg; have n12_ := ng BK131 hg; clear BK129; clear BK130; clear BK131; clear HB; have BK129 := n0_; have BK130 := n1_; have BK131 := n2_; have HB := n3_; have BK132 := n4_; have GW132 := n5_; have GE132 := n6_; have NB129_132 := n7_; have NB132_129 := n8_; have NB130_132 := n9_; have NB132_130 := n10_; have NB131_132 := n11_; have NB132_131 := n12_; clear n0_ n1_ n2_ n3_ n4_ n5_ n6_ n7_ n8_ n9_ n10_ n11_ n12_; clear hb hbox hg; have hnb49 := NB129_130.out; have hnc49 := NB130_129.out; have hnb50 := NB129_131.out; have hnc50 := NB131_129.out; have hnb51 := NB129_132.out; have hnc51 := NB132_129.out; have hcz52_0 := ck BK129 0; have hcz52_1 := ck BK129 1; have hfz52_0 := blk_frozen BK129.out 0; have hfz52_1 := blk_frozen BK129.out 1; have hnb53 := NB130_131.out; have hnc53 := NB131_130.out; have hnb54 := NB130_132.out; have hnc54 := NB132_130.out; have hcz55_0 := ck BK130 0; have hcz55_1 := ck BK130 1; have hfz55_0 := blk_frozen BK130.out 0; have hfz55_1 := blk_frozen BK130.out 1; have hnb56 := NB131_132.out; have hnc56 := NB132_131.out; have hcz57_0 := ck BK131 0; have hcz57_1 := ck BK131 1; have hfz57_0 := blk_frozen BK131.out 0; have hfz57_1 := blk_frozen BK131.out 1; have hcz58_0 := ck BK132 0; have hcz58_1 := ck BK132 1; have hfz58_0 := blk_frozen BK132.out 0; have hfz58_1 := blk_frozen BK132.out 1) | ((with_reducible refine gate_callee (f := 102) rfl ?_); refine goesL_ (some 13) rfl rfl Try.func102 (by kernel_rfl) rfl #[.agg #[.int .i64 a0_0, .int .i64 a0_1], .agg #[.int .i64 a1_0, .int .i64 a1_1], .agg #[.int .i64 a2_0, .int .i64 a2_1], .agg #[.int .i64 a3_0, .int .i64 a3_1]] rfl (by (try simp only [List.map_toArray, List.map_cons, List.map_nil]); first | done | rfl | (simp only [List.length_drop, List.length_take]; rfl)) ?_; (with_reducible refine (spec_l02Crosses.calls a0_0 a0_1 a1_0 a1_1 a2_0 a2_1 a3_0 a3_1 false _ A5.out).mono ?_); rintro e w59 ⟨rfl, hb⟩; refine ⟨_, rfl, ?_⟩; have n0_ := kb BK129 hb; have n1_ := kb BK130 hb; have n2_ := kb BK131 hb; have n3_ := kb BK132 hb; have n4_ := sb hb; clear BK129; clear BK130; clear BK131; clear BK132; clear HB; have BK129 := n0_; have BK130 := n1_; have BK131 := n2_; have BK132 := n3_; have HB := n4_; clear n0_ n1_ n2_ n3_ n4_; (try clear hb); (try clear hb2); (try clear hk); (try clear hi); have hcz60_0 := ck BK129 0; have hcz60_1 := ck BK129 1; have hfz60_0 := blk_frozen BK129.out 0; have hfz60_1 := blk_frozen BK129.out 1; have hcz61_0 := ck BK130 0; have hcz61_1 := ck BK130 1; have hfz61_0 := blk_frozen BK130.out 0; have hfz61_1 := blk_frozen BK130.out 1; have hcz62_0 := ck BK131 0; have hcz62_1 := ck BK131 1; have hfz62_0 := blk_frozen BK131.out 0; have hfz62_1 := blk_frozen BK131.out 1) | (go_at_call 99; (with_reducible refine (spec_l02On.calls a0_0 a0_1 a1_0 a1_1 a2_0 a2_1 false _ A22.out).mono ?_); rintro e w63 ⟨rfl, hb⟩; have n0_ := kb BK129 hb; have n1_ := kb BK130 hb; have n2_ := kb BK131 hb; have n3_ := kb BK132 hb; have n4_ := sb hb; clear BK129; clear BK130; clear BK131; clear BK132; clear HB; have BK129 := n0_; have BK130 := n1_; have BK131 := n2_; have BK132 := n3_; have HB := n4_; clear n0_ n1_ n2_ n3_ n4_; (try clear hb); (try clear hb2); (try clear hk); (try clear hi); have hcz64_0 := ck BK129 0; have hcz64_1 := ck BK129 1; have hfz64_0 := blk_frozen BK129.out 0; have hfz64_1 := blk_frozen BK129.out 1; have hcz65_0 := ck BK130 0; have hcz65_1 := ck BK130 1; have hfz65_0 := blk_frozen BK130.out 0; have hfz65_1 := blk_frozen BK130.out 1; have hcz66_0 := ck BK132 0; have hcz66_1 := ck BK132 1; have hfz66_0 := blk_frozen BK132.out 0; have hfz66_1 := blk_frozen BK132.out 1) | (go_at_call 99; (with_reducible refine (spec_l02On.calls a0_0 a0_1 a1_0 a1_1 a3_0 a3_1 true _ A43.out).mono ?_); rintro e w67 ⟨rfl, hb⟩; have n0_ := kb BK129 hb; have n1_ := kb BK130 hb; have n2_ := kb BK131 hb; have n3_ := kb BK132 hb; have n4_ := sb hb; clear BK129; clear BK130; clear BK131; clear BK132; clear HB; have BK129 := n0_; have BK130 := n1_; have BK131 := n2_; have BK132 := n3_; have HB := n4_; clear n0_ n1_ n2_ n3_ n4_; (try clear hb); (try clear hb2); (try clear hk); (try clear hi)))
    go_ret
    exact ⟨by first | rfl | (simp [errW_none, errW_some] <;> rfl) | (simp [*, errW_none, errW_some] <;> rfl), by repeat (first | (with_reducible first | exact HB.out | apply below_alloc | apply pw_below_drewN | apply below_drew1 | refine below_set ?_ GE129.out | refine below_set ?_ GE130.out | refine below_set ?_ GE131.out | refine below_set ?_ GE132.out) | exact HB.out)⟩
   ·replace c44 := Bool.eq_false_iff.mpr c44
    subst c44
    have H1 : ((spec_l02On.f a2_0 a2_1 a3_0 a3_1 a0_0 a0_1).bind fun t136 => (if t136 = true then (some true) else ((spec_l02On.f a2_0 a2_1 a3_0 a3_1 a1_0 a1_1).bind fun t137 => (some t137)))) = some r := by rw [if_neg (show ¬ (false = true) by decide)] at H; exact H
    clear H
    have H := H1
    clear H1
    replace H := Option.bind_eq_some_iff.mp H
    obtain ⟨t136, A680, H⟩ := H
    replace H : (if t136 = true then (some true) else ((spec_l02On.f a2_0 a2_1 a3_0 a3_1 a1_0 a1_1).bind fun t137 => (some t137))) = some r := H
    have A68 := Aside0.mk A680
    clear A680
    by_cases c69 : t136 = true
    ·subst c69
     have H1 : (some true) = some r := by rw [if_pos rfl] at H; exact H
     clear H
     have H := H1
     clear H1
     obtain rfl := Option.some.inj H
     go_enter Try.func100, Try.ntmps100
     go_wp2_with (first | ((with_reducible refine gate_dst (N := 4) rfl ?_); refine bx (cs := #[.int .i64 a0_0, .int .i64 a0_1]) (t := 73) ?_; intro gb129 hg w70 hbox hb; have n0_ := sb hb; have n1_ := Aside0.mk (hbox); have n2_ := zb hg; have n3_ := zb hg; clear HB; have HB := n0_; have BK129 := n1_; have GW129 := n2_; have GE129 := n3_; clear n0_ n1_ n2_ n3_; clear hb hbox hg) | ((with_reducible refine gate_dst (N := 5) rfl ?_); refine bx (cs := #[.int .i64 a1_0, .int .i64 a1_1]) (t := 73) ?_; intro gb130 hg w71 hbox hb; have n0_ := kb BK129 hb; have n1_ := sb hb; have n2_ := Aside0.mk (hbox); have n3_ := zb hg; have n4_ := zb hg; have n5_ := nl BK129 hg; have n6_ := ng BK129 hg; clear BK129; clear HB; have BK129 := n0_; have HB := n1_; have BK130 := n2_; have GW130 := n3_; have GE130 := n4_; have NB129_130 := n5_; have NB130_129 := n6_; clear n0_ n1_ n2_ n3_ n4_ n5_ n6_; clear hb hbox hg) | ((with_reducible refine gate_dst (N := 6) rfl ?_); refine bx (cs := #[.int .i64 a2_0, .int .i64 a2_1]) (t := 73) ?_; intro gb131 hg w72 hbox hb; have n0_ := kb BK129 hb; have n1_ := kb BK130 hb; have n2_ := sb hb; have n3_ := Aside0.mk (hbox); have n4_ := zb hg; have n5_ := zb hg; have n6_ := nl BK129 hg; have n7_ := ng BK129 hg; have n8_ := nl BK130 hg; have n9_ := ng BK130 hg; clear BK129; clear BK130; clear HB; have BK129 := n0_; have BK130 := n1_; have HB := n2_; have BK131 := n3_; have GW131 := n4_; have GE131 := n5_; have NB129_131 := n6_; have NB131_129 := n7_; have NB130_131 := n8_; have NB131_130 := n9_; clear n0_ n1_ n2_ n3_ n4_ n5_ n6_ n7_ n8_ n9_; clear hb hbox hg) | ((with_reducible refine gate_dst (N := 7) rfl ?_); refine bx (cs := #[.int .i64 a3_0, .int .i64 a3_1]) (t := 73) ?_; intro gb132 hg w73 hbox hb; have n0_ := kb BK129 hb; have n1_ := kb BK130 hb; have n2_ := kb BK131 hb; have n3_ := sb hb; have n4_ := Aside0.mk (hbox); have n5_ := zb hg; have n6_ := zb hg; have n7_ := nl BK129 hg; have n8_ := ng BK129 hg; have n9_ := nl BK130 hg; have n10_ := ng BK130 hg; have n11_ := nl BK131 hg; have n12_ := ng BK131 hg; clear BK129; clear BK130; clear BK131; clear HB; have BK129 := n0_; have BK130 := n1_; have BK131 := n2_; have HB := n3_; have BK132 := n4_; have GW132 := n5_; have GE132 := n6_; have NB129_132 := n7_; have NB132_129 := n8_; have NB130_132 := n9_; have NB132_130 := n10_; have NB131_132 := n11_; have NB132_131 := n12_; clear n0_ n1_ n2_ n3_ n4_ n5_ n6_ n7_ n8_ n9_ n10_ n11_ n12_; clear hb hbox hg; have hnb74 := NB129_130.out; have hnc74 := NB130_129.out; have hnb75 := NB129_131.out; have hnc75 := NB131_129.out; have hnb76 := NB129_132.out; have hnc76 := NB132_129.out; have hcz77_0 := ck BK129 0; have hcz77_1 := ck BK129 1; have hfz77_0 := blk_frozen BK129.out 0; have hfz77_1 := blk_frozen BK129.out 1; have hnb78 := NB130_131.out; have hnc78 := NB131_130.out; have hnb79 := NB130_132.out; have hnc79 := NB132_130.out; have hcz80_0 := ck BK130 0; have hcz80_1 := ck BK130 1; have hfz80_0 := blk_frozen BK130.out 0; have hfz80_1 := blk_frozen BK130.out 1; have hnb81 := NB131_132.out; have hnc81 := NB132_131.out; have hcz82_0 := ck BK131 0; have hcz82_1 := ck BK131 1; have hfz82_0 := blk_frozen BK131.out 0; have hfz82_1 := blk_frozen BK131.out 1; have hcz83_0 := ck BK132 0; have hcz83_1 := ck BK132 1; have hfz83_0 := blk_frozen BK132.out 0; have hfz83_1 := blk_frozen BK132.out 1) | ((with_reducible refine gate_callee (f := 102) rfl ?_); refine goesL_ (some 13) rfl rfl Try.func102 (by kernel_rfl) rfl #[.agg #[.int .i64 a0_0, .int .i64 a0_1], .agg #[.int .i64 a1_0, .int .i64 a1_1], .agg #[.int .i64 a2_0, .int .i64 a2_1], .agg #[.int .i64 a3_0, .int .i64 a3_1]] rfl (by (try simp only [List.map_toArray, List.map_cons, List.map_nil]); first | done | rfl | (simp only [List.length_drop, List.length_take]; rfl)) ?_; (with_reducible refine (spec_l02Crosses.calls a0_0 a0_1 a1_0 a1_1 a2_0 a2_1 a3_0 a3_1 false _ A5.out).mono ?_); rintro e w84 ⟨rfl, hb⟩; refine ⟨_, rfl, ?_⟩; have n0_ := kb BK129 hb; have n1_ := kb BK130 hb; have n2_ := kb BK131 hb; have n3_ := kb BK132 hb; have n4_ := sb hb; clear BK129; clear BK130; clear BK131; clear BK132; clear HB; have BK129 := n0_; have BK130 := n1_; have BK131 := n2_; have BK132 := n3_; have HB := n4_; clear n0_ n1_ n2_ n3_ n4_; (try clear hb); (try clear hb2); (try clear hk); (try clear hi); have hcz85_0 := ck BK129 0; have hcz85_1 := ck BK129 1; have hfz85_0 := blk_frozen BK129.out 0; have hfz85_1 := blk_frozen BK129.out 1; have hcz86_0 := ck BK130 0; have hcz86_1 := ck BK130 1; have hfz86_0 := blk_frozen BK130.out 0; have hfz86_1 := blk_frozen BK130.out 1; have hcz87_0 := ck BK131 0; have hcz87_1 := ck BK131 1; have hfz87_0 := blk_frozen BK131.out 0; have hfz87_1 := blk_frozen BK131.out 1) | (go_at_call 99; (with_reducible refine (spec_l02On.calls a0_0 a0_1 a1_0 a1_1 a2_0 a2_1 false _ A22.out).mono ?_); rintro e w88 ⟨rfl, hb⟩; have n0_ := kb BK129 hb; have n1_ := kb BK130 hb; have n2_ := kb BK131 hb; have n3_ := kb BK132 hb; have n4_ := sb hb; clear BK129; clear BK130; clear BK131; clear BK132; clear HB; have BK129 := n0_; have BK130 := n1_; have BK131 := n2_; have BK132 := n3_; have HB := n4_; clear n0_ n1_ n2_ n3_ n4_; (try clear hb); (try clear hb2); (try clear hk); (try clear hi); have hcz89_0 := ck BK129 0; have hcz89_1 := ck BK129 1; have hfz89_0 := blk_frozen BK129.out 0; have hfz89_1 := blk_frozen BK129.out 1; have hcz90_0 := ck BK130 0; have hcz90_1 := ck BK130 1; have hfz90_0 := blk_frozen BK130.out 0; have hfz90_1 := blk_frozen BK130.out 1; have hcz91_0 := ck BK132 0; have hcz91_1 := ck BK132 1; have hfz91_0 := blk_frozen BK132.out 0; have hfz91_1 := blk_frozen BK132.out 1) | (go_at_call 99; (with_reducible refine (spec_l02On.calls a0_0 a0_1 a1_0 a1_1 a3_0 a3_1 false _ A43.out).mono ?_); rintro e w92 ⟨rfl, hb⟩; have n0_ := kb BK129 hb; have n1_ := kb BK130 hb; have n2_ := kb BK131 hb; have n3_ := kb BK132 hb; have n4_ := sb hb; clear BK129; clear BK130; clear BK131; clear BK132; clear HB; have BK129 := n0_; have BK130 := n1_; have BK131 := n2_; have BK132 := n3_; have HB := n4_; clear n0_ n1_ n2_ n3_ n4_; (try clear hb); (try clear hb2); (try clear hk); (try clear hi); have hcz93_0 := ck BK131 0; have hcz93_1 := ck BK131 1; have hfz93_0 := blk_frozen BK131.out 0; have hfz93_1 := blk_frozen BK131.out 1; have hcz94_0 := ck BK132 0; have hcz94_1 := ck BK132 1; have hfz94_0 := blk_frozen BK132.out 0; have hfz94_1 := blk_frozen BK132.out 1; have hcz95_0 := ck BK129 0; have hcz95_1 := ck BK129 1; have hfz95_0 := blk_frozen BK129.out 0; have hfz95_1 := blk_frozen BK129.out 1) | (go_at_call 99; (with_reducible refine (spec_l02On.calls a2_0 a2_1 a3_0 a3_1 a0_0 a0_1 true _ A68.out).mono ?_); rintro e w96 ⟨rfl, hb⟩; have n0_ := kb BK129 hb; have n1_ := kb BK130 hb; have n2_ := kb BK131 hb; have n3_ := kb BK132 hb; have n4_ := sb hb; clear BK129; clear BK130; clear BK131; clear BK132; clear HB; have BK129 := n0_; have BK130 := n1_; have BK131 := n2_; have BK132 := n3_; have HB := n4_; clear n0_ n1_ n2_ n3_ n4_; (try clear hb); (try clear hb2); (try clear hk); (try clear hi)))
     go_ret
     exact ⟨by first | rfl | (simp [errW_none, errW_some] <;> rfl) | (simp [*, errW_none, errW_some] <;> rfl), by repeat (first | (with_reducible first | exact HB.out | apply below_alloc | apply pw_below_drewN | apply below_drew1 | refine below_set ?_ GE129.out | refine below_set ?_ GE130.out | refine below_set ?_ GE131.out | refine below_set ?_ GE132.out) | exact HB.out)⟩
    ·replace c69 := Bool.eq_false_iff.mpr c69
     subst c69
     have H1 : ((spec_l02On.f a2_0 a2_1 a3_0 a3_1 a1_0 a1_1).bind fun t137 => (some t137)) = some r := by rw [if_neg (show ¬ (false = true) by decide)] at H; exact H
     clear H
     have H := H1
     clear H1
     replace H := Option.bind_eq_some_iff.mp H
     obtain ⟨t137, A970, H⟩ := H
     replace H : (some t137) = some r := H
     have A97 := Aside0.mk A970
     clear A970
     obtain rfl := Option.some.inj H
     go_enter Try.func100, Try.ntmps100
     go_wp2_with (first | ((with_reducible refine gate_dst (N := 4) rfl ?_); refine bx (cs := #[.int .i64 a0_0, .int .i64 a0_1]) (t := 73) ?_; intro gb129 hg w98 hbox hb; have n0_ := sb hb; have n1_ := Aside0.mk (hbox); have n2_ := zb hg; have n3_ := zb hg; clear HB; have HB := n0_; have BK129 := n1_; have GW129 := n2_; have GE129 := n3_; clear n0_ n1_ n2_ n3_; clear hb hbox hg) | ((with_reducible refine gate_dst (N := 5) rfl ?_); refine bx (cs := #[.int .i64 a1_0, .int .i64 a1_1]) (t := 73) ?_; intro gb130 hg w99 hbox hb; have n0_ := kb BK129 hb; have n1_ := sb hb; have n2_ := Aside0.mk (hbox); have n3_ := zb hg; have n4_ := zb hg; have n5_ := nl BK129 hg; have n6_ := ng BK129 hg; clear BK129; clear HB; have BK129 := n0_; have HB := n1_; have BK130 := n2_; have GW130 := n3_; have GE130 := n4_; have NB129_130 := n5_; have NB130_129 := n6_; clear n0_ n1_ n2_ n3_ n4_ n5_ n6_; clear hb hbox hg) | ((with_reducible refine gate_dst (N := 6) rfl ?_); refine bx (cs := #[.int .i64 a2_0, .int .i64 a2_1]) (t := 73) ?_; intro gb131 hg w100 hbox hb; have n0_ := kb BK129 hb; have n1_ := kb BK130 hb; have n2_ := sb hb; have n3_ := Aside0.mk (hbox); have n4_ := zb hg; have n5_ := zb hg; have n6_ := nl BK129 hg; have n7_ := ng BK129 hg; have n8_ := nl BK130 hg; have n9_ := ng BK130 hg; clear BK129; clear BK130; clear HB; have BK129 := n0_; have BK130 := n1_; have HB := n2_; have BK131 := n3_; have GW131 := n4_; have GE131 := n5_; have NB129_131 := n6_; have NB131_129 := n7_; have NB130_131 := n8_; have NB131_130 := n9_; clear n0_ n1_ n2_ n3_ n4_ n5_ n6_ n7_ n8_ n9_; clear hb hbox hg) | ((with_reducible refine gate_dst (N := 7) rfl ?_); refine bx (cs := #[.int .i64 a3_0, .int .i64 a3_1]) (t := 73) ?_; intro gb132 hg w101 hbox hb; have n0_ := kb BK129 hb; have n1_ := kb BK130 hb; have n2_ := kb BK131 hb; have n3_ := sb hb; have n4_ := Aside0.mk (hbox); have n5_ := zb hg; have n6_ := zb hg; have n7_ := nl BK129 hg; have n8_ := ng BK129 hg; have n9_ := nl BK130 hg; have n10_ := ng BK130 hg; have n11_ := nl BK131 hg; have n12_ := ng BK131 hg; clear BK129; clear BK130; clear BK131; clear HB; have BK129 := n0_; have BK130 := n1_; have BK131 := n2_; have HB := n3_; have BK132 := n4_; have GW132 := n5_; have GE132 := n6_; have NB129_132 := n7_; have NB132_129 := n8_; have NB130_132 := n9_; have NB132_130 := n10_; have NB131_132 := n11_; have NB132_131 := n12_; clear n0_ n1_ n2_ n3_ n4_ n5_ n6_ n7_ n8_ n9_ n10_ n11_ n12_; clear hb hbox hg; have hnb102 := NB129_130.out; have hnc102 := NB130_129.out; have hnb103 := NB129_131.out; have hnc103 := NB131_129.out; have hnb104 := NB129_132.out; have hnc104 := NB132_129.out; have hcz105_0 := ck BK129 0; have hcz105_1 := ck BK129 1; have hfz105_0 := blk_frozen BK129.out 0; have hfz105_1 := blk_frozen BK129.out 1; have hnb106 := NB130_131.out; have hnc106 := NB131_130.out; have hnb107 := NB130_132.out; have hnc107 := NB132_130.out; have hcz108_0 := ck BK130 0; have hcz108_1 := ck BK130 1; have hfz108_0 := blk_frozen BK130.out 0; have hfz108_1 := blk_frozen BK130.out 1; have hnb109 := NB131_132.out; have hnc109 := NB132_131.out; have hcz110_0 := ck BK131 0; have hcz110_1 := ck BK131 1; have hfz110_0 := blk_frozen BK131.out 0; have hfz110_1 := blk_frozen BK131.out 1; have hcz111_0 := ck BK132 0; have hcz111_1 := ck BK132 1; have hfz111_0 := blk_frozen BK132.out 0; have hfz111_1 := blk_frozen BK132.out 1) | ((with_reducible refine gate_callee (f := 102) rfl ?_); refine goesL_ (some 13) rfl rfl Try.func102 (by kernel_rfl) rfl #[.agg #[.int .i64 a0_0, .int .i64 a0_1], .agg #[.int .i64 a1_0, .int .i64 a1_1], .agg #[.int .i64 a2_0, .int .i64 a2_1], .agg #[.int .i64 a3_0, .int .i64 a3_1]] rfl (by (try simp only [List.map_toArray, List.map_cons, List.map_nil]); first | done | rfl | (simp only [List.length_drop, List.length_take]; rfl)) ?_; (with_reducible refine (spec_l02Crosses.calls a0_0 a0_1 a1_0 a1_1 a2_0 a2_1 a3_0 a3_1 false _ A5.out).mono ?_); rintro e w112 ⟨rfl, hb⟩; refine ⟨_, rfl, ?_⟩; have n0_ := kb BK129 hb; have n1_ := kb BK130 hb; have n2_ := kb BK131 hb; have n3_ := kb BK132 hb; have n4_ := sb hb; clear BK129; clear BK130; clear BK131; clear BK132; clear HB; have BK129 := n0_; have BK130 := n1_; have BK131 := n2_; have BK132 := n3_; have HB := n4_; clear n0_ n1_ n2_ n3_ n4_; (try clear hb); (try clear hb2); (try clear hk); (try clear hi); have hcz113_0 := ck BK129 0; have hcz113_1 := ck BK129 1; have hfz113_0 := blk_frozen BK129.out 0; have hfz113_1 := blk_frozen BK129.out 1; have hcz114_0 := ck BK130 0; have hcz114_1 := ck BK130 1; have hfz114_0 := blk_frozen BK130.out 0; have hfz114_1 := blk_frozen BK130.out 1; have hcz115_0 := ck BK131 0; have hcz115_1 := ck BK131 1; have hfz115_0 := blk_frozen BK131.out 0; have hfz115_1 := blk_frozen BK131.out 1) | (go_at_call 99; (with_reducible refine (spec_l02On.calls a0_0 a0_1 a1_0 a1_1 a2_0 a2_1 false _ A22.out).mono ?_); rintro e w116 ⟨rfl, hb⟩; have n0_ := kb BK129 hb; have n1_ := kb BK130 hb; have n2_ := kb BK131 hb; have n3_ := kb BK132 hb; have n4_ := sb hb; clear BK129; clear BK130; clear BK131; clear BK132; clear HB; have BK129 := n0_; have BK130 := n1_; have BK131 := n2_; have BK132 := n3_; have HB := n4_; clear n0_ n1_ n2_ n3_ n4_; (try clear hb); (try clear hb2); (try clear hk); (try clear hi); have hcz117_0 := ck BK129 0; have hcz117_1 := ck BK129 1; have hfz117_0 := blk_frozen BK129.out 0; have hfz117_1 := blk_frozen BK129.out 1; have hcz118_0 := ck BK130 0; have hcz118_1 := ck BK130 1; have hfz118_0 := blk_frozen BK130.out 0; have hfz118_1 := blk_frozen BK130.out 1; have hcz119_0 := ck BK132 0; have hcz119_1 := ck BK132 1; have hfz119_0 := blk_frozen BK132.out 0; have hfz119_1 := blk_frozen BK132.out 1) | (go_at_call 99; (with_reducible refine (spec_l02On.calls a0_0 a0_1 a1_0 a1_1 a3_0 a3_1 false _ A43.out).mono ?_); rintro e w120 ⟨rfl, hb⟩; have n0_ := kb BK129 hb; have n1_ := kb BK130 hb; have n2_ := kb BK131 hb; have n3_ := kb BK132 hb; have n4_ := sb hb; clear BK129; clear BK130; clear BK131; clear BK132; clear HB; have BK129 := n0_; have BK130 := n1_; have BK131 := n2_; have BK132 := n3_; have HB := n4_; clear n0_ n1_ n2_ n3_ n4_; (try clear hb); (try clear hb2); (try clear hk); (try clear hi); have hcz121_0 := ck BK131 0; have hcz121_1 := ck BK131 1; have hfz121_0 := blk_frozen BK131.out 0; have hfz121_1 := blk_frozen BK131.out 1; have hcz122_0 := ck BK132 0; have hcz122_1 := ck BK132 1; have hfz122_0 := blk_frozen BK132.out 0; have hfz122_1 := blk_frozen BK132.out 1; have hcz123_0 := ck BK129 0; have hcz123_1 := ck BK129 1; have hfz123_0 := blk_frozen BK129.out 0; have hfz123_1 := blk_frozen BK129.out 1) | (go_at_call 99; (with_reducible refine (spec_l02On.calls a2_0 a2_1 a3_0 a3_1 a0_0 a0_1 false _ A68.out).mono ?_); rintro e w124 ⟨rfl, hb⟩; have n0_ := kb BK129 hb; have n1_ := kb BK130 hb; have n2_ := kb BK131 hb; have n3_ := kb BK132 hb; have n4_ := sb hb; clear BK129; clear BK130; clear BK131; clear BK132; clear HB; have BK129 := n0_; have BK130 := n1_; have BK131 := n2_; have BK132 := n3_; have HB := n4_; clear n0_ n1_ n2_ n3_ n4_; (try clear hb); (try clear hb2); (try clear hk); (try clear hi); have hcz125_0 := ck BK131 0; have hcz125_1 := ck BK131 1; have hfz125_0 := blk_frozen BK131.out 0; have hfz125_1 := blk_frozen BK131.out 1; have hcz126_0 := ck BK132 0; have hcz126_1 := ck BK132 1; have hfz126_0 := blk_frozen BK132.out 0; have hfz126_1 := blk_frozen BK132.out 1; have hcz127_0 := ck BK130 0; have hcz127_1 := ck BK130 1; have hfz127_0 := blk_frozen BK130.out 0; have hfz127_1 := blk_frozen BK130.out 1) | (go_at_call 99; (with_reducible refine (spec_l02On.calls a2_0 a2_1 a3_0 a3_1 a1_0 a1_1 t137 _ A97.out).mono ?_); rintro e w128 ⟨rfl, hb⟩; have n0_ := kb BK129 hb; have n1_ := kb BK130 hb; have n2_ := kb BK131 hb; have n3_ := kb BK132 hb; have n4_ := sb hb; clear BK129; clear BK130; clear BK131; clear BK132; clear HB; have BK129 := n0_; have BK130 := n1_; have BK131 := n2_; have BK132 := n3_; have HB := n4_; clear n0_ n1_ n2_ n3_ n4_; (try clear hb); (try clear hb2); (try clear hk); (try clear hi)))
     go_ret
     exact ⟨by first | rfl | (simp [errW_none, errW_some] <;> rfl) | (simp [*, errW_none, errW_some] <;> rfl), by repeat (first | (with_reducible first | exact HB.out | apply below_alloc | apply pw_below_drewN | apply below_drew1 | refine below_set ?_ GE129.out | refine below_set ?_ GE130.out | refine below_set ?_ GE131.out | refine below_set ?_ GE132.out) | exact HB.out)⟩
def spec_l03Area.l0 : Nat → List (S73) → Int → Int → Option (Int)
 | 0, _, _, _ => none
 | k + 1, x0, x3, x4 => if x4 < (x0.length : Int) then (if (x0.length : Int) = 0 then (none) else (if 0 ≤ (Int.tmod (wrap64 (x4 + 1)) (x0.length : Int)) then (if (Int.tmod (wrap64 (x4 + 1)) (x0.length : Int)) < (x0.length : Int) then (if 0 ≤ x4 then (spec_l03Area.l0 k x0 (wrap64 (x3 + (wrap64 ((wrap64 (((rd_T73 x0 x4).f0) * ((rd_T73 x0 (Int.tmod (wrap64 (x4 + 1)) (x0.length : Int))).f1))) - (wrap64 (((rd_T73 x0 x4).f1) * ((rd_T73 x0 (Int.tmod (wrap64 (x4 + 1)) (x0.length : Int))).f0))))))) (wrap64 (x4 + 1))) else (none)) else (none)) else (none))) else (some x3)
def spec_l03Area.f (k : Nat) (l0 : List (S73)) : Option (Int) := spec_l03Area.l0 k l0 0 0
theorem spec_l03Area.mono_l : ∀ k, (∀ y0 y1 y2, LeO (spec_l03Area.l0 k y0 y1 y2) (spec_l03Area.l0 (k + 1) y0 y1 y2))
 | 0 => fun _ _ _ r h => by simp [spec_l03Area.l0] at h
 | k + 1 => by
  have ih0 := spec_l03Area.mono_l k
  ·intro y0 y1 y2
   unfold spec_l03Area.l0
   repeat' first
   | (with_reducible exact ih0 _ _ _)
   | (with_reducible exact LeO.refl _)
   | (with_reducible exact LeO.none _)
   | (with_reducible refine LeO.ite ?_ ?_)
   | (with_reducible refine LeO.bind ?_ (fun _ => ?_))
   | exact ih0 _ _ _
   | exact LeO.none _
   | refine LeO.ite ?_ ?_
   | refine LeO.bind ?_ (fun _ => ?_)
theorem spec_l03Area.mono : ∀ a0 k, LeO (spec_l03Area.f k a0) (spec_l03Area.f (k + 1) a0) := by
 intro a0 k
 have ih0 := spec_l03Area.mono_l k
 unfold spec_l03Area.f
 repeat' first
   | (with_reducible exact ih0 _ _ _)
   | (with_reducible exact LeO.refl _)
   | (with_reducible exact LeO.none _)
   | (with_reducible refine LeO.ite ?_ ?_)
   | (with_reducible refine LeO.bind ?_ (fun _ => ?_))
   | exact ih0 _ _ _
   | exact LeO.none _
   | refine LeO.ite ?_ ?_
   | refine LeO.bind ?_ (fun _ => ?_)
set_option maxHeartbeats 8000000 in
set_option maxRecDepth 100000 in
theorem spec_l03Area.calls (k : Nat) (A0 : Option Addr) (c0 : Nat) (l0 : List (S73)) (r : Int) (w : World) (hr0 : Kd.C k73 w A0 l0.length l0) (hc0 : l0.length ≤ c0) (h : spec_l03Area.f k l0 = some r) :
  Calls Try.prog 101 #[.slice A0 l0.length c0] w fun e w' => e = .returned (.int .i64 r) ∧ Below w.heap.size w w' := by
 have hu73 := Try.underlying73
 have HR0 := Aside0.mk hr0
 have HC0 := Aside0.mk hc0
 clear hr0 hc0
 have HB := Aside0.mk (Below.refl w.heap.size w)
 have H : (spec_l03Area.l0 k l0 0 0) = some r := h
 clear h
 have H' := Aside0.mk H
 clear H
 go_enter Try.func101, Try.ntmps101
 go_wp2
 repeat (go_quiet (fail); try go_wp2)
 go_loopg [3, 4] k (fun kq v3 v4 w' => ∃ (x3_1 : Int) (x4_1 : Int), v3 = .int .i64 x3_1 ∧ v4 = .int .i64 x4_1 ∧ Aside0 (spec_l03Area.l0 kq l0 x3_1 x4_1 = some r) ∧ Aside0 (kq ≤ k) ∧ Aside0 (Below w.heap.size w w'))
 case atStart => exact ⟨(0), (0), (by first | rfl | (simp; done) | (simp [*]; done)), (by first | rfl | (simp; done) | (simp [*]; done)), H', ⟨Nat.le_refl _⟩, ⟨by repeat (first | (with_reducible first | exact HB.out | apply below_alloc | apply pw_below_drewN | apply below_drew1) | exact HB.out)⟩⟩
 case round =>
  clear H'
  try clear c1
  obtain ⟨x3_1, x4_1, rfl, rfl, HA, HK1, HB⟩ := hrel
  cases gk with
  | zero => exact absurd HA.out (by simp [spec_l03Area.l0])
  | succ k1 =>
   have H := HA.out
   clear HA
   simp only [spec_l03Area.l0] at H
   by_cases c2 : x4_1 < (l0.length : Int)
   ·rw [if_pos c2] at H
    have c2b0 : decide (x4_1 < (l0.length : Int)) = true := decide_eq_true c2
    clear c2
    by_cases c3 : (l0.length : Int) = 0
    ·rw [if_pos c3] at H
     exact absurd H (by simp)
    ·rw [if_neg c3] at H
     have c3b0 : ((l0.length : Int) == 0) = false := beq_eq_false_iff_ne.mpr c3
     have c3b1 : ((l0.length : Int) != 0) = true := bne_iff_ne.mpr c3
     have c3b2 : ¬ (l0 = []) := fun h_ => c3 (by rw [h_]; rfl)
     obtain ⟨ji4, hji4⟩ : ∃ j_ : Int, (Int.tmod (wrap64 (x4_1 + 1)) (l0.length : Int)) = j_ := ⟨_, rfl⟩
     replace H : (if 0 ≤ (ji4) then (if (ji4) < (l0.length : Int) then (if 0 ≤ x4_1 then (spec_l03Area.l0 k1 l0 (wrap64 (x3_1 + (wrap64 ((wrap64 (((rd_T73 l0 x4_1).f0) * ((rd_T73 l0 (ji4)).f1))) - (wrap64 (((rd_T73 l0 x4_1).f1) * ((rd_T73 l0 (ji4)).f0))))))) (wrap64 (x4_1 + 1))) else (none)) else (none)) else (none)) = some r := by first | (rw [hji4] at H; exact H) | (simp only [hji4] at H ⊢; exact H)
     by_cases c5 : 0 ≤ (ji4)
     ·rw [if_pos c5] at H
      have c5b0 : decide (0 ≤ (ji4)) = true := decide_eq_true c5
      clear c5
      by_cases c6 : (ji4) < (l0.length : Int)
      ·rw [if_pos c6] at H
       have c6b0 : decide ((ji4) < (l0.length : Int)) = true := decide_eq_true c6
       clear c6
       by_cases c7 : 0 ≤ x4_1
       ·rw [if_pos c7] at H
        have c7b0 : decide (0 ≤ x4_1) = true := decide_eq_true c7
        clear c7
        have H' := Aside0.mk H
        clear H
        have p138 : 0 ≤ ((ji4) : Int) := da
        have q138 : (ji4) < (l0.length : Int) := da
        obtain ⟨ad138, e138, hx138_0, hx138_1⟩ := at_T73 HR0.out (ji4) p138 q138
        cases e138
        replace hx138_0 := (HB.out.cell (bL w _ hx138_0)).trans hx138_0
        replace hx138_1 := (HB.out.cell (bL w _ hx138_1)).trans hx138_1
        replace p138 := eq_true p138
        replace q138 := eq_true q138
        go_wp2_with (first | ((with_reducible refine gate_dst (N := 5) rfl ?_); refine bx (cs := #[.int .i64 0, .int .i64 0]) (t := 73) ?_; intro gb139 hg w8 hbox hb; have n0_ := sb hb; have n1_ := Aside0.mk (hbox); have n2_ := zb hg; have n3_ := zb hg; clear HB; have HB := n0_; have BK139 := n1_; have GW139 := n2_; have GE139 := n3_; clear n0_ n1_ n2_ n3_; clear hb hbox hg; have hcz9_0 := ck BK139 0; have hcz9_1 := ck BK139 1; have hfz9_0 := blk_frozen BK139.out 0; have hfz9_1 := blk_frozen BK139.out 1; have p140 : 0 ≤ (x4_1 : Int) := da; have q140 : x4_1 < (l0.length : Int) := da; obtain ⟨ad140, e140, hx140_0, hx140_1⟩ := at_T73 HR0.out x4_1 p140 q140; obtain rfl : ad138 = ad140 := (by injection e140); have hn140_0 : ad138.block ≠ gb139 := nw hx140_0 GW139; have hn140_1 : ad138.block ≠ gb139 := nw hx140_0 GW139; replace hx140_0 := (HB.out.cell (bL w _ hx140_0)).trans hx140_0; replace hx140_1 := (HB.out.cell (bL w _ hx140_1)).trans hx140_1; replace hx140_0 := cf hn140_0 hx140_0 0 (.int .i64 ((rd_T73 l0 (ji4)).f0)); replace hx140_1 := cf hn140_0 hx140_1 0 (.int .i64 ((rd_T73 l0 (ji4)).f0)); replace hx140_0 := cf hn140_1 hx140_0 1 (.int .i64 ((rd_T73 l0 (ji4)).f1)); replace hx140_1 := cf hn140_1 hx140_1 1 (.int .i64 ((rd_T73 l0 (ji4)).f1)); (try have hy140_0 := fun (n_ : Nat) => (show ((((w8.drewN n_).setCell ⟨gb139, 0, none⟩ (.int .i64 ((rd_T73 l0 (ji4)).f0))).setCell ⟨gb139, 1, none⟩ (.int .i64 ((rd_T73 l0 (ji4)).f1)))).cell? _ = some _ from hx140_0)); (try have hy140_1 := fun (n_ : Nat) => (show ((((w8.drewN n_).setCell ⟨gb139, 0, none⟩ (.int .i64 ((rd_T73 l0 (ji4)).f0))).setCell ⟨gb139, 1, none⟩ (.int .i64 ((rd_T73 l0 (ji4)).f1)))).cell? _ = some _ from hx140_1)); clear hn140_0; clear hn140_1; replace p140 := eq_true p140; replace q140 := eq_true q140; have p141 : 0 ≤ (x4_1 : Int) := da; have q141 : x4_1 < (l0.length : Int) := da; obtain ⟨ad141, e141, hx141_0, hx141_1⟩ := at_T73 HR0.out x4_1 p141 q141; obtain rfl : ad138 = ad141 := (by injection e141); have hn141_0 : ad138.block ≠ gb139 := nw hx141_0 GW139; have hn141_1 : ad138.block ≠ gb139 := nw hx141_0 GW139; replace hx141_0 := (HB.out.cell (bL w _ hx141_0)).trans hx141_0; replace hx141_1 := (HB.out.cell (bL w _ hx141_1)).trans hx141_1; replace hx141_0 := cf hn141_0 hx141_0 0 (.int .i64 ((rd_T73 l0 (ji4)).f0)); replace hx141_1 := cf hn141_0 hx141_1 0 (.int .i64 ((rd_T73 l0 (ji4)).f0)); replace hx141_0 := cf hn141_1 hx141_0 1 (.int .i64 ((rd_T73 l0 (ji4)).f1)); replace hx141_1 := cf hn141_1 hx141_1 1 (.int .i64 ((rd_T73 l0 (ji4)).f1)); (try have hy141_0 := fun (n_ : Nat) => (show ((((w8.drewN n_).setCell ⟨gb139, 0, none⟩ (.int .i64 ((rd_T73 l0 (ji4)).f0))).setCell ⟨gb139, 1, none⟩ (.int .i64 ((rd_T73 l0 (ji4)).f1)))).cell? _ = some _ from hx141_0)); (try have hy141_1 := fun (n_ : Nat) => (show ((((w8.drewN n_).setCell ⟨gb139, 0, none⟩ (.int .i64 ((rd_T73 l0 (ji4)).f0))).setCell ⟨gb139, 1, none⟩ (.int .i64 ((rd_T73 l0 (ji4)).f1)))).cell? _ = some _ from hx141_1)); clear hn141_0; clear hn141_1; replace p141 := eq_true p141; replace q141 := eq_true q141))
        repeat (go_quiet (first | ((with_reducible refine gate_dst (N := 5) rfl ?_); refine bx (cs := #[.int .i64 0, .int .i64 0]) (t := 73) ?_; intro gb139 hg w8 hbox hb; have n0_ := sb hb; have n1_ := Aside0.mk (hbox); have n2_ := zb hg; have n3_ := zb hg; clear HB; have HB := n0_; have BK139 := n1_; have GW139 := n2_; have GE139 := n3_; clear n0_ n1_ n2_ n3_; clear hb hbox hg; have hcz9_0 := ck BK139 0; have hcz9_1 := ck BK139 1; have hfz9_0 := blk_frozen BK139.out 0; have hfz9_1 := blk_frozen BK139.out 1; have p140 : 0 ≤ (x4_1 : Int) := da; have q140 : x4_1 < (l0.length : Int) := da; obtain ⟨ad140, e140, hx140_0, hx140_1⟩ := at_T73 HR0.out x4_1 p140 q140; obtain rfl : ad138 = ad140 := (by injection e140); have hn140_0 : ad138.block ≠ gb139 := nw hx140_0 GW139; have hn140_1 : ad138.block ≠ gb139 := nw hx140_0 GW139; replace hx140_0 := (HB.out.cell (bL w _ hx140_0)).trans hx140_0; replace hx140_1 := (HB.out.cell (bL w _ hx140_1)).trans hx140_1; replace hx140_0 := cf hn140_0 hx140_0 0 (.int .i64 ((rd_T73 l0 (ji4)).f0)); replace hx140_1 := cf hn140_0 hx140_1 0 (.int .i64 ((rd_T73 l0 (ji4)).f0)); replace hx140_0 := cf hn140_1 hx140_0 1 (.int .i64 ((rd_T73 l0 (ji4)).f1)); replace hx140_1 := cf hn140_1 hx140_1 1 (.int .i64 ((rd_T73 l0 (ji4)).f1)); (try have hy140_0 := fun (n_ : Nat) => (show ((((w8.drewN n_).setCell ⟨gb139, 0, none⟩ (.int .i64 ((rd_T73 l0 (ji4)).f0))).setCell ⟨gb139, 1, none⟩ (.int .i64 ((rd_T73 l0 (ji4)).f1)))).cell? _ = some _ from hx140_0)); (try have hy140_1 := fun (n_ : Nat) => (show ((((w8.drewN n_).setCell ⟨gb139, 0, none⟩ (.int .i64 ((rd_T73 l0 (ji4)).f0))).setCell ⟨gb139, 1, none⟩ (.int .i64 ((rd_T73 l0 (ji4)).f1)))).cell? _ = some _ from hx140_1)); clear hn140_0; clear hn140_1; replace p140 := eq_true p140; replace q140 := eq_true q140; have p141 : 0 ≤ (x4_1 : Int) := da; have q141 : x4_1 < (l0.length : Int) := da; obtain ⟨ad141, e141, hx141_0, hx141_1⟩ := at_T73 HR0.out x4_1 p141 q141; obtain rfl : ad138 = ad141 := (by injection e141); have hn141_0 : ad138.block ≠ gb139 := nw hx141_0 GW139; have hn141_1 : ad138.block ≠ gb139 := nw hx141_0 GW139; replace hx141_0 := (HB.out.cell (bL w _ hx141_0)).trans hx141_0; replace hx141_1 := (HB.out.cell (bL w _ hx141_1)).trans hx141_1; replace hx141_0 := cf hn141_0 hx141_0 0 (.int .i64 ((rd_T73 l0 (ji4)).f0)); replace hx141_1 := cf hn141_0 hx141_1 0 (.int .i64 ((rd_T73 l0 (ji4)).f0)); replace hx141_0 := cf hn141_1 hx141_0 1 (.int .i64 ((rd_T73 l0 (ji4)).f1)); replace hx141_1 := cf hn141_1 hx141_1 1 (.int .i64 ((rd_T73 l0 (ji4)).f1)); (try have hy141_0 := fun (n_ : Nat) => (show ((((w8.drewN n_).setCell ⟨gb139, 0, none⟩ (.int .i64 ((rd_T73 l0 (ji4)).f0))).setCell ⟨gb139, 1, none⟩ (.int .i64 ((rd_T73 l0 (ji4)).f1)))).cell? _ = some _ from hx141_0)); (try have hy141_1 := fun (n_ : Nat) => (show ((((w8.drewN n_).setCell ⟨gb139, 0, none⟩ (.int .i64 ((rd_T73 l0 (ji4)).f0))).setCell ⟨gb139, 1, none⟩ (.int .i64 ((rd_T73 l0 (ji4)).f1)))).cell? _ = some _ from hx141_1)); clear hn141_0; clear hn141_1; replace p141 := eq_true p141; replace q141 := eq_true q141)); try go_wp2_with (first | ((with_reducible refine gate_dst (N := 5) rfl ?_); refine bx (cs := #[.int .i64 0, .int .i64 0]) (t := 73) ?_; intro gb139 hg w8 hbox hb; have n0_ := sb hb; have n1_ := Aside0.mk (hbox); have n2_ := zb hg; have n3_ := zb hg; clear HB; have HB := n0_; have BK139 := n1_; have GW139 := n2_; have GE139 := n3_; clear n0_ n1_ n2_ n3_; clear hb hbox hg; have hcz9_0 := ck BK139 0; have hcz9_1 := ck BK139 1; have hfz9_0 := blk_frozen BK139.out 0; have hfz9_1 := blk_frozen BK139.out 1; have p140 : 0 ≤ (x4_1 : Int) := da; have q140 : x4_1 < (l0.length : Int) := da; obtain ⟨ad140, e140, hx140_0, hx140_1⟩ := at_T73 HR0.out x4_1 p140 q140; obtain rfl : ad138 = ad140 := (by injection e140); have hn140_0 : ad138.block ≠ gb139 := nw hx140_0 GW139; have hn140_1 : ad138.block ≠ gb139 := nw hx140_0 GW139; replace hx140_0 := (HB.out.cell (bL w _ hx140_0)).trans hx140_0; replace hx140_1 := (HB.out.cell (bL w _ hx140_1)).trans hx140_1; replace hx140_0 := cf hn140_0 hx140_0 0 (.int .i64 ((rd_T73 l0 (ji4)).f0)); replace hx140_1 := cf hn140_0 hx140_1 0 (.int .i64 ((rd_T73 l0 (ji4)).f0)); replace hx140_0 := cf hn140_1 hx140_0 1 (.int .i64 ((rd_T73 l0 (ji4)).f1)); replace hx140_1 := cf hn140_1 hx140_1 1 (.int .i64 ((rd_T73 l0 (ji4)).f1)); (try have hy140_0 := fun (n_ : Nat) => (show ((((w8.drewN n_).setCell ⟨gb139, 0, none⟩ (.int .i64 ((rd_T73 l0 (ji4)).f0))).setCell ⟨gb139, 1, none⟩ (.int .i64 ((rd_T73 l0 (ji4)).f1)))).cell? _ = some _ from hx140_0)); (try have hy140_1 := fun (n_ : Nat) => (show ((((w8.drewN n_).setCell ⟨gb139, 0, none⟩ (.int .i64 ((rd_T73 l0 (ji4)).f0))).setCell ⟨gb139, 1, none⟩ (.int .i64 ((rd_T73 l0 (ji4)).f1)))).cell? _ = some _ from hx140_1)); clear hn140_0; clear hn140_1; replace p140 := eq_true p140; replace q140 := eq_true q140; have p141 : 0 ≤ (x4_1 : Int) := da; have q141 : x4_1 < (l0.length : Int) := da; obtain ⟨ad141, e141, hx141_0, hx141_1⟩ := at_T73 HR0.out x4_1 p141 q141; obtain rfl : ad138 = ad141 := (by injection e141); have hn141_0 : ad138.block ≠ gb139 := nw hx141_0 GW139; have hn141_1 : ad138.block ≠ gb139 := nw hx141_0 GW139; replace hx141_0 := (HB.out.cell (bL w _ hx141_0)).trans hx141_0; replace hx141_1 := (HB.out.cell (bL w _ hx141_1)).trans hx141_1; replace hx141_0 := cf hn141_0 hx141_0 0 (.int .i64 ((rd_T73 l0 (ji4)).f0)); replace hx141_1 := cf hn141_0 hx141_1 0 (.int .i64 ((rd_T73 l0 (ji4)).f0)); replace hx141_0 := cf hn141_1 hx141_0 1 (.int .i64 ((rd_T73 l0 (ji4)).f1)); replace hx141_1 := cf hn141_1 hx141_1 1 (.int .i64 ((rd_T73 l0 (ji4)).f1)); (try have hy141_0 := fun (n_ : Nat) => (show ((((w8.drewN n_).setCell ⟨gb139, 0, none⟩ (.int .i64 ((rd_T73 l0 (ji4)).f0))).setCell ⟨gb139, 1, none⟩ (.int .i64 ((rd_T73 l0 (ji4)).f1)))).cell? _ = some _ from hx141_0)); (try have hy141_1 := fun (n_ : Nat) => (show ((((w8.drewN n_).setCell ⟨gb139, 0, none⟩ (.int .i64 ((rd_T73 l0 (ji4)).f0))).setCell ⟨gb139, 1, none⟩ (.int .i64 ((rd_T73 l0 (ji4)).f1)))).cell? _ = some _ from hx141_1)); clear hn141_0; clear hn141_1; replace p141 := eq_true p141; replace q141 := eq_true q141)))
        go_roundg k1
        case measure => have := HK1.out; omega
        case rel => exact ⟨(wrap64 (x3_1 + (wrap64 ((wrap64 (((rd_T73 l0 x4_1).f0) * ((rd_T73 l0 (ji4)).f1))) - (wrap64 (((rd_T73 l0 x4_1).f1) * ((rd_T73 l0 (ji4)).f0))))))), (wrap64 (x4_1 + 1)), (by first | rfl | (simp; done) | (simp only [← hji4] <;> (first | rfl | simp)) | (simp [*]; done)), (by first | rfl | (simp; done) | (simp [*]; done)), H', ⟨by have := HK1.out; omega⟩, ⟨by repeat (first | (with_reducible first | exact HB.out | apply below_alloc | apply pw_below_drewN | apply below_drew1 | refine below_set ?_ GE139.out) | exact HB.out)⟩⟩
       ·rw [if_neg c7] at H
        exact absurd H (by simp)
      ·rw [if_neg c6] at H
       exact absurd H (by simp)
     ·rw [if_neg c5] at H
      exact absurd H (by simp)
   ·rw [if_neg c2] at H
    have c2b0 : decide (x4_1 < (l0.length : Int)) = false := decide_eq_false c2
    clear c2
    obtain rfl := Option.some.inj H
    go_wp2
    repeat (go_quiet (fail); try go_wp2)
    go_ret
    exact ⟨by first | rfl | (simp [errW_none, errW_some] <;> rfl) | (simp [*, errW_none, errW_some] <;> rfl), by repeat (first | (with_reducible first | exact HB.out | apply below_alloc | apply pw_below_drewN | apply below_drew1) | exact HB.out)⟩
end Go.Proofs.Ytnnchaggdnlfmaa.PFnExactIsDiagonal
