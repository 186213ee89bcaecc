/- Contracts of functions that FnExactFaceAt reaches, out of the lines of the kit's print. -/
import Derived.Test.YtlfifbalakgfeaaQFnExactFaceAtx0
import Derived.Test.YtlfifbalakgfeaaQFnExactFaceAtx5
import Derived.Test.YtlfifbalakgfeaaQFnExactFaceAtx7
namespace Go.Proofs.Ytlfifbalakgfeaa.PFnExactFaceAt
open Go.RowKit Go.Proofs.YtlfifbalakgfeaaW.PrintWords Go.Proofs.YtlfifbalakgfeaaW.PrintLast Go.Proofs.YtlfifbalakgfeaaW.PrintMore
open Bool renaming true → tT, false → fF
open Go.World renaming block_lt_of_cell? → bL
attribute [local go_sem] max2_int min2_int max_two min_two max_three min_three max_four min_four
set_option linter.unusedVariables false
set_option linter.unusedSimpArgs false
def spec_l02Crosses.f (a0_0 : Int) (a0_1 : Int) (a1_0 : Int) (a1_1 : Int) (a2_0 : Int) (a2_1 : Int) (a3_0 : Int) (a3_1 : Int) : Option (Bool) := (spec_l02Side.f a0_0 a0_1 a1_0 a1_1 a2_0 a2_1).bind fun t211 => ((spec_l02Side.f a0_0 a0_1 a1_0 a1_1 a3_0 a3_1).bind fun t212 => (if (wrap64 (t211 * t212)) < 0 then ((spec_l02Side.f a2_0 a2_1 a3_0 a3_1 a0_0 a0_1).bind fun t213 => ((spec_l02Side.f a2_0 a2_1 a3_0 a3_1 a1_0 a1_1).bind fun t214 => (some (decide ((wrap64 (t213 * t214)) < 0))))) else (some false)))
def spec_l02Crosses.T1 : Bool × List (List Nat × List Nat) := (true, [([], []), ([], []), ([], []), ([0, 1, 2], [0, 1, 2]), ([], []), ([], []), ([], []), ([4, 5, 6, 3], [4, 5, 6]), ([3, 7], [3, 7]), ([8], [8]), ([9, 7], [9]), ([10], [10]), ([10], [10]), ([10], [10]), ([11, 12, 13, 10, 10], [10, 11, 12, 13]), ([10], [10]), ([10], [10]), ([10], [10]), ([15, 16, 17, 14, 10], [10, 15, 16, 17]), ([14, 18, 10], [10, 14, 18]), ([19, 10], [10, 19]), ([10, 20], [10, 20]), ([21, 18, 0, 1, 2, 3, 4, 5, 6, 7, 8, 9, 10, 11, 12, 13, 14, 15, 16, 17, 18, 19, 20, 21], [21])])
def spec_l02Crosses.B1 : List Nat := [0, 0, 0, 7, 0, 0, 0, 127, 255, 511, 1023, 2047, 2047, 2047, 16383, 2047, 2047, 2047, 262143, 524287, 1048575, 2097151, 4194303]
theorem spec_l02Crosses.tab1 : rtab .any (opsOf Try.f98 1) = spec_l02Crosses.T1 := by kernel_rfl
theorem spec_l02Crosses.bits1 : waitsOk spec_l02Crosses.T1.2 spec_l02Crosses.B1 = true := by kernel_rfl
set_option maxHeartbeats 8000000 in
set_option maxRecDepth 100000 in
theorem spec_l02Crosses.calls (a0_0 : Int) (a0_1 : Int) (a1_0 : Int) (a1_1 : Int) (a2_0 : Int) (a2_1 : Int) (a3_0 : Int) (a3_1 : Int) (r : Bool) (w : World) (h : spec_l02Crosses.f a0_0 a0_1 a1_0 a1_1 a2_0 a2_1 a3_0 a3_1 = some r) :
  Calls Try.prog 98 #[.agg #[.int .i64 a0_0, .int .i64 a0_1], .agg #[.int .i64 a1_0, .int .i64 a1_1], .agg #[.int .i64 a2_0, .int .i64 a2_1], .agg #[.int .i64 a3_0, .int .i64 a3_1]] w fun e w' => e = .returned (.bool r) ∧ Below w.heap.size w w' := by
 have hu48 := Try.underlying48
 have HB := Aside0.mk (Below.refl w.heap.size w)
 have H : ((spec_l02Side.f a0_0 a0_1 a1_0 a1_1 a2_0 a2_1).bind fun t211 => ((spec_l02Side.f a0_0 a0_1 a1_0 a1_1 a3_0 a3_1).bind fun t212 => (if (wrap64 (t211 * t212)) < 0 then ((spec_l02Side.f a2_0 a2_1 a3_0 a3_1 a0_0 a0_1).bind fun t213 => ((spec_l02Side.f a2_0 a2_1 a3_0 a3_1 a1_0 a1_1).bind fun t214 => (some (decide ((wrap64 (t213 * t214)) < 0))))) else (some false)))) = some r := h
 clear h
 replace H := Option.bind_eq_some_iff.mp H
 obtain ⟨t211, A50, H⟩ := H
 replace H : ((spec_l02Side.f a0_0 a0_1 a1_0 a1_1 a3_0 a3_1).bind fun t212 => (if (wrap64 (t211 * t212)) < 0 then ((spec_l02Side.f a2_0 a2_1 a3_0 a3_1 a0_0 a0_1).bind fun t213 => ((spec_l02Side.f a2_0 a2_1 a3_0 a3_1 a1_0 a1_1).bind fun t214 => (some (decide ((wrap64 (t213 * t214)) < 0))))) else (some false))) = some r := H
 have A5 := Aside0.mk A50
 clear A50
 replace H := Option.bind_eq_some_iff.mp H
 obtain ⟨t212, A60, H⟩ := H
 replace H : (if (wrap64 (t211 * t212)) < 0 then ((spec_l02Side.f a2_0 a2_1 a3_0 a3_1 a0_0 a0_1).bind fun t213 => ((spec_l02Side.f a2_0 a2_1 a3_0 a3_1 a1_0 a1_1).bind fun t214 => (some (decide ((wrap64 (t213 * t214)) < 0))))) else (some false)) = some r := H
 have A6 := Aside0.mk A60
 clear A60
 by_cases c7 : (wrap64 (t211 * t212)) < 0
 ·rw [if_pos c7] at H
  have c7b0 : decide ((wrap64 (t211 * t212)) < 0) = true := decide_eq_true c7
  clear c7
  replace H := Option.bind_eq_some_iff.mp H
  obtain ⟨t213, A80, H⟩ := H
  replace H : ((spec_l02Side.f a2_0 a2_1 a3_0 a3_1 a1_0 a1_1).bind fun t214 => (some (decide ((wrap64 (t213 * t214)) < 0)))) = some r := H
  have A8 := Aside0.mk A80
  clear A80
  replace H := Option.bind_eq_some_iff.mp H
  obtain ⟨t214, A90, H⟩ := H
  replace H : (some (decide ((wrap64 (t213 * t214)) < 0))) = some r := H
  have A9 := Aside0.mk A90
  clear A90
  obtain rfl := Option.some.inj H
  go_enter Try.func98, Try.ntmps98
  try go_wp2_with (first | ((with_reducible refine gate_dst (N := 4) rfl ?_); refine bx (cs := #[.int .i64 a0_0, .int .i64 a0_1]) (t := 48) ?_; intro gb207 hg w10 hbox hb; have n0_ := sb hb; have n1_ := Aside0.mk (hbox); have n2_ := zb hg; have n3_ := zb hg; clear HB; have HB := n0_; have BK207 := n1_; have GW207 := n2_; have GE207 := n3_; clear n0_ n1_ n2_ n3_; clear hb hbox hg) | ((with_reducible refine gate_dst (N := 5) rfl ?_); refine bx (cs := #[.int .i64 a1_0, .int .i64 a1_1]) (t := 48) ?_; intro gb208 hg w11 hbox hb; have n0_ := kb BK207 hb; have n1_ := sb hb; have n2_ := Aside0.mk (hbox); have n3_ := zb hg; have n4_ := zb hg; have n5_ := nl BK207 hg; have n6_ := ng BK207 hg; clear BK207; clear HB; have BK207 := n0_; have HB := n1_; have BK208 := n2_; have GW208 := n3_; have GE208 := n4_; have NB207_208 := n5_; have NB208_207 := n6_; clear n0_ n1_ n2_ n3_ n4_ n5_ n6_; clear hb hbox hg) | ((with_reducible refine gate_dst (N := 6) rfl ?_); refine bx (cs := #[.int .i64 a2_0, .int .i64 a2_1]) (t := 48) ?_; intro gb209 hg w12 hbox hb; have n0_ := kb BK207 hb; have n1_ := kb BK208 hb; have n2_ := sb hb; have n3_ := Aside0.mk (hbox); have n4_ := zb hg; have n5_ := zb hg; have n6_ := nl BK207 hg; have n7_ := ng BK207 hg; have n8_ := nl BK208 hg; have n9_ := ng BK208 hg; clear BK207; clear BK208; clear HB; have BK207 := n0_; have BK208 := n1_; have HB := n2_; have BK209 := n3_; have GW209 := n4_; have GE209 := n5_; have NB207_209 := n6_; have NB209_207 := n7_; have NB208_209 := n8_; have NB209_208 := n9_; clear n0_ n1_ n2_ n3_ n4_ n5_ n6_ n7_ n8_ n9_; clear hb hbox hg) | ((with_reducible refine gate_dst (N := 7) rfl ?_); refine bx (cs := #[.int .i64 a3_0, .int .i64 a3_1]) (t := 48) ?_; intro gb210 hg w13 hbox hb; have n0_ := kb BK207 hb; have n1_ := kb BK208 hb; have n2_ := kb BK209 hb; have n3_ := sb hb; have n4_ := Aside0.mk (hbox); have n5_ := zb hg; have n6_ := zb hg; have n7_ := nl BK207 hg; have n8_ := ng BK207 hg; have n9_ := nl BK208 hg; have n10_ := ng BK208 hg; have n11_ := nl BK209 hg; have n12_ := ng BK209 hg; clear BK207; clear BK208; clear BK209; clear HB; have BK207 := n0_; have BK208 := n1_; have BK209 := n2_; have HB := n3_; have BK210 := n4_; have GW210 := n5_; have GE210 := n6_; have NB207_210 := n7_; have NB210_207 := n8_; have NB208_210 := n9_; have NB210_208 := n10_; have NB209_210 := n11_; have NB210_209 := n12_; clear n0_ n1_ n2_ n3_ n4_ n5_ n6_ n7_ n8_ n9_ n10_ n11_ n12_; clear hb hbox hg))
  have n0_ := Aside0.mk (blk_drew BK207.out)
  have n1_ := Aside0.mk (blk_drew BK208.out)
  have n2_ := Aside0.mk (blk_drew BK209.out)
  have n3_ := Aside0.mk (blk_drew BK210.out)
  have n4_ := Aside0.mk (below_drew1 HB.out)
  clear BK207
  clear BK208
  clear BK209
  clear BK210
  clear HB
  have BK207 := n0_
  have BK208 := n1_
  have BK209 := n2_
  have BK210 := n3_
  have HB := n4_
  clear n0_ n1_ n2_ n3_ n4_
  refine start_ (n := 23) (S := fun w' => w'.cell? ⟨gb207, 0, none⟩ = some (.int .i64 a0_0) ∧ w'.cell? ⟨gb207, 1, none⟩ = some (.int .i64 a0_1) ∧ w'.cell? ⟨gb208, 0, none⟩ = some (.int .i64 a1_0) ∧ w'.cell? ⟨gb208, 1, none⟩ = some (.int .i64 a1_1) ∧ w'.cell? ⟨gb209, 0, none⟩ = some (.int .i64 a2_0) ∧ w'.cell? ⟨gb209, 1, none⟩ = some (.int .i64 a2_1) ∧ w'.cell? ⟨gb210, 0, none⟩ = some (.int .i64 a3_0) ∧ w'.cell? ⟨gb210, 1, none⟩ = some (.int .i64 a3_1)) (ds := []) #[fF,fF,fF,fF,fF,fF,fF,fF,fF,fF,fF,fF,fF,fF,fF,fF,fF,fF,fF,fF,fF,fF,fF] (by kernel_rfl) rfl rfl ⟨(blk_cell BK207.out 0).trans rfl, (blk_cell BK207.out 1).trans rfl, (blk_cell BK208.out 0).trans rfl, (blk_cell BK208.out 1).trans rfl, (blk_cell BK209.out 0).trans rfl, (blk_cell BK209.out 1).trans rfl, (blk_cell BK210.out 0).trans rfl, (blk_cell BK210.out 1).trans rfl⟩ (fun hHeld => ?_); refine with_tabW spec_l02Crosses.tab1 spec_l02Crosses.bits1 (fun HT_ HW_ => ?_)
  generalize w13.drew = w14 at BK207 BK208 BK209 BK210 HB hHeld ⊢
  refine tk 0 9 HT_ HW_ hHeld ?_
  refine tk 1 10 HT_ HW_ hHeld ?_
  refine tk 2 11 HT_ HW_ hHeld ?_
  refine tk 4 13 HT_ HW_ hHeld ?_
  refine tk 5 14 HT_ HW_ hHeld ?_
  refine tk 6 15 HT_ HW_ hHeld ?_
  refine on 3 12 HT_ (fun K hK => ?_)
  refine goes_ Try.func80 (by kernel_rfl) rfl #[.agg #[.int .i64 a0_0, .int .i64 a0_1], .agg #[.int .i64 a1_0, .int .i64 a1_1], .agg #[.int .i64 a2_0, .int .i64 a2_1]] (by rfl) rfl rfl (by (try simp only [List.map_toArray, List.map_cons, List.map_nil]); first | done | rfl | (simp only [List.length_drop, List.length_take]; rfl)) ?_
  with_reducible refine (spec_l02Side.calls a0_0 a0_1 a1_0 a1_1 a2_0 a2_1 t211 _ A5.out).mono ?_
  rintro e w15 ⟨rfl, hb⟩
  refine ⟨_, rfl, ?_⟩
  have n0_ := kb BK207 hb
  have n1_ := kb BK208 hb
  have n2_ := kb BK209 hb
  have n3_ := kb BK210 hb
  have n4_ := sb hb
  clear BK207
  clear BK208
  clear BK209
  clear BK210
  clear HB
  have BK207 := n0_
  have BK208 := n1_
  have BK209 := n2_
  have BK210 := n3_
  have HB := n4_
  clear n0_ n1_ n2_ n3_ n4_
  (try clear hb)
  (try clear hb2)
  (try clear hk)
  (try clear hi)
  refine hK.out _ _ ⟨(blk_cell BK207.out 0).trans rfl, (blk_cell BK207.out 1).trans rfl, (blk_cell BK208.out 0).trans rfl, (blk_cell BK208.out 1).trans rfl, (blk_cell BK209.out 0).trans rfl, (blk_cell BK209.out 1).trans rfl, (blk_cell BK210.out 0).trans rfl, (blk_cell BK210.out 1).trans rfl⟩ (fun hHeld => ?_)
  clear hK K
  refine norm_ (a' := ?_) ?_ ?_
  rotate_left
  ·show Act.put _ (some 12) _ = _
   simp only [Act.put, List.setIfInBounds_toArray, List.set_cons_zero, List.set_cons_succ, i64_w, i32_w]
   rfl
  refine on 7 16 HT_ (fun K hK => ?_)
  refine goes_ Try.func80 (by kernel_rfl) rfl #[.agg #[.int .i64 a0_0, .int .i64 a0_1], .agg #[.int .i64 a1_0, .int .i64 a1_1], .agg #[.int .i64 a3_0, .int .i64 a3_1]] (by rfl) rfl rfl (by (try simp only [List.map_toArray, List.map_cons, List.map_nil]); first | done | rfl | (simp only [List.length_drop, List.length_take]; rfl)) ?_
  with_reducible refine (spec_l02Side.calls a0_0 a0_1 a1_0 a1_1 a3_0 a3_1 t212 _ A6.out).mono ?_
  rintro e w16 ⟨rfl, hb⟩
  refine ⟨_, rfl, ?_⟩
  have n0_ := kb BK207 hb
  have n1_ := kb BK208 hb
  have n2_ := kb BK209 hb
  have n3_ := kb BK210 hb
  have n4_ := sb hb
  clear BK207
  clear BK208
  clear BK209
  clear BK210
  clear HB
  have BK207 := n0_
  have BK208 := n1_
  have BK209 := n2_
  have BK210 := n3_
  have HB := n4_
  clear n0_ n1_ n2_ n3_ n4_
  (try clear hb)
  (try clear hb2)
  (try clear hk)
  (try clear hi)
  refine hK.out _ _ ⟨(blk_cell BK207.out 0).trans rfl, (blk_cell BK207.out 1).trans rfl, (blk_cell BK208.out 0).trans rfl, (blk_cell BK208.out 1).trans rfl, (blk_cell BK209.out 0).trans rfl, (blk_cell BK209.out 1).trans rfl, (blk_cell BK210.out 0).trans rfl, (blk_cell BK210.out 1).trans rfl⟩ (fun hHeld => ?_)
  clear hK K
  refine norm_ (a' := ?_) ?_ ?_
  rotate_left
  ·show Act.put _ (some 16) _ = _
   simp only [Act.put, List.setIfInBounds_toArray, List.set_cons_zero, List.set_cons_succ, i64_w, i32_w]
   rfl
  refine pu 8 17 HT_ ?_
  refine pu 9 18 HT_ ?_
  refine pu 10 19 HT_ ?_
  refine tk 11 20 HT_ HW_ hHeld ?_
  refine tk 12 21 HT_ HW_ hHeld ?_
  refine tk 13 22 HT_ HW_ hHeld ?_
  refine tk 15 24 HT_ HW_ hHeld ?_
  refine tk 16 25 HT_ HW_ hHeld ?_
  refine tk 17 26 HT_ HW_ hHeld ?_
  refine on 14 23 HT_ (fun K hK => ?_)
  refine goes_ Try.func80 (by kernel_rfl) rfl #[.agg #[.int .i64 a2_0, .int .i64 a2_1], .agg #[.int .i64 a3_0, .int .i64 a3_1], .agg #[.int .i64 a0_0, .int .i64 a0_1]] (by rfl) rfl rfl (by (try simp only [List.map_toArray, List.map_cons, List.map_nil]); first | done | rfl | (simp only [List.length_drop, List.length_take]; rfl)) ?_
  with_reducible refine (spec_l02Side.calls a2_0 a2_1 a3_0 a3_1 a0_0 a0_1 t213 _ A8.out).mono ?_
  rintro e w17 ⟨rfl, hb⟩
  refine ⟨_, rfl, ?_⟩
  have n0_ := kb BK207 hb
  have n1_ := kb BK208 hb
  have n2_ := kb BK209 hb
  have n3_ := kb BK210 hb
  have n4_ := sb hb
  clear BK207
  clear BK208
  clear BK209
  clear BK210
  clear HB
  have BK207 := n0_
  have BK208 := n1_
  have BK209 := n2_
  have BK210 := n3_
  have HB := n4_
  clear n0_ n1_ n2_ n3_ n4_
  (try clear hb)
  (try clear hb2)
  (try clear hk)
  (try clear hi)
  refine hK.out _ _ ⟨(blk_cell BK207.out 0).trans rfl, (blk_cell BK207.out 1).trans rfl, (blk_cell BK208.out 0).trans rfl, (blk_cell BK208.out 1).trans rfl, (blk_cell BK209.out 0).trans rfl, (blk_cell BK209.out 1).trans rfl, (blk_cell BK210.out 0).trans rfl, (blk_cell BK210.out 1).trans rfl⟩ (fun hHeld => ?_)
  clear hK K
  refine norm_ (a' := ?_) ?_ ?_
  rotate_left
  ·show Act.put _ (some 23) _ = _
   simp only [Act.put, List.setIfInBounds_toArray, List.set_cons_zero, List.set_cons_succ, i64_w, i32_w]
   rfl
  refine on 18 27 HT_ (fun K hK => ?_)
  refine goes_ Try.func80 (by kernel_rfl) rfl #[.agg #[.int .i64 a2_0, .int .i64 a2_1], .agg #[.int .i64 a3_0, .int .i64 a3_1], .agg #[.int .i64 a1_0, .int .i64 a1_1]] (by rfl) rfl rfl (by (try simp only [List.map_toArray, List.map_cons, List.map_nil]); first | done | rfl | (simp only [List.length_drop, List.length_take]; rfl)) ?_
  with_reducible refine (spec_l02Side.calls a2_0 a2_1 a3_0 a3_1 a1_0 a1_1 t214 _ A9.out).mono ?_
  rintro e w18 ⟨rfl, hb⟩
  refine ⟨_, rfl, ?_⟩
  have n0_ := kb BK207 hb
  have n1_ := kb BK208 hb
  have n2_ := kb BK209 hb
  have n3_ := kb BK210 hb
  have n4_ := sb hb
  clear BK207
  clear BK208
  clear BK209
  clear BK210
  clear HB
  have BK207 := n0_
  have BK208 := n1_
  have BK209 := n2_
  have BK210 := n3_
  have HB := n4_
  clear n0_ n1_ n2_ n3_ n4_
  (try clear hb)
  (try clear hb2)
  (try clear hk)
  (try clear hi)
  refine hK.out _ _ ⟨(blk_cell BK207.out 0).trans rfl, (blk_cell BK207.out 1).trans rfl, (blk_cell BK208.out 0).trans rfl, (blk_cell BK208.out 1).trans rfl, (blk_cell BK209.out 0).trans rfl, (blk_cell BK209.out 1).trans rfl, (blk_cell BK210.out 0).trans rfl, (blk_cell BK210.out 1).trans rfl⟩ (fun hHeld => ?_)
  clear hK K
  refine norm_ (a' := ?_) ?_ ?_
  rotate_left
  ·show Act.put _ (some 27) _ = _
   simp only [Act.put, List.setIfInBounds_toArray, List.set_cons_zero, List.set_cons_succ, i64_w, i32_w]
   rfl
  refine pu 19 28 HT_ ?_
  refine pu 20 29 HT_ ?_
  refine pu 21 30 HT_ ?_
  refine pu 22 8 HT_ ?_
  refine done_ (done_of HT_.out (by kernel_rfl)) ?_
  try go_wp2
  go_ret
  exact ⟨by first | rfl | (simp [errW_none, errW_some] <;> rfl) | (simp [*, errW_none, errW_some] <;> rfl), by repeat (first | (with_reducible first | exact HB.out | apply below_alloc | apply pw_below_drewN | apply below_drew1 | refine below_set ?_ GE207.out | refine below_set ?_ GE208.out | refine below_set ?_ GE209.out | refine below_set ?_ GE210.out) | exact HB.out)⟩
 ·rw [if_neg c7] at H
  have c7b0 : decide ((wrap64 (t211 * t212)) < 0) = false := decide_eq_false c7
  clear c7
  obtain rfl := Option.some.inj H
  go_enter Try.func98, Try.ntmps98
  try go_wp2_with (first | ((with_reducible refine gate_dst (N := 4) rfl ?_); refine bx (cs := #[.int .i64 a0_0, .int .i64 a0_1]) (t := 48) ?_; intro gb207 hg w19 hbox hb; have n0_ := sb hb; have n1_ := Aside0.mk (hbox); have n2_ := zb hg; have n3_ := zb hg; clear HB; have HB := n0_; have BK207 := n1_; have GW207 := n2_; have GE207 := n3_; clear n0_ n1_ n2_ n3_; clear hb hbox hg) | ((with_reducible refine gate_dst (N := 5) rfl ?_); refine bx (cs := #[.int .i64 a1_0, .int .i64 a1_1]) (t := 48) ?_; intro gb208 hg w20 hbox hb; have n0_ := kb BK207 hb; have n1_ := sb hb; have n2_ := Aside0.mk (hbox); have n3_ := zb hg; have n4_ := zb hg; have n5_ := nl BK207 hg; have n6_ := ng BK207 hg; clear BK207; clear HB; have BK207 := n0_; have HB := n1_; have BK208 := n2_; have GW208 := n3_; have GE208 := n4_; have NB207_208 := n5_; have NB208_207 := n6_; clear n0_ n1_ n2_ n3_ n4_ n5_ n6_; clear hb hbox hg) | ((with_reducible refine gate_dst (N := 6) rfl ?_); refine bx (cs := #[.int .i64 a2_0, .int .i64 a2_1]) (t := 48) ?_; intro gb209 hg w21 hbox hb; have n0_ := kb BK207 hb; have n1_ := kb BK208 hb; have n2_ := sb hb; have n3_ := Aside0.mk (hbox); have n4_ := zb hg; have n5_ := zb hg; have n6_ := nl BK207 hg; have n7_ := ng BK207 hg; have n8_ := nl BK208 hg; have n9_ := ng BK208 hg; clear BK207; clear BK208; clear HB; have BK207 := n0_; have BK208 := n1_; have HB := n2_; have BK209 := n3_; have GW209 := n4_; have GE209 := n5_; have NB207_209 := n6_; have NB209_207 := n7_; have NB208_209 := n8_; have NB209_208 := n9_; clear n0_ n1_ n2_ n3_ n4_ n5_ n6_ n7_ n8_ n9_; clear hb hbox hg) | ((with_reducible refine gate_dst (N := 7) rfl ?_); refine bx (cs := #[.int .i64 a3_0, .int .i64 a3_1]) (t := 48) ?_; intro gb210 hg w22 hbox hb; have n0_ := kb BK207 hb; have n1_ := kb BK208 hb; have n2_ := kb BK209 hb; have n3_ := sb hb; have n4_ := Aside0.mk (hbox); have n5_ := zb hg; have n6_ := zb hg; have n7_ := nl BK207 hg; have n8_ := ng BK207 hg; have n9_ := nl BK208 hg; have n10_ := ng BK208 hg; have n11_ := nl BK209 hg; have n12_ := ng BK209 hg; clear BK207; clear BK208; clear BK209; clear HB; have BK207 := n0_; have BK208 := n1_; have BK209 := n2_; have HB := n3_; have BK210 := n4_; have GW210 := n5_; have GE210 := n6_; have NB207_210 := n7_; have NB210_207 := n8_; have NB208_210 := n9_; have NB210_208 := n10_; have NB209_210 := n11_; have NB210_209 := n12_; clear n0_ n1_ n2_ n3_ n4_ n5_ n6_ n7_ n8_ n9_ n10_ n11_ n12_; clear hb hbox hg))
  have n0_ := Aside0.mk (blk_drew BK207.out)
  have n1_ := Aside0.mk (blk_drew BK208.out)
  have n2_ := Aside0.mk (blk_drew BK209.out)
  have n3_ := Aside0.mk (blk_drew BK210.out)
  have n4_ := Aside0.mk (below_drew1 HB.out)
  clear BK207
  clear BK208
  clear BK209
  clear BK210
  clear HB
  have BK207 := n0_
  have BK208 := n1_
  have BK209 := n2_
  have BK210 := n3_
  have HB := n4_
  clear n0_ n1_ n2_ n3_ n4_
  refine start_ (n := 23) (S := fun w' => w'.cell? ⟨gb207, 0, none⟩ = some (.int .i64 a0_0) ∧ w'.cell? ⟨gb207, 1, none⟩ = some (.int .i64 a0_1) ∧ w'.cell? ⟨gb208, 0, none⟩ = some (.int .i64 a1_0) ∧ w'.cell? ⟨gb208, 1, none⟩ = some (.int .i64 a1_1) ∧ w'.cell? ⟨gb209, 0, none⟩ = some (.int .i64 a2_0) ∧ w'.cell? ⟨gb209, 1, none⟩ = some (.int .i64 a2_1) ∧ w'.cell? ⟨gb210, 0, none⟩ = some (.int .i64 a3_0) ∧ w'.cell? ⟨gb210, 1, none⟩ = some (.int .i64 a3_1)) (ds := []) #[fF,fF,fF,fF,fF,fF,fF,fF,fF,fF,fF,fF,fF,fF,fF,fF,fF,fF,fF,fF,fF,fF,fF] (by kernel_rfl) rfl rfl ⟨(blk_cell BK207.out 0).trans rfl, (blk_cell BK207.out 1).trans rfl, (blk_cell BK208.out 0).trans rfl, (blk_cell BK208.out 1).trans rfl, (blk_cell BK209.out 0).trans rfl, (blk_cell BK209.out 1).trans rfl, (blk_cell BK210.out 0).trans rfl, (blk_cell BK210.out 1).trans rfl⟩ (fun hHeld => ?_); refine with_tabW spec_l02Crosses.tab1 spec_l02Crosses.bits1 (fun HT_ HW_ => ?_)
  generalize w22.drew = w23 at BK207 BK208 BK209 BK210 HB hHeld ⊢
  refine tk 0 9 HT_ HW_ hHeld ?_
  refine tk 1 10 HT_ HW_ hHeld ?_
  refine tk 2 11 HT_ HW_ hHeld ?_
  refine tk 4 13 HT_ HW_ hHeld ?_
  refine tk 5 14 HT_ HW_ hHeld ?_
  refine tk 6 15 HT_ HW_ hHeld ?_
  refine on 3 12 HT_ (fun K hK => ?_)
  refine goes_ Try.func80 (by kernel_rfl) rfl #[.agg #[.int .i64 a0_0, .int .i64 a0_1], .agg #[.int .i64 a1_0, .int .i64 a1_1], .agg #[.int .i64 a2_0, .int .i64 a2_1]] (by rfl) rfl rfl (by (try simp only [List.map_toArray, List.map_cons, List.map_nil]); first | done | rfl | (simp only [List.length_drop, List.length_take]; rfl)) ?_
  with_reducible refine (spec_l02Side.calls a0_0 a0_1 a1_0 a1_1 a2_0 a2_1 t211 _ A5.out).mono ?_
  rintro e w24 ⟨rfl, hb⟩
  refine ⟨_, rfl, ?_⟩
  have n0_ := kb BK207 hb
  have n1_ := kb BK208 hb
  have n2_ := kb BK209 hb
  have n3_ := kb BK210 hb
  have n4_ := sb hb
  clear BK207
  clear BK208
  clear BK209
  clear BK210
  clear HB
  have BK207 := n0_
  have BK208 := n1_
  have BK209 := n2_
  have BK210 := n3_
  have HB := n4_
  clear n0_ n1_ n2_ n3_ n4_
  (try clear hb)
  (try clear hb2)
  (try clear hk)
  (try clear hi)
  refine hK.out _ _ ⟨(blk_cell BK207.out 0).trans rfl, (blk_cell BK207.out 1).trans rfl, (blk_cell BK208.out 0).trans rfl, (blk_cell BK208.out 1).trans rfl, (blk_cell BK209.out 0).trans rfl, (blk_cell BK209.out 1).trans rfl, (blk_cell BK210.out 0).trans rfl, (blk_cell BK210.out 1).trans rfl⟩ (fun hHeld => ?_)
  clear hK K
  refine norm_ (a' := ?_) ?_ ?_
  rotate_left
  ·show Act.put _ (some 12) _ = _
   simp only [Act.put, List.setIfInBounds_toArray, List.set_cons_zero, List.set_cons_succ, i64_w, i32_w]
   rfl
  refine on 7 16 HT_ (fun K hK => ?_)
  refine goes_ Try.func80 (by kernel_rfl) rfl #[.agg #[.int .i64 a0_0, .int .i64 a0_1], .agg #[.int .i64 a1_0, .int .i64 a1_1], .agg #[.int .i64 a3_0, .int .i64 a3_1]] (by rfl) rfl rfl (by (try simp only [List.map_toArray, List.map_cons, List.map_nil]); first | done | rfl | (simp only [List.length_drop, List.length_take]; rfl)) ?_
  with_reducible refine (spec_l02Side.calls a0_0 a0_1 a1_0 a1_1 a3_0 a3_1 t212 _ A6.out).mono ?_
  rintro e w25 ⟨rfl, hb⟩
  refine ⟨_, rfl, ?_⟩
  have n0_ := kb BK207 hb
  have n1_ := kb BK208 hb
  have n2_ := kb BK209 hb
  have n3_ := kb BK210 hb
  have n4_ := sb hb
  clear BK207
  clear BK208
  clear BK209
  clear BK210
  clear HB
  have BK207 := n0_
  have BK208 := n1_
  have BK209 := n2_
  have BK210 := n3_
  have HB := n4_
  clear n0_ n1_ n2_ n3_ n4_
  (try clear hb)
  (try clear hb2)
  (try clear hk)
  (try clear hi)
  refine hK.out _ _ ⟨(blk_cell BK207.out 0).trans rfl, (blk_cell BK207.out 1).trans rfl, (blk_cell BK208.out 0).trans rfl, (blk_cell BK208.out 1).trans rfl, (blk_cell BK209.out 0).trans rfl, (blk_cell BK209.out 1).trans rfl, (blk_cell BK210.out 0).trans rfl, (blk_cell BK210.out 1).trans rfl⟩ (fun hHeld => ?_)
  clear hK K
  refine norm_ (a' := ?_) ?_ ?_
  rotate_left
  ·show Act.put _ (some 16) _ = _
   simp only [Act.put, List.setIfInBounds_toArray, List.set_cons_zero, List.set_cons_succ, i64_w, i32_w]
   rfl
  refine pu 8 17 HT_ ?_
  refine pu 9 18 HT_ ?_
  refine pu 10 19 HT_ ?_
  refine pd 11 20 HT_ ?_
  refine pd 12 21 HT_ ?_
  refine pd 13 22 HT_ ?_
  refine pd 14 23 HT_ ?_
  refine pd 15 24 HT_ ?_
  refine pd 16 25 HT_ ?_
  refine pd 17 26 HT_ ?_
  refine pd 18 27 HT_ ?_
  refine pd 19 28 HT_ ?_
  refine pd 20 29 HT_ ?_
  refine pu 21 30 HT_ ?_
  refine pu 22 8 HT_ ?_
  refine done_ (done_of HT_.out (by kernel_rfl)) ?_
  try go_wp2
  go_ret
  exact ⟨by first | rfl | (simp [errW_none, errW_some] <;> rfl) | (simp [*, errW_none, errW_some] <;> rfl), by repeat (first | (with_reducible first | exact HB.out | apply below_alloc | apply pw_below_drewN | apply below_drew1 | refine below_set ?_ GE207.out | refine below_set ?_ GE208.out | refine below_set ?_ GE209.out | refine below_set ?_ GE210.out) | exact HB.out)⟩
def spec_l03Meet.f (a0_0 : Int) (a0_1 : Int) (a1_0 : Int) (a1_1 : Int) (a2_0 : Int) (a2_1 : Int) (a3_0 : Int) (a3_1 : Int) : Option (Bool) := (spec_l02Crosses.f a0_0 a0_1 a1_0 a1_1 a2_0 a2_1 a3_0 a3_1).bind fun t219 => (if t219 = true then (some true) else ((spec_l02On.f a0_0 a0_1 a1_0 a1_1 a2_0 a2_1).bind fun t220 => (if t220 = true then (some true) else ((spec_l02On.f a0_0 a0_1 a1_0 a1_1 a3_0 a3_1).bind fun t221 => (if t221 = true then (some true) else ((spec_l02On.f a2_0 a2_1 a3_0 a3_1 a0_0 a0_1).bind fun t222 => (if t222 = true then (some true) else ((spec_l02On.f a2_0 a2_1 a3_0 a3_1 a1_0 a1_1).bind fun t223 => (some t223)))))))))
set_option maxHeartbeats 8000000 in
set_option maxRecDepth 100000 in
theorem spec_l03Meet.calls (a0_0 : Int) (a0_1 : Int) (a1_0 : Int) (a1_1 : Int) (a2_0 : Int) (a2_1 : Int) (a3_0 : Int) (a3_1 : Int) (r : Bool) (w : World) (h : spec_l03Meet.f a0_0 a0_1 a1_0 a1_1 a2_0 a2_1 a3_0 a3_1 = some r) :
  Calls Try.prog 90 #[.agg #[.int .i64 a0_0, .int .i64 a0_1], .agg #[.int .i64 a1_0, .int .i64 a1_1], .agg #[.int .i64 a2_0, .int .i64 a2_1], .agg #[.int .i64 a3_0, .int .i64 a3_1]] w fun e w' => e = .returned (.bool r) ∧ Below w.heap.size w w' := by
 have hu48 := Try.underlying48
 have HB := Aside0.mk (Below.refl w.heap.size w)
 have H : ((spec_l02Crosses.f a0_0 a0_1 a1_0 a1_1 a2_0 a2_1 a3_0 a3_1).bind fun t219 => (if t219 = true then (some true) else ((spec_l02On.f a0_0 a0_1 a1_0 a1_1 a2_0 a2_1).bind fun t220 => (if t220 = true then (some true) else ((spec_l02On.f a0_0 a0_1 a1_0 a1_1 a3_0 a3_1).bind fun t221 => (if t221 = true then (some true) else ((spec_l02On.f a2_0 a2_1 a3_0 a3_1 a0_0 a0_1).bind fun t222 => (if t222 = true then (some true) else ((spec_l02On.f a2_0 a2_1 a3_0 a3_1 a1_0 a1_1).bind fun t223 => (some t223)))))))))) = some r := h
 clear h
 replace H := Option.bind_eq_some_iff.mp H
 obtain ⟨t219, A50, H⟩ := H
 replace H : (if t219 = true then (some true) else ((spec_l02On.f a0_0 a0_1 a1_0 a1_1 a2_0 a2_1).bind fun t220 => (if t220 = true then (some true) else ((spec_l02On.f a0_0 a0_1 a1_0 a1_1 a3_0 a3_1).bind fun t221 => (if t221 = true then (some true) else ((spec_l02On.f a2_0 a2_1 a3_0 a3_1 a0_0 a0_1).bind fun t222 => (if t222 = true then (some true) else ((spec_l02On.f a2_0 a2_1 a3_0 a3_1 a1_0 a1_1).bind fun t223 => (some t223))))))))) = some r := H
 have A5 := Aside0.mk A50
 clear A50
 by_cases c6 : t219 = true
 ·subst c6
  have H1 : (some true) = some r := by rw [if_pos rfl] at H; exact H
  clear H
  have H := H1
  clear H1
  obtain rfl := Option.some.inj H
  go_enter Try.func90, Try.ntmps90
  go_wp2_with (first | ((with_reducible refine gate_dst (N := 4) rfl ?_); refine bx (cs := #[.int .i64 a0_0, .int .i64 a0_1]) (t := 48) ?_; intro gb215 hg w7 hbox hb; have n0_ := sb hb; have n1_ := Aside0.mk (hbox); have n2_ := zb hg; have n3_ := zb hg; clear HB; have HB := n0_; have BK215 := n1_; have GW215 := n2_; have GE215 := n3_; clear n0_ n1_ n2_ n3_; clear hb hbox hg) | ((with_reducible refine gate_dst (N := 5) rfl ?_); refine bx (cs := #[.int .i64 a1_0, .int .i64 a1_1]) (t := 48) ?_; intro gb216 hg w8 hbox hb; have n0_ := kb BK215 hb; have n1_ := sb hb; have n2_ := Aside0.mk (hbox); have n3_ := zb hg; have n4_ := zb hg; have n5_ := nl BK215 hg; have n6_ := ng BK215 hg; clear BK215; clear HB; have BK215 := n0_; have HB := n1_; have BK216 := n2_; have GW216 := n3_; have GE216 := n4_; have NB215_216 := n5_; have NB216_215 := n6_; clear n0_ n1_ n2_ n3_ n4_ n5_ n6_; clear hb hbox hg) | ((with_reducible refine gate_dst (N := 6) rfl ?_); refine bx (cs := #[.int .i64 a2_0, .int .i64 a2_1]) (t := 48) ?_; intro gb217 hg w9 hbox hb; have n0_ := kb BK215 hb; have n1_ := kb BK216 hb; have n2_ := sb hb; have n3_ := Aside0.mk (hbox); have n4_ := zb hg; have n5_ := zb hg; have n6_ := nl BK215 hg; have n7_ := ng BK215 hg; have n8_ := nl BK216 hg; have n9_ := ng BK216 hg; clear BK215; clear BK216; clear HB; have BK215 := n0_; have BK216 := n1_; have HB := n2_; have BK217 := n3_; have GW217 := n4_; have GE217 := n5_; have NB215_217 := n6_; have NB217_215 := n7_; have NB216_217 := n8_; have NB217_216 := n9_; clear n0_ n1_ n2_ n3_ n4_ n5_ n6_ n7_ n8_ n9_; clear hb hbox hg) | ((with_reducible refine gate_dst (N := 7) rfl ?_); refine bx (cs := #[.int .i64 a3_0, .int .i64 a3_1]) (t := 48) ?_; intro gb218 hg w10 hbox hb; have n0_ := kb BK215 hb; have n1_ := kb BK216 hb; have n2_ := kb BK217 hb; have n3_ := sb hb; have n4_ := Aside0.mk (hbox); have n5_ := zb hg; have n6_ := zb hg; have n7_ := nl BK215 hg; have n8_ := ng BK215 hg; have n9_ := nl BK216 hg; have n10_ := ng BK216 hg; have n11_ := nl BK217 hg; have n12_ := ng BK217 hg; clear BK215; clear BK216; clear BK217; clear HB; have BK215 := n0_; have BK216 := n1_; have BK217 := n2_; have HB := n3_; have BK218 := n4_; have GW218 := n5_; have GE218 := n6_; have NB215_218 := n7_; have NB218_215 := n8_; have NB216_218 := n9_; have NB218_216 := n10_; have NB217_218 := n11_; have NB218_217 := n12_; clear n0_ n1_ n2_ n3_ n4_ n5_ n6_ n7_ n8_ n9_ n10_ n11_ n12_; clear hb hbox hg; have hnb11 := NB215_216.out; have hnc11 := NB216_215.out; have hnb12 := NB215_217.out; have hnc12 := NB217_215.out; have hnb13 := NB215_218.out; have hnc13 := NB218_215.out; have hcz14_0 := ck BK215 0; have hcz14_1 := ck BK215 1; have hfz14_0 := blk_frozen BK215.out 0; have hfz14_1 := blk_frozen BK215.out 1; have hnb15 := NB216_217.out; have hnc15 := NB217_216.out; have hnb16 := NB216_218.out; have hnc16 := NB218_216.out; have hcz17_0 := ck BK216 0; have hcz17_1 := ck BK216 1; have hfz17_0 := blk_frozen BK216.out 0; have hfz17_1 := blk_frozen BK216.out 1; have hnb18 := NB217_218.out; have hnc18 := NB218_217.out; have hcz19_0 := ck BK217 0; have hcz19_1 := ck BK217 1; have hfz19_0 := blk_frozen BK217.out 0; have hfz19_1 := blk_frozen BK217.out 1; have hcz20_0 := ck BK218 0; have hcz20_1 := ck BK218 1; have hfz20_0 := blk_frozen BK218.out 0; have hfz20_1 := blk_frozen BK218.out 1) | ((with_reducible refine gate_callee (f := 98) rfl ?_); refine goesL_ (some 13) rfl rfl Try.func98 (by kernel_rfl) rfl #[.agg #[.int .i64 a0_0, .int .i64 a0_1], .agg #[.int .i64 a1_0, .int .i64 a1_1], .agg #[.int .i64 a2_0, .int .i64 a2_1], .agg #[.int .i64 a3_0, .int .i64 a3_1]] rfl (by (try simp only [List.map_toArray, List.map_cons, List.map_nil]); first | done | rfl | (simp only [List.length_drop, List.length_take]; rfl)) ?_; (with_reducible refine (spec_l02Crosses.calls a0_0 a0_1 a1_0 a1_1 a2_0 a2_1 a3_0 a3_1 true _ A5.out).mono ?_); rintro e w21 ⟨rfl, hb⟩; refine ⟨_, rfl, ?_⟩; have n0_ := kb BK215 hb; have n1_ := kb BK216 hb; have n2_ := kb BK217 hb; have n3_ := kb BK218 hb; have n4_ := sb hb; clear BK215; clear BK216; clear BK217; clear BK218; clear HB; have BK215 := n0_; have BK216 := n1_; have BK217 := n2_; have BK218 := n3_; have HB := n4_; clear n0_ n1_ n2_ n3_ n4_; (try clear hb); (try clear hb2); (try clear hk); (try clear hi)))
  go_ret
  exact ⟨by first | rfl | (simp [errW_none, errW_some] <;> rfl) | (simp [*, errW_none, errW_some] <;> rfl), by repeat (first | (with_reducible first | exact HB.out | apply below_alloc | apply pw_below_drewN | apply below_drew1 | refine below_set ?_ GE215.out | refine below_set ?_ GE216.out | refine below_set ?_ GE217.out | refine below_set ?_ GE218.out) | exact HB.out)⟩
 ·replace c6 := Bool.eq_false_iff.mpr c6
  subst c6
  have H1 : ((spec_l02On.f a0_0 a0_1 a1_0 a1_1 a2_0 a2_1).bind fun t220 => (if t220 = true then (some true) else ((spec_l02On.f a0_0 a0_1 a1_0 a1_1 a3_0 a3_1).bind fun t221 => (if t221 = true then (some true) else ((spec_l02On.f a2_0 a2_1 a3_0 a3_1 a0_0 a0_1).bind fun t222 => (if t222 = true then (some true) else ((spec_l02On.f a2_0 a2_1 a3_0 a3_1 a1_0 a1_1).bind fun t223 => (some t223)))))))) = some r := by rw [if_neg (show ¬ (false = true) by decide)] at H; exact H
  clear H
  have H := H1
  clear H1
  replace H := Option.bind_eq_some_iff.mp H
  obtain ⟨t220, A220, H⟩ := H
  replace H : (if t220 = true then (some true) else ((spec_l02On.f a0_0 a0_1 a1_0 a1_1 a3_0 a3_1).bind fun t221 => (if t221 = true then (some true) else ((spec_l02On.f a2_0 a2_1 a3_0 a3_1 a0_0 a0_1).bind fun t222 => (if t222 = true then (some true) else ((spec_l02On.f a2_0 a2_1 a3_0 a3_1 a1_0 a1_1).bind fun t223 => (some t223))))))) = some r := H
  have A22 := Aside0.mk A220
  clear A220
  by_cases c23 : t220 = true
  ·subst c23
   have H1 : (some true) = some r := by rw [if_pos rfl] at H; exact H
   clear H
   have H := H1
   clear H1
   obtain rfl := Option.some.inj H
   go_enter Try.func90, Try.ntmps90
   go_wp2_with (first | ((with_reducible refine gate_dst (N := 4) rfl ?_); refine bx (cs := #[.int .i64 a0_0, .int .i64 a0_1]) (t := 48) ?_; intro gb215 hg w24 hbox hb; have n0_ := sb hb; have n1_ := Aside0.mk (hbox); have n2_ := zb hg; have n3_ := zb hg; clear HB; have HB := n0_; have BK215 := n1_; have GW215 := n2_; have GE215 := n3_; clear n0_ n1_ n2_ n3_; clear hb hbox hg) | ((with_reducible refine gate_dst (N := 5) rfl ?_); refine bx (cs := #[.int .i64 a1_0, .int .i64 a1_1]) (t := 48) ?_; intro gb216 hg w25 hbox hb; have n0_ := kb BK215 hb; have n1_ := sb hb; have n2_ := Aside0.mk (hbox); have n3_ := zb hg; have n4_ := zb hg; have n5_ := nl BK215 hg; have n6_ := ng BK215 hg; clear BK215; clear HB; have BK215 := n0_; have HB := n1_; have BK216 := n2_; have GW216 := n3_; have GE216 := n4_; have NB215_216 := n5_; have NB216_215 := n6_; clear n0_ n1_ n2_ n3_ n4_ n5_ n6_; clear hb hbox hg) | ((with_reducible refine gate_dst (N := 6) rfl ?_); refine bx (cs := #[.int .i64 a2_0, .int .i64 a2_1]) (t := 48) ?_; intro gb217 hg w26 hbox hb; have n0_ := kb BK215 hb; have n1_ := kb BK216 hb; have n2_ := sb hb; have n3_ := Aside0.mk (hbox); have n4_ := zb hg; have n5_ := zb hg; have n6_ := nl BK215 hg; have n7_ := ng BK215 hg; have n8_ := nl BK216 hg; have n9_ := ng BK216 hg; clear BK215; clear BK216; clear HB; have BK215 := n0_; have BK216 := n1_; have HB := n2_; have BK217 := n3_; have GW217 := n4_; have GE217 := n5_; have NB215_217 := n6_; have NB217_215 := n7_; have NB216_217 := n8_; have NB217_216 := n9_; clear n0_ n1_ n2_ n3_ n4_ n5_ n6_ n7_ n8_ n9_; clear hb hbox hg) | ((with_reducible refine gate_dst (N := 7) rfl ?_); refine bx (cs := #[.int .i64 a3_0, .int .i64 a3_1]) (t := 48) ?_; intro gb218 hg w27 hbox hb; have n0_ := kb BK215 hb; have n1_ := kb BK216 hb; have n2_ := kb BK217 hb; have n3_ := sb hb; have n4_ := Aside0.mk (hbox); have n5_ := zb hg; have n6_ := zb hg; have n7_ := nl BK215 hg; have n8_ := ng BK215 hg; have n9_ := nl BK216 hg; have n10_ := ng BK216 hg; have n11_ := nl BK217 hg; have n12_ := ng BK217 hg; clear BK215; clear BK216; clear BK217; clear HB; have BK215 := n0_; have BK216 := n1_; have BK217 := n2_; have HB := n3_; have BK218 := n4_; have GW218 := n5_; have GE218 := n6_; have NB215_218 := n7_; have NB218_215 := n8_; have NB216_218 := n9_; have NB218_216 := n10_; have NB217_218 := n11_; have NB218_217 := n12_; clear n0_ n1_ n2_ n3_ n4_ n5_ n6_ n7_ n8_ n9_ n10_ n11_ n12_; clear hb hbox hg; have hnb28 := NB215_216.out; have hnc28 := NB216_215.out; have hnb29 := NB215_217.out; have hnc29 := NB217_215.out; have hnb30 := NB215_218.out; have hnc30 := NB218_215.out; have hcz31_0 := ck BK215 0; have hcz31_1 := ck BK215 1; have hfz31_0 := blk_frozen BK215.out 0; have hfz31_1 := blk_frozen BK215.out 1; have hnb32 := NB216_217.out; have hnc32 := NB217_216.out; have hnb33 := NB216_218.out; have hnc33 := NB218_216.out; have hcz34_0 := ck BK216 0; have hcz34_1 := ck BK216 1; have hfz34_0 := blk_frozen BK216.out 0; have hfz34_1 := blk_frozen BK216.out 1; have hnb35 := NB217_218.out; have hnc35 := NB218_217.out; have hcz36_0 := ck BK217 0; have hcz36_1 := ck BK217 1; have hfz36_0 := blk_frozen BK217.out 0; have hfz36_1 := blk_frozen BK217.out 1; have hcz37_0 := ck BK218 0; have hcz37_1 := ck BK218 1; have hfz37_0 := blk_frozen BK218.out 0; have hfz37_1 := blk_frozen BK218.out 1) | ((with_reducible refine gate_callee (f := 98) rfl ?_); refine goesL_ (some 13) rfl rfl Try.func98 (by kernel_rfl) rfl #[.agg #[.int .i64 a0_0, .int .i64 a0_1], .agg #[.int .i64 a1_0, .int .i64 a1_1], .agg #[.int .i64 a2_0, .int .i64 a2_1], .agg #[.int .i64 a3_0, .int .i64 a3_1]] rfl (by (try simp only [List.map_toArray, List.map_cons, List.map_nil]); first | done | rfl | (simp only [List.length_drop, List.length_take]; rfl)) ?_; (with_reducible refine (spec_l02Crosses.calls a0_0 a0_1 a1_0 a1_1 a2_0 a2_1 a3_0 a3_1 false _ A5.out).mono ?_); rintro e w38 ⟨rfl, hb⟩; refine ⟨_, rfl, ?_⟩; have n0_ := kb BK215 hb; have n1_ := kb BK216 hb; have n2_ := kb BK217 hb; have n3_ := kb BK218 hb; have n4_ := sb hb; clear BK215; clear BK216; clear BK217; clear BK218; clear HB; have BK215 := n0_; have BK216 := n1_; have BK217 := n2_; have BK218 := n3_; have HB := n4_; clear n0_ n1_ n2_ n3_ n4_; (try clear hb); (try clear hb2); (try clear hk); (try clear hi); have hcz39_0 := ck BK215 0; have hcz39_1 := ck BK215 1; have hfz39_0 := blk_frozen BK215.out 0; have hfz39_1 := blk_frozen BK215.out 1; have hcz40_0 := ck BK216 0; have hcz40_1 := ck BK216 1; have hfz40_0 := blk_frozen BK216.out 0; have hfz40_1 := blk_frozen BK216.out 1; have hcz41_0 := ck BK217 0; have hcz41_1 := ck BK217 1; have hfz41_0 := blk_frozen BK217.out 0; have hfz41_1 := blk_frozen BK217.out 1) | (go_at_call 79; (with_reducible refine (spec_l02On.calls a0_0 a0_1 a1_0 a1_1 a2_0 a2_1 true _ A22.out).mono ?_); rintro e w42 ⟨rfl, hb⟩; have n0_ := kb BK215 hb; have n1_ := kb BK216 hb; have n2_ := kb BK217 hb; have n3_ := kb BK218 hb; have n4_ := sb hb; clear BK215; clear BK216; clear BK217; clear BK218; clear HB; have BK215 := n0_; have BK216 := n1_; have BK217 := n2_; have BK218 := n3_; have HB := n4_; clear n0_ n1_ n2_ n3_ n4_; (try clear hb); (try clear hb2); (try clear hk); (try clear hi)))
   go_ret
   exact ⟨by first | rfl | (simp [errW_none, errW_some] <;> rfl) | (simp [*, errW_none, errW_some] <;> rfl), by repeat (first | (with_reducible first | exact HB.out | apply below_alloc | apply pw_below_drewN | apply below_drew1 | refine below_set ?_ GE215.out | refine below_set ?_ GE216.out | refine below_set ?_ GE217.out | refine below_set ?_ GE218.out) | exact HB.out)⟩
  ·replace c23 := Bool.eq_false_iff.mpr c23
   subst c23
   have H1 : ((spec_l02On.f a0_0 a0_1 a1_0 a1_1 a3_0 a3_1).bind fun t221 => (if t221 = true then (some true) else ((spec_l02On.f a2_0 a2_1 a3_0 a3_1 a0_0 a0_1).bind fun t222 => (if t222 = true then (some true) else ((spec_l02On.f a2_0 a2_1 a3_0 a3_1 a1_0 a1_1).bind fun t223 => (some t223)))))) = some r := by rw [if_neg (show ¬ (false = true) by decide)] at H; exact H
   clear H
   have H := H1
   clear H1
   replace H := Option.bind_eq_some_iff.mp H
   obtain ⟨t221, A430, H⟩ := H
   replace H : (if t221 = true then (some true) else ((spec_l02On.f a2_0 a2_1 a3_0 a3_1 a0_0 a0_1).bind fun t222 => (if t222 = true then (some true) else ((spec_l02On.f a2_0 a2_1 a3_0 a3_1 a1_0 a1_1).bind fun t223 => (some t223))))) = some r := H
   have A43 := Aside0.mk A430
   clear A430
   by_cases c44 : t221 = true
   ·subst c44
    have H1 : (some true) = some r := by rw [if_pos rfl] at H; exact H
    clear H
    have H := H1
    clear H1
    obtain rfl := Option.some.inj H
    go_enter Try.func90, Try.ntmps90
    go_wp2_with (first | ((with_reducible refine gate_dst (N := 4) rfl ?_); refine bx (cs := #[.int .i64 a0_0, .int .i64 a0_1]) (t := 48) ?_; intro gb215 hg w45 hbox hb; have n0_ := sb hb; have n1_ := Aside0.mk (hbox); have n2_ := zb hg; have n3_ := zb hg; clear HB; have HB := n0_; have BK215 := n1_; have GW215 := n2_; have GE215 := n3_; clear n0_ n1_ n2_ n3_; clear hb hbox hg) | ((with_reducible refine gate_dst (N := 5) rfl ?_); refine bx (cs := #[.int .i64 a1_0, .int .i64 a1_1]) (t := 48) ?_; intro gb216 hg w46 hbox hb; have n0_ := kb BK215 hb; have n1_ := sb hb; have n2_ := Aside0.mk (hbox); have n3_ := zb hg; have n4_ := zb hg; have n5_ := nl BK215 hg; have n6_ := ng BK215 hg; clear BK215; clear HB; have BK215 := n0_; have HB := n1_; have BK216 := n2_; have GW216 := n3_; have GE216 := n4_; have NB215_216 := n5_; have NB216_215 := n6_; clear n0_ n1_ n2_ n3_ n4_ n5_ n6_; clear hb hbox hg) | ((with_reducible refine gate_dst (N := 6) rfl ?_); refine bx (cs := #[.int .i64 a2_0, .int .i64 a2_1]) (t := 48) ?_; intro gb217 hg w47 hbox hb; have n0_ := kb BK215 hb; have n1_ := kb BK216 hb; have n2_ := sb hb; have n3_ := Aside0.mk (hbox); have n4_ := zb hg; have n5_ := zb hg; have n6_ := nl BK215 hg; have n7_ := ng BK215 hg; have n8_ := nl BK216 hg; have n9_ := ng BK216 hg; clear BK215; clear BK216; clear HB; have BK215 := n0_; have BK216 := n1_; have HB := n2_; have BK217 := n3_; have GW217 := n4_; have GE217 := n5_; have NB215_217 := n6_; have NB217_215 := n7_; have NB216_217 := n8_; have NB217_216 := n9_; clear n0_ n1_ n2_ n3_ n4_ n5_ n6_ n7_ n8_ n9_; clear hb hbox hg) | ((with_reducible refine gate_dst (N := 7) rfl ?_); refine bx (cs := #[.int .i64 a3_0, .int .i64 a3_1]) (t := 48) ?_; intro gb218 hg w48 hbox hb; have n0_ := kb BK215 hb; have n1_ := kb BK216 hb; have n2_ := kb BK217 hb; have n3_ := sb hb; have n4_ := Aside0.mk (hbox); have n5_ := zb hg; have n6_ := zb hg; have n7_ := nl BK215 hg; have n8_ := ng BK215 hg; have n9_ := nl BK216 hg; have n10_ := ng BK216 hg; have n11_ := nl BK217 hg; have n12_ := ng BK217 hg; clear BK215; clear BK216; clear BK217; clear HB; have BK215 := n0_; have BK216 := n1_; have BK217 := n2_; have HB := n3_; have BK218 := n4_; have GW218 := n5_; have GE218 := n6_; have NB215_218 := n7_; have NB218_215 := n8_; have NB216_218 := n9_; have NB218_216 := n10_; have NB217_218 := n11_; have NB218_217 := n12_; clear n0_ n1_ n2_ n3_ n4_ n5_ n6_ n7_ n8_ n9_ n10_ n11_ n12_; clear hb hbox hg; have hnb49 := NB215_216.out; have hnc49 := NB216_215.out; have hnb50 := NB215_217.out; have hnc50 := NB217_215.out; have hnb51 := NB215_218.out; have hnc51 := NB218_215.out; have hcz52_0 := ck BK215 0; have hcz52_1 := ck BK215 1; have hfz52_0 := blk_frozen BK215.out 0; have hfz52_1 := blk_frozen BK215.out 1; have hnb53 := NB216_217.out; have hnc53 := NB217_216.out; have hnb54 := NB216_218.out; have hnc54 := NB218_216.out; have hcz55_0 := ck BK216 0; have hcz55_1 := ck BK216 1; have hfz55_0 := blk_frozen BK216.out 0; have hfz55_1 := blk_frozen BK216.out 1; have hnb56 := NB217_218.out; have hnc56 := NB218_217.out; have hcz57_0 := ck BK217 0; have hcz57_1 := ck BK217 1; have hfz57_0 := blk_frozen BK217.out 0; have hfz57_1 := blk_frozen BK217.out 1; have hcz58_0 := ck BK218 0; have hcz58_1 := ck BK218 1; have hfz58_0 := blk_frozen BK218.out 0; have hfz58_1 := blk_frozen BK218.out 1) | ((with_reducible refine gate_callee (f := 98) rfl ?_); refine goesL_ (some 13) rfl rfl Try.func98 (by kernel_rfl) rfl #[.agg #[.int .i64 a0_0, .int .i64 a0_1], .agg #[.int .i64 a1_0, .int .i64 a1_1], .agg #[.int .i64 a2_0, .int .i64 a2_1], .agg #[.int .i64 a3_0, .int .i64 a3_1]] rfl (by (try simp only [List.map_toArray, List.map_cons, List.map_nil]); first | done | rfl | (simp only [List.length_drop, List.length_take]; rfl)) ?_; (with_reducible refine (spec_l02Crosses.calls a0_0 a0_1 a1_0 a1_1 a2_0 a2_1 a3_0 a3_1 false _ A5.out).mono ?_); rintro e w59 ⟨rfl, hb⟩; refine ⟨_, rfl, ?_⟩; have n0_ := kb BK215 hb; have n1_ := kb BK216 hb; have n2_ := kb BK217 hb; have n3_ := kb BK218 hb; have n4_ := sb hb; clear BK215; clear BK216; clear BK217; clear BK218; clear HB; have BK215 := n0_; have BK216 := n1_; have BK217 := n2_; have BK218 := n3_; have HB := n4_; clear n0_ n1_ n2_ n3_ n4_; (try clear hb); (try clear hb2); (try clear hk); (try clear hi); have hcz60_0 := ck BK215 0; have hcz60_1 := ck BK215 1; have hfz60_0 := blk_frozen BK215.out 0; have hfz60_1 := blk_frozen BK215.out 1; have hcz61_0 := ck BK216 0; have hcz61_1 := ck BK216 1; have hfz61_0 := blk_frozen BK216.out 0; have hfz61_1 := blk_frozen BK216.out 1; have hcz62_0 := ck BK217 0; have hcz62_1 := ck BK217 1; have hfz62_0 := blk_frozen BK217.out 0; have hfz62_1 := blk_frozen BK217.out 1) | (go_at_call 79; (with_reducible refine (spec_l02On.calls a0_0 a0_1 a1_0 a1_1 a2_0 a2_1 false _ A22.out).mono ?_); rintro e w63 ⟨rfl, hb⟩; have n0_ := kb BK215 hb; have n1_ := kb BK216 hb; have n2_ := kb BK217 hb; have n3_ := kb BK218 hb; have n4_ := sb hb; clear BK215; clear BK216; clear BK217; clear BK218; clear HB; have BK215 := n0_; have BK216 := n1_; have BK217 := n2_; have BK218 := n3_; have HB := n4_; clear n0_ n1_ n2_ n3_ n4_; (try clear hb); (try clear hb2); (try clear hk); (try clear hi); have hcz64_0 := ck BK215 0; have hcz64_1 := ck BK215 1; have hfz64_0 := blk_frozen BK215.out 0; have hfz64_1 := blk_frozen BK215.out 1; have hcz65_0 := ck BK216 0; have hcz65_1 := ck BK216 1; have hfz65_0 := blk_frozen BK216.out 0; have hfz65_1 := blk_frozen BK216.out 1; have hcz66_0 := ck BK218 0; have hcz66_1 := ck BK218 1; have hfz66_0 := blk_frozen BK218.out 0; have hfz66_1 := blk_frozen BK218.out 1) | (go_at_call 79; (with_reducible refine (spec_l02On.calls a0_0 a0_1 a1_0 a1_1 a3_0 a3_1 true _ A43.out).mono ?_); rintro e w67 ⟨rfl, hb⟩; have n0_ := kb BK215 hb; have n1_ := kb BK216 hb; have n2_ := kb BK217 hb; have n3_ := kb BK218 hb; have n4_ := sb hb; clear BK215; clear BK216; clear BK217; clear BK218; clear HB; have BK215 := n0_; have BK216 := n1_; have BK217 := n2_; have BK218 := n3_; have HB := n4_; clear n0_ n1_ n2_ n3_ n4_; (try clear hb); (try clear hb2); (try clear hk); (try clear hi)))
    go_ret
    exact ⟨by first | rfl | (simp [errW_none, errW_some] <;> rfl) | (simp [*, errW_none, errW_some] <;> rfl), by repeat (first | (with_reducible first | exact HB.out | apply below_alloc | apply pw_below_drewN | apply below_drew1 | refine below_set ?_ GE215.out | refine below_set ?_ GE216.out | refine below_set ?_ GE217.out | refine below_set ?_ GE218.out) | exact HB.out)⟩
   ·replace c44 := Bool.eq_false_iff.mpr c44
    subst c44
    have H1 : ((spec_l02On.f a2_0 a2_1 a3_0 a3_1 a0_0 a0_1).bind fun t222 => (if t222 = true then (some true) else ((spec_l02On.f a2_0 a2_1 a3_0 a3_1 a1_0 a1_1).bind fun t223 => (some t223)))) = some r := by rw [if_neg (show ¬ (false = true) by decide)] at H; exact H
    clear H
    have H := H1
    clear H1
    replace H := Option.bind_eq_some_iff.mp H
    obtain ⟨t222, A680, H⟩ := H
    replace H : (if t222 = true then (some true) else ((spec_l02On.f a2_0 a2_1 a3_0 a3_1 a1_0 a1_1).bind fun t223 => (some t223))) = some r := H
    have A68 := Aside0.mk A680
    clear A680
    by_cases c69 : t222 = true
    ·subst c69
     have H1 : (some true) = some r := by rw [if_pos rfl] at H; exact H
     clear H
     have H := H1
     clear H1
     obtain rfl := Option.some.inj H
     go_enter Try.func90, Try.ntmps90
     go_wp2_with (first | ((with_reducible refine gate_dst (N := 4) rfl ?_); refine bx (cs := #[.int .i64 a0_0, .int .i64 a0_1]) (t := 48) ?_; intro gb215 hg w70 hbox hb; have n0_ := sb hb; have n1_ := Aside0.mk (hbox); have n2_ := zb hg; have n3_ := zb hg; clear HB; have HB := n0_; have BK215 := n1_; have GW215 := n2_; have GE215 := n3_; clear n0_ n1_ n2_ n3_; clear hb hbox hg) | ((with_reducible refine gate_dst (N := 5) rfl ?_); refine bx (cs := #[.int .i64 a1_0, .int .i64 a1_1]) (t := 48) ?_; intro gb216 hg w71 hbox hb; have n0_ := kb BK215 hb; have n1_ := sb hb; have n2_ := Aside0.mk (hbox); have n3_ := zb hg; have n4_ := zb hg; have n5_ := nl BK215 hg; have n6_ := ng BK215 hg; clear BK215; clear HB; have BK215 := n0_; have HB := n1_; have BK216 := n2_; have GW216 := n3_; have GE216 := n4_; have NB215_216 := n5_; have NB216_215 := n6_; clear n0_ n1_ n2_ n3_ n4_ n5_ n6_; clear hb hbox hg) | ((with_reducible refine gate_dst (N := 6) rfl ?_); refine bx (cs := #[.int .i64 a2_0, .int .i64 a2_1]) (t := 48) ?_; intro gb217 hg w72 hbox hb; have n0_ := kb BK215 hb; have n1_ := kb BK216 hb; have n2_ := sb hb; have n3_ := Aside0.mk (hbox); have n4_ := zb hg; have n5_ := zb hg; have n6_ := nl BK215 hg; have n7_ := ng BK215 hg; have n8_ := nl BK216 hg; have n9_ := ng BK216 hg; clear BK215; clear BK216; clear HB; have BK215 := n0_; have BK216 := n1_; have HB := n2_; have BK217 := n3_; have GW217 := n4_; have GE217 := n5_; have NB215_217 := n6_; have NB217_215 := n7_; have NB216_217 := n8_; have NB217_216 := n9_; clear n0_ n1_ n2_ n3_ n4_ n5_ n6_ n7_ n8_ n9_; clear hb hbox hg) | ((with_reducible refine gate_dst (N := 7) rfl ?_); refine bx (cs := #[.int .i64 a3_0, .int .i64 a3_1]) (t := 48) ?_; intro gb218 hg w73 hbox hb; have n0_ := kb BK215 hb; have n1_ := kb BK216 hb; have n2_ := kb BK217 hb; have n3_ := sb hb; have n4_ := Aside0.mk (hbox); have n5_ := zb hg; have n6_ := zb hg; have n7_ := nl BK215 hg; have n8_ := ng BK215 hg; have n9_ := nl BK216 hg; have n10_ := ng BK216 hg; have n11_ := nl BK217 hg; have n12_ := ng BK217 hg; clear BK215; clear BK216; clear BK217; clear HB; have BK215 := n0_; have BK216 := n1_; have BK217 := n2_; have HB := n3_; have BK218 := n4_; have GW218 := n5_; have GE218 := n6_; have NB215_218 := n7_; have NB218_215 := n8_; have NB216_218 := n9_; have NB218_216 := n10_; have NB217_218 := n11_; have NB218_217 := n12_; clear n0_ n1_ n2_ n3_ n4_ n5_ n6_ n7_ n8_ n9_ n10_ n11_ n12_; clear hb hbox hg; have hnb74 := NB215_216.out; have hnc74 := NB216_215.out; have hnb75 := NB215_217.out; have hnc75 := NB217_215.out; have hnb76 := NB215_218.out; have hnc76 := NB218_215.out; have hcz77_0 := ck BK215 0; have hcz77_1 := ck BK215 1; have hfz77_0 := blk_frozen BK215.out 0; have hfz77_1 := blk_frozen BK215.out 1; have hnb78 := NB216_217.out; have hnc78 := NB217_216.out; have hnb79 := NB216_218.out; have hnc79 := NB218_216.out; have hcz80_0 := ck BK216 0; have hcz80_1 := ck BK216 1; have hfz80_0 := blk_frozen BK216.out 0; have hfz80_1 := blk_frozen BK216.out 1; have hnb81 := NB217_218.out; have hnc81 := NB218_217.out; have hcz82_0 := ck BK217 0; have hcz82_1 := ck BK217 1; have hfz82_0 := blk_frozen BK217.out 0; have hfz82_1 := blk_frozen BK217.out 1; have hcz83_0 := ck BK218 0; have hcz83_1 := ck BK218 1; have hfz83_0 := blk_frozen BK218.out 0; have hfz83_1 := blk_frozen BK218.out 1) | ((with_reducible refine gate_callee (f := 98) rfl ?_); refine goesL_ (some 13) rfl rfl Try.func98 (by kernel_rfl) rfl #[.agg #[.int .i64 a0_0, .int .i64 a0_1], .agg #[.int .i64 a1_0, .int .i64 a1_1], .agg #[.int .i64 a2_0, .int .i64 a2_1], .agg #[.int .i64 a3_0, .int .i64 a3_1]] rfl (by (try simp only [List.map_toArray, List.map_cons, List.map_nil]); first | done | rfl | (simp only [List.length_drop, List.length_take]; rfl)) ?_; (with_reducible refine (spec_l02Crosses.calls a0_0 a0_1 a1_0 a1_1 a2_0 a2_1 a3_0 a3_1 false _ A5.out).mono ?_); rintro e w84 ⟨rfl, hb⟩; refine ⟨_, rfl, ?_⟩; have n0_ := kb BK215 hb; have n1_ := kb BK216 hb; have n2_ := kb BK217 hb; have n3_ := kb BK218 hb; have n4_ := sb hb; clear BK215; clear BK216; clear BK217; clear BK218; clear HB; have BK215 := n0_; have BK216 := n1_; have BK217 := n2_; have BK218 := n3_; have HB := n4_; clear n0_ n1_ n2_ n3_ n4_; (try clear hb); (try clear hb2); (try clear hk); (try clear hi); have hcz85_0 := ck BK215 0; have hcz85_1 := ck BK215 1; have hfz85_0 := blk_frozen BK215.out 0; have hfz85_1 := blk_frozen BK215.out 1; have hcz86_0 := ck BK216 0; have hcz86_1 := ck BK216 1; have hfz86_0 := blk_frozen BK216.out 0; have hfz86_1 := blk_frozen BK216.out 1; have hcz87_0 := ck BK217 0; have hcz87_1 := ck BK217 1; have hfz87_0 := blk_frozen BK217.out 0; have hfz87_1 := blk_frozen BK217.out 1) | (go_at_call 79; (with_reducible refine (spec_l02On.calls a0_0 a0_1 a1_0 a1_1 a2_0 a2_1 false _ A22.out).mono ?_); rintro e w88 ⟨rfl, hb⟩; have n0_ := kb BK215 hb; have n1_ := kb BK216 hb; have n2_ := kb BK217 hb; have n3_ := kb BK218 hb; have n4_ := sb hb; clear BK215; clear BK216; clear BK217; clear BK218; clear HB; have BK215 := n0_; have BK216 := n1_; have BK217 := n2_; have BK218 := n3_; have HB := n4_; clear n0_ n1_ n2_ n3_ n4_; (try clear hb); (try clear hb2); (try clear hk); (try clear hi); have hcz89_0 := ck BK215 0; have hcz89_1 := ck BK215 1; have hfz89_0 := blk_frozen BK215.out 0; have hfz89_1 := blk_frozen BK215.out 1; have hcz90_0 := ck BK216 0; have hcz90_1 := ck BK216 1; have hfz90_0 := blk_frozen BK216.out 0; have hfz90_1 := blk_frozen BK216.out 1; have hcz91_0 := ck BK218 0; have hcz91_1 := ck BK218 1; have hfz91_0 := blk_frozen BK218.out 0; have hfz91_1 := blk_frozen BK218.out 1) | (go_at_call 79; (with_reducible refine (spec_l02On.calls a0_0 a0_1 a1_0 a1_1 a3_0 a3_1 false _ A43.out).mono ?_); rintro e w92 ⟨rfl, hb⟩; have n0_ := kb BK215 hb; have n1_ := kb BK216 hb; have n2_ := kb BK217 hb; have n3_ := kb BK218 hb; have n4_ := sb hb; clear BK215; clear BK216; clear BK217; clear BK218; clear HB; have BK215 := n0_; have BK216 := n1_; have BK217 := n2_; have BK218 := n3_; have HB := n4_; clear n0_ n1_ n2_ n3_ n4_; (try clear hb); (try clear hb2); (try clear hk); (try clear hi); have hcz93_0 := ck BK217 0; have hcz93_1 := ck BK217 1; have hfz93_0 := blk_frozen BK217.out 0; have hfz93_1 := blk_frozen BK217.out 1; have hcz94_0 := ck BK218 0; have hcz94_1 := ck BK218 1; have hfz94_0 := blk_frozen BK218.out 0; have hfz94_1 := blk_frozen BK218.out 1; have hcz95_0 := ck BK215 0; have hcz95_1 := ck BK215 1; have hfz95_0 := blk_frozen BK215.out 0; have hfz95_1 := blk_frozen BK215.out 1) | (go_at_call 79; (with_reducible refine (spec_l02On.calls a2_0 a2_1 a3_0 a3_1 a0_0 a0_1 true _ A68.out).mono ?_); rintro e w96 ⟨rfl, hb⟩; have n0_ := kb BK215 hb; have n1_ := kb BK216 hb; have n2_ := kb BK217 hb; have n3_ := kb BK218 hb; have n4_ := sb hb; clear BK215; clear BK216; clear BK217; clear BK218; clear HB; have BK215 := n0_; have BK216 := n1_; have BK217 := n2_; have BK218 := n3_; have HB := n4_; clear n0_ n1_ n2_ n3_ n4_; (try clear hb); (try clear hb2); (try clear hk); (try clear hi)))
     go_ret
     exact ⟨by first | rfl | (simp [errW_none, errW_some] <;> rfl) | (simp [*, errW_none, errW_some] <;> rfl), by repeat (first | (with_reducible first | exact HB.out | apply below_alloc | apply pw_below_drewN | apply below_drew1 | refine below_set ?_ GE215.out | refine below_set ?_ GE216.out | refine below_set ?_ GE217.out | refine below_set ?_ GE218.out) | exact HB.out)⟩
    ·replace c69 := Bool.eq_false_iff.mpr c69
     subst c69
     have H1 : ((spec_l02On.f a2_0 a2_1 a3_0 a3_1 a1_0 a1_1).bind fun t223 => (some t223)) = some r := by rw [if_neg (show ¬ (false = true) by decide)] at H; exact H
     clear H
     have H := H1
     clear H1
     replace H := Option.bind_eq_some_iff.mp H
     obtain ⟨t223, A970, H⟩ := H
     replace H : (some t223) = some r := H
     have A97 := Aside0.mk A970
     clear A970
     obtain rfl := Option.some.inj H
     go_enter Try.func90, Try.ntmps90
     go_wp2_with (first | ((with_reducible refine gate_dst (N := 4) rfl ?_); refine bx (cs := #[.int .i64 a0_0, .int .i64 a0_1]) (t := 48) ?_; intro gb215 hg w98 hbox hb; have n0_ := sb hb; have n1_ := Aside0.mk (hbox); have n2_ := zb hg; have n3_ := zb hg; clear HB; have HB := n0_; have BK215 := n1_; have GW215 := n2_; have GE215 := n3_; clear n0_ n1_ n2_ n3_; clear hb hbox hg) | ((with_reducible refine gate_dst (N := 5) rfl ?_); refine bx (cs := #[.int .i64 a1_0, .int .i64 a1_1]) (t := 48) ?_; intro gb216 hg w99 hbox hb; have n0_ := kb BK215 hb; have n1_ := sb hb; have n2_ := Aside0.mk (hbox); have n3_ := zb hg; have n4_ := zb hg; have n5_ := nl BK215 hg; have n6_ := ng BK215 hg; clear BK215; clear HB; have BK215 := n0_; have HB := n1_; have BK216 := n2_; have GW216 := n3_; have GE216 := n4_; have NB215_216 := n5_; have NB216_215 := n6_; clear n0_ n1_ n2_ n3_ n4_ n5_ n6_; clear hb hbox hg) | ((with_reducible refine gate_dst (N := 6) rfl ?_); refine bx (cs := #[.int .i64 a2_0, .int .i64 a2_1]) (t := 48) ?_; intro gb217 hg w100 hbox hb; have n0_ := kb BK215 hb; have n1_ := kb BK216 hb; have n2_ := sb hb; have n3_ := Aside0.mk (hbox); have n4_ := zb hg; have n5_ := zb hg; have n6_ := nl BK215 hg; have n7_ := ng BK215 hg; have n8_ := nl BK216 hg; have n9_ := ng BK216 hg; clear BK215; clear BK216; clear HB; have BK215 := n0_; have BK216 := n1_; have HB := n2_; have BK217 := n3_; have GW217 := n4_; have GE217 := n5_; have NB215_217 := n6_; have NB217_215 := n7_; have NB216_217 := n8_; have NB217_216 := n9_; clear n0_ n1_ n2_ n3_ n4_ n5_ n6_ n7_ n8_ n9_; clear hb hbox hg) | ((with_reducible refine gate_dst (N := 7) rfl ?_); refine bx (cs := #[.int .i64 a3_0, .int .i64 a3_1]) (t := 48) ?_; intro gb218 hg w101 hbox hb; have n0_ := kb BK215 hb; have n1_ := kb BK216 hb; have n2_ := kb BK217 hb; have n3_ := sb hb; have n4_ := Aside0.mk (hbox); have n5_ := zb hg; have n6_ := zb hg; have n7_ := nl BK215 hg; have n8_ := ng BK215 hg; have n9_ := nl BK216 hg; have n10_ := ng BK216 hg; have n11_ := nl BK217 hg; have n12_ := ng BK217 hg; clear BK215; clear BK216; clear BK217; clear HB; have BK215 := n0_; have BK216 := n1_; have BK217 := n2_; have HB := n3_; have BK218 := n4_; have GW218 := n5_; have GE218 := n6_; have NB215_218 := n7_; have NB218_215 := n8_; have NB216_218 := n9_; have NB218_216 := n10_; have NB217_218 := n11_; have NB218_217 := n12_; clear n0_ n1_ n2_ n3_ n4_ n5_ n6_ n7_ n8_ n9_ n10_ n11_ n12_; clear hb hbox hg; have hnb102 := NB215_216.out; have hnc102 := NB216_215.out; have hnb103 := NB215_217.out; have hnc103 := NB217_215.out; have hnb104 := NB215_218.out; have hnc104 := NB218_215.out; have hcz105_0 := ck BK215 0; have hcz105_1 := ck BK215 1; have hfz105_0 := blk_frozen BK215.out 0; have hfz105_1 := blk_frozen BK215.out 1; have hnb106 := NB216_217.out; have hnc106 := NB217_216.out; have hnb107 := NB216_218.out; have hnc107 := NB218_216.out; have hcz108_0 := ck BK216 0; have hcz108_1 := ck BK216 1; have hfz108_0 := blk_frozen BK216.out 0; have hfz108_1 := blk_frozen BK216.out 1; have hnb109 := NB217_218.out; have hnc109 := NB218_217.out; have hcz110_0 := ck BK217 0; have hcz110_1 := ck BK217 1; have hfz110_0 := blk_frozen BK217.out 0; have hfz110_1 := blk_frozen BK217.out 1; have hcz111_0 := ck BK218 0; have hcz111_1 := ck BK218 1; have hfz111_0 := blk_frozen BK218.out 0; have hfz111_1 := blk_frozen BK218.out 1) | ((with_reducible refine gate_callee (f := 98) rfl ?_); refine goesL_ (some 13) rfl rfl Try.func98 (by kernel_rfl) rfl #[.agg #[.int .i64 a0_0, .int .i64 a0_1], .agg #[.int .i64 a1_0, .int .i64 a1_1], .agg #[.int .i64 a2_0, .int .i64 a2_1], .agg #[.int .i64 a3_0, .int .i64 a3_1]] rfl (by (try simp only [List.map_toArray, List.map_cons, List.map_nil]); first | done | rfl | (simp only [List.length_drop, List.length_take]; rfl)) ?_; (with_reducible refine (spec_l02Crosses.calls a0_0 a0_1 a1_0 a1_1 a2_0 a2_1 a3_0 a3_1 false _ A5.out).mono ?_); rintro e w112 ⟨rfl, hb⟩; refine ⟨_, rfl, ?_⟩; have n0_ := kb BK215 hb; have n1_ := kb BK216 hb; have n2_ := kb BK217 hb; have n3_ := kb BK218 hb; have n4_ := sb hb; clear BK215; clear BK216; clear BK217; clear BK218; clear HB; have BK215 := n0_; have BK216 := n1_; have BK217 := n2_; have BK218 := n3_; have HB := n4_; clear n0_ n1_ n2_ n3_ n4_; (try clear hb); (try clear hb2); (try clear hk); (try clear hi); have hcz113_0 := ck BK215 0; have hcz113_1 := ck BK215 1; have hfz113_0 := blk_frozen BK215.out 0; have hfz113_1 := blk_frozen BK215.out 1; have hcz114_0 := ck BK216 0; have hcz114_1 := ck BK216 1; have hfz114_0 := blk_frozen BK216.out 0; have hfz114_1 := blk_frozen BK216.out 1; have hcz115_0 := ck BK217 0; have hcz115_1 := ck BK217 1; have hfz115_0 := blk_frozen BK217.out 0; have hfz115_1 := blk_frozen BK217.out 1) | (go_at_call 79; (with_reducible refine (spec_l02On.calls a0_0 a0_1 a1_0 a1_1 a2_0 a2_1 false _ A22.out).mono ?_); rintro e w116 ⟨rfl, hb⟩; have n0_ := kb BK215 hb; have n1_ := kb BK216 hb; have n2_ := kb BK217 hb; have n3_ := kb BK218 hb; have n4_ := sb hb; clear BK215; clear BK216; clear BK217; clear BK218; clear HB; have BK215 := n0_; have BK216 := n1_; have BK217 := n2_; have BK218 := n3_; have HB := n4_; clear n0_ n1_ n2_ n3_ n4_; (try clear hb); (try clear hb2); (try clear hk); (try clear hi); have hcz117_0 := ck BK215 0; have hcz117_1 := ck BK215 1; have hfz117_0 := blk_frozen BK215.out 0; have hfz117_1 := blk_frozen BK215.out 1; have hcz118_0 := ck BK216 0; have hcz118_1 := ck BK216 1; have hfz118_0 := blk_frozen BK216.out 0; have hfz118_1 := blk_frozen BK216.out 1; have hcz119_0 := ck BK218 0; have hcz119_1 := ck BK218 1; have hfz119_0 := blk_frozen BK218.out 0; have hfz119_1 := blk_frozen BK218.out 1) | (go_at_call 79; (with_reducible refine (spec_l02On.calls a0_0 a0_1 a1_0 a1_1 a3_0 a3_1 false _ A43.out).mono ?_); rintro e w120 ⟨rfl, hb⟩; have n0_ := kb BK215 hb; have n1_ := kb BK216 hb; have n2_ := kb BK217 hb; have n3_ := kb BK218 hb; have n4_ := sb hb; clear BK215; clear BK216; clear BK217; clear BK218; clear HB; have BK215 := n0_; have BK216 := n1_; have BK217 := n2_; have BK218 := n3_; have HB := n4_; clear n0_ n1_ n2_ n3_ n4_; (try clear hb); (try clear hb2); (try clear hk); (try clear hi); have hcz121_0 := ck BK217 0; have hcz121_1 := ck BK217 1; have hfz121_0 := blk_frozen BK217.out 0; have hfz121_1 := blk_frozen BK217.out 1; have hcz122_0 := ck BK218 0; have hcz122_1 := ck BK218 1; have hfz122_0 := blk_frozen BK218.out 0; have hfz122_1 := blk_frozen BK218.out 1; have hcz123_0 := ck BK215 0; have hcz123_1 := ck BK215 1; have hfz123_0 := blk_frozen BK215.out 0; have hfz123_1 := blk_frozen BK215.out 1) | (go_at_call 79; (with_reducible refine (spec_l02On.calls a2_0 a2_1 a3_0 a3_1 a0_0 a0_1 false _ A68.out).mono ?_); rintro e w124 ⟨rfl, hb⟩; have n0_ := kb BK215 hb; have n1_ := kb BK216 hb; have n2_ := kb BK217 hb; have n3_ := kb BK218 hb; have n4_ := sb hb; clear BK215; clear BK216; clear BK217; clear BK218; clear HB; have BK215 := n0_; have BK216 := n1_; have BK217 := n2_; have BK218 := n3_; have HB := n4_; clear n0_ n1_ n2_ n3_ n4_; (try clear hb); (try clear hb2); (try clear hk); (try clear hi); have hcz125_0 := ck BK217 0; have hcz125_1 := ck BK217 1; have hfz125_0 := blk_frozen BK217.out 0; have hfz125_1 := blk_frozen BK217.out 1; have hcz126_0 := ck BK218 0; have hcz126_1 := ck BK218 1; have hfz126_0 := blk_frozen BK218.out 0; have hfz126_1 := blk_frozen BK218.out 1; have hcz127_0 := ck BK216 0; have hcz127_1 := ck BK216 1; have hfz127_0 := blk_frozen BK216.out 0; have hfz127_1 := blk_frozen BK216.out 1) | (go_at_call 79; (with_reducible refine (spec_l02On.calls a2_0 a2_1 a3_0 a3_1 a1_0 a1_1 t223 _ A97.out).mono ?_); rintro e w128 ⟨rfl, hb⟩; have n0_ := kb BK215 hb; have n1_ := kb BK216 hb; have n2_ := kb BK217 hb; have n3_ := kb BK218 hb; have n4_ := sb hb; clear BK215; clear BK216; clear BK217; clear BK218; clear HB; have BK215 := n0_; have BK216 := n1_; have BK217 := n2_; have BK218 := n3_; have HB := n4_; clear n0_ n1_ n2_ n3_ n4_; (try clear hb); (try clear hb2); (try clear hk); (try clear hi)))
     go_ret
     exact ⟨by first | rfl | (simp [errW_none, errW_some] <;> rfl) | (simp [*, errW_none, errW_some] <;> rfl), by repeat (first | (with_reducible first | exact HB.out | apply below_alloc | apply pw_below_drewN | apply below_drew1 | refine below_set ?_ GE215.out | refine below_set ?_ GE216.out | refine below_set ?_ GE217.out | refine below_set ?_ GE218.out) | exact HB.out)⟩
end Go.Proofs.Ytlfifbalakgfeaa.PFnExactFaceAt
