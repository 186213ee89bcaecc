/- Contracts of functions that FnExactFaceAt reaches, out of the lines of the kit's print. -/
import Derived.Test.YtlfifbalakgfeaaQFnExactFaceAtx0
import Derived.Test.YtlfifbalakgfeaaQFnExactFaceAtx2
import Derived.Test.YtlfifbalakgfeaaQFnExactFaceAtx4
import Derived.Test.YtlfifbalakgfeaaQFnExactFaceAtx11
import Derived.Test.YtlfifbalakgfeaaQFnExactFaceAtx17
namespace Go.Proofs.Ytlfifbalakgfeaa.PFnExactFaceAt
open Go.RowKit Go.Proofs.YtlfifbalakgfeaaW.PrintWords Go.Proofs.YtlfifbalakgfeaaW.PrintLast Go.Proofs.YtlfifbalakgfeaaW.PrintMore
open Bool renaming true → tT, false → fF
open Go.World renaming block_lt_of_cell? → bL
attribute [local go_sem] max2_int min2_int max_two min_two max_three min_three max_four min_four
set_option linter.unusedVariables false
set_option linter.unusedSimpArgs false
def laws_FnExactFaceAt.j0 : Nat → Bool → Int → Int → List (S46) → List (S92) → Int → Int → List (S48) → List (S67) → Option (Bool)
 | 0, _, _, _, _, _, _, _, _, _ => none
 | k + 1, x40, x389000, x389001, x389002, x389003, x412000, x412001, x412002, x412003 => if x40 = true then (some false) else ((laws_toDrawing.f k x389000 x389001 x389002 x389003).bind fun bt416 => ((laws_eqDrawing.f k x412000 x412001 x412002 x412003 bt416.1 bt416.2.1 bt416.2.2.1 bt416.2.2.2).bind fun t424 => (if t424 = true then (some true) else (some false))))
def laws_FnExactFaceAt.f (k : Nat) (a0_0 : Int) (a0_1 : Int) (l0_2 : List (S46)) (l0_3 : List (S92)) (a1_0 : Int) (a1_1 : Int) : Option (Bool) := (laws_szDrawing.f k a0_0 a0_1 l0_2 l0_3 1048576).bind fun t390 => (if t390 < 0 then (some true) else ((laws_toDrawing.f k a0_0 a0_1 l0_2 l0_3).bind fun bt391 => ((laws_toPoint.f a1_0 a1_1).bind fun bt399 => ((spec_FaceAt.f k bt391.1 bt391.2.1 bt391.2.2.1 bt391.2.2.2 bt399.1 bt399.2).bind fun bt401 => ((laws_toDrawing.f k a0_0 a0_1 l0_2 l0_3).bind fun bt403 => ((laws_toPoint.f a1_0 a1_1).bind fun bt412 => ((impl_FaceAt.f k bt403.1 bt403.2.1 bt403.2.2.1 bt403.2.2.2 bt412.1 bt412.2).bind fun bt414 => (if bt414.1 = bt401.1 then (laws_FnExactFaceAt.j0 k (bt414.2 != bt401.2) a0_0 a0_1 l0_2 l0_3 bt403.1 bt403.2.1 bt403.2.2.1 bt403.2.2.2) else (laws_FnExactFaceAt.j0 k true a0_0 a0_1 l0_2 l0_3 bt403.1 bt403.2.1 bt403.2.2.1 bt403.2.2.2)))))))))
theorem laws_FnExactFaceAt.mono_l : ∀ k, (∀ y0 y1 y2 y3 y4 y5 y6 y7 y8, LeO (laws_FnExactFaceAt.j0 k y0 y1 y2 y3 y4 y5 y6 y7 y8) (laws_FnExactFaceAt.j0 (k + 1) y0 y1 y2 y3 y4 y5 y6 y7 y8))
 | 0 => fun _ _ _ _ _ _ _ _ _ r h => by simp [laws_FnExactFaceAt.j0] at h
 | k + 1 => by
  have ih0 := laws_FnExactFaceAt.mono_l k
  ·intro y0 y1 y2 y3 y4 y5 y6 y7 y8
   unfold laws_FnExactFaceAt.j0
   repeat' first
   | (with_reducible exact ih0 _ _ _ _ _ _ _ _ _)
   | (with_reducible exact impl_FaceAt.mono _ _ _ _ _ _ _)
   | (with_reducible exact laws_eqDrawing.mono _ _ _ _ _ _ _ _ _)
   | (with_reducible exact laws_szDrawing.mono _ _ _ _ _ _)
   | (with_reducible exact laws_toDrawing.mono _ _ _ _ _)
   | (with_reducible exact spec_FaceAt.mono _ _ _ _ _ _ _)
   | (with_reducible exact LeO.refl _)
   | (with_reducible exact LeO.none _)
   | (with_reducible refine LeO.ite ?_ ?_)
   | (with_reducible refine LeO.bind ?_ (fun _ => ?_))
   | exact ih0 _ _ _ _ _ _ _ _ _
   | exact impl_FaceAt.mono _ _ _ _ _ _ _
   | exact laws_eqDrawing.mono _ _ _ _ _ _ _ _ _
   | exact laws_szDrawing.mono _ _ _ _ _ _
   | exact laws_toDrawing.mono _ _ _ _ _
   | exact spec_FaceAt.mono _ _ _ _ _ _ _
   | exact LeO.none _
   | refine LeO.ite ?_ ?_
   | refine LeO.bind ?_ (fun _ => ?_)
theorem laws_FnExactFaceAt.mono : ∀ a0 a1 a2 a3 a4 a5 k, LeO (laws_FnExactFaceAt.f k a0 a1 a2 a3 a4 a5) (laws_FnExactFaceAt.f (k + 1) a0 a1 a2 a3 a4 a5) := by
 intro a0 a1 a2 a3 a4 a5 k
 have ih0 := laws_FnExactFaceAt.mono_l k
 unfold laws_FnExactFaceAt.f
 repeat' first
   | (with_reducible exact ih0 _ _ _ _ _ _ _ _ _)
   | (with_reducible exact impl_FaceAt.mono _ _ _ _ _ _ _)
   | (with_reducible exact laws_eqDrawing.mono _ _ _ _ _ _ _ _ _)
   | (with_reducible exact laws_szDrawing.mono _ _ _ _ _ _)
   | (with_reducible exact laws_toDrawing.mono _ _ _ _ _)
   | (with_reducible exact spec_FaceAt.mono _ _ _ _ _ _ _)
   | (with_reducible exact LeO.refl _)
   | (with_reducible exact LeO.none _)
   | (with_reducible refine LeO.ite ?_ ?_)
   | (with_reducible refine LeO.bind ?_ (fun _ => ?_))
   | exact ih0 _ _ _ _ _ _ _ _ _
   | exact impl_FaceAt.mono _ _ _ _ _ _ _
   | exact laws_eqDrawing.mono _ _ _ _ _ _ _ _ _
   | exact laws_szDrawing.mono _ _ _ _ _ _
   | exact laws_toDrawing.mono _ _ _ _ _
   | exact spec_FaceAt.mono _ _ _ _ _ _ _
   | exact LeO.none _
   | refine LeO.ite ?_ ?_
   | refine LeO.bind ?_ (fun _ => ?_)
def laws_FnExactFaceAt.T5 : Bool × List (List Nat × List Nat) := (true, [([], []), ([0], [0]), ([], []), ([2, 1], [2]), ([1, 3, 3], [1, 3]), ([4], [4]), ([5], [5]), ([5], [5]), ([6, 4, 0, 1, 2, 3, 4, 5, 6], [6]), ([7, 8, 0, 1, 2, 3, 4, 5, 6, 7, 8], [7])])
def laws_FnExactFaceAt.B5 : List Nat := [0, 1, 0, 7, 15, 31, 63, 63, 127, 511]
theorem laws_FnExactFaceAt.tab5 : rtab .any (opsOf Try.f7 5) = laws_FnExactFaceAt.T5 := by kernel_rfl
theorem laws_FnExactFaceAt.bits5 : waitsOk laws_FnExactFaceAt.T5.2 laws_FnExactFaceAt.B5 = true := by kernel_rfl
def laws_FnExactFaceAt.T7 : Bool × List (List Nat × List Nat) := (true, [([], []), ([], []), ([1], [1]), ([0, 2, 2], [0, 2]), ([3], [3]), ([4], [4]), ([4], [4]), ([5, 3, 0, 1, 2, 3, 4, 5], [5]), ([6, 7, 0, 1, 2, 3, 4, 5, 6, 7], [6])])
def laws_FnExactFaceAt.B7 : List Nat := [0, 0, 2, 7, 15, 31, 31, 63, 255]
theorem laws_FnExactFaceAt.tab7 : rtab .any (opsOf Try.f7 7) = laws_FnExactFaceAt.T7 := by kernel_rfl
theorem laws_FnExactFaceAt.bits7 : waitsOk laws_FnExactFaceAt.T7.2 laws_FnExactFaceAt.B7 = true := by kernel_rfl
set_option maxHeartbeats 8000000 in
set_option maxRecDepth 100000 in
theorem laws_FnExactFaceAt.calls (k : Nat) (a0_0 : Int) (a0_1 : Int) (A0_2 : Option Addr) (c0_2 : Nat) (l0_2 : List (S46)) (A0_3 : Option Addr) (c0_3 : Nat) (l0_3 : List (S92)) (a1_0 : Int) (a1_1 : Int) (w : World) (hr0_2 : Kd.C k46 w A0_2 l0_2.length l0_2) (hc0_2 : l0_2.length ≤ c0_2) (hr0_3 : Kd.C k92 w A0_3 l0_3.length l0_3) (hc0_3 : l0_3.length ≤ c0_3) (h : laws_FnExactFaceAt.f k a0_0 a0_1 l0_2 l0_3 a1_0 a1_1 = some true) :
  Calls Try.prog 7 #[.agg #[.int .i64 a0_0, .int .i64 a0_1, .slice A0_2 l0_2.length c0_2, .slice A0_3 l0_3.length c0_3], .agg #[.int .i64 a1_0, .int .i64 a1_1]] w fun e w' => e = .returned (.bool true) ∧ Below w.heap.size w w' := by
 have hu25 := Try.underlying25
 have hu46 := Try.underlying46
 have hu31 := Try.underlying31
 have HR0_2 := Aside0.mk hr0_2
 have HC0_2 := Aside0.mk hc0_2
 clear hr0_2 hc0_2
 have HR0_3 := Aside0.mk hr0_3
 have HC0_3 := Aside0.mk hc0_3
 clear hr0_3 hc0_3
 have HB := Aside0.mk (Below.refl w.heap.size w)
 have H : ((laws_szDrawing.f k a0_0 a0_1 l0_2 l0_3 1048576).bind fun t390 => (if t390 < 0 then (some true) else ((laws_toDrawing.f k a0_0 a0_1 l0_2 l0_3).bind fun bt391 => ((laws_toPoint.f a1_0 a1_1).bind fun bt399 => ((spec_FaceAt.f k bt391.1 bt391.2.1 bt391.2.2.1 bt391.2.2.2 bt399.1 bt399.2).bind fun bt401 => ((laws_toDrawing.f k a0_0 a0_1 l0_2 l0_3).bind fun bt403 => ((laws_toPoint.f a1_0 a1_1).bind fun bt412 => ((impl_FaceAt.f k bt403.1 bt403.2.1 bt403.2.2.1 bt403.2.2.2 bt412.1 bt412.2).bind fun bt414 => (if bt414.1 = bt401.1 then (laws_FnExactFaceAt.j0 k (bt414.2 != bt401.2) a0_0 a0_1 l0_2 l0_3 bt403.1 bt403.2.1 bt403.2.2.1 bt403.2.2.2) else (laws_FnExactFaceAt.j0 k true a0_0 a0_1 l0_2 l0_3 bt403.1 bt403.2.1 bt403.2.2.1 bt403.2.2.2)))))))))) = some true := h
 clear h
 replace H := Option.bind_eq_some_iff.mp H
 obtain ⟨t390, A30, H⟩ := H
 replace H : (if t390 < 0 then (some true) else ((laws_toDrawing.f k a0_0 a0_1 l0_2 l0_3).bind fun bt391 => ((laws_toPoint.f a1_0 a1_1).bind fun bt399 => ((spec_FaceAt.f k bt391.1 bt391.2.1 bt391.2.2.1 bt391.2.2.2 bt399.1 bt399.2).bind fun bt401 => ((laws_toDrawing.f k a0_0 a0_1 l0_2 l0_3).bind fun bt403 => ((laws_toPoint.f a1_0 a1_1).bind fun bt412 => ((impl_FaceAt.f k bt403.1 bt403.2.1 bt403.2.2.1 bt403.2.2.2 bt412.1 bt412.2).bind fun bt414 => (if bt414.1 = bt401.1 then (laws_FnExactFaceAt.j0 k (bt414.2 != bt401.2) a0_0 a0_1 l0_2 l0_3 bt403.1 bt403.2.1 bt403.2.2.1 bt403.2.2.2) else (laws_FnExactFaceAt.j0 k true a0_0 a0_1 l0_2 l0_3 bt403.1 bt403.2.1 bt403.2.2.1 bt403.2.2.2))))))))) = some true := H
 have A3 := Aside0.mk A30
 clear A30
 by_cases c4 : t390 < 0
 ·rw [if_pos c4] at H
  have c4b0 : decide (t390 < 0) = true := decide_eq_true c4
  clear c4
  clear H
  go_enter Try.func7, Try.ntmps7
  go_wp2_with (first | ((with_reducible refine gate_dst (N := 2) rfl ?_); refine bx (cs := #[.int .i64 a0_0, .int .i64 a0_1, .slice A0_2 l0_2.length c0_2, .slice A0_3 l0_3.length c0_3]) (t := 25) ?_; intro gb388 hg w5 hbox hb; have n0_ := sb hb; have n1_ := Aside0.mk (hbox); have n2_ := zb hg; have n3_ := zb hg; clear HB; have HB := n0_; have BK388 := n1_; have GW388 := n2_; have GE388 := n3_; clear n0_ n1_ n2_ n3_; clear hb hbox hg) | ((with_reducible refine gate_dst (N := 3) rfl ?_); refine bx (cs := #[.int .i64 a1_0, .int .i64 a1_1]) (t := 46) ?_; intro gb389 hg w6 hbox hb; have n0_ := kb BK388 hb; have n1_ := sb hb; have n2_ := Aside0.mk (hbox); have n3_ := zb hg; have n4_ := zb hg; have n5_ := nl BK388 hg; have n6_ := ng BK388 hg; clear BK388; clear HB; have BK388 := n0_; have HB := n1_; have BK389 := n2_; have GW389 := n3_; have GE389 := n4_; have NB388_389 := n5_; have NB389_388 := n6_; clear n0_ n1_ n2_ n3_ n4_ n5_ n6_; clear hb hbox hg; have hnb7 := NB388_389.out; have hnc7 := NB389_388.out; have hcz8_0 := ck BK388 0; have hcz8_1 := ck BK388 1; have hcz8_2 := ck BK388 2; have hcz8_3 := ck BK388 3; have hfz8_0 := blk_frozen BK388.out 0; have hfz8_1 := blk_frozen BK388.out 1; have hfz8_2 := blk_frozen BK388.out 2; have hfz8_3 := blk_frozen BK388.out 3) | ((with_reducible refine gate_callee (f := 10) rfl ?_); refine goesL_ (some 13) rfl rfl Try.func10 (by kernel_rfl) rfl #[.agg #[.int .i64 a0_0, .int .i64 a0_1, .slice A0_2 l0_2.length c0_2, .slice A0_3 l0_3.length c0_3], .int .i64 1048576] rfl (by (try simp only [List.map_toArray, List.map_cons, List.map_nil]); first | done | rfl | (simp only [List.length_drop, List.length_take]; rfl)) ?_; (with_reducible refine (laws_szDrawing.calls k a0_0 a0_1 _ _ l0_2 _ _ l0_3 1048576 t390 _ ?side1 ?side2 ?side3 ?side4 A3.out).mono ?_); (case side1 => repeat (first | exact (Kd.C_below HR0_2.out HB.out) | (with_reducible refine Kd.C_alloc ?_ _) | (with_reducible refine Kd.C_drewN ?_ _) | (with_reducible refine Kd.C_drew ?_))); (case side2 => exact HC0_2.out); (case side3 => repeat (first | exact (Kd.C_below HR0_3.out HB.out) | (with_reducible refine Kd.C_alloc ?_ _) | (with_reducible refine Kd.C_drewN ?_ _) | (with_reducible refine Kd.C_drew ?_))); (case side4 => exact HC0_3.out); rintro e w9 ⟨rfl, hb⟩; refine ⟨_, rfl, ?_⟩; have n0_ := kb BK388 hb; have n1_ := kb BK389 hb; have n2_ := sb hb; clear BK388; clear BK389; clear HB; have BK388 := n0_; have BK389 := n1_; have HB := n2_; clear n0_ n1_ n2_; (try clear hb); (try clear hb2); (try clear hk); (try clear hi)))
  go_ret
  exact ⟨by first | rfl | (simp [errW_none, errW_some] <;> rfl) | (simp [*, errW_none, errW_some] <;> rfl), by repeat (first | (with_reducible first | exact HB.out | apply below_alloc | apply pw_below_drewN | apply below_drew1 | refine below_set ?_ GE388.out | refine below_set ?_ GE389.out) | exact HB.out)⟩
 ·rw [if_neg c4] at H
  have c4b0 : decide (t390 < 0) = false := decide_eq_false c4
  clear c4
  replace H := Option.bind_eq_some_iff.mp H
  obtain ⟨⟨t391, t392, t393, t396⟩, A100, H⟩ := H
  replace H : ((laws_toPoint.f a1_0 a1_1).bind fun bt399 => ((spec_FaceAt.f k t391 t392 t393 t396 bt399.1 bt399.2).bind fun bt401 => ((laws_toDrawing.f k a0_0 a0_1 l0_2 l0_3).bind fun bt403 => ((laws_toPoint.f a1_0 a1_1).bind fun bt412 => ((impl_FaceAt.f k bt403.1 bt403.2.1 bt403.2.2.1 bt403.2.2.2 bt412.1 bt412.2).bind fun bt414 => (if bt414.1 = bt401.1 then (laws_FnExactFaceAt.j0 k (bt414.2 != bt401.2) a0_0 a0_1 l0_2 l0_3 bt403.1 bt403.2.1 bt403.2.2.1 bt403.2.2.2) else (laws_FnExactFaceAt.j0 k true a0_0 a0_1 l0_2 l0_3 bt403.1 bt403.2.1 bt403.2.2.1 bt403.2.2.2))))))) = some true := H
  have A10 := Aside0.mk A100
  clear A100
  replace H := Option.bind_eq_some_iff.mp H
  obtain ⟨⟨t399, t400⟩, A110, H⟩ := H
  replace H : ((spec_FaceAt.f k t391 t392 t393 t396 t399 t400).bind fun bt401 => ((laws_toDrawing.f k a0_0 a0_1 l0_2 l0_3).bind fun bt403 => ((laws_toPoint.f a1_0 a1_1).bind fun bt412 => ((impl_FaceAt.f k bt403.1 bt403.2.1 bt403.2.2.1 bt403.2.2.2 bt412.1 bt412.2).bind fun bt414 => (if bt414.1 = bt401.1 then (laws_FnExactFaceAt.j0 k (bt414.2 != bt401.2) a0_0 a0_1 l0_2 l0_3 bt403.1 bt403.2.1 bt403.2.2.1 bt403.2.2.2) else (laws_FnExactFaceAt.j0 k true a0_0 a0_1 l0_2 l0_3 bt403.1 bt403.2.1 bt403.2.2.1 bt403.2.2.2)))))) = some true := H
  have A11 := Aside0.mk A110
  clear A110
  replace H := Option.bind_eq_some_iff.mp H
  obtain ⟨⟨t401, t402⟩, A120, H⟩ := H
  replace H : ((laws_toDrawing.f k a0_0 a0_1 l0_2 l0_3).bind fun bt403 => ((laws_toPoint.f a1_0 a1_1).bind fun bt412 => ((impl_FaceAt.f k bt403.1 bt403.2.1 bt403.2.2.1 bt403.2.2.2 bt412.1 bt412.2).bind fun bt414 => (if bt414.1 = t401 then (laws_FnExactFaceAt.j0 k (bt414.2 != t402) a0_0 a0_1 l0_2 l0_3 bt403.1 bt403.2.1 bt403.2.2.1 bt403.2.2.2) else (laws_FnExactFaceAt.j0 k true a0_0 a0_1 l0_2 l0_3 bt403.1 bt403.2.1 bt403.2.2.1 bt403.2.2.2))))) = some true := H
  have A12 := Aside0.mk A120
  clear A120
  replace H := Option.bind_eq_some_iff.mp H
  obtain ⟨⟨t403, t404, t405, t408⟩, A130, H⟩ := H
  replace H : ((laws_toPoint.f a1_0 a1_1).bind fun bt412 => ((impl_FaceAt.f k t403 t404 t405 t408 bt412.1 bt412.2).bind fun bt414 => (if bt414.1 = t401 then (laws_FnExactFaceAt.j0 k (bt414.2 != t402) a0_0 a0_1 l0_2 l0_3 t403 t404 t405 t408) else (laws_FnExactFaceAt.j0 k true a0_0 a0_1 l0_2 l0_3 t403 t404 t405 t408)))) = some true := H
  have A13 := Aside0.mk A130
  clear A130
  replace H := Option.bind_eq_some_iff.mp H
  obtain ⟨⟨t412, t413⟩, A140, H⟩ := H
  replace H : ((impl_FaceAt.f k t403 t404 t405 t408 t412 t413).bind fun bt414 => (if bt414.1 = t401 then (laws_FnExactFaceAt.j0 k (bt414.2 != t402) a0_0 a0_1 l0_2 l0_3 t403 t404 t405 t408) else (laws_FnExactFaceAt.j0 k true a0_0 a0_1 l0_2 l0_3 t403 t404 t405 t408))) = some true := H
  have A14 := Aside0.mk A140
  clear A140
  replace H := Option.bind_eq_some_iff.mp H
  obtain ⟨⟨t414, t415⟩, A150, H⟩ := H
  replace H : (if t414 = t401 then (laws_FnExactFaceAt.j0 k (t415 != t402) a0_0 a0_1 l0_2 l0_3 t403 t404 t405 t408) else (laws_FnExactFaceAt.j0 k true a0_0 a0_1 l0_2 l0_3 t403 t404 t405 t408)) = some true := H
  have A15 := Aside0.mk A150
  clear A150
  have HC16 := Aside0.mk H
  clear H
  go_enter Try.func7, Try.ntmps7
  try go_wp2_with (first | ((with_reducible refine gate_dst (N := 2) rfl ?_); refine bx (cs := #[.int .i64 a0_0, .int .i64 a0_1, .slice A0_2 l0_2.length c0_2, .slice A0_3 l0_3.length c0_3]) (t := 25) ?_; intro gb388 hg w17 hbox hb; have n0_ := sb hb; have n1_ := Aside0.mk (hbox); have n2_ := zb hg; have n3_ := zb hg; clear HB; have HB := n0_; have BK388 := n1_; have GW388 := n2_; have GE388 := n3_; clear n0_ n1_ n2_ n3_; clear hb hbox hg) | ((with_reducible refine gate_dst (N := 3) rfl ?_); refine bx (cs := #[.int .i64 a1_0, .int .i64 a1_1]) (t := 46) ?_; intro gb389 hg w18 hbox hb; have n0_ := kb BK388 hb; have n1_ := sb hb; have n2_ := Aside0.mk (hbox); have n3_ := zb hg; have n4_ := zb hg; have n5_ := nl BK388 hg; have n6_ := ng BK388 hg; clear BK388; clear HB; have BK388 := n0_; have HB := n1_; have BK389 := n2_; have GW389 := n3_; have GE389 := n4_; have NB388_389 := n5_; have NB389_388 := n6_; clear n0_ n1_ n2_ n3_ n4_ n5_ n6_; clear hb hbox hg; have hnb19 := NB388_389.out; have hnc19 := NB389_388.out; have hcz20_0 := ck BK388 0; have hcz20_1 := ck BK388 1; have hcz20_2 := ck BK388 2; have hcz20_3 := ck BK388 3; have hfz20_0 := blk_frozen BK388.out 0; have hfz20_1 := blk_frozen BK388.out 1; have hfz20_2 := blk_frozen BK388.out 2; have hfz20_3 := blk_frozen BK388.out 3) | ((with_reducible refine gate_callee (f := 10) rfl ?_); refine goesL_ (some 13) rfl rfl Try.func10 (by kernel_rfl) rfl #[.agg #[.int .i64 a0_0, .int .i64 a0_1, .slice A0_2 l0_2.length c0_2, .slice A0_3 l0_3.length c0_3], .int .i64 1048576] rfl (by (try simp only [List.map_toArray, List.map_cons, List.map_nil]); first | done | rfl | (simp only [List.length_drop, List.length_take]; rfl)) ?_; (with_reducible refine (laws_szDrawing.calls k a0_0 a0_1 _ _ l0_2 _ _ l0_3 1048576 t390 _ ?side1 ?side2 ?side3 ?side4 A3.out).mono ?_); (case side1 => repeat (first | exact (Kd.C_below HR0_2.out HB.out) | (with_reducible refine Kd.C_alloc ?_ _) | (with_reducible refine Kd.C_drewN ?_ _) | (with_reducible refine Kd.C_drew ?_))); (case side2 => exact HC0_2.out); (case side3 => repeat (first | exact (Kd.C_below HR0_3.out HB.out) | (with_reducible refine Kd.C_alloc ?_ _) | (with_reducible refine Kd.C_drewN ?_ _) | (with_reducible refine Kd.C_drew ?_))); (case side4 => exact HC0_3.out); rintro e w21 ⟨rfl, hb⟩; refine ⟨_, rfl, ?_⟩; have n0_ := kb BK388 hb; have n1_ := kb BK389 hb; have n2_ := sb hb; clear BK388; clear BK389; clear HB; have BK388 := n0_; have BK389 := n1_; have HB := n2_; clear n0_ n1_ n2_; (try clear hb); (try clear hb2); (try clear hk); (try clear hi)))
  have n0_ := Aside0.mk (blk_drew BK388.out)
  have n1_ := Aside0.mk (blk_drew BK389.out)
  have n2_ := Aside0.mk (below_drew1 HB.out)
  clear BK388
  clear BK389
  clear HB
  have BK388 := n0_
  have BK389 := n1_
  have HB := n2_
  clear n0_ n1_ n2_
  refine start_ (n := 10) (S := fun w' => w'.cell? ⟨gb388, 0, none⟩ = some (.int .i64 a0_0) ∧ w'.cell? ⟨gb388, 1, none⟩ = some (.int .i64 a0_1) ∧ w'.cell? ⟨gb388, 2, none⟩ = some (.slice A0_2 l0_2.length c0_2) ∧ w'.cell? ⟨gb388, 3, none⟩ = some (.slice A0_3 l0_3.length c0_3) ∧ w'.cell? ⟨gb389, 0, none⟩ = some (.int .i64 a1_0) ∧ w'.cell? ⟨gb389, 1, none⟩ = some (.int .i64 a1_1)) (ds := []) #[fF,fF,fF,fF,fF,fF,fF,fF,fF,fF] (by kernel_rfl) rfl rfl ⟨(blk_cell BK388.out 0).trans rfl, (blk_cell BK388.out 1).trans rfl, (blk_cell BK388.out 2).trans rfl, (blk_cell BK388.out 3).trans rfl, (blk_cell BK389.out 0).trans rfl, (blk_cell BK389.out 1).trans rfl⟩ (fun hHeld => ?_); refine with_tabW laws_FnExactFaceAt.tab5 laws_FnExactFaceAt.bits5 (fun HT_ HW_ => ?_)
  generalize w21.drew = w22 at BK388 BK389 HB hHeld ⊢
  refine tk 0 17 HT_ HW_ hHeld ?_
  refine tk 2 19 HT_ HW_ hHeld ?_
  refine on 1 18 HT_ (fun K hK => ?_)
  refine goes_ Try.func12 (by kernel_rfl) rfl #[.agg #[.int .i64 a0_0, .int .i64 a0_1, .slice A0_2 l0_2.length c0_2, .slice A0_3 l0_3.length c0_3]] (by rfl) rfl rfl (by (try simp only [List.map_toArray, List.map_cons, List.map_nil]); first | done | rfl | (simp only [List.length_drop, List.length_take]; rfl)) ?_
  with_reducible refine (laws_toDrawing.calls k a0_0 a0_1 _ _ l0_2 _ _ l0_3 t391 t392 t393 t396 _ ?side1 ?side2 ?side3 ?side4 A10.out).mono ?_
  (case side1 => repeat (first | exact (Kd.C_below HR0_2.out HB.out) | (with_reducible refine Kd.C_alloc ?_ _) | (with_reducible refine Kd.C_drewN ?_ _) | (with_reducible refine Kd.C_drew ?_)))
  (case side2 => exact HC0_2.out)
  (case side3 => repeat (first | exact (Kd.C_below HR0_3.out HB.out) | (with_reducible refine Kd.C_alloc ?_ _) | (with_reducible refine Kd.C_drewN ?_ _) | (with_reducible refine Kd.C_drew ?_)))
  (case side4 => exact HC0_3.out)
  rintro e w23 ⟨v394, v397, rfl, ho0, ho1, hb⟩
  refine ⟨_, rfl, ?_⟩
  have n0_ := Aside0.mk (Kd.R_lower ho0 (below_size ib))
  have n1_ := Aside0.mk (Kd.S_lower ho1 (below_size ib))
  have n2_ := kb BK388 hb
  have n3_ := kb BK389 hb
  have n4_ := sb hb
  clear BK388
  clear BK389
  clear HB
  have HO395 := n0_
  have HO398 := n1_
  have BK388 := n2_
  have BK389 := n3_
  have HB := n4_
  clear n0_ n1_ n2_ n3_ n4_
  (try clear hb)
  (try clear hb2)
  (try clear hk)
  (try clear hi)
  (try clear ho0)
  (try clear ho1)
  refine hK.out _ _ ⟨(blk_cell BK388.out 0).trans rfl, (blk_cell BK388.out 1).trans rfl, (blk_cell BK388.out 2).trans rfl, (blk_cell BK388.out 3).trans rfl, (blk_cell BK389.out 0).trans rfl, (blk_cell BK389.out 1).trans rfl⟩ (fun hHeld => ?_)
  clear hK K
  refine norm_ (a' := ?_) ?_ ?_
  rotate_left
  ·show Act.put _ (some 18) _ = _
   simp only [Act.put, List.setIfInBounds_toArray, List.set_cons_zero, List.set_cons_succ, i64_w, i32_w]
   rfl
  refine on 3 20 HT_ (fun K hK => ?_)
  refine goes_ Try.func26 (by kernel_rfl) rfl #[.agg #[.int .i64 a1_0, .int .i64 a1_1]] (by rfl) rfl rfl (by (try simp only [List.map_toArray, List.map_cons, List.map_nil]); first | done | rfl | (simp only [List.length_drop, List.length_take]; rfl)) ?_
  with_reducible refine (laws_toPoint.calls a1_0 a1_1 t399 t400 _ A11.out).mono ?_
  rintro e w24 ⟨rfl, hb⟩
  refine ⟨_, rfl, ?_⟩
  have n0_ := Aside0.mk (Kd.R_below (by (with_reducible repeat (first | apply Kd.R_alloc | apply Kd.R_drewN | apply Kd.R_drew)); exact HO395.out) hb)
  have n1_ := Aside0.mk (Kd.S_below (by (with_reducible repeat (first | apply Kd.S_alloc | apply Kd.S_drewN | apply Kd.S_drew)); exact HO398.out) hb)
  have n2_ := kb BK388 hb
  have n3_ := kb BK389 hb
  have n4_ := sb hb
  clear HO395
  clear HO398
  clear BK388
  clear BK389
  clear HB
  have HO395 := n0_
  have HO398 := n1_
  have BK388 := n2_
  have BK389 := n3_
  have HB := n4_
  clear n0_ n1_ n2_ n3_ n4_
  (try clear hb)
  (try clear hb2)
  (try clear hk)
  (try clear hi)
  obtain ⟨Ao25, co25, eo25⟩ := Kd.R_slice HO395.out
  (first | subst eo25 | (injection eo25 with f1_ f2_ f3_; have f4_ := f1_.symm; have f5_ := f3_.symm; clear f1_ f2_ f3_; subst f4_; subst f5_))
  obtain ⟨Ao26, co26, eo26⟩ := Kd.S_slice HO398.out
  (first | subst eo26 | (injection eo26 with f1_ f2_ f3_; have f4_ := f1_.symm; have f5_ := f3_.symm; clear f1_ f2_ f3_; subst f4_; subst f5_))
  refine hK.out _ _ ⟨(blk_cell BK388.out 0).trans rfl, (blk_cell BK388.out 1).trans rfl, (blk_cell BK388.out 2).trans rfl, (blk_cell BK388.out 3).trans rfl, (blk_cell BK389.out 0).trans rfl, (blk_cell BK389.out 1).trans rfl⟩ (fun hHeld => ?_)
  clear hK K
  refine norm_ (a' := ?_) ?_ ?_
  rotate_left
  ·show Act.put _ (some 20) _ = _
   simp only [Act.put, List.setIfInBounds_toArray, List.set_cons_zero, List.set_cons_succ, i64_w, i32_w]
   rfl
  refine on 4 21 HT_ (fun K hK => ?_)
  refine goes_ Try.func25 (by kernel_rfl) rfl #[.agg #[.int .i64 t391, .int .i64 t392, .slice Ao25 t393.length co25, .slice Ao26 t396.length co26], .agg #[.int .i64 t399, .int .i64 t400]] (by rfl) rfl rfl (by (try simp only [List.map_toArray, List.map_cons, List.map_nil]); first | done | rfl | (simp only [List.length_drop, List.length_take]; rfl)) ?_
  with_reducible refine (spec_FaceAt.calls k t391 t392 _ _ t393 _ _ t396 t399 t400 t401 t402 _ ?side1 ?side2 ?side3 ?side4 A12.out).mono ?_
  (case side1 => repeat (first | exact (Kd.R_reads' HO395.out).2.2 | (with_reducible refine Kd.C_alloc ?_ _) | (with_reducible refine Kd.C_drewN ?_ _) | (with_reducible refine Kd.C_drew ?_)))
  (case side2 => exact (Kd.R_reads' HO395.out).2.1)
  (case side3 => repeat (first | exact (Kd.S_reads' HO398.out).2.2 | (with_reducible refine Kd.C_alloc ?_ _) | (with_reducible refine Kd.C_drewN ?_ _) | (with_reducible refine Kd.C_drew ?_)))
  (case side4 => exact (Kd.S_reads' HO398.out).2.1)
  rintro e w27 ⟨rfl, hb⟩
  refine ⟨_, rfl, ?_⟩
  have n0_ := Aside0.mk (Kd.R_below (by (with_reducible repeat (first | apply Kd.R_alloc | apply Kd.R_drewN | apply Kd.R_drew)); exact HO395.out) hb)
  have n1_ := Aside0.mk (Kd.S_below (by (with_reducible repeat (first | apply Kd.S_alloc | apply Kd.S_drewN | apply Kd.S_drew)); exact HO398.out) hb)
  have n2_ := kb BK388 hb
  have n3_ := kb BK389 hb
  have n4_ := sb hb
  clear HO395
  clear HO398
  clear BK388
  clear BK389
  clear HB
  have HO395 := n0_
  have HO398 := n1_
  have BK388 := n2_
  have BK389 := n3_
  have HB := n4_
  clear n0_ n1_ n2_ n3_ n4_
  (try clear hb)
  (try clear hb2)
  (try clear hk)
  (try clear hi)
  refine hK.out _ _ ⟨(blk_cell BK388.out 0).trans rfl, (blk_cell BK388.out 1).trans rfl, (blk_cell BK388.out 2).trans rfl, (blk_cell BK388.out 3).trans rfl, (blk_cell BK389.out 0).trans rfl, (blk_cell BK389.out 1).trans rfl⟩ (fun hHeld => ?_)
  clear hK K
  refine norm_ (a' := ?_) ?_ ?_
  rotate_left
  ·show Act.put _ (some 21) _ = _
   simp only [Act.put, List.setIfInBounds_toArray, List.set_cons_zero, List.set_cons_succ, i64_w, i32_w]
   rfl
  refine pu 5 16 HT_ ?_
  refine pu 6 22 HT_ ?_
  refine pu 7 23 HT_ ?_
  refine pu 8 6 HT_ ?_
  refine pu 9 7 HT_ ?_
  refine done_ (done_of HT_.out (by kernel_rfl)) ?_
  have hcz28_0 := ck BK388 0
  have hcz28_1 := ck BK388 1
  have hcz28_2 := ck BK388 2
  have hcz28_3 := ck BK388 3
  have hfz28_0 := blk_frozen BK388.out 0
  have hfz28_1 := blk_frozen BK388.out 1
  have hfz28_2 := blk_frozen BK388.out 2
  have hfz28_3 := blk_frozen BK388.out 3
  try go_wp2_with (first | ((with_reducible refine gate_callee (f := 12) rfl ?_); refine goesL_ (some 25) rfl rfl Try.func12 (by kernel_rfl) rfl #[.agg #[.int .i64 a0_0, .int .i64 a0_1, .slice A0_2 l0_2.length c0_2, .slice A0_3 l0_3.length c0_3]] rfl (by (try simp only [List.map_toArray, List.map_cons, List.map_nil]); first | done | rfl | (simp only [List.length_drop, List.length_take]; rfl)) ?_; (with_reducible refine (laws_toDrawing.calls k a0_0 a0_1 _ _ l0_2 _ _ l0_3 t403 t404 t405 t408 _ ?side1 ?side2 ?side3 ?side4 A13.out).mono ?_); (case side1 => repeat (first | exact (Kd.C_below HR0_2.out HB.out) | (with_reducible refine Kd.C_alloc ?_ _) | (with_reducible refine Kd.C_drewN ?_ _) | (with_reducible refine Kd.C_drew ?_))); (case side2 => exact HC0_2.out); (case side3 => repeat (first | exact (Kd.C_below HR0_3.out HB.out) | (with_reducible refine Kd.C_alloc ?_ _) | (with_reducible refine Kd.C_drewN ?_ _) | (with_reducible refine Kd.C_drew ?_))); (case side4 => exact HC0_3.out); rintro e w29 ⟨v406, v409, rfl, ho0, ho1, hb⟩; refine ⟨_, rfl, ?_⟩; have n0_ := Aside0.mk (Kd.R_elder' (by (with_reducible repeat (first | apply Kd.R_alloc | apply Kd.R_drewN | apply Kd.R_drew)); exact HO395.out) (Kd.R_base ho0) hb); have n1_ := Aside0.mk (Kd.S_elder' (by (with_reducible repeat (first | apply Kd.S_alloc | apply Kd.S_drewN | apply Kd.S_drew)); exact HO398.out) (Kd.S_base ho1) hb); have n2_ := Aside0.mk (Kd.R_lower (Kd.R_new' ho0 (Kd.R_lt (by (with_reducible repeat (first | apply Kd.R_alloc | apply Kd.R_drewN | apply Kd.R_drew)); exact HO395.out))) (below_size ib)); have n3_ := Aside0.mk (Kd.S_lower (Kd.S_new' ho1 (Kd.S_lt (by (with_reducible repeat (first | apply Kd.S_alloc | apply Kd.S_drewN | apply Kd.S_drew)); exact HO398.out))) (below_size ib)); have n4_ := kb BK388 hb; have n5_ := kb BK389 hb; have n6_ := sb hb; clear HO395; clear HO398; clear BK388; clear BK389; clear HB; have HO395 := n0_; have HO398 := n1_; have HO407 := n2_; have HO410 := n3_; have BK388 := n4_; have BK389 := n5_; have HB := n6_; clear n0_ n1_ n2_ n3_ n4_ n5_ n6_; (try clear hb); (try clear hb2); (try clear hk); (try clear hi); (try clear ho0); (try clear ho1)) | ((with_reducible refine gate_dst (N := 8) rfl ?_); refine bx (cs := #[.int .i64 0, .int .i64 0, .slice none 0 0, .slice none 0 0]) (t := 31) ?_; intro gb411 hg w30 hbox hb; have n0_ := Aside0.mk (Kd.R_below (by (with_reducible repeat (first | apply Kd.R_alloc | apply Kd.R_drewN | apply Kd.R_drew)); exact HO395.out) hb); have n1_ := Aside0.mk (Kd.S_below (by (with_reducible repeat (first | apply Kd.S_alloc | apply Kd.S_drewN | apply Kd.S_drew)); exact HO398.out) hb); have n2_ := Aside0.mk (Kd.R_below (by (with_reducible repeat (first | apply Kd.R_alloc | apply Kd.R_drewN | apply Kd.R_drew)); exact HO407.out) hb); have n3_ := Aside0.mk (Kd.S_below (by (with_reducible repeat (first | apply Kd.S_alloc | apply Kd.S_drewN | apply Kd.S_drew)); exact HO410.out) hb); have n4_ := kb BK388 hb; have n5_ := kb BK389 hb; have n6_ := sb hb; have n7_ := Aside0.mk (hbox); have n8_ := zb hg; have n9_ := zb hg; have n10_ := nl BK388 hg; have n11_ := ng BK388 hg; have n12_ := nl BK389 hg; have n13_ := ng BK389 hg; clear HO395; clear HO398; clear HO407; clear HO410; clear BK388; clear BK389; clear HB; have HO395 := n0_; have HO398 := n1_; have HO407 := n2_; have HO410 := n3_; have BK388 := n4_; have BK389 := n5_; have HB := n6_; have BK411 := n7_; have GW411 := n8_; have GE411 := n9_; have NB388_411 := n10_; have NB411_388 := n11_; have NB389_411 := n12_; have NB411_389 := n13_; clear n0_ n1_ n2_ n3_ n4_ n5_ n6_ n7_ n8_ n9_ n10_ n11_ n12_ n13_; clear hb hbox hg; have hnb31 := NB411_388.out; have hnc31 := NB388_411.out; have hnb32 := NB411_389.out; have hnc32 := NB389_411.out; have hcz33_0 := ck BK411 0; have hcz33_1 := ck BK411 1; have hcz33_2 := ck BK411 2; have hcz33_3 := ck BK411 3; have hfz33_0 := blk_frozen BK411.out 0; have hfz33_1 := blk_frozen BK411.out 1; have hfz33_2 := blk_frozen BK411.out 2; have hfz33_3 := blk_frozen BK411.out 3; obtain ⟨Ao34, co34, eo34⟩ := Kd.R_slice HO407.out; subst eo34; obtain ⟨Ao35, co35, eo35⟩ := Kd.S_slice HO410.out; subst eo35))
  have n0_ : Aside0 (Kd.R k48 48 ((((w30.setCell ⟨gb411, 0, none⟩ (.int .i64 t403)).setCell ⟨gb411, 1, none⟩ (.int .i64 t404)).setCell ⟨gb411, 2, none⟩ (.slice Ao34 t405.length co34)).setCell ⟨gb411, 3, none⟩ (.slice Ao35 t408.length co35)) w.heap.size (fun k_ => some k_ ≠ (.slice Ao34 t405.length co34 : Value).ownBlock) (.slice Ao25 t393.length co25) t393) := ⟨by (with_reducible repeat (first | apply Kd.R_alloc | apply Kd.R_drewN | apply Kd.R_drew)); exact Kd.R_mono (Kd.R_far (p := ⟨gb411, 3, none⟩) (Kd.R_far (p := ⟨gb411, 2, none⟩) (Kd.R_far (p := ⟨gb411, 1, none⟩) (Kd.R_far (p := ⟨gb411, 0, none⟩) (Kd.R_types HO395.out BK411.out (by decide)) (fun _ hk => hk.2) (.int .i64 t403)) (fun _ hk => hk.2) (.int .i64 t404)) (fun _ hk => hk.2) (.slice Ao34 t405.length co34)) (fun _ hk => hk.2) (.slice Ao35 t408.length co35)) (fun _ hk => hk.1.2)⟩
  have n1_ : Aside0 (Kd.S k67 67 ((((w30.setCell ⟨gb411, 0, none⟩ (.int .i64 t403)).setCell ⟨gb411, 1, none⟩ (.int .i64 t404)).setCell ⟨gb411, 2, none⟩ (.slice Ao34 t405.length co34)).setCell ⟨gb411, 3, none⟩ (.slice Ao35 t408.length co35)) w.heap.size (fun k_ => some k_ ≠ (.slice Ao35 t408.length co35 : Value).ownBlock) (.slice Ao26 t396.length co26) t396) := ⟨by (with_reducible repeat (first | apply Kd.S_alloc | apply Kd.S_drewN | apply Kd.S_drew)); exact Kd.S_mono (Kd.S_far (p := ⟨gb411, 3, none⟩) (Kd.S_far (p := ⟨gb411, 2, none⟩) (Kd.S_far (p := ⟨gb411, 1, none⟩) (Kd.S_far (p := ⟨gb411, 0, none⟩) (Kd.S_types HO398.out BK411.out (by decide)) (fun _ hk => hk.2) (.int .i64 t403)) (fun _ hk => hk.2) (.int .i64 t404)) (fun _ hk => hk.2) (.slice Ao34 t405.length co34)) (fun _ hk => hk.2) (.slice Ao35 t408.length co35)) (fun _ hk => hk.1.2)⟩
  have n2_ : Aside0 (Kd.R k48 48 ((((w30.setCell ⟨gb411, 0, none⟩ (.int .i64 t403)).setCell ⟨gb411, 1, none⟩ (.int .i64 t404)).setCell ⟨gb411, 2, none⟩ (.slice Ao34 t405.length co34)).setCell ⟨gb411, 3, none⟩ (.slice Ao35 t408.length co35)) w.heap.size (fun k_ => some k_ ≠ (.slice Ao25 t393.length co25 : Value).ownBlock) (.slice Ao34 t405.length co34) t405) := ⟨by (with_reducible repeat (first | apply Kd.R_alloc | apply Kd.R_drewN | apply Kd.R_drew)); exact Kd.R_mono (Kd.R_far (p := ⟨gb411, 3, none⟩) (Kd.R_far (p := ⟨gb411, 2, none⟩) (Kd.R_far (p := ⟨gb411, 1, none⟩) (Kd.R_far (p := ⟨gb411, 0, none⟩) (Kd.R_types HO407.out BK411.out (by decide)) (fun _ hk => hk.2) (.int .i64 t403)) (fun _ hk => hk.2) (.int .i64 t404)) (fun _ hk => hk.2) (.slice Ao34 t405.length co34)) (fun _ hk => hk.2) (.slice Ao35 t408.length co35)) (fun _ hk => hk.1.2)⟩
  have n3_ : Aside0 (Kd.S k67 67 ((((w30.setCell ⟨gb411, 0, none⟩ (.int .i64 t403)).setCell ⟨gb411, 1, none⟩ (.int .i64 t404)).setCell ⟨gb411, 2, none⟩ (.slice Ao34 t405.length co34)).setCell ⟨gb411, 3, none⟩ (.slice Ao35 t408.length co35)) w.heap.size (fun k_ => some k_ ≠ (.slice Ao26 t396.length co26 : Value).ownBlock) (.slice Ao35 t408.length co35) t408) := ⟨by (with_reducible repeat (first | apply Kd.S_alloc | apply Kd.S_drewN | apply Kd.S_drew)); exact Kd.S_mono (Kd.S_far (p := ⟨gb411, 3, none⟩) (Kd.S_far (p := ⟨gb411, 2, none⟩) (Kd.S_far (p := ⟨gb411, 1, none⟩) (Kd.S_far (p := ⟨gb411, 0, none⟩) (Kd.S_types HO410.out BK411.out (by decide)) (fun _ hk => hk.2) (.int .i64 t403)) (fun _ hk => hk.2) (.int .i64 t404)) (fun _ hk => hk.2) (.slice Ao34 t405.length co34)) (fun _ hk => hk.2) (.slice Ao35 t408.length co35)) (fun _ hk => hk.1.2)⟩
  have n4_ : Aside0 (((((w30.setCell ⟨gb411, 0, none⟩ (.int .i64 t403)).setCell ⟨gb411, 1, none⟩ (.int .i64 t404)).setCell ⟨gb411, 2, none⟩ (.slice Ao34 t405.length co34)).setCell ⟨gb411, 3, none⟩ (.slice Ao35 t408.length co35)).heap[gb388]? = some (.cells #[.int .i64 a0_0, .int .i64 a0_1, .slice A0_2 l0_2.length c0_2, .slice A0_3 l0_3.length c0_3] 25 (0, 0))) := ⟨by refine bF NB388_411.out ?_; refine bF NB388_411.out ?_; refine bF NB388_411.out ?_; refine bF NB388_411.out ?_; exact bk BK388⟩
  have n5_ : Aside0 (((((w30.setCell ⟨gb411, 0, none⟩ (.int .i64 t403)).setCell ⟨gb411, 1, none⟩ (.int .i64 t404)).setCell ⟨gb411, 2, none⟩ (.slice Ao34 t405.length co34)).setCell ⟨gb411, 3, none⟩ (.slice Ao35 t408.length co35)).heap[gb389]? = some (.cells #[.int .i64 a1_0, .int .i64 a1_1] 46 (0, 0))) := ⟨by refine bF NB389_411.out ?_; refine bF NB389_411.out ?_; refine bF NB389_411.out ?_; refine bF NB389_411.out ?_; exact bk BK389⟩
  have n6_ : Aside0 (((((w30.setCell ⟨gb411, 0, none⟩ (.int .i64 t403)).setCell ⟨gb411, 1, none⟩ (.int .i64 t404)).setCell ⟨gb411, 2, none⟩ (.slice Ao34 t405.length co34)).setCell ⟨gb411, 3, none⟩ (.slice Ao35 t408.length co35)).heap[gb411]? = some (.cells #[.int .i64 t403, .int .i64 t404, .slice Ao34 t405.length co34, .slice Ao35 t408.length co35] 31 (0, 0))) := ⟨by refine bP (cs := #[.int .i64 t403, .int .i64 t404, .slice Ao34 t405.length co34, .slice none 0 0]) 3 ?_; refine bP (cs := #[.int .i64 t403, .int .i64 t404, .slice none 0 0, .slice none 0 0]) 2 ?_; refine bP (cs := #[.int .i64 t403, .int .i64 0, .slice none 0 0, .slice none 0 0]) 1 ?_; refine bP (cs := #[.int .i64 0, .int .i64 0, .slice none 0 0, .slice none 0 0]) 0 ?_; exact bk BK411⟩
  have n7_ : Aside0 (Below w.heap.size w ((((w30.setCell ⟨gb411, 0, none⟩ (.int .i64 t403)).setCell ⟨gb411, 1, none⟩ (.int .i64 t404)).setCell ⟨gb411, 2, none⟩ (.slice Ao34 t405.length co34)).setCell ⟨gb411, 3, none⟩ (.slice Ao35 t408.length co35))) := ⟨by repeat (first | (with_reducible first | exact HB.out | apply below_alloc | apply pw_below_drewN | apply below_drew1 | refine below_set ?_ GE388.out | refine below_set ?_ GE389.out | refine below_set ?_ GE411.out) | exact HB.out)⟩
  (try clear HO395)
  (try clear HO398)
  (try clear HO407)
  (try clear HO410)
  (try clear BK388)
  (try clear BK389)
  (try clear BK411)
  (try clear HB)
  generalize ((((w30.setCell ⟨gb411, 0, none⟩ (.int .i64 t403)).setCell ⟨gb411, 1, none⟩ (.int .i64 t404)).setCell ⟨gb411, 2, none⟩ (.slice Ao34 t405.length co34)).setCell ⟨gb411, 3, none⟩ (.slice Ao35 t408.length co35)) = w36 at n0_ n1_ n2_ n3_ n4_ n5_ n6_ n7_ ⊢
  have HO395 := n0_
  have HO398 := n1_
  have HO407 := n2_
  have HO410 := n3_
  have BK388 := n4_
  have BK389 := n5_
  have BK411 := n6_
  have HB := n7_
  clear n0_ n1_ n2_ n3_ n4_ n5_ n6_ n7_
  have n0_ := Aside0.mk (Kd.R_drew HO395.out)
  have n1_ := Aside0.mk (Kd.S_drew HO398.out)
  have n2_ := Aside0.mk (Kd.R_drew HO407.out)
  have n3_ := Aside0.mk (Kd.S_drew HO410.out)
  have n4_ := Aside0.mk (blk_drew BK388.out)
  have n5_ := Aside0.mk (blk_drew BK389.out)
  have n6_ := Aside0.mk (blk_drew BK411.out)
  have n7_ := Aside0.mk (below_drew1 HB.out)
  clear HO395
  clear HO398
  clear HO407
  clear HO410
  clear BK388
  clear BK389
  clear BK411
  clear HB
  have HO395 := n0_
  have HO398 := n1_
  have HO407 := n2_
  have HO410 := n3_
  have BK388 := n4_
  have BK389 := n5_
  have BK411 := n6_
  have HB := n7_
  clear n0_ n1_ n2_ n3_ n4_ n5_ n6_ n7_
  refine start_ (n := 9) (S := fun w' => w'.cell? ⟨gb411, 0, none⟩ = some (.int .i64 t403) ∧ w'.cell? ⟨gb411, 1, none⟩ = some (.int .i64 t404) ∧ w'.cell? ⟨gb411, 2, none⟩ = some (.slice Ao34 t405.length co34) ∧ w'.cell? ⟨gb411, 3, none⟩ = some (.slice Ao35 t408.length co35) ∧ w'.cell? ⟨gb389, 0, none⟩ = some (.int .i64 a1_0) ∧ w'.cell? ⟨gb389, 1, none⟩ = some (.int .i64 a1_1)) (ds := []) #[fF,fF,fF,fF,fF,fF,fF,fF,fF] (by kernel_rfl) rfl rfl ⟨(blk_cell BK411.out 0).trans rfl, (blk_cell BK411.out 1).trans rfl, (blk_cell BK411.out 2).trans rfl, (blk_cell BK411.out 3).trans rfl, (blk_cell BK389.out 0).trans rfl, (blk_cell BK389.out 1).trans rfl⟩ (fun hHeld => ?_); refine with_tabW laws_FnExactFaceAt.tab7 laws_FnExactFaceAt.bits7 (fun HT_ HW_ => ?_)
  generalize w36.drew = w37 at HO395 HO398 HO407 HO410 BK388 BK389 BK411 HB hHeld ⊢
  refine tk 0 27 HT_ HW_ hHeld ?_
  refine tk 1 28 HT_ HW_ hHeld ?_
  refine on 2 29 HT_ (fun K hK => ?_)
  refine goes_ Try.func26 (by kernel_rfl) rfl #[.agg #[.int .i64 a1_0, .int .i64 a1_1]] (by rfl) rfl rfl (by (try simp only [List.map_toArray, List.map_cons, List.map_nil]); first | done | rfl | (simp only [List.length_drop, List.length_take]; rfl)) ?_
  with_reducible refine (laws_toPoint.calls a1_0 a1_1 t412 t413 _ A14.out).mono ?_
  rintro e w38 ⟨rfl, hb⟩
  refine ⟨_, rfl, ?_⟩
  have n0_ := Aside0.mk (Kd.R_below (by (with_reducible repeat (first | apply Kd.R_alloc | apply Kd.R_drewN | apply Kd.R_drew)); exact HO395.out) hb)
  have n1_ := Aside0.mk (Kd.S_below (by (with_reducible repeat (first | apply Kd.S_alloc | apply Kd.S_drewN | apply Kd.S_drew)); exact HO398.out) hb)
  have n2_ := Aside0.mk (Kd.R_below (by (with_reducible repeat (first | apply Kd.R_alloc | apply Kd.R_drewN | apply Kd.R_drew)); exact HO407.out) hb)
  have n3_ := Aside0.mk (Kd.S_below (by (with_reducible repeat (first | apply Kd.S_alloc | apply Kd.S_drewN | apply Kd.S_drew)); exact HO410.out) hb)
  have n4_ := kb BK388 hb
  have n5_ := kb BK389 hb
  have n6_ := kb BK411 hb
  have n7_ := sb hb
  clear HO395
  clear HO398
  clear HO407
  clear HO410
  clear BK388
  clear BK389
  clear BK411
  clear HB
  have HO395 := n0_
  have HO398 := n1_
  have HO407 := n2_
  have HO410 := n3_
  have BK388 := n4_
  have BK389 := n5_
  have BK411 := n6_
  have HB := n7_
  clear n0_ n1_ n2_ n3_ n4_ n5_ n6_ n7_
  (try clear hb)
  (try clear hb2)
  (try clear hk)
  (try clear hi)
  refine hK.out _ _ ⟨(blk_cell BK411.out 0).trans rfl, (blk_cell BK411.out 1).trans rfl, (blk_cell BK411.out 2).trans rfl, (blk_cell BK411.out 3).trans rfl, (blk_cell BK389.out 0).trans rfl, (blk_cell BK389.out 1).trans rfl⟩ (fun hHeld => ?_)
  clear hK K
  refine norm_ (a' := ?_) ?_ ?_
  rotate_left
  ·show Act.put _ (some 29) _ = _
   simp only [Act.put, List.setIfInBounds_toArray, List.set_cons_zero, List.set_cons_succ, i64_w, i32_w]
   rfl
  refine on 3 30 HT_ (fun K hK => ?_)
  refine goes_ Try.func27 (by kernel_rfl) rfl #[.agg #[.int .i64 t403, .int .i64 t404, .slice Ao34 t405.length co34, .slice Ao35 t408.length co35], .agg #[.int .i64 t412, .int .i64 t413]] (by rfl) rfl rfl (by (try simp only [List.map_toArray, List.map_cons, List.map_nil]); first | done | rfl | (simp only [List.length_drop, List.length_take]; rfl)) ?_
  with_reducible refine (impl_FaceAt.calls k t403 t404 _ _ t405 _ _ t408 t412 t413 t414 t415 _ ?side1 ?side2 ?side3 ?side4 A15.out).mono ?_
  (case side1 => repeat (first | exact (Kd.R_reads' HO407.out).2.2 | (with_reducible refine Kd.C_alloc ?_ _) | (with_reducible refine Kd.C_drewN ?_ _) | (with_reducible refine Kd.C_drew ?_)))
  (case side2 => exact (Kd.R_reads' HO407.out).2.1)
  (case side3 => repeat (first | exact (Kd.S_reads' HO410.out).2.2 | (with_reducible refine Kd.C_alloc ?_ _) | (with_reducible refine Kd.C_drewN ?_ _) | (with_reducible refine Kd.C_drew ?_)))
  (case side4 => exact (Kd.S_reads' HO410.out).2.1)
  rintro e w39 ⟨rfl, hb⟩
  refine ⟨_, rfl, ?_⟩
  have n0_ := Aside0.mk (Kd.R_below (by (with_reducible repeat (first | apply Kd.R_alloc | apply Kd.R_drewN | apply Kd.R_drew)); exact HO395.out) hb)
  have n1_ := Aside0.mk (Kd.S_below (by (with_reducible repeat (first | apply Kd.S_alloc | apply Kd.S_drewN | apply Kd.S_drew)); exact HO398.out) hb)
  have n2_ := Aside0.mk (Kd.R_below (by (with_reducible repeat (first | apply Kd.R_alloc | apply Kd.R_drewN | apply Kd.R_drew)); exact HO407.out) hb)
  have n3_ := Aside0.mk (Kd.S_below (by (with_reducible repeat (first | apply Kd.S_alloc | apply Kd.S_drewN | apply Kd.S_drew)); exact HO410.out) hb)
  have n4_ := kb BK388 hb
  have n5_ := kb BK389 hb
  have n6_ := kb BK411 hb
  have n7_ := sb hb
  clear HO395
  clear HO398
  clear HO407
  clear HO410
  clear BK388
  clear BK389
  clear BK411
  clear HB
  have HO395 := n0_
  have HO398 := n1_
  have HO407 := n2_
  have HO410 := n3_
  have BK388 := n4_
  have BK389 := n5_
  have BK411 := n6_
  have HB := n7_
  clear n0_ n1_ n2_ n3_ n4_ n5_ n6_ n7_
  (try clear hb)
  (try clear hb2)
  (try clear hk)
  (try clear hi)
  refine hK.out _ _ ⟨(blk_cell BK411.out 0).trans rfl, (blk_cell BK411.out 1).trans rfl, (blk_cell BK411.out 2).trans rfl, (blk_cell BK411.out 3).trans rfl, (blk_cell BK389.out 0).trans rfl, (blk_cell BK389.out 1).trans rfl⟩ (fun hHeld => ?_)
  clear hK K
  refine norm_ (a' := ?_) ?_ ?_
  rotate_left
  ·show Act.put _ (some 30) _ = _
   simp only [Act.put, List.setIfInBounds_toArray, List.set_cons_zero, List.set_cons_succ, i64_w, i32_w]
   rfl
  refine pu 4 26 HT_ ?_
  refine pu 5 31 HT_ ?_
  refine pu 6 32 HT_ ?_
  refine pu 7 9 HT_ ?_
  refine pu 8 10 HT_ ?_
  refine done_ (done_of HT_.out (by kernel_rfl)) ?_
  go_upto_region 8 with (fail)
  go_cut [40] (fun v40 wc => ∃ (kq : Nat) (x40_15 : Bool), v40 = .bool x40_15 ∧ Aside0 (laws_FnExactFaceAt.j0 kq x40_15 a0_0 a0_1 l0_2 l0_3 t403 t404 t405 t408 = some true) ∧ Aside0 (kq ≤ k) ∧ Aside0 (Kd.R k48 48 wc w.heap.size (fun _ => True) (.slice Ao34 t405.length co34) t405) ∧ Aside0 (Kd.S k67 67 wc w.heap.size (fun _ => True) (.slice Ao35 t408.length co35) t408) ∧ Aside0 (wc.heap[gb388]? = some (.cells #[.int .i64 a0_0, .int .i64 a0_1, (.slice A0_2 l0_2.length c0_2), (.slice A0_3 l0_3.length c0_3)] 25 (0, 0))) ∧ Aside0 (wc.heap[gb389]? = some (.cells #[.int .i64 a1_0, .int .i64 a1_1] 46 (0, 0))) ∧ Aside0 (wc.heap[gb411]? = some (.cells #[.int .i64 t403, .int .i64 t404, (.slice Ao34 t405.length co34), (.slice Ao35 t408.length co35)] 31 (0, 0))) ∧ Aside0 (Below w.heap.size w wc))
  case first =>
   have H := HC16.out
   clear HC16
   by_cases c40 : t414 = t401
   ·rw [if_pos c40] at H
    have c40b0 : (t414 == t401) = true := beq_iff_eq.mpr c40
    have c40b1 : (t414 != t401) = false := bne_eq_false_iff_eq.mpr c40
    clear c40
    (first | rw [c40b0] | (simp only [i64_w, i32_w]; rw [c40b0]) | skip)
    have H' := Aside0.mk H
    clear H
    go_wp2
    go_meet
    case rel => exact ⟨_, ((t415 != t402)), (by first | rfl | (simp; done) | (simp [*]; done)), H', ⟨by first | omega | exact Nat.le_refl _⟩, ⟨by (with_reducible repeat (first | apply Kd.R_alloc | apply Kd.R_drewN | apply Kd.R_drew)); exact Kd.R_mono HO407.out (fun _ hk => trivial)⟩, ⟨by (with_reducible repeat (first | apply Kd.S_alloc | apply Kd.S_drewN | apply Kd.S_drew)); exact Kd.S_mono HO410.out (fun _ hk => trivial)⟩, ⟨by exact bk BK388⟩, ⟨by exact bk BK389⟩, ⟨by exact bk BK411⟩, ⟨by repeat (first | (with_reducible first | exact HB.out | apply below_alloc | apply pw_below_drewN | apply below_drew1 | refine below_set ?_ GE388.out | refine below_set ?_ GE389.out | refine below_set ?_ GE411.out) | exact HB.out)⟩⟩
   ·rw [if_neg c40] at H
    have c40b0 : (t414 == t401) = false := beq_eq_false_iff_ne.mpr c40
    have c40b1 : (t414 != t401) = true := bne_iff_ne.mpr c40
    (first | rw [c40b0] | (simp only [i64_w, i32_w]; rw [c40b0]) | skip)
    have H' := Aside0.mk H
    clear H
    go_wp2
    go_meet
    case rel => exact ⟨_, (true), (by first | rfl | (simp; done) | (simp [*]; done)), H', ⟨by first | omega | exact Nat.le_refl _⟩, ⟨by (with_reducible repeat (first | apply Kd.R_alloc | apply Kd.R_drewN | apply Kd.R_drew)); exact Kd.R_mono HO407.out (fun _ hk => trivial)⟩, ⟨by (with_reducible repeat (first | apply Kd.S_alloc | apply Kd.S_drewN | apply Kd.S_drew)); exact Kd.S_mono HO410.out (fun _ hk => trivial)⟩, ⟨by exact bk BK388⟩, ⟨by exact bk BK389⟩, ⟨by exact bk BK411⟩, ⟨by repeat (first | (with_reducible first | exact HB.out | apply below_alloc | apply pw_below_drewN | apply below_drew1 | refine below_set ?_ GE388.out | refine below_set ?_ GE389.out | refine below_set ?_ GE411.out) | exact HB.out)⟩⟩
  case rest =>
   clear HC16
   try clear c1
   try clear c2
   try clear p2
   try clear c3
   try clear c4
   try clear c4b0
   try clear c7
   try clear c10
   try clear c12
   try clear c19
   try clear c25
   try clear c26
   try clear c27
   try clear c31
   try clear c32
   try clear c40
   try clear c40b0
   try clear c40b1
   try clear hcz20_0
   try clear hcz20_1
   try clear hcz20_2
   try clear hcz20_3
   try clear hcz28_0
   try clear hcz28_1
   try clear hcz28_2
   try clear hcz28_3
   try clear hcz33_0
   try clear hcz33_1
   try clear hcz33_2
   try clear hcz33_3
   try clear hcz8_0
   try clear hcz8_1
   try clear hcz8_2
   try clear hcz8_3
   try clear hfz20_0
   try clear hfz20_1
   try clear hfz20_2
   try clear hfz20_3
   try clear hfz28_0
   try clear hfz28_1
   try clear hfz28_2
   try clear hfz28_3
   try clear hfz33_0
   try clear hfz33_1
   try clear hfz33_2
   try clear hfz33_3
   try clear hfz8_0
   try clear hfz8_1
   try clear hfz8_2
   try clear hfz8_3
   obtain ⟨kq, x40_15, rfl, HA, HJ15, HO_412002, HO_412003, BK388, BK389, BK411, HB⟩ := hcut
   cases kq with
   | zero => exact absurd HA.out (by simp [laws_FnExactFaceAt.j0])
   | succ kj15 =>
    have H := HA.out
    clear HA
    simp only [laws_FnExactFaceAt.j0] at H
    by_cases c41 : x40_15 = true
    ·subst c41
     have H1 : (some false) = some true := by rw [if_pos rfl] at H; exact H
     clear H
     have H := H1
     clear H1
     cases H
    ·replace c41 := Bool.eq_false_iff.mpr c41
     subst c41
     have H1 : ((laws_toDrawing.f kj15 a0_0 a0_1 l0_2 l0_3).bind fun bt416 => ((laws_eqDrawing.f kj15 t403 t404 t405 t408 bt416.1 bt416.2.1 bt416.2.2.1 bt416.2.2.2).bind fun t424 => (if t424 = true then (some true) else (some false)))) = some true := by rw [if_neg (show ¬ (false = true) by decide)] at H; exact H
     clear H
     have H := H1
     clear H1
     replace H := Option.bind_eq_some_iff.mp H
     obtain ⟨⟨t416, t417, t418, t421⟩, A420, H⟩ := H
     replace H : ((laws_eqDrawing.f kj15 t403 t404 t405 t408 t416 t417 t418 t421).bind fun t424 => (if t424 = true then (some true) else (some false))) = some true := H
     have A42 := Aside0.mk A420
     clear A420
     replace H := Option.bind_eq_some_iff.mp H
     obtain ⟨t424, A430, H⟩ := H
     replace H : (if t424 = true then (some true) else (some false)) = some true := H
     have A43 := Aside0.mk A430
     clear A430
     by_cases c44 : t424 = true
     ·subst c44
      have H1 : (some true) = some true := rfl
      clear H
      have H := H1
      clear H1
      clear H
      try go_wp2
      have n0_ := Aside0.mk (Kd.R_drew HO_412002.out)
      have n1_ := Aside0.mk (Kd.S_drew HO_412003.out)
      have n2_ := Aside0.mk (blk_drew BK388.out)
      have n3_ := Aside0.mk (blk_drew BK389.out)
      have n4_ := Aside0.mk (blk_drew BK411.out)
      have n5_ := Aside0.mk (below_drew1 HB.out)
      clear HO_412002
      clear HO_412003
      clear BK388
      clear BK389
      clear BK411
      clear HB
      have HO_412002 := n0_
      have HO_412003 := n1_
      have BK388 := n2_
      have BK389 := n3_
      have BK411 := n4_
      have HB := n5_
      clear n0_ n1_ n2_ n3_ n4_ n5_
      refine start_ (n := 5) (S := fun w' => w'.cell? ⟨gb411, 0, none⟩ = some (.int .i64 t403) ∧ w'.cell? ⟨gb411, 1, none⟩ = some (.int .i64 t404) ∧ w'.cell? ⟨gb411, 2, none⟩ = some (.slice Ao34 t405.length co34) ∧ w'.cell? ⟨gb411, 3, none⟩ = some (.slice Ao35 t408.length co35) ∧ w'.cell? ⟨gb388, 0, none⟩ = some (.int .i64 a0_0) ∧ w'.cell? ⟨gb388, 1, none⟩ = some (.int .i64 a0_1) ∧ w'.cell? ⟨gb388, 2, none⟩ = some (.slice A0_2 l0_2.length c0_2) ∧ w'.cell? ⟨gb388, 3, none⟩ = some (.slice A0_3 l0_3.length c0_3)) (ds := []) #[fF,fF,fF,fF,fF] (by kernel_rfl) rfl rfl ⟨(blk_cell BK411.out 0).trans rfl, (blk_cell BK411.out 1).trans rfl, (blk_cell BK411.out 2).trans rfl, (blk_cell BK411.out 3).trans rfl, (blk_cell BK388.out 0).trans rfl, (blk_cell BK388.out 1).trans rfl, (blk_cell BK388.out 2).trans rfl, (blk_cell BK388.out 3).trans rfl⟩ (fun hHeld => ?_)
      generalize wc.drew = w45 at HO_412002 HO_412003 BK388 BK389 BK411 HB hHeld ⊢
      refine take_ (i := 0) (N := some 41) (v := ?_) (a' := ?_) #[tT,fF,fF,fF,fF] rfl rfl (by kernel_rfl) (fun _ _ _ h => h) (Or.inl ⟨by rfl, ?_⟩) hHeld ?_ ?_
      rotate_left
      ·rintro w' ⟨s0, s1, s2, s3, s4, s5, s6, s7⟩
       go_simp
       with_reducible rfl
      rotate_left
      ·exact pa
      refine take_ (i := 1) (N := some 42) (v := ?_) (a' := ?_) #[tT,tT,fF,fF,fF] rfl rfl (by kernel_rfl) (fun _ _ _ h => h) (Or.inl ⟨by rfl, ?_⟩) hHeld ?_ ?_
      rotate_left
      ·rintro w' ⟨s0, s1, s2, s3, s4, s5, s6, s7⟩
       go_simp
       with_reducible rfl
      rotate_left
      ·exact pa
      refine one_ (i := 2) (N := some 43) #[tT,tT,tT,fF,fF] rfl rfl (by kernel_rfl) (by decide) (fun K hK => ?_)
      refine goes_ Try.func12 (by kernel_rfl) rfl #[.agg #[.int .i64 a0_0, .int .i64 a0_1, .slice A0_2 l0_2.length c0_2, .slice A0_3 l0_3.length c0_3]] (by rfl) rfl rfl (by (try simp only [List.map_toArray, List.map_cons, List.map_nil]); first | done | rfl | (simp only [List.length_drop, List.length_take]; rfl)) ?_
      with_reducible refine (laws_toDrawing.calls kj15 a0_0 a0_1 _ _ l0_2 _ _ l0_3 t416 t417 t418 t421 _ ?side1 ?side2 ?side3 ?side4 A42.out).mono ?_
      (case side1 => repeat (first | exact (Kd.C_below HR0_2.out HB.out) | (with_reducible refine Kd.C_alloc ?_ _) | (with_reducible refine Kd.C_drewN ?_ _) | (with_reducible refine Kd.C_drew ?_)))
      (case side2 => exact HC0_2.out)
      (case side3 => repeat (first | exact (Kd.C_below HR0_3.out HB.out) | (with_reducible refine Kd.C_alloc ?_ _) | (with_reducible refine Kd.C_drewN ?_ _) | (with_reducible refine Kd.C_drew ?_)))
      (case side4 => exact HC0_3.out)
      rintro e w46 ⟨v419, v422, rfl, ho0, ho1, hb⟩
      refine ⟨_, rfl, ?_⟩
      have n0_ := Aside0.mk (Kd.R_elder' (by (with_reducible repeat (first | apply Kd.R_alloc | apply Kd.R_drewN | apply Kd.R_drew)); exact HO_412002.out) (Kd.R_base ho0) hb)
      have n1_ := Aside0.mk (Kd.S_elder' (by (with_reducible repeat (first | apply Kd.S_alloc | apply Kd.S_drewN | apply Kd.S_drew)); exact HO_412003.out) (Kd.S_base ho1) hb)
      have n2_ := Aside0.mk (Kd.R_lower (Kd.R_new' ho0 (Kd.R_lt (by (with_reducible repeat (first | apply Kd.R_alloc | apply Kd.R_drewN | apply Kd.R_drew)); exact HO_412002.out))) (below_size ib))
      have n3_ := Aside0.mk (Kd.S_lower (Kd.S_new' ho1 (Kd.S_lt (by (with_reducible repeat (first | apply Kd.S_alloc | apply Kd.S_drewN | apply Kd.S_drew)); exact HO_412003.out))) (below_size ib))
      have n4_ := kb BK388 hb
      have n5_ := kb BK389 hb
      have n6_ := kb BK411 hb
      have n7_ := sb hb
      clear HO_412002
      clear HO_412003
      clear BK388
      clear BK389
      clear BK411
      clear HB
      have HO_412002 := n0_
      have HO_412003 := n1_
      have HO420 := n2_
      have HO423 := n3_
      have BK388 := n4_
      have BK389 := n5_
      have BK411 := n6_
      have HB := n7_
      clear n0_ n1_ n2_ n3_ n4_ n5_ n6_ n7_
      (try clear hb)
      (try clear hb2)
      (try clear hk)
      (try clear hi)
      (try clear ho0)
      (try clear ho1)
      obtain ⟨Ao47, co47, eo47⟩ := Kd.R_slice HO420.out
      (first | subst eo47 | (injection eo47 with f1_ f2_ f3_; have f4_ := f1_.symm; have f5_ := f3_.symm; clear f1_ f2_ f3_; subst f4_; subst f5_))
      obtain ⟨Ao48, co48, eo48⟩ := Kd.S_slice HO423.out
      (first | subst eo48 | (injection eo48 with f1_ f2_ f3_; have f4_ := f1_.symm; have f5_ := f3_.symm; clear f1_ f2_ f3_; subst f4_; subst f5_))
      refine hK.out _ _ ⟨(blk_cell BK411.out 0).trans rfl, (blk_cell BK411.out 1).trans rfl, (blk_cell BK411.out 2).trans rfl, (blk_cell BK411.out 3).trans rfl, (blk_cell BK388.out 0).trans rfl, (blk_cell BK388.out 1).trans rfl, (blk_cell BK388.out 2).trans rfl, (blk_cell BK388.out 3).trans rfl⟩ (fun hHeld => ?_)
      clear hK K
      refine norm_ (a' := ?_) ?_ ?_
      rotate_left
      ·show Act.put _ (some 43) _ = _
       simp only [Act.put, List.setIfInBounds_toArray, List.set_cons_zero, List.set_cons_succ, i64_w, i32_w]
       rfl
      refine one_ (i := 3) (N := some 44) #[tT,tT,tT,tT,fF] rfl rfl (by kernel_rfl) (by decide) (fun K hK => ?_)
      refine goes_ Try.func14 (by kernel_rfl) rfl #[.agg #[.int .i64 t403, .int .i64 t404, .slice Ao34 t405.length co34, .slice Ao35 t408.length co35], .agg #[.int .i64 t416, .int .i64 t417, .slice Ao47 t418.length co47, .slice Ao48 t421.length co48]] (by rfl) rfl rfl (by (try simp only [List.map_toArray, List.map_cons, List.map_nil]); first | done | rfl | (simp only [List.length_drop, List.length_take]; rfl)) ?_
      with_reducible refine (laws_eqDrawing.calls kj15 t403 t404 _ _ t405 _ _ t408 t416 t417 _ _ t418 _ _ t421 true _ ?side1 ?side2 ?side3 ?side4 ?side5 ?side6 ?side7 ?side8 A43.out).mono ?_
      (case side1 => repeat (first | exact (Kd.R_reads' HO_412002.out).2.2 | (with_reducible refine Kd.C_alloc ?_ _) | (with_reducible refine Kd.C_drewN ?_ _) | (with_reducible refine Kd.C_drew ?_)))
      (case side2 => exact (Kd.R_reads' HO_412002.out).2.1)
      (case side3 => repeat (first | exact (Kd.S_reads' HO_412003.out).2.2 | (with_reducible refine Kd.C_alloc ?_ _) | (with_reducible refine Kd.C_drewN ?_ _) | (with_reducible refine Kd.C_drew ?_)))
      (case side4 => exact (Kd.S_reads' HO_412003.out).2.1)
      (case side5 => repeat (first | exact (Kd.R_reads' HO420.out).2.2 | (with_reducible refine Kd.C_alloc ?_ _) | (with_reducible refine Kd.C_drewN ?_ _) | (with_reducible refine Kd.C_drew ?_)))
      (case side6 => exact (Kd.R_reads' HO420.out).2.1)
      (case side7 => repeat (first | exact (Kd.S_reads' HO423.out).2.2 | (with_reducible refine Kd.C_alloc ?_ _) | (with_reducible refine Kd.C_drewN ?_ _) | (with_reducible refine Kd.C_drew ?_)))
      (case side8 => exact (Kd.S_reads' HO423.out).2.1)
      rintro e w49 ⟨rfl, hb⟩
      refine ⟨_, rfl, ?_⟩
      have n0_ := Aside0.mk (Kd.R_below (by (with_reducible repeat (first | apply Kd.R_alloc | apply Kd.R_drewN | apply Kd.R_drew)); exact HO_412002.out) hb)
      have n1_ := Aside0.mk (Kd.S_below (by (with_reducible repeat (first | apply Kd.S_alloc | apply Kd.S_drewN | apply Kd.S_drew)); exact HO_412003.out) hb)
      have n2_ := Aside0.mk (Kd.R_below (by (with_reducible repeat (first | apply Kd.R_alloc | apply Kd.R_drewN | apply Kd.R_drew)); exact HO420.out) hb)
      have n3_ := Aside0.mk (Kd.S_below (by (with_reducible repeat (first | apply Kd.S_alloc | apply Kd.S_drewN | apply Kd.S_drew)); exact HO423.out) hb)
      have n4_ := kb BK388 hb
      have n5_ := kb BK389 hb
      have n6_ := kb BK411 hb
      have n7_ := sb hb
      clear HO_412002
      clear HO_412003
      clear HO420
      clear HO423
      clear BK388
      clear BK389
      clear BK411
      clear HB
      have HO_412002 := n0_
      have HO_412003 := n1_
      have HO420 := n2_
      have HO423 := n3_
      have BK388 := n4_
      have BK389 := n5_
      have BK411 := n6_
      have HB := n7_
      clear n0_ n1_ n2_ n3_ n4_ n5_ n6_ n7_
      (try clear hb)
      (try clear hb2)
      (try clear hk)
      (try clear hi)
      refine hK.out _ _ ⟨(blk_cell BK411.out 0).trans rfl, (blk_cell BK411.out 1).trans rfl, (blk_cell BK411.out 2).trans rfl, (blk_cell BK411.out 3).trans rfl, (blk_cell BK388.out 0).trans rfl, (blk_cell BK388.out 1).trans rfl, (blk_cell BK388.out 2).trans rfl, (blk_cell BK388.out 3).trans rfl⟩ (fun hHeld => ?_)
      clear hK K
      refine norm_ (a' := ?_) ?_ ?_
      rotate_left
      ·show Act.put _ (some 44) _ = _
       simp only [Act.put, List.setIfInBounds_toArray, List.set_cons_zero, List.set_cons_succ, i64_w, i32_w]
       rfl
      refine pure_ (i := 4) (N := some 45) (v := ?_) (a' := ?_) #[tT,tT,tT,tT,tT] rfl rfl (by kernel_rfl) (fun _ _ _ h => h) (Or.inl ⟨by rfl, ?_⟩) ?_ ?_
      rotate_left
      ·intro w'
       go_simp
       with_reducible rfl
      rotate_left
      ·exact pa
      refine done_ (by kernel_rfl) ?_
      try go_wp2
      go_ret
      exact ⟨by first | rfl | (simp [errW_none, errW_some] <;> rfl) | (simp [*, errW_none, errW_some] <;> rfl), by repeat (first | (with_reducible first | exact HB.out | apply below_alloc | apply pw_below_drewN | apply below_drew1 | refine below_set ?_ GE388.out | refine below_set ?_ GE389.out | refine below_set ?_ GE411.out) | exact HB.out)⟩
     ·replace c44 := Bool.eq_false_iff.mpr c44
      subst c44
      have H1 : (some false) = some true := by rw [if_neg (show ¬ (false = true) by decide)] at H; exact H
      clear H
      have H := H1
      clear H1
      cases H
end Go.Proofs.Ytlfifbalakgfeaa.PFnExactFaceAt
