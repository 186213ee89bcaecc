/- Contracts of functions that FnExactDrawingText reaches, out of the lines of the kit's print. -/
import Derived.Test.YtdegladckdnhiaaDoorQFnExactDrawingTextx0
import Derived.Test.YtdegladckdnhiaaDoorQFnExactDrawingTextx10
import Derived.Test.YtdegladckdnhiaaDoorQFnExactDrawingTextx13
import Derived.Test.YtdegladckdnhiaaDoorQFnExactDrawingTextx14
namespace Go.Proofs.YtdegladckdnhiaaDoor.PFnExactDrawingText
open Go.RowKit Go.Proofs.YtdegladckdnhiaaDoorW.PrintWords Go.Proofs.YtdegladckdnhiaaDoorW.PrintLast Go.Proofs.YtdegladckdnhiaaDoorW.PrintMore
open Bool renaming true → tT, false → fF
open Go.World renaming block_lt_of_cell? → bL
attribute [local go_sem] max2_int min2_int max_two min_two max_three min_three max_four min_four
set_option linter.unusedVariables false
set_option linter.unusedSimpArgs false
mutual
def impl_ValidDrawing.j0 : Nat → Bool → Int → Int → List (S40) → List (S85) → Option (Bool)
 | 0, _, _, _, _, _ => none
 | k + 1, x30, x359000, x359001, x359002, x359003 => if x30 = true then (some false) else (impl_ValidDrawing.l0 k x359002 (x359002.length : Int) 0 x359000 x359001 x359002 x359003)
def impl_ValidDrawing.l0 : Nat → List (S40) → Int → Int → Int → Int → List (S40) → List (S85) → Option (Bool)
 | 0, _, _, _, _, _, _, _ => none
 | k + 1, x32, x33, x34, x359000, x359001, x359002, x359003 => if x34 < x33 then (if 0 ≤ x34 then (if x34 < (x32.length : Int) then ((impl_within.f ((rd_T40 x32 x34).f0) 0 x359000).bind fun t363 => (if t363 = true then ((impl_within.f ((rd_T40 x32 x34).f1) 0 x359001).bind fun t364 => (if t364 = true then (if x34 ≤ (x359002.length : Int) then ((impl_Point_94.f k (x359002.take (x34 : Int).toNat) ((rd_T40 x32 x34).f0) ((rd_T40 x32 x34).f1)).bind fun t369 => (if t369 = true then (some false) else (impl_ValidDrawing.l0 k x32 x33 (wrap64 (x34 + 1)) x359000 x359001 x359002 x359003))) else (none)) else (some false))) else (some false))) else (none)) else (none)) else (impl_ValidDrawing.l1 k x359003 (x359003.length : Int) 0 x359000 x359001 x359002 x359003)
def impl_ValidDrawing.l1 : Nat → List (S85) → Int → Int → Int → Int → List (S40) → List (S85) → Option (Bool)
 | 0, _, _, _, _, _, _, _ => none
 | k + 1, x63, x64, x65, x359000, x359001, x359002, x359003 => if x65 < x64 then (if 0 ≤ x65 then (if x65 < (x63.length : Int) then ((impl_IsName.f k ((rd_T85 x63 x65).f0)).bind fun t372 => (if t372 = true then (if x65 > 0 then (if 0 ≤ (wrap64 (x65 - 1)) then (if (wrap64 (x65 - 1)) < (x359003.length : Int) then (impl_ValidDrawing.j3 k x63 x64 x65 (!(Op.bytesLess (((rd_T85 x359003 (wrap64 (x65 - 1))).f0).toList) (((rd_T85 x63 x65).f0).toList))) x359000 x359001 x359002 x359003 ((rd_T85 x63 x65).f0) ((rd_T85 x63 x65).f1)) else (none)) else (none)) else (impl_ValidDrawing.j3 k x63 x64 x65 false x359000 x359001 x359002 x359003 ((rd_T85 x63 x65).f0) ((rd_T85 x63 x65).f1))) else (impl_ValidDrawing.j3 k x63 x64 x65 true x359000 x359001 x359002 x359003 ((rd_T85 x63 x65).f0) ((rd_T85 x63 x65).f1)))) else (none)) else (none)) else (some true)
def impl_ValidDrawing.j3 : Nat → List (S85) → Int → Int → Bool → Int → Int → List (S40) → List (S85) → ByteArray → List Int → Option (Bool)
 | 0, _, _, _, _, _, _, _, _, _, _ => none
 | k + 1, x63, x64, x65, x89, x359000, x359001, x359002, x359003, x372000, x372001 => if x89 = true then (some false) else ((impl_ringPolygon.f k x359002 x372001).bind fun bt374 => (if bt374.2 = true then ((impl_ValidPolygon.f k bt374.1).bind fun t378 => (if t378 = true then (impl_ValidDrawing.l1 k x63 x64 (wrap64 (x65 + 1)) x359000 x359001 x359002 x359003) else (some false))) else (some false)))
end
def impl_ValidDrawing.f (k : Nat) (a0_0 : Int) (a0_1 : Int) (l0_2 : List (S40)) (l0_3 : List (S85)) : Option (Bool) := (impl_within.f a0_0 10 20000).bind fun t359 => (if t359 = true then ((impl_within.f a0_1 10 20000).bind fun t360 => (if t360 = true then (if (l0_2.length : Int) > 48 then (impl_ValidDrawing.j0 k true a0_0 a0_1 l0_2 l0_3) else (impl_ValidDrawing.j0 k (decide ((l0_3.length : Int) > 24)) a0_0 a0_1 l0_2 l0_3)) else (impl_ValidDrawing.j0 k true a0_0 a0_1 l0_2 l0_3))) else (impl_ValidDrawing.j0 k true a0_0 a0_1 l0_2 l0_3))
def impl_ValidDrawing.T6 : Bool × List (List Nat × List Nat) := (true, [([], []), ([0], [0]), ([], []), ([2], [2]), ([1, 3], [1, 3]), ([4], [4]), ([5, 4], [5]), ([6], [6]), ([7, 6], [6, 7]), ([6], [6]), ([9, 6], [6, 9]), ([8, 10, 6, 6], [6, 8, 10]), ([11, 6], [6, 11]), ([6, 12], [6, 12]), ([13, 11], [13]), ([14], [14]), ([15, 14], [14, 15]), ([14], [14]), ([16, 17, 14], [14, 16, 17]), ([14], [14]), ([18, 19, 14, 14], [14, 18, 19]), ([14, 20], [14, 20])])
def impl_ValidDrawing.B6 : List Nat := [0, 1, 0, 4, 15, 31, 63, 127, 255, 127, 639, 2047, 4095, 8191, 16383, 32767, 65535, 32767, 262143, 32767, 1048575, 2097151]
theorem impl_ValidDrawing.tab6 : rtab .any (opsOf Tryd.f71 6) = impl_ValidDrawing.T6 := by kernel_rfl
theorem impl_ValidDrawing.bits6 : waitsOk impl_ValidDrawing.T6.2 impl_ValidDrawing.B6 = true := by kernel_rfl
def impl_ValidDrawing.T12 : Bool × List (List Nat × List Nat) := (true, [([], []), ([0], [0]), ([1], [1]), ([2], [2]), ([3, 2], [3]), ([4], [4]), ([5, 4], [4, 5]), ([6, 4, 4], [4, 6]), ([7], [7]), ([8, 7], [7, 8]), ([7], [7]), ([10, 7], [7, 10]), ([9, 11, 7], [7, 9, 11]), ([12, 7], [7, 12]), ([13, 7], [7, 13]), ([7], [7]), ([15, 7], [7, 15]), ([14, 16, 7], [7, 14, 16]), ([7, 17, 4], [4, 7, 17]), ([4, 18], [4, 18])])
def impl_ValidDrawing.B12 : List Nat := [0, 1, 3, 7, 15, 31, 63, 127, 255, 511, 255, 1279, 4095, 8191, 16383, 255, 33023, 131071, 262143, 524287]
theorem impl_ValidDrawing.tab12 : rtab .any (opsOf Tryd.f71 12) = impl_ValidDrawing.T12 := by kernel_rfl
theorem impl_ValidDrawing.bits12 : waitsOk impl_ValidDrawing.T12.2 impl_ValidDrawing.B12 = true := by kernel_rfl
set_option maxHeartbeats 8000000 in
set_option maxRecDepth 100000 in
theorem impl_ValidDrawing.calls (k : Nat) (a0_0 : Int) (a0_1 : Int) (A0_2 : Option Addr) (c0_2 : Nat) (l0_2 : List (S40)) (A0_3 : Option Addr) (c0_3 : Nat) (l0_3 : List (S85)) (r : Bool) (w : World) (hr0_2 : Kd.C k40 w A0_2 l0_2.length l0_2) (hc0_2 : l0_2.length ≤ c0_2) (hr0_3 : Kd.C k85 w A0_3 l0_3.length l0_3) (hc0_3 : l0_3.length ≤ c0_3) (h : impl_ValidDrawing.f k a0_0 a0_1 l0_2 l0_3 = some r) :
  Calls Tryd.prog 71 #[.agg #[.int .i64 a0_0, .int .i64 a0_1, .slice A0_2 l0_2.length c0_2, .slice A0_3 l0_3.length c0_3]] w fun e w' => e = .returned (.bool r) ∧ Below w.heap.size w w' := by
 have hu63 := Tryd.underlying63
 have hu40 := Tryd.underlying40
 have hu85 := Tryd.underlying85
 have HR0_2 := Aside0.mk hr0_2
 have HC0_2 := Aside0.mk hc0_2
 clear hr0_2 hc0_2
 have HR0_3 := Aside0.mk hr0_3
 have HC0_3 := Aside0.mk hc0_3
 clear hr0_3 hc0_3
 have HB := Aside0.mk (Below.refl w.heap.size w)
 have H : ((impl_within.f a0_0 10 20000).bind fun t359 => (if t359 = true then ((impl_within.f a0_1 10 20000).bind fun t360 => (if t360 = true then (if (l0_2.length : Int) > 48 then (impl_ValidDrawing.j0 k true a0_0 a0_1 l0_2 l0_3) else (impl_ValidDrawing.j0 k (decide ((l0_3.length : Int) > 24)) a0_0 a0_1 l0_2 l0_3)) else (impl_ValidDrawing.j0 k true a0_0 a0_1 l0_2 l0_3))) else (impl_ValidDrawing.j0 k true a0_0 a0_1 l0_2 l0_3))) = some r := h
 clear h
 have HC2 := Aside0.mk H
 clear H
 go_enter Tryd.func71, Tryd.ntmps71
 go_upto_region 1 with (first | ((with_reducible refine gate_dst (N := 1) rfl ?_); (try (refine gate_guard (by rfl) ?_; dsimp only)); refine bx (cs := #[.int .i64 a0_0, .int .i64 a0_1, .slice A0_2 l0_2.length c0_2, .slice A0_3 l0_3.length c0_3]) (t := 63) ?_; intro gb358 hg w3 hbox hb; have n0_ := sb hb; have n1_ := Aside0.mk (hbox); have n2_ := zb hg; have n3_ := zb hg; clear HB; have HB := n0_; have BK358 := n1_; have GW358 := n2_; have GE358 := n3_; clear n0_ n1_ n2_ n3_; clear hb hbox hg))
 (try simp only [Act.put, List.setIfInBounds_toArray, List.set_cons_zero, List.set_cons_succ])
 go_cut [30] (fun v30 wc => ∃ (kq : Nat) (x30_1 : Bool), v30 = .bool x30_1 ∧ Aside0 (impl_ValidDrawing.j0 kq x30_1 a0_0 a0_1 l0_2 l0_3 = some r) ∧ Aside0 (kq ≤ k) ∧ Aside0 (wc.heap[gb358]? = some (.cells #[.int .i64 a0_0, .int .i64 a0_1, (.slice A0_2 l0_2.length c0_2), (.slice A0_3 l0_3.length c0_3)] 63 (0, 0))) ∧ Aside0 (Below w.heap.size w wc))
 case first =>
  have H := HC2.out
  clear HC2
  replace H := Option.bind_eq_some_iff.mp H
  obtain ⟨t359, A40, H⟩ := H
  replace H : (if t359 = true then ((impl_within.f a0_1 10 20000).bind fun t360 => (if t360 = true then (if (l0_2.length : Int) > 48 then (impl_ValidDrawing.j0 k true a0_0 a0_1 l0_2 l0_3) else (impl_ValidDrawing.j0 k (decide ((l0_3.length : Int) > 24)) a0_0 a0_1 l0_2 l0_3)) else (impl_ValidDrawing.j0 k true a0_0 a0_1 l0_2 l0_3))) else (impl_ValidDrawing.j0 k true a0_0 a0_1 l0_2 l0_3)) = some r := H
  have A4 := Aside0.mk A40
  clear A40
  by_cases c5 : t359 = true
  ·subst c5
   have H1 : ((impl_within.f a0_1 10 20000).bind fun t360 => (if t360 = true then (if (l0_2.length : Int) > 48 then (impl_ValidDrawing.j0 k true a0_0 a0_1 l0_2 l0_3) else (impl_ValidDrawing.j0 k (decide ((l0_3.length : Int) > 24)) a0_0 a0_1 l0_2 l0_3)) else (impl_ValidDrawing.j0 k true a0_0 a0_1 l0_2 l0_3))) = some r := by rw [if_pos rfl] at H; exact H
   clear H
   have H := H1
   clear H1
   replace H := Option.bind_eq_some_iff.mp H
   obtain ⟨t360, A60, H⟩ := H
   replace H : (if t360 = true then (if (l0_2.length : Int) > 48 then (impl_ValidDrawing.j0 k true a0_0 a0_1 l0_2 l0_3) else (impl_ValidDrawing.j0 k (decide ((l0_3.length : Int) > 24)) a0_0 a0_1 l0_2 l0_3)) else (impl_ValidDrawing.j0 k true a0_0 a0_1 l0_2 l0_3)) = some r := H
   have A6 := Aside0.mk A60
   clear A60
   by_cases c7 : t360 = true
   ·subst c7
    have H1 : (if (l0_2.length : Int) > 48 then (impl_ValidDrawing.j0 k true a0_0 a0_1 l0_2 l0_3) else (impl_ValidDrawing.j0 k (decide ((l0_3.length : Int) > 24)) a0_0 a0_1 l0_2 l0_3)) = some r := by rw [if_pos rfl] at H; exact H
    clear H
    have H := H1
    clear H1
    by_cases c8 : (l0_2.length : Int) > 48
    ·rw [if_pos c8] at H
     have c8b0 : decide (48 < (l0_2.length : Int)) = true := decide_eq_true c8
     have c8b1 : decide (48 < l0_2.length) = true := decide_eq_true (by omega)
     clear c8
     (first | rw [c8b0] | (simp only [i64_w, i32_w]; rw [c8b0]) | skip)
     have H' := Aside0.mk H
     clear H
     have hcz9_0 := ck BK358 0
     have hcz9_1 := ck BK358 1
     have hcz9_2 := ck BK358 2
     have hcz9_3 := ck BK358 3
     have hfz9_0 := blk_frozen BK358.out 0
     have hfz9_1 := blk_frozen BK358.out 1
     have hfz9_2 := blk_frozen BK358.out 2
     have hfz9_3 := blk_frozen BK358.out 3
     go_wp2_with (first | ((with_reducible refine gate_callee (f := 55) rfl ?_); refine goesL_ (some 11) rfl rfl Tryd.func55 (by kernel_rfl) rfl #[.int .i64 a0_0, .int .i64 10, .int .i64 20000] rfl (by (try simp only [List.map_toArray, List.map_cons, List.map_nil]); first | done | rfl | (simp only [List.length_drop, List.length_take]; rfl)) ?_; (with_reducible refine (impl_within.calls a0_0 10 20000 true _ A4.out).mono ?_); rintro e w' ⟨rfl, ⟨nd, rfl⟩⟩; refine ⟨_, rfl, ?_⟩) | (go_at_call 55; (with_reducible refine (impl_within.calls a0_1 10 20000 true _ A6.out).mono ?_); rintro e w' ⟨rfl, ⟨nd, rfl⟩⟩))
     go_meet
     case rel => exact ⟨_, (true), (by first | rfl | (simp; done) | (simp [*]; done)), H', ⟨by first | omega | exact Nat.le_refl _⟩, ⟨by exact bk BK358⟩, ⟨by repeat (first | (with_reducible first | exact HB.out | apply below_alloc | apply pw_below_drewN | apply below_drew1 | refine below_set ?_ GE358.out) | exact HB.out)⟩⟩
    ·rw [if_neg c8] at H
     have c8b0 : decide (48 < (l0_2.length : Int)) = false := decide_eq_false c8
     have c8b1 : decide (48 < l0_2.length) = false := decide_eq_false (by omega)
     clear c8
     (first | rw [c8b0] | (simp only [i64_w, i32_w]; rw [c8b0]) | skip)
     have H' := Aside0.mk H
     clear H
     have hcz10_0 := ck BK358 0
     have hcz10_1 := ck BK358 1
     have hcz10_2 := ck BK358 2
     have hcz10_3 := ck BK358 3
     have hfz10_0 := blk_frozen BK358.out 0
     have hfz10_1 := blk_frozen BK358.out 1
     have hfz10_2 := blk_frozen BK358.out 2
     have hfz10_3 := blk_frozen BK358.out 3
     go_wp2_with (first | ((with_reducible refine gate_callee (f := 55) rfl ?_); refine goesL_ (some 11) rfl rfl Tryd.func55 (by kernel_rfl) rfl #[.int .i64 a0_0, .int .i64 10, .int .i64 20000] rfl (by (try simp only [List.map_toArray, List.map_cons, List.map_nil]); first | done | rfl | (simp only [List.length_drop, List.length_take]; rfl)) ?_; (with_reducible refine (impl_within.calls a0_0 10 20000 true _ A4.out).mono ?_); rintro e w' ⟨rfl, ⟨nd, rfl⟩⟩; refine ⟨_, rfl, ?_⟩) | (go_at_call 55; (with_reducible refine (impl_within.calls a0_1 10 20000 true _ A6.out).mono ?_); rintro e w' ⟨rfl, ⟨nd, rfl⟩⟩))
     go_meet
     case rel => exact ⟨_, (decide ((l0_3.length : Int) > 24)), (by first | rfl | (simp; done) | (simp [*]; done)), H', ⟨by first | omega | exact Nat.le_refl _⟩, ⟨by exact bk BK358⟩, ⟨by repeat (first | (with_reducible first | exact HB.out | apply below_alloc | apply pw_below_drewN | apply below_drew1 | refine below_set ?_ GE358.out) | exact HB.out)⟩⟩
   ·replace c7 := Bool.eq_false_iff.mpr c7
    subst c7
    have H1 : (impl_ValidDrawing.j0 k true a0_0 a0_1 l0_2 l0_3) = some r := by rw [if_neg (show ¬ (false = true) by decide)] at H; exact H
    clear H
    have H := H1
    clear H1
    have H' := Aside0.mk H
    clear H
    have hcz11_0 := ck BK358 0
    have hcz11_1 := ck BK358 1
    have hcz11_2 := ck BK358 2
    have hcz11_3 := ck BK358 3
    have hfz11_0 := blk_frozen BK358.out 0
    have hfz11_1 := blk_frozen BK358.out 1
    have hfz11_2 := blk_frozen BK358.out 2
    have hfz11_3 := blk_frozen BK358.out 3
    go_wp2_with (first | ((with_reducible refine gate_callee (f := 55) rfl ?_); refine goesL_ (some 11) rfl rfl Tryd.func55 (by kernel_rfl) rfl #[.int .i64 a0_0, .int .i64 10, .int .i64 20000] rfl (by (try simp only [List.map_toArray, List.map_cons, List.map_nil]); first | done | rfl | (simp only [List.length_drop, List.length_take]; rfl)) ?_; (with_reducible refine (impl_within.calls a0_0 10 20000 true _ A4.out).mono ?_); rintro e w' ⟨rfl, ⟨nd, rfl⟩⟩; refine ⟨_, rfl, ?_⟩) | (go_at_call 55; (with_reducible refine (impl_within.calls a0_1 10 20000 false _ A6.out).mono ?_); rintro e w' ⟨rfl, ⟨nd, rfl⟩⟩))
    go_meet
    case rel => exact ⟨_, (true), (by first | rfl | (simp; done) | (simp [*]; done)), H', ⟨by first | omega | exact Nat.le_refl _⟩, ⟨by exact bk BK358⟩, ⟨by repeat (first | (with_reducible first | exact HB.out | apply below_alloc | apply pw_below_drewN | apply below_drew1 | refine below_set ?_ GE358.out) | exact HB.out)⟩⟩
  ·replace c5 := Bool.eq_false_iff.mpr c5
   subst c5
   have H1 : (impl_ValidDrawing.j0 k true a0_0 a0_1 l0_2 l0_3) = some r := by rw [if_neg (show ¬ (false = true) by decide)] at H; exact H
   clear H
   have H := H1
   clear H1
   have H' := Aside0.mk H
   clear H
   have hcz12_0 := ck BK358 0
   have hcz12_1 := ck BK358 1
   have hcz12_2 := ck BK358 2
   have hcz12_3 := ck BK358 3
   have hfz12_0 := blk_frozen BK358.out 0
   have hfz12_1 := blk_frozen BK358.out 1
   have hfz12_2 := blk_frozen BK358.out 2
   have hfz12_3 := blk_frozen BK358.out 3
   go_wp2_with (first | ((with_reducible refine gate_callee (f := 55) rfl ?_); refine goesL_ (some 11) rfl rfl Tryd.func55 (by kernel_rfl) rfl #[.int .i64 a0_0, .int .i64 10, .int .i64 20000] rfl (by (try simp only [List.map_toArray, List.map_cons, List.map_nil]); first | done | rfl | (simp only [List.length_drop, List.length_take]; rfl)) ?_; (with_reducible refine (impl_within.calls a0_0 10 20000 false _ A4.out).mono ?_); rintro e w' ⟨rfl, ⟨nd, rfl⟩⟩; refine ⟨_, rfl, ?_⟩))
   go_meet
   case rel => exact ⟨_, (true), (by first | rfl | (simp; done) | (simp [*]; done)), H', ⟨by first | omega | exact Nat.le_refl _⟩, ⟨by exact bk BK358⟩, ⟨by repeat (first | (with_reducible first | exact HB.out | apply below_alloc | apply pw_below_drewN | apply below_drew1 | refine below_set ?_ GE358.out) | exact HB.out)⟩⟩
 case rest =>
  clear HC2
  try clear p2
  try clear c5
  try clear c7
  try clear c8
  try clear c8b0
  try clear c8b1
  try clear hcz10_0
  try clear hcz10_1
  try clear hcz10_2
  try clear hcz10_3
  try clear hcz11_0
  try clear hcz11_1
  try clear hcz11_2
  try clear hcz11_3
  try clear hcz12_0
  try clear hcz12_1
  try clear hcz12_2
  try clear hcz12_3
  try clear hcz9_0
  try clear hcz9_1
  try clear hcz9_2
  try clear hcz9_3
  try clear hfz10_0
  try clear hfz10_1
  try clear hfz10_2
  try clear hfz10_3
  try clear hfz11_0
  try clear hfz11_1
  try clear hfz11_2
  try clear hfz11_3
  try clear hfz12_0
  try clear hfz12_1
  try clear hfz12_2
  try clear hfz12_3
  try clear hfz9_0
  try clear hfz9_1
  try clear hfz9_2
  try clear hfz9_3
  obtain ⟨kq, x30_1, rfl, HA, HJ1, BK358, HB⟩ := hcut
  cases kq with
  | zero => exact absurd HA.out (by simp [impl_ValidDrawing.j0])
  | succ kj1 =>
   have H := HA.out
   clear HA
   simp only [impl_ValidDrawing.j0] at H
   by_cases c13 : x30_1 = true
   ·subst c13
    have H1 : (some false) = some r := by rw [if_pos rfl] at H; exact H
    clear H
    have H := H1
    clear H1
    obtain rfl := Option.some.inj H
    go_wp2
    go_ret
    exact ⟨by first | rfl | (simp [errW_none, errW_some] <;> rfl) | (simp [*, errW_none, errW_some] <;> rfl), by repeat (first | (with_reducible first | exact HB.out | apply below_alloc | apply pw_below_drewN | apply below_drew1 | refine below_set ?_ GE358.out) | exact HB.out)⟩
   ·replace c13 := Bool.eq_false_iff.mpr c13
    subst c13
    have H1 : (impl_ValidDrawing.l0 kj1 l0_2 (l0_2.length : Int) 0 a0_0 a0_1 l0_2 l0_3) = some r := by rw [if_neg (show ¬ (false = true) by decide)] at H; exact H
    clear H
    have H := H1
    clear H1
    have H' := Aside0.mk H
    clear H
    have hcz14_0 : wc.cell? ⟨gb358, 0, none⟩ = some (.int .i64 a0_0) := (blk_cell BK358.out 0).trans rfl
    have hcz14_1 : wc.cell? ⟨gb358, 1, none⟩ = some (.int .i64 a0_1) := (blk_cell BK358.out 1).trans rfl
    have hcz14_2 : wc.cell? ⟨gb358, 2, none⟩ = some (.slice A0_2 l0_2.length c0_2) := (blk_cell BK358.out 2).trans rfl
    have hcz14_3 : wc.cell? ⟨gb358, 3, none⟩ = some (.slice A0_3 l0_3.length c0_3) := (blk_cell BK358.out 3).trans rfl
    have hfz14_0 := blk_frozen BK358.out 0
    have hfz14_1 := blk_frozen BK358.out 1
    have hfz14_2 := blk_frozen BK358.out 2
    have hfz14_3 := blk_frozen BK358.out 3
    go_wp2
    go_loopg [34] kj1 (fun kq v34 w' => ∃ (x34_2 : Int), v34 = .int .i64 x34_2 ∧ Aside0 (impl_ValidDrawing.l0 kq l0_2 (l0_2.length : Int) x34_2 a0_0 a0_1 l0_2 l0_3 = some r) ∧ Aside0 (kq ≤ kj1) ∧ Aside0 (w'.heap[gb358]? = some (.cells #[.int .i64 a0_0, .int .i64 a0_1, (.slice A0_2 l0_2.length c0_2), (.slice A0_3 l0_3.length c0_3)] 63 (0, 0))) ∧ Aside0 (Below w.heap.size w w'))
    case atStart => exact ⟨(0), (by first | rfl | (simp; done) | (simp [*]; done)), H', ⟨Nat.le_refl _⟩, ⟨by exact bk BK358⟩, ⟨by repeat (first | (with_reducible first | exact HB.out | apply below_alloc | apply pw_below_drewN | apply below_drew1 | refine below_set ?_ GE358.out) | exact HB.out)⟩⟩
    case round =>
     clear H'
     try clear c1
     try clear p2
     try clear c5
     try clear c7
     try clear c8
     try clear c8b0
     try clear c8b1
     try clear c13
     try clear hcz10_0
     try clear hcz10_1
     try clear hcz10_2
     try clear hcz10_3
     try clear hcz11_0
     try clear hcz11_1
     try clear hcz11_2
     try clear hcz11_3
     try clear hcz12_0
     try clear hcz12_1
     try clear hcz12_2
     try clear hcz12_3
     try clear hcz14_0
     try clear hcz14_1
     try clear hcz14_2
     try clear hcz14_3
     try clear hcz9_0
     try clear hcz9_1
     try clear hcz9_2
     try clear hcz9_3
     try clear hfz10_0
     try clear hfz10_1
     try clear hfz10_2
     try clear hfz10_3
     try clear hfz11_0
     try clear hfz11_1
     try clear hfz11_2
     try clear hfz11_3
     try clear hfz12_0
     try clear hfz12_1
     try clear hfz12_2
     try clear hfz12_3
     try clear hfz14_0
     try clear hfz14_1
     try clear hfz14_2
     try clear hfz14_3
     try clear hfz9_0
     try clear hfz9_1
     try clear hfz9_2
     try clear hfz9_3
     try clear p2
     obtain ⟨x34_2, rfl, HA, HK2, BK358, HB⟩ := hrel
     cases gk with
     | zero => exact absurd HA.out (by simp [impl_ValidDrawing.l0])
     | succ k2 =>
      have H := HA.out
      clear HA
      simp only [impl_ValidDrawing.l0] at H
      by_cases c15 : x34_2 < (l0_2.length : Int)
      ·rw [if_pos c15] at H
       have c15b0 : decide (x34_2 < (l0_2.length : Int)) = true := decide_eq_true c15
       clear c15
       by_cases c16 : 0 ≤ x34_2
       ·rw [if_pos c16] at H
        have c16b0 : decide (0 ≤ x34_2) = true := decide_eq_true c16
        clear c16
        by_cases c17 : x34_2 < (l0_2.length : Int)
        ·rw [if_pos c17] at H
         have c17b0 : decide (x34_2 < (l0_2.length : Int)) = true := decide_eq_true c17
         clear c17
         replace H := Option.bind_eq_some_iff.mp H
         obtain ⟨t363, A180, H⟩ := H
         replace H : (if t363 = true then ((impl_within.f ((rd_T40 l0_2 x34_2).f1) 0 a0_1).bind fun t364 => (if t364 = true then (if x34_2 ≤ (l0_2.length : Int) then ((impl_Point_94.f k2 (l0_2.take (x34_2 : Int).toNat) ((rd_T40 l0_2 x34_2).f0) ((rd_T40 l0_2 x34_2).f1)).bind fun t369 => (if t369 = true then (some false) else (impl_ValidDrawing.l0 k2 l0_2 (l0_2.length : Int) (wrap64 (x34_2 + 1)) a0_0 a0_1 l0_2 l0_3))) else (none)) else (some false))) else (some false)) = some r := H
         have A18 := Aside0.mk A180
         clear A180
         by_cases c19 : t363 = true
         ·subst c19
          have H1 : ((impl_within.f ((rd_T40 l0_2 x34_2).f1) 0 a0_1).bind fun t364 => (if t364 = true then (if x34_2 ≤ (l0_2.length : Int) then ((impl_Point_94.f k2 (l0_2.take (x34_2 : Int).toNat) ((rd_T40 l0_2 x34_2).f0) ((rd_T40 l0_2 x34_2).f1)).bind fun t369 => (if t369 = true then (some false) else (impl_ValidDrawing.l0 k2 l0_2 (l0_2.length : Int) (wrap64 (x34_2 + 1)) a0_0 a0_1 l0_2 l0_3))) else (none)) else (some false))) = some r := by rw [if_pos rfl] at H; exact H
          clear H
          have H := H1
          clear H1
          replace H := Option.bind_eq_some_iff.mp H
          obtain ⟨t364, A200, H⟩ := H
          replace H : (if t364 = true then (if x34_2 ≤ (l0_2.length : Int) then ((impl_Point_94.f k2 (l0_2.take (x34_2 : Int).toNat) ((rd_T40 l0_2 x34_2).f0) ((rd_T40 l0_2 x34_2).f1)).bind fun t369 => (if t369 = true then (some false) else (impl_ValidDrawing.l0 k2 l0_2 (l0_2.length : Int) (wrap64 (x34_2 + 1)) a0_0 a0_1 l0_2 l0_3))) else (none)) else (some false)) = some r := H
          have A20 := Aside0.mk A200
          clear A200
          by_cases c21 : t364 = true
          ·subst c21
           have H1 : (if x34_2 ≤ (l0_2.length : Int) then ((impl_Point_94.f k2 (l0_2.take (x34_2 : Int).toNat) ((rd_T40 l0_2 x34_2).f0) ((rd_T40 l0_2 x34_2).f1)).bind fun t369 => (if t369 = true then (some false) else (impl_ValidDrawing.l0 k2 l0_2 (l0_2.length : Int) (wrap64 (x34_2 + 1)) a0_0 a0_1 l0_2 l0_3))) else (none)) = some r := by rw [if_pos rfl] at H; exact H
           clear H
           have H := H1
           clear H1
           have c22b0 := eq_true (da : 0 ≤ x34_2)
           by_cases c23 : x34_2 ≤ (l0_2.length : Int)
           ·rw [if_pos c23] at H
            have c23b0 := eq_true c23
            have c23b1 : decide (x34_2 ≤ (l0_2.length : Int)) = true := decide_eq_true c23
            clear c23
            obtain ⟨y365, hy365⟩ : ∃ y_ : List (S40), y_ = (l0_2.take (x34_2 : Int).toNat) := ⟨_, rfl⟩
            replace H : ((impl_Point_94.f k2 y365 ((rd_T40 l0_2 x34_2).f0) ((rd_T40 l0_2 x34_2).f1)).bind fun t369 => (if t369 = true then (some false) else (impl_ValidDrawing.l0 k2 l0_2 (l0_2.length : Int) (wrap64 (x34_2 + 1)) a0_0 a0_1 l0_2 l0_3))) = some r := by first | (rw [hy365]; with_reducible exact H) | (have H2_ := (Option.bind_some _ _).symm.trans H; rw [hy365]; with_reducible exact H2_) | (have H2_ := (Option.bind_some _ _).symm.trans H; with_reducible exact H2_) | with_reducible exact H | (rw [hy365]; exact H) | exact H
            have Ny365 := Aside0.mk hy365
            clear hy365
            replace H := Option.bind_eq_some_iff.mp H
            obtain ⟨t369, A240, H⟩ := H
            replace H : (if t369 = true then (some false) else (impl_ValidDrawing.l0 k2 l0_2 (l0_2.length : Int) (wrap64 (x34_2 + 1)) a0_0 a0_1 l0_2 l0_3)) = some r := H
            have A24 := Aside0.mk A240
            clear A240
            by_cases c25 : t369 = true
            ·subst c25
             have H1 : (some false) = some r := by rw [if_pos rfl] at H; exact H
             clear H
             have H := H1
             clear H1
             obtain rfl := Option.some.inj H
             have p361 : 0 ≤ (x34_2 : Int) := da
             have q361 : x34_2 < (l0_2.length : Int) := da
             obtain ⟨ad361, e361, hx361_0, hx361_1⟩ := at_T40 HR0_2.out x34_2 p361 q361
             cases e361
             replace hx361_0 := (HB.out.cell (bL w _ hx361_0)).trans hx361_0
             replace hx361_1 := (HB.out.cell (bL w _ hx361_1)).trans hx361_1
             replace p361 := eq_true p361
             replace q361 := eq_true q361
             try go_wp2_with (first | ((with_reducible refine gate_dst (N := 4) rfl ?_); (try (refine gate_guard (by rfl) ?_; dsimp only)); refine bx (cs := #[.int .i64 0, .int .i64 0]) (t := 40) ?_; intro gb362 hg w26 hbox hb; have n0_ := kb BK358 hb; have n1_ := sb hb; have n2_ := Aside0.mk (hbox); have n3_ := zb hg; have n4_ := zb hg; have n5_ := nl BK358 hg; have n6_ := ng BK358 hg; clear BK358; clear HB; have BK358 := n0_; have HB := n1_; have BK362 := n2_; have GW362 := n3_; have GE362 := n4_; have NB358_362 := n5_; have NB362_358 := n6_; clear n0_ n1_ n2_ n3_ n4_ n5_ n6_; clear hb hbox hg; have hnb27 := NB362_358.out; have hnc27 := NB358_362.out; have hcz28_0 := ck BK362 0; have hcz28_1 := ck BK362 1; have hfz28_0 := blk_frozen BK362.out 0; have hfz28_1 := blk_frozen BK362.out 1))
             have n0_ : Aside0 (((w26.setCell ⟨gb362, 0, none⟩ (.int .i64 ((rd_T40 l0_2 x34_2).f0))).setCell ⟨gb362, 1, none⟩ (.int .i64 ((rd_T40 l0_2 x34_2).f1))).heap[gb358]? = some (.cells #[.int .i64 a0_0, .int .i64 a0_1, .slice (some ad361) l0_2.length c0_2, .slice A0_3 l0_3.length c0_3] 63 (0, 0))) := ⟨by refine bF NB358_362.out ?_; refine bF NB358_362.out ?_; exact bk BK358⟩
             have n1_ : Aside0 (((w26.setCell ⟨gb362, 0, none⟩ (.int .i64 ((rd_T40 l0_2 x34_2).f0))).setCell ⟨gb362, 1, none⟩ (.int .i64 ((rd_T40 l0_2 x34_2).f1))).heap[gb362]? = some (.cells #[.int .i64 ((rd_T40 l0_2 x34_2).f0), .int .i64 ((rd_T40 l0_2 x34_2).f1)] 40 (0, 0))) := ⟨by refine bP (cs := #[.int .i64 ((rd_T40 l0_2 x34_2).f0), .int .i64 0]) 1 ?_; refine bP (cs := #[.int .i64 0, .int .i64 0]) 0 ?_; exact bk BK362⟩
             have n2_ : Aside0 (Below w.heap.size w ((w26.setCell ⟨gb362, 0, none⟩ (.int .i64 ((rd_T40 l0_2 x34_2).f0))).setCell ⟨gb362, 1, none⟩ (.int .i64 ((rd_T40 l0_2 x34_2).f1)))) := ⟨by repeat (first | (with_reducible first | exact HB.out | apply below_alloc | apply pw_below_drewN | apply below_drew1 | refine below_set ?_ GE358.out | refine below_set ?_ GE362.out) | exact HB.out)⟩
             (try clear BK358)
             (try clear BK362)
             (try clear HB)
             generalize ((w26.setCell ⟨gb362, 0, none⟩ (.int .i64 ((rd_T40 l0_2 x34_2).f0))).setCell ⟨gb362, 1, none⟩ (.int .i64 ((rd_T40 l0_2 x34_2).f1))) = w29 at n0_ n1_ n2_ ⊢
             have BK358 := n0_
             have BK362 := n1_
             have HB := n2_
             clear n0_ n1_ n2_
             have n0_ := Aside0.mk (blk_drew BK358.out)
             have n1_ := Aside0.mk (blk_drew BK362.out)
             have n2_ := Aside0.mk (below_drew1 HB.out)
             clear BK358
             clear BK362
             clear HB
             have BK358 := n0_
             have BK362 := n1_
             have HB := n2_
             clear n0_ n1_ n2_
             refine start_ (n := 22) (S := fun w' => w'.cell? ⟨gb362, 0, none⟩ = some (.int .i64 ((rd_T40 l0_2 x34_2).f0)) ∧ w'.cell? ⟨gb362, 1, none⟩ = some (.int .i64 ((rd_T40 l0_2 x34_2).f1)) ∧ w'.cell? ⟨gb358, 0, none⟩ = some (.int .i64 a0_0) ∧ w'.cell? ⟨gb358, 1, none⟩ = some (.int .i64 a0_1) ∧ w'.cell? ⟨gb358, 2, none⟩ = some (.slice (some ad361) l0_2.length c0_2) ∧ w'.cell? ⟨gb358, 3, none⟩ = some (.slice A0_3 l0_3.length c0_3)) (ds := []) #[fF,fF,fF,fF,fF,fF,fF,fF,fF,fF,fF,fF,fF,fF,fF,fF,fF,fF,fF,fF,fF,fF] (by kernel_rfl) rfl rfl ⟨(blk_cell BK362.out 0).trans rfl, (blk_cell BK362.out 1).trans rfl, (blk_cell BK358.out 0).trans rfl, (blk_cell BK358.out 1).trans rfl, (blk_cell BK358.out 2).trans rfl, (blk_cell BK358.out 3).trans rfl⟩ (fun hHeld => ?_); refine with_tabW impl_ValidDrawing.tab6 impl_ValidDrawing.bits6 (fun HT_ HW_ => ?_)
             generalize w29.drew = w30 at BK358 BK362 HB hHeld ⊢
             refine pu 0 39 HT_ ?_
             refine pu 2 41 HT_ ?_
             refine tk 1 40 HT_ HW_ hHeld ?_
             refine tk 3 42 HT_ HW_ hHeld ?_
             refine on 4 43 HT_ (fun K hK => ?_)
             refine goes_ Tryd.func55 (by kernel_rfl) rfl #[.int .i64 ((rd_T40 l0_2 x34_2).f0), .int .i64 0, .int .i64 a0_0] (by rfl) rfl rfl (by (try simp only [List.map_toArray, List.map_cons, List.map_nil]); first | done | rfl | (simp only [List.length_drop, List.length_take]; rfl)) ?_
             with_reducible refine (impl_within.calls ((rd_T40 l0_2 x34_2).f0) 0 a0_0 true _ A18.out).mono ?_
             rintro e w' ⟨rfl, ⟨nd, rfl⟩⟩
             refine ⟨_, rfl, ?_⟩
             refine hK.out _ _ ⟨(blk_cell BK362.out 0).trans rfl, (blk_cell BK362.out 1).trans rfl, (blk_cell BK358.out 0).trans rfl, (blk_cell BK358.out 1).trans rfl, (blk_cell BK358.out 2).trans rfl, (blk_cell BK358.out 3).trans rfl⟩ (fun hHeld => ?_)
             clear hK K
             refine norm_ (a' := ?_) ?_ ?_
             rotate_left
             ·show Act.put _ (some 43) _ = _
              simp only [Act.put, List.setIfInBounds_toArray, List.set_cons_zero, List.set_cons_succ, i64_w, i32_w]
              rfl
             refine pu 5 44 HT_ ?_
             refine pu 6 45 HT_ ?_
             refine pu 7 46 HT_ ?_
             refine pu 9 48 HT_ ?_
             refine tk 8 47 HT_ HW_ hHeld ?_
             refine tk 10 49 HT_ HW_ hHeld ?_
             refine on 11 50 HT_ (fun K hK => ?_)
             refine goes_ Tryd.func55 (by kernel_rfl) rfl #[.int .i64 ((rd_T40 l0_2 x34_2).f1), .int .i64 0, .int .i64 a0_1] (by rfl) rfl rfl (by (try simp only [List.map_toArray, List.map_cons, List.map_nil]); first | done | rfl | (simp only [List.length_drop, List.length_take]; rfl)) ?_
             with_reducible refine (impl_within.calls ((rd_T40 l0_2 x34_2).f1) 0 a0_1 true _ A20.out).mono ?_
             rintro e w' ⟨rfl, ⟨nd, rfl⟩⟩
             refine ⟨_, rfl, ?_⟩
             have q31 : (x34_2 : Int) ≤ ((l0_2.length : Int) : Int) := da
             obtain ⟨i031, hi031, _, hsz31, _⟩ := info_parts info40
             have hroom31 : l0_2.length ≤ c0_2 := HC0_2.out
             have hC31 : Kd.C k40 _ (some ad361) l0_2.length l0_2 := HR0_2.out
             have hcut31 := cut_to (P := Tryd.prog) 49 40 .i64 Tryd.underlying49 hi031 (some ad361) l0_2.length c0_2 x34_2 (da) q31 hroom31
             have hr31 := Kd.C_take (m := (x34_2 : Int).toNat) hC31 (by omega)
             have hy31 : y365.length = (x34_2 : Int).toNat := (by rw [Ny365.out, List.length_take]; omega)
             rw [← Ny365.out] at hr31
             rw [← hy31] at hcut31
             have HR368 := Aside0.mk hr31
             have HC368 := Aside0.mk (show y365.length ≤ c0_2 from by omega)
             clear hr31 hC31 hroom31 hi031 hsz31
             have KY31 := Aside0.mk hy31
             clear hy31
             replace q31 := eq_true q31
             refine hK.out _ _ ⟨(blk_cell BK362.out 0).trans rfl, (blk_cell BK362.out 1).trans rfl, (blk_cell BK358.out 0).trans rfl, (blk_cell BK358.out 1).trans rfl, (blk_cell BK358.out 2).trans rfl, (blk_cell BK358.out 3).trans rfl⟩ (fun hHeld => ?_)
             clear hK K
             refine norm_ (a' := ?_) ?_ ?_
             rotate_left
             ·show Act.put _ (some 50) _ = _
              simp only [Act.put, List.setIfInBounds_toArray, List.set_cons_zero, List.set_cons_succ, i64_w, i32_w]
              rfl
             refine pu 12 51 HT_ ?_
             refine pu 13 52 HT_ ?_
             refine pu 14 53 HT_ ?_
             refine pu 15 54 HT_ ?_
             refine pu 17 56 HT_ ?_
             refine tk 16 55 HT_ HW_ hHeld ?_
             refine pu 18 57 HT_ ?_
             refine tk 19 58 HT_ HW_ hHeld ?_
             refine on 20 59 HT_ (fun K hK => ?_)
             refine goes_ Tryd.func94 (by kernel_rfl) rfl #[.slice (some ad361) y365.length c0_2, .agg #[.int .i64 ((rd_T40 l0_2 x34_2).f0), .int .i64 ((rd_T40 l0_2 x34_2).f1)]] (by rfl) rfl rfl (by (try simp only [List.map_toArray, List.map_cons, List.map_nil]); first | done | rfl | (simp only [List.length_drop, List.length_take]; rfl)) ?_
             with_reducible refine (impl_Point_94.calls k2 _ _ y365 ((rd_T40 l0_2 x34_2).f0) ((rd_T40 l0_2 x34_2).f1) true _ ?side1 ?side2 A24.out).mono ?_
             (case side1 => repeat (first | exact (Kd.C_below HR368.out ib) | (with_reducible refine Kd.C_alloc ?_ _) | (with_reducible refine Kd.C_drewN ?_ _) | (with_reducible refine Kd.C_drew ?_)))
             (case side2 => exact HC368.out)
             rintro e w32 ⟨rfl, hb⟩
             refine ⟨_, rfl, ?_⟩
             have n0_ := kb BK358 hb
             have n1_ := kb BK362 hb
             have n2_ := sb hb
             clear BK358
             clear BK362
             clear HB
             have BK358 := n0_
             have BK362 := n1_
             have HB := n2_
             clear n0_ n1_ n2_
             (try clear hb)
             (try clear hb2)
             (try clear hk)
             (try clear hi)
             refine hK.out _ _ ⟨(blk_cell BK362.out 0).trans rfl, (blk_cell BK362.out 1).trans rfl, (blk_cell BK358.out 0).trans rfl, (blk_cell BK358.out 1).trans rfl, (blk_cell BK358.out 2).trans rfl, (blk_cell BK358.out 3).trans rfl⟩ (fun hHeld => ?_)
             clear hK K
             refine norm_ (a' := ?_) ?_ ?_
             rotate_left
             ·show Act.put _ (some 59) _ = _
              simp only [Act.put, List.setIfInBounds_toArray, List.set_cons_zero, List.set_cons_succ, i64_w, i32_w]
              rfl
             refine pu 21 60 HT_ ?_
             refine done_ (done_of HT_.out (by kernel_rfl)) ?_
             try go_wp2
             go_ret
             exact ⟨by first | rfl | (simp [errW_none, errW_some] <;> rfl) | (simp [*, errW_none, errW_some] <;> rfl), by repeat (first | (with_reducible first | exact HB.out | apply below_alloc | apply pw_below_drewN | apply below_drew1 | refine below_set ?_ GE358.out | refine below_set ?_ GE362.out) | exact HB.out)⟩
            ·replace c25 := Bool.eq_false_iff.mpr c25
             subst c25
             have H1 : (impl_ValidDrawing.l0 k2 l0_2 (l0_2.length : Int) (wrap64 (x34_2 + 1)) a0_0 a0_1 l0_2 l0_3) = some r := by rw [if_neg (show ¬ (false = true) by decide)] at H; exact H
             clear H
             have H := H1
             clear H1
             have H' := Aside0.mk H
             clear H
             have p361 : 0 ≤ (x34_2 : Int) := da
             have q361 : x34_2 < (l0_2.length : Int) := da
             obtain ⟨ad361, e361, hx361_0, hx361_1⟩ := at_T40 HR0_2.out x34_2 p361 q361
             cases e361
             replace hx361_0 := (HB.out.cell (bL w _ hx361_0)).trans hx361_0
             replace hx361_1 := (HB.out.cell (bL w _ hx361_1)).trans hx361_1
             replace p361 := eq_true p361
             replace q361 := eq_true q361
             try go_wp2_with (first | ((with_reducible refine gate_dst (N := 4) rfl ?_); (try (refine gate_guard (by rfl) ?_; dsimp only)); refine bx (cs := #[.int .i64 0, .int .i64 0]) (t := 40) ?_; intro gb362 hg w33 hbox hb; have n0_ := kb BK358 hb; have n1_ := sb hb; have n2_ := Aside0.mk (hbox); have n3_ := zb hg; have n4_ := zb hg; have n5_ := nl BK358 hg; have n6_ := ng BK358 hg; clear BK358; clear HB; have BK358 := n0_; have HB := n1_; have BK362 := n2_; have GW362 := n3_; have GE362 := n4_; have NB358_362 := n5_; have NB362_358 := n6_; clear n0_ n1_ n2_ n3_ n4_ n5_ n6_; clear hb hbox hg; have hnb34 := NB362_358.out; have hnc34 := NB358_362.out; have hcz35_0 := ck BK362 0; have hcz35_1 := ck BK362 1; have hfz35_0 := blk_frozen BK362.out 0; have hfz35_1 := blk_frozen BK362.out 1))
             have n0_ : Aside0 (((w33.setCell ⟨gb362, 0, none⟩ (.int .i64 ((rd_T40 l0_2 x34_2).f0))).setCell ⟨gb362, 1, none⟩ (.int .i64 ((rd_T40 l0_2 x34_2).f1))).heap[gb358]? = some (.cells #[.int .i64 a0_0, .int .i64 a0_1, .slice (some ad361) l0_2.length c0_2, .slice A0_3 l0_3.length c0_3] 63 (0, 0))) := ⟨by refine bF NB358_362.out ?_; refine bF NB358_362.out ?_; exact bk BK358⟩
             have n1_ : Aside0 (((w33.setCell ⟨gb362, 0, none⟩ (.int .i64 ((rd_T40 l0_2 x34_2).f0))).setCell ⟨gb362, 1, none⟩ (.int .i64 ((rd_T40 l0_2 x34_2).f1))).heap[gb362]? = some (.cells #[.int .i64 ((rd_T40 l0_2 x34_2).f0), .int .i64 ((rd_T40 l0_2 x34_2).f1)] 40 (0, 0))) := ⟨by refine bP (cs := #[.int .i64 ((rd_T40 l0_2 x34_2).f0), .int .i64 0]) 1 ?_; refine bP (cs := #[.int .i64 0, .int .i64 0]) 0 ?_; exact bk BK362⟩
             have n2_ : Aside0 (Below w.heap.size w ((w33.setCell ⟨gb362, 0, none⟩ (.int .i64 ((rd_T40 l0_2 x34_2).f0))).setCell ⟨gb362, 1, none⟩ (.int .i64 ((rd_T40 l0_2 x34_2).f1)))) := ⟨by repeat (first | (with_reducible first | exact HB.out | apply below_alloc | apply pw_below_drewN | apply below_drew1 | refine below_set ?_ GE358.out | refine below_set ?_ GE362.out) | exact HB.out)⟩
             (try clear BK358)
             (try clear BK362)
             (try clear HB)
             generalize ((w33.setCell ⟨gb362, 0, none⟩ (.int .i64 ((rd_T40 l0_2 x34_2).f0))).setCell ⟨gb362, 1, none⟩ (.int .i64 ((rd_T40 l0_2 x34_2).f1))) = w36 at n0_ n1_ n2_ ⊢
             have BK358 := n0_
             have BK362 := n1_
             have HB := n2_
             clear n0_ n1_ n2_
             have n0_ := Aside0.mk (blk_drew BK358.out)
             have n1_ := Aside0.mk (blk_drew BK362.out)
             have n2_ := Aside0.mk (below_drew1 HB.out)
             clear BK358
             clear BK362
             clear HB
             have BK358 := n0_
             have BK362 := n1_
             have HB := n2_
             clear n0_ n1_ n2_
             refine start_ (n := 22) (S := fun w' => w'.cell? ⟨gb362, 0, none⟩ = some (.int .i64 ((rd_T40 l0_2 x34_2).f0)) ∧ w'.cell? ⟨gb362, 1, none⟩ = some (.int .i64 ((rd_T40 l0_2 x34_2).f1)) ∧ w'.cell? ⟨gb358, 0, none⟩ = some (.int .i64 a0_0) ∧ w'.cell? ⟨gb358, 1, none⟩ = some (.int .i64 a0_1) ∧ w'.cell? ⟨gb358, 2, none⟩ = some (.slice (some ad361) l0_2.length c0_2) ∧ w'.cell? ⟨gb358, 3, none⟩ = some (.slice A0_3 l0_3.length c0_3)) (ds := []) #[fF,fF,fF,fF,fF,fF,fF,fF,fF,fF,fF,fF,fF,fF,fF,fF,fF,fF,fF,fF,fF,fF] (by kernel_rfl) rfl rfl ⟨(blk_cell BK362.out 0).trans rfl, (blk_cell BK362.out 1).trans rfl, (blk_cell BK358.out 0).trans rfl, (blk_cell BK358.out 1).trans rfl, (blk_cell BK358.out 2).trans rfl, (blk_cell BK358.out 3).trans rfl⟩ (fun hHeld => ?_); refine with_tabW impl_ValidDrawing.tab6 impl_ValidDrawing.bits6 (fun HT_ HW_ => ?_)
             generalize w36.drew = w37 at BK358 BK362 HB hHeld ⊢
             refine pu 0 39 HT_ ?_
             refine pu 2 41 HT_ ?_
             refine tk 1 40 HT_ HW_ hHeld ?_
             refine tk 3 42 HT_ HW_ hHeld ?_
             refine on 4 43 HT_ (fun K hK => ?_)
             refine goes_ Tryd.func55 (by kernel_rfl) rfl #[.int .i64 ((rd_T40 l0_2 x34_2).f0), .int .i64 0, .int .i64 a0_0] (by rfl) rfl rfl (by (try simp only [List.map_toArray, List.map_cons, List.map_nil]); first | done | rfl | (simp only [List.length_drop, List.length_take]; rfl)) ?_
             with_reducible refine (impl_within.calls ((rd_T40 l0_2 x34_2).f0) 0 a0_0 true _ A18.out).mono ?_
             rintro e w' ⟨rfl, ⟨nd, rfl⟩⟩
             refine ⟨_, rfl, ?_⟩
             refine hK.out _ _ ⟨(blk_cell BK362.out 0).trans rfl, (blk_cell BK362.out 1).trans rfl, (blk_cell BK358.out 0).trans rfl, (blk_cell BK358.out 1).trans rfl, (blk_cell BK358.out 2).trans rfl, (blk_cell BK358.out 3).trans rfl⟩ (fun hHeld => ?_)
             clear hK K
             refine norm_ (a' := ?_) ?_ ?_
             rotate_left
             ·show Act.put _ (some 43) _ = _
              simp only [Act.put, List.setIfInBounds_toArray, List.set_cons_zero, List.set_cons_succ, i64_w, i32_w]
              rfl
             refine pu 5 44 HT_ ?_
             refine pu 6 45 HT_ ?_
             refine pu 7 46 HT_ ?_
             refine pu 9 48 HT_ ?_
             refine tk 8 47 HT_ HW_ hHeld ?_
             refine tk 10 49 HT_ HW_ hHeld ?_
             refine on 11 50 HT_ (fun K hK => ?_)
             refine goes_ Tryd.func55 (by kernel_rfl) rfl #[.int .i64 ((rd_T40 l0_2 x34_2).f1), .int .i64 0, .int .i64 a0_1] (by rfl) rfl rfl (by (try simp only [List.map_toArray, List.map_cons, List.map_nil]); first | done | rfl | (simp only [List.length_drop, List.length_take]; rfl)) ?_
             with_reducible refine (impl_within.calls ((rd_T40 l0_2 x34_2).f1) 0 a0_1 true _ A20.out).mono ?_
             rintro e w' ⟨rfl, ⟨nd, rfl⟩⟩
             refine ⟨_, rfl, ?_⟩
             have q38 : (x34_2 : Int) ≤ ((l0_2.length : Int) : Int) := da
             obtain ⟨i038, hi038, _, hsz38, _⟩ := info_parts info40
             have hroom38 : l0_2.length ≤ c0_2 := HC0_2.out
             have hC38 : Kd.C k40 _ (some ad361) l0_2.length l0_2 := HR0_2.out
             have hcut38 := cut_to (P := Tryd.prog) 49 40 .i64 Tryd.underlying49 hi038 (some ad361) l0_2.length c0_2 x34_2 (da) q38 hroom38
             have hr38 := Kd.C_take (m := (x34_2 : Int).toNat) hC38 (by omega)
             have hy38 : y365.length = (x34_2 : Int).toNat := (by rw [Ny365.out, List.length_take]; omega)
             rw [← Ny365.out] at hr38
             rw [← hy38] at hcut38
             have HR368 := Aside0.mk hr38
             have HC368 := Aside0.mk (show y365.length ≤ c0_2 from by omega)
             clear hr38 hC38 hroom38 hi038 hsz38
             have KY38 := Aside0.mk hy38
             clear hy38
             replace q38 := eq_true q38
             refine hK.out _ _ ⟨(blk_cell BK362.out 0).trans rfl, (blk_cell BK362.out 1).trans rfl, (blk_cell BK358.out 0).trans rfl, (blk_cell BK358.out 1).trans rfl, (blk_cell BK358.out 2).trans rfl, (blk_cell BK358.out 3).trans rfl⟩ (fun hHeld => ?_)
             clear hK K
             refine norm_ (a' := ?_) ?_ ?_
             rotate_left
             ·show Act.put _ (some 50) _ = _
              simp only [Act.put, List.setIfInBounds_toArray, List.set_cons_zero, List.set_cons_succ, i64_w, i32_w]
              rfl
             refine pu 12 51 HT_ ?_
             refine pu 13 52 HT_ ?_
             refine pu 14 53 HT_ ?_
             refine pu 15 54 HT_ ?_
             refine pu 17 56 HT_ ?_
             refine tk 16 55 HT_ HW_ hHeld ?_
             refine pu 18 57 HT_ ?_
             refine tk 19 58 HT_ HW_ hHeld ?_
             refine on 20 59 HT_ (fun K hK => ?_)
             refine goes_ Tryd.func94 (by kernel_rfl) rfl #[.slice (some ad361) y365.length c0_2, .agg #[.int .i64 ((rd_T40 l0_2 x34_2).f0), .int .i64 ((rd_T40 l0_2 x34_2).f1)]] (by rfl) rfl rfl (by (try simp only [List.map_toArray, List.map_cons, List.map_nil]); first | done | rfl | (simp only [List.length_drop, List.length_take]; rfl)) ?_
             with_reducible refine (impl_Point_94.calls k2 _ _ y365 ((rd_T40 l0_2 x34_2).f0) ((rd_T40 l0_2 x34_2).f1) false _ ?side1 ?side2 A24.out).mono ?_
             (case side1 => repeat (first | exact (Kd.C_below HR368.out ib) | (with_reducible refine Kd.C_alloc ?_ _) | (with_reducible refine Kd.C_drewN ?_ _) | (with_reducible refine Kd.C_drew ?_)))
             (case side2 => exact HC368.out)
             rintro e w39 ⟨rfl, hb⟩
             refine ⟨_, rfl, ?_⟩
             have n0_ := kb BK358 hb
             have n1_ := kb BK362 hb
             have n2_ := sb hb
             clear BK358
             clear BK362
             clear HB
             have BK358 := n0_
             have BK362 := n1_
             have HB := n2_
             clear n0_ n1_ n2_
             (try clear hb)
             (try clear hb2)
             (try clear hk)
             (try clear hi)
             refine hK.out _ _ ⟨(blk_cell BK362.out 0).trans rfl, (blk_cell BK362.out 1).trans rfl, (blk_cell BK358.out 0).trans rfl, (blk_cell BK358.out 1).trans rfl, (blk_cell BK358.out 2).trans rfl, (blk_cell BK358.out 3).trans rfl⟩ (fun hHeld => ?_)
             clear hK K
             refine norm_ (a' := ?_) ?_ ?_
             rotate_left
             ·show Act.put _ (some 59) _ = _
              simp only [Act.put, List.setIfInBounds_toArray, List.set_cons_zero, List.set_cons_succ, i64_w, i32_w]
              rfl
             refine pu 21 60 HT_ ?_
             refine done_ (done_of HT_.out (by kernel_rfl)) ?_
             try go_wp2
             go_roundg k2
             case measure => have := HJ1.out; have := HK2.out; omega
             case rel => exact ⟨(wrap64 (x34_2 + 1)), (by first | rfl | (simp; done) | (simp [*]; done)), H', ⟨by have := HJ1.out; have := HK2.out; omega⟩, ⟨by exact bk BK358⟩, ⟨by repeat (first | (with_reducible first | exact HB.out | apply below_alloc | apply pw_below_drewN | apply below_drew1 | refine below_set ?_ GE358.out | refine below_set ?_ GE362.out) | exact HB.out)⟩⟩
           ·rw [if_neg c23] at H
            exact absurd H (by simp)
          ·replace c21 := Bool.eq_false_iff.mpr c21
           subst c21
           have H1 : (some false) = some r := by rw [if_neg (show ¬ (false = true) by decide)] at H; exact H
           clear H
           have H := H1
           clear H1
           obtain rfl := Option.some.inj H
           have p361 : 0 ≤ (x34_2 : Int) := da
           have q361 : x34_2 < (l0_2.length : Int) := da
           obtain ⟨ad361, e361, hx361_0, hx361_1⟩ := at_T40 HR0_2.out x34_2 p361 q361
           cases e361
           replace hx361_0 := (HB.out.cell (bL w _ hx361_0)).trans hx361_0
           replace hx361_1 := (HB.out.cell (bL w _ hx361_1)).trans hx361_1
           replace p361 := eq_true p361
           replace q361 := eq_true q361
           try go_wp2_with (first | ((with_reducible refine gate_dst (N := 4) rfl ?_); (try (refine gate_guard (by rfl) ?_; dsimp only)); refine bx (cs := #[.int .i64 0, .int .i64 0]) (t := 40) ?_; intro gb362 hg w40 hbox hb; have n0_ := kb BK358 hb; have n1_ := sb hb; have n2_ := Aside0.mk (hbox); have n3_ := zb hg; have n4_ := zb hg; have n5_ := nl BK358 hg; have n6_ := ng BK358 hg; clear BK358; clear HB; have BK358 := n0_; have HB := n1_; have BK362 := n2_; have GW362 := n3_; have GE362 := n4_; have NB358_362 := n5_; have NB362_358 := n6_; clear n0_ n1_ n2_ n3_ n4_ n5_ n6_; clear hb hbox hg; have hnb41 := NB362_358.out; have hnc41 := NB358_362.out; have hcz42_0 := ck BK362 0; have hcz42_1 := ck BK362 1; have hfz42_0 := blk_frozen BK362.out 0; have hfz42_1 := blk_frozen BK362.out 1))
           have n0_ : Aside0 (((w40.setCell ⟨gb362, 0, none⟩ (.int .i64 ((rd_T40 l0_2 x34_2).f0))).setCell ⟨gb362, 1, none⟩ (.int .i64 ((rd_T40 l0_2 x34_2).f1))).heap[gb358]? = some (.cells #[.int .i64 a0_0, .int .i64 a0_1, .slice (some ad361) l0_2.length c0_2, .slice A0_3 l0_3.length c0_3] 63 (0, 0))) := ⟨by refine bF NB358_362.out ?_; refine bF NB358_362.out ?_; exact bk BK358⟩
           have n1_ : Aside0 (((w40.setCell ⟨gb362, 0, none⟩ (.int .i64 ((rd_T40 l0_2 x34_2).f0))).setCell ⟨gb362, 1, none⟩ (.int .i64 ((rd_T40 l0_2 x34_2).f1))).heap[gb362]? = some (.cells #[.int .i64 ((rd_T40 l0_2 x34_2).f0), .int .i64 ((rd_T40 l0_2 x34_2).f1)] 40 (0, 0))) := ⟨by refine bP (cs := #[.int .i64 ((rd_T40 l0_2 x34_2).f0), .int .i64 0]) 1 ?_; refine bP (cs := #[.int .i64 0, .int .i64 0]) 0 ?_; exact bk BK362⟩
           have n2_ : Aside0 (Below w.heap.size w ((w40.setCell ⟨gb362, 0, none⟩ (.int .i64 ((rd_T40 l0_2 x34_2).f0))).setCell ⟨gb362, 1, none⟩ (.int .i64 ((rd_T40 l0_2 x34_2).f1)))) := ⟨by repeat (first | (with_reducible first | exact HB.out | apply below_alloc | apply pw_below_drewN | apply below_drew1 | refine below_set ?_ GE358.out | refine below_set ?_ GE362.out) | exact HB.out)⟩
           (try clear BK358)
           (try clear BK362)
           (try clear HB)
           generalize ((w40.setCell ⟨gb362, 0, none⟩ (.int .i64 ((rd_T40 l0_2 x34_2).f0))).setCell ⟨gb362, 1, none⟩ (.int .i64 ((rd_T40 l0_2 x34_2).f1))) = w43 at n0_ n1_ n2_ ⊢
           have BK358 := n0_
           have BK362 := n1_
           have HB := n2_
           clear n0_ n1_ n2_
           have n0_ := Aside0.mk (blk_drew BK358.out)
           have n1_ := Aside0.mk (blk_drew BK362.out)
           have n2_ := Aside0.mk (below_drew1 HB.out)
           clear BK358
           clear BK362
           clear HB
           have BK358 := n0_
           have BK362 := n1_
           have HB := n2_
           clear n0_ n1_ n2_
           refine start_ (n := 22) (S := fun w' => w'.cell? ⟨gb362, 0, none⟩ = some (.int .i64 ((rd_T40 l0_2 x34_2).f0)) ∧ w'.cell? ⟨gb362, 1, none⟩ = some (.int .i64 ((rd_T40 l0_2 x34_2).f1)) ∧ w'.cell? ⟨gb358, 0, none⟩ = some (.int .i64 a0_0) ∧ w'.cell? ⟨gb358, 1, none⟩ = some (.int .i64 a0_1) ∧ w'.cell? ⟨gb358, 2, none⟩ = some (.slice (some ad361) l0_2.length c0_2) ∧ w'.cell? ⟨gb358, 3, none⟩ = some (.slice A0_3 l0_3.length c0_3)) (ds := []) #[fF,fF,fF,fF,fF,fF,fF,fF,fF,fF,fF,fF,fF,fF,fF,fF,fF,fF,fF,fF,fF,fF] (by kernel_rfl) rfl rfl ⟨(blk_cell BK362.out 0).trans rfl, (blk_cell BK362.out 1).trans rfl, (blk_cell BK358.out 0).trans rfl, (blk_cell BK358.out 1).trans rfl, (blk_cell BK358.out 2).trans rfl, (blk_cell BK358.out 3).trans rfl⟩ (fun hHeld => ?_); refine with_tabW impl_ValidDrawing.tab6 impl_ValidDrawing.bits6 (fun HT_ HW_ => ?_)
           generalize w43.drew = w44 at BK358 BK362 HB hHeld ⊢
           refine pu 0 39 HT_ ?_
           refine pu 2 41 HT_ ?_
           refine tk 1 40 HT_ HW_ hHeld ?_
           refine tk 3 42 HT_ HW_ hHeld ?_
           refine on 4 43 HT_ (fun K hK => ?_)
           refine goes_ Tryd.func55 (by kernel_rfl) rfl #[.int .i64 ((rd_T40 l0_2 x34_2).f0), .int .i64 0, .int .i64 a0_0] (by rfl) rfl rfl (by (try simp only [List.map_toArray, List.map_cons, List.map_nil]); first | done | rfl | (simp only [List.length_drop, List.length_take]; rfl)) ?_
           with_reducible refine (impl_within.calls ((rd_T40 l0_2 x34_2).f0) 0 a0_0 true _ A18.out).mono ?_
           rintro e w' ⟨rfl, ⟨nd, rfl⟩⟩
           refine ⟨_, rfl, ?_⟩
           refine hK.out _ _ ⟨(blk_cell BK362.out 0).trans rfl, (blk_cell BK362.out 1).trans rfl, (blk_cell BK358.out 0).trans rfl, (blk_cell BK358.out 1).trans rfl, (blk_cell BK358.out 2).trans rfl, (blk_cell BK358.out 3).trans rfl⟩ (fun hHeld => ?_)
           clear hK K
           refine norm_ (a' := ?_) ?_ ?_
           rotate_left
           ·show Act.put _ (some 43) _ = _
            simp only [Act.put, List.setIfInBounds_toArray, List.set_cons_zero, List.set_cons_succ, i64_w, i32_w]
            rfl
           refine pu 5 44 HT_ ?_
           refine pu 6 45 HT_ ?_
           refine pu 7 46 HT_ ?_
           refine pu 9 48 HT_ ?_
           refine tk 8 47 HT_ HW_ hHeld ?_
           refine tk 10 49 HT_ HW_ hHeld ?_
           refine on 11 50 HT_ (fun K hK => ?_)
           refine goes_ Tryd.func55 (by kernel_rfl) rfl #[.int .i64 ((rd_T40 l0_2 x34_2).f1), .int .i64 0, .int .i64 a0_1] (by rfl) rfl rfl (by (try simp only [List.map_toArray, List.map_cons, List.map_nil]); first | done | rfl | (simp only [List.length_drop, List.length_take]; rfl)) ?_
           with_reducible refine (impl_within.calls ((rd_T40 l0_2 x34_2).f1) 0 a0_1 false _ A20.out).mono ?_
           rintro e w' ⟨rfl, ⟨nd, rfl⟩⟩
           refine ⟨_, rfl, ?_⟩
           refine hK.out _ _ ⟨(blk_cell BK362.out 0).trans rfl, (blk_cell BK362.out 1).trans rfl, (blk_cell BK358.out 0).trans rfl, (blk_cell BK358.out 1).trans rfl, (blk_cell BK358.out 2).trans rfl, (blk_cell BK358.out 3).trans rfl⟩ (fun hHeld => ?_)
           clear hK K
           refine norm_ (a' := ?_) ?_ ?_
           rotate_left
           ·show Act.put _ (some 50) _ = _
            simp only [Act.put, List.setIfInBounds_toArray, List.set_cons_zero, List.set_cons_succ, i64_w, i32_w]
            rfl
           refine pu 12 51 HT_ ?_
           refine pu 13 52 HT_ ?_
           refine pu 14 53 HT_ ?_
           refine pd 15 54 HT_ ?_
           refine pd 16 55 HT_ ?_
           refine pd 17 56 HT_ ?_
           refine pd 18 57 HT_ ?_
           refine pd 19 58 HT_ ?_
           refine pd 20 59 HT_ ?_
           refine pu 21 60 HT_ ?_
           refine done_ (done_of HT_.out (by kernel_rfl)) ?_
           try go_wp2
           go_ret
           exact ⟨by first | rfl | (simp [errW_none, errW_some] <;> rfl) | (simp [*, errW_none, errW_some] <;> rfl), by repeat (first | (with_reducible first | exact HB.out | apply below_alloc | apply pw_below_drewN | apply below_drew1 | refine below_set ?_ GE358.out | refine below_set ?_ GE362.out) | exact HB.out)⟩
         ·replace c19 := Bool.eq_false_iff.mpr c19
          subst c19
          have H1 : (some false) = some r := by rw [if_neg (show ¬ (false = true) by decide)] at H; exact H
          clear H
          have H := H1
          clear H1
          obtain rfl := Option.some.inj H
          have p361 : 0 ≤ (x34_2 : Int) := da
          have q361 : x34_2 < (l0_2.length : Int) := da
          obtain ⟨ad361, e361, hx361_0, hx361_1⟩ := at_T40 HR0_2.out x34_2 p361 q361
          cases e361
          replace hx361_0 := (HB.out.cell (bL w _ hx361_0)).trans hx361_0
          replace hx361_1 := (HB.out.cell (bL w _ hx361_1)).trans hx361_1
          replace p361 := eq_true p361
          replace q361 := eq_true q361
          try go_wp2_with (first | ((with_reducible refine gate_dst (N := 4) rfl ?_); (try (refine gate_guard (by rfl) ?_; dsimp only)); refine bx (cs := #[.int .i64 0, .int .i64 0]) (t := 40) ?_; intro gb362 hg w45 hbox hb; have n0_ := kb BK358 hb; have n1_ := sb hb; have n2_ := Aside0.mk (hbox); have n3_ := zb hg; have n4_ := zb hg; have n5_ := nl BK358 hg; have n6_ := ng BK358 hg; clear BK358; clear HB; have BK358 := n0_; have HB := n1_; have BK362 := n2_; have GW362 := n3_; have GE362 := n4_; have NB358_362 := n5_; have NB362_358 := n6_; clear n0_ n1_ n2_ n3_ n4_ n5_ n6_; clear hb hbox hg; have hnb46 := NB362_358.out; have hnc46 := NB358_362.out; have hcz47_0 := ck BK362 0; have hcz47_1 := ck BK362 1; have hfz47_0 := blk_frozen BK362.out 0; have hfz47_1 := blk_frozen BK362.out 1))
          have n0_ : Aside0 (((w45.setCell ⟨gb362, 0, none⟩ (.int .i64 ((rd_T40 l0_2 x34_2).f0))).setCell ⟨gb362, 1, none⟩ (.int .i64 ((rd_T40 l0_2 x34_2).f1))).heap[gb358]? = some (.cells #[.int .i64 a0_0, .int .i64 a0_1, .slice (some ad361) l0_2.length c0_2, .slice A0_3 l0_3.length c0_3] 63 (0, 0))) := ⟨by refine bF NB358_362.out ?_; refine bF NB358_362.out ?_; exact bk BK358⟩
          have n1_ : Aside0 (((w45.setCell ⟨gb362, 0, none⟩ (.int .i64 ((rd_T40 l0_2 x34_2).f0))).setCell ⟨gb362, 1, none⟩ (.int .i64 ((rd_T40 l0_2 x34_2).f1))).heap[gb362]? = some (.cells #[.int .i64 ((rd_T40 l0_2 x34_2).f0), .int .i64 ((rd_T40 l0_2 x34_2).f1)] 40 (0, 0))) := ⟨by refine bP (cs := #[.int .i64 ((rd_T40 l0_2 x34_2).f0), .int .i64 0]) 1 ?_; refine bP (cs := #[.int .i64 0, .int .i64 0]) 0 ?_; exact bk BK362⟩
          have n2_ : Aside0 (Below w.heap.size w ((w45.setCell ⟨gb362, 0, none⟩ (.int .i64 ((rd_T40 l0_2 x34_2).f0))).setCell ⟨gb362, 1, none⟩ (.int .i64 ((rd_T40 l0_2 x34_2).f1)))) := ⟨by repeat (first | (with_reducible first | exact HB.out | apply below_alloc | apply pw_below_drewN | apply below_drew1 | refine below_set ?_ GE358.out | refine below_set ?_ GE362.out) | exact HB.out)⟩
          (try clear BK358)
          (try clear BK362)
          (try clear HB)
          generalize ((w45.setCell ⟨gb362, 0, none⟩ (.int .i64 ((rd_T40 l0_2 x34_2).f0))).setCell ⟨gb362, 1, none⟩ (.int .i64 ((rd_T40 l0_2 x34_2).f1))) = w48 at n0_ n1_ n2_ ⊢
          have BK358 := n0_
          have BK362 := n1_
          have HB := n2_
          clear n0_ n1_ n2_
          have n0_ := Aside0.mk (blk_drew BK358.out)
          have n1_ := Aside0.mk (blk_drew BK362.out)
          have n2_ := Aside0.mk (below_drew1 HB.out)
          clear BK358
          clear BK362
          clear HB
          have BK358 := n0_
          have BK362 := n1_
          have HB := n2_
          clear n0_ n1_ n2_
          refine start_ (n := 22) (S := fun w' => w'.cell? ⟨gb362, 0, none⟩ = some (.int .i64 ((rd_T40 l0_2 x34_2).f0)) ∧ w'.cell? ⟨gb362, 1, none⟩ = some (.int .i64 ((rd_T40 l0_2 x34_2).f1)) ∧ w'.cell? ⟨gb358, 0, none⟩ = some (.int .i64 a0_0) ∧ w'.cell? ⟨gb358, 1, none⟩ = some (.int .i64 a0_1) ∧ w'.cell? ⟨gb358, 2, none⟩ = some (.slice (some ad361) l0_2.length c0_2) ∧ w'.cell? ⟨gb358, 3, none⟩ = some (.slice A0_3 l0_3.length c0_3)) (ds := []) #[fF,fF,fF,fF,fF,fF,fF,fF,fF,fF,fF,fF,fF,fF,fF,fF,fF,fF,fF,fF,fF,fF] (by kernel_rfl) rfl rfl ⟨(blk_cell BK362.out 0).trans rfl, (blk_cell BK362.out 1).trans rfl, (blk_cell BK358.out 0).trans rfl, (blk_cell BK358.out 1).trans rfl, (blk_cell BK358.out 2).trans rfl, (blk_cell BK358.out 3).trans rfl⟩ (fun hHeld => ?_); refine with_tabW impl_ValidDrawing.tab6 impl_ValidDrawing.bits6 (fun HT_ HW_ => ?_)
          generalize w48.drew = w49 at BK358 BK362 HB hHeld ⊢
          refine pu 0 39 HT_ ?_
          refine pu 2 41 HT_ ?_
          refine tk 1 40 HT_ HW_ hHeld ?_
          refine tk 3 42 HT_ HW_ hHeld ?_
          refine on 4 43 HT_ (fun K hK => ?_)
          refine goes_ Tryd.func55 (by kernel_rfl) rfl #[.int .i64 ((rd_T40 l0_2 x34_2).f0), .int .i64 0, .int .i64 a0_0] (by rfl) rfl rfl (by (try simp only [List.map_toArray, List.map_cons, List.map_nil]); first | done | rfl | (simp only [List.length_drop, List.length_take]; rfl)) ?_
          with_reducible refine (impl_within.calls ((rd_T40 l0_2 x34_2).f0) 0 a0_0 false _ A18.out).mono ?_
          rintro e w' ⟨rfl, ⟨nd, rfl⟩⟩
          refine ⟨_, rfl, ?_⟩
          refine hK.out _ _ ⟨(blk_cell BK362.out 0).trans rfl, (blk_cell BK362.out 1).trans rfl, (blk_cell BK358.out 0).trans rfl, (blk_cell BK358.out 1).trans rfl, (blk_cell BK358.out 2).trans rfl, (blk_cell BK358.out 3).trans rfl⟩ (fun hHeld => ?_)
          clear hK K
          refine norm_ (a' := ?_) ?_ ?_
          rotate_left
          ·show Act.put _ (some 43) _ = _
           simp only [Act.put, List.setIfInBounds_toArray, List.set_cons_zero, List.set_cons_succ, i64_w, i32_w]
           rfl
          refine pu 5 44 HT_ ?_
          refine pu 6 45 HT_ ?_
          refine pd 7 46 HT_ ?_
          refine pd 8 47 HT_ ?_
          refine pd 9 48 HT_ ?_
          refine pd 10 49 HT_ ?_
          refine pd 11 50 HT_ ?_
          refine pd 12 51 HT_ ?_
          refine pu 13 52 HT_ ?_
          refine pu 14 53 HT_ ?_
          refine pd 15 54 HT_ ?_
          refine pd 16 55 HT_ ?_
          refine pd 17 56 HT_ ?_
          refine pd 18 57 HT_ ?_
          refine pd 19 58 HT_ ?_
          refine pd 20 59 HT_ ?_
          refine pu 21 60 HT_ ?_
          refine done_ (done_of HT_.out (by kernel_rfl)) ?_
          try go_wp2
          go_ret
          exact ⟨by first | rfl | (simp [errW_none, errW_some] <;> rfl) | (simp [*, errW_none, errW_some] <;> rfl), by repeat (first | (with_reducible first | exact HB.out | apply below_alloc | apply pw_below_drewN | apply below_drew1 | refine below_set ?_ GE358.out | refine below_set ?_ GE362.out) | exact HB.out)⟩
        ·first | (exfalso; have z_ := of_decide_eq_true c15b0; omega) | (rw [if_neg c17] at H; exact absurd H (by simp))
       ·rw [if_neg c16] at H
        exact absurd H (by simp)
      ·rw [if_neg c15] at H
       have c15b0 : decide (x34_2 < (l0_2.length : Int)) = false := decide_eq_false c15
       clear c15
       have H' := Aside0.mk H
       clear H
       have hcz50_0 : wr.cell? ⟨gb358, 0, none⟩ = some (.int .i64 a0_0) := (blk_cell BK358.out 0).trans rfl
       have hcz50_1 : wr.cell? ⟨gb358, 1, none⟩ = some (.int .i64 a0_1) := (blk_cell BK358.out 1).trans rfl
       have hcz50_2 : wr.cell? ⟨gb358, 2, none⟩ = some (.slice A0_2 l0_2.length c0_2) := (blk_cell BK358.out 2).trans rfl
       have hcz50_3 : wr.cell? ⟨gb358, 3, none⟩ = some (.slice A0_3 l0_3.length c0_3) := (blk_cell BK358.out 3).trans rfl
       have hfz50_0 := blk_frozen BK358.out 0
       have hfz50_1 := blk_frozen BK358.out 1
       have hfz50_2 := blk_frozen BK358.out 2
       have hfz50_3 := blk_frozen BK358.out 3
       go_wp2
       go_loopg [65] k2 (fun kq v65 w' => ∃ (x65_3 : Int), v65 = .int .i64 x65_3 ∧ Aside0 (impl_ValidDrawing.l1 kq l0_3 (l0_3.length : Int) x65_3 a0_0 a0_1 l0_2 l0_3 = some r) ∧ Aside0 (kq ≤ k2) ∧ Aside0 (w'.heap[gb358]? = some (.cells #[.int .i64 a0_0, .int .i64 a0_1, (.slice A0_2 l0_2.length c0_2), (.slice A0_3 l0_3.length c0_3)] 63 (0, 0))) ∧ Aside0 (Below w.heap.size w w'))
       case atStart => exact ⟨(0), (by first | rfl | (simp; done) | (simp [*]; done)), H', ⟨Nat.le_refl _⟩, ⟨by exact bk BK358⟩, ⟨by repeat (first | (with_reducible first | exact HB.out | apply below_alloc | apply pw_below_drewN | apply below_drew1 | refine below_set ?_ GE358.out) | exact HB.out)⟩⟩
       case round =>
        clear H'
        try clear c1
        try clear c2
        try clear p2
        try clear p3
        try clear q3
        try clear hx3
        try clear c4
        try clear c5
        try clear p6
        try clear c9
        try clear c15
        try clear c15b0
        try clear c16
        try clear c17
        try clear c19
        try clear c21
        try clear c23
        try clear p36
        try clear q36
        try clear hx36
        try clear q38
        try clear c41
        try clear c46
        try clear hcz42_0
        try clear hcz42_1
        try clear hcz47_0
        try clear hcz47_1
        try clear hcz50_0
        try clear hcz50_1
        try clear hcz50_2
        try clear hcz50_3
        try clear hfz42_0
        try clear hfz42_1
        try clear hfz47_0
        try clear hfz47_1
        try clear hfz50_0
        try clear hfz50_1
        try clear hfz50_2
        try clear hfz50_3
        try clear hx361_0
        try clear hx361_1
        try clear p361
        try clear q361
        try clear q38
        obtain ⟨x65_3, rfl, HA, HK3, BK358, HB⟩ := hrel
        cases gk with
        | zero => exact absurd HA.out (by simp [impl_ValidDrawing.l1])
        | succ k3 =>
         have H := HA.out
         clear HA
         simp only [impl_ValidDrawing.l1] at H
         by_cases c51 : x65_3 < (l0_3.length : Int)
         ·rw [if_pos c51] at H
          have c51b0 : decide (x65_3 < (l0_3.length : Int)) = true := decide_eq_true c51
          clear c51
          by_cases c52 : 0 ≤ x65_3
          ·rw [if_pos c52] at H
           have c52b0 : decide (0 ≤ x65_3) = true := decide_eq_true c52
           clear c52
           by_cases c53 : x65_3 < (l0_3.length : Int)
           ·rw [if_pos c53] at H
            have c53b0 : decide (x65_3 < (l0_3.length : Int)) = true := decide_eq_true c53
            clear c53
            have HC54 := Aside0.mk H
            clear H
            have p370 : 0 ≤ (x65_3 : Int) := da
            have q370 : x65_3 < (l0_3.length : Int) := da
            obtain ⟨ad370, A370_1, c370_1, e370, hx370_0, hx370_1, hl370_1, hi370_1⟩ := at_T85 HR0_3.out x65_3 p370 q370
            cases e370
            replace hx370_0 := (HB.out.cell (bL w _ hx370_0)).trans hx370_0
            replace hx370_1 := (HB.out.cell (bL w _ hx370_1)).trans hx370_1
            have HR370_1 := Aside0.mk hi370_1
            have HC370_1 := Aside0.mk hl370_1
            clear hi370_1 hl370_1
            replace p370 := eq_true p370
            replace q370 := eq_true q370
            go_upto_region 12 with (first | ((with_reducible refine gate_dst (N := 6) rfl ?_); (try (refine gate_guard (by rfl) ?_; dsimp only)); refine bx (cs := #[.string (⟨#[]⟩ : ByteArray), .slice none 0 0]) (t := 85) ?_; intro gb371 hg w55 hbox hb; have n0_ := kb BK358 hb; have n1_ := sb hb; have n2_ := Aside0.mk (hbox); have n3_ := zb hg; have n4_ := zb hg; have n5_ := nl BK358 hg; have n6_ := ng BK358 hg; clear BK358; clear HB; have BK358 := n0_; have HB := n1_; have BK371 := n2_; have GW371 := n3_; have GE371 := n4_; have NB358_371 := n5_; have NB371_358 := n6_; clear n0_ n1_ n2_ n3_ n4_ n5_ n6_; clear hb hbox hg; have hnb56 := NB371_358.out; have hnc56 := NB358_371.out; have hcz57_0 := ck BK371 0; have hcz57_1 := ck BK371 1; have hfz57_0 := blk_frozen BK371.out 0; have hfz57_1 := blk_frozen BK371.out 1))
            (try simp only [Act.put, List.setIfInBounds_toArray, List.set_cons_zero, List.set_cons_succ])
            go_cut [89] (fun v89 wc => ∃ (kq : Nat) (x89_53 : Bool), v89 = .bool x89_53 ∧ Aside0 (impl_ValidDrawing.j3 kq l0_3 (l0_3.length : Int) x65_3 x89_53 a0_0 a0_1 l0_2 l0_3 ((rd_T85 l0_3 x65_3).f0) ((rd_T85 l0_3 x65_3).f1) = some r) ∧ Aside0 (kq ≤ k3) ∧ Aside0 (wc.heap[gb358]? = some (.cells #[.int .i64 a0_0, .int .i64 a0_1, (.slice A0_2 l0_2.length c0_2), (.slice (some ad370) l0_3.length c0_3)] 63 (0, 0))) ∧ Aside0 (wc.heap[gb371]? = some (.cells #[.string ((rd_T85 l0_3 x65_3).f0), (.slice A370_1 ((rd_T85 l0_3 x65_3).f1).length c370_1)] 85 (0, 0))) ∧ Aside0 (Below w.heap.size w wc))
            case first =>
             have H := HC54.out
             clear HC54
             replace H := Option.bind_eq_some_iff.mp H
             obtain ⟨t372, A580, H⟩ := H
             replace H : (if t372 = true then (if x65_3 > 0 then (if 0 ≤ (wrap64 (x65_3 - 1)) then (if (wrap64 (x65_3 - 1)) < (l0_3.length : Int) then (impl_ValidDrawing.j3 k3 l0_3 (l0_3.length : Int) x65_3 (!(Op.bytesLess (((rd_T85 l0_3 (wrap64 (x65_3 - 1))).f0).toList) (((rd_T85 l0_3 x65_3).f0).toList))) a0_0 a0_1 l0_2 l0_3 ((rd_T85 l0_3 x65_3).f0) ((rd_T85 l0_3 x65_3).f1)) else (none)) else (none)) else (impl_ValidDrawing.j3 k3 l0_3 (l0_3.length : Int) x65_3 false a0_0 a0_1 l0_2 l0_3 ((rd_T85 l0_3 x65_3).f0) ((rd_T85 l0_3 x65_3).f1))) else (impl_ValidDrawing.j3 k3 l0_3 (l0_3.length : Int) x65_3 true a0_0 a0_1 l0_2 l0_3 ((rd_T85 l0_3 x65_3).f0) ((rd_T85 l0_3 x65_3).f1))) = some r := H
             have A58 := Aside0.mk A580
             clear A580
             by_cases c59 : t372 = true
             ·subst c59
              have H1 : (if x65_3 > 0 then (if 0 ≤ (wrap64 (x65_3 - 1)) then (if (wrap64 (x65_3 - 1)) < (l0_3.length : Int) then (impl_ValidDrawing.j3 k3 l0_3 (l0_3.length : Int) x65_3 (!(Op.bytesLess (((rd_T85 l0_3 (wrap64 (x65_3 - 1))).f0).toList) (((rd_T85 l0_3 x65_3).f0).toList))) a0_0 a0_1 l0_2 l0_3 ((rd_T85 l0_3 x65_3).f0) ((rd_T85 l0_3 x65_3).f1)) else (none)) else (none)) else (impl_ValidDrawing.j3 k3 l0_3 (l0_3.length : Int) x65_3 false a0_0 a0_1 l0_2 l0_3 ((rd_T85 l0_3 x65_3).f0) ((rd_T85 l0_3 x65_3).f1))) = some r := by rw [if_pos rfl] at H; exact H
              clear H
              have H := H1
              clear H1
              by_cases c60 : x65_3 > 0
              ·rw [if_pos c60] at H
               have c60b0 : decide (0 < x65_3) = true := decide_eq_true c60
               clear c60
               (first | rw [c60b0] | (simp only [i64_w, i32_w]; rw [c60b0]) | skip)
               obtain ⟨ji61, hji61⟩ : ∃ j_ : Int, (wrap64 (x65_3 - 1)) = j_ := ⟨_, rfl⟩
               replace H : (if 0 ≤ (ji61) then (if (ji61) < (l0_3.length : Int) then (impl_ValidDrawing.j3 k3 l0_3 (l0_3.length : Int) x65_3 (!(Op.bytesLess (((rd_T85 l0_3 (ji61)).f0).toList) (((rd_T85 l0_3 x65_3).f0).toList))) a0_0 a0_1 l0_2 l0_3 ((rd_T85 l0_3 x65_3).f0) ((rd_T85 l0_3 x65_3).f1)) else (none)) else (none)) = some r := by first | (rw [hji61] at H; exact H) | (simp only [hji61] at H ⊢; exact H)
               (try rw [hji61] at A58)
               have hji61w : (IntKind.i64.wrap (x65_3 - 1)) = ji61 := (i64_w _).trans hji61
               by_cases c62 : 0 ≤ (ji61)
               ·rw [if_pos c62] at H
                have c62b0 : decide (0 ≤ (ji61)) = true := decide_eq_true c62
                clear c62
                by_cases c63 : (ji61) < (l0_3.length : Int)
                ·rw [if_pos c63] at H
                 have c63b0 : decide ((ji61) < (l0_3.length : Int)) = true := decide_eq_true c63
                 clear c63
                 have H' := Aside0.mk H
                 clear H
                 try go_wp2
                 have n0_ : Aside0 (((w55.setCell ⟨gb371, 0, none⟩ (.string ((rd_T85 l0_3 x65_3).f0))).setCell ⟨gb371, 1, none⟩ (.slice A370_1 ((rd_T85 l0_3 x65_3).f1).length c370_1)).heap[gb358]? = some (.cells #[.int .i64 a0_0, .int .i64 a0_1, .slice A0_2 l0_2.length c0_2, .slice (some ad370) l0_3.length c0_3] 63 (0, 0))) := ⟨by refine bF NB358_371.out ?_; refine bF NB358_371.out ?_; exact bk BK358⟩
                 have n1_ : Aside0 (((w55.setCell ⟨gb371, 0, none⟩ (.string ((rd_T85 l0_3 x65_3).f0))).setCell ⟨gb371, 1, none⟩ (.slice A370_1 ((rd_T85 l0_3 x65_3).f1).length c370_1)).heap[gb371]? = some (.cells #[.string ((rd_T85 l0_3 x65_3).f0), .slice A370_1 ((rd_T85 l0_3 x65_3).f1).length c370_1] 85 (0, 0))) := ⟨by refine bP (cs := #[.string ((rd_T85 l0_3 x65_3).f0), .slice none 0 0]) 1 ?_; refine bP (cs := #[.string (⟨#[]⟩ : ByteArray), .slice none 0 0]) 0 ?_; exact bk BK371⟩
                 have n2_ : Aside0 (Below w.heap.size w ((w55.setCell ⟨gb371, 0, none⟩ (.string ((rd_T85 l0_3 x65_3).f0))).setCell ⟨gb371, 1, none⟩ (.slice A370_1 ((rd_T85 l0_3 x65_3).f1).length c370_1))) := ⟨by repeat (first | (with_reducible first | exact HB.out | apply below_alloc | apply pw_below_drewN | apply below_drew1 | refine below_set ?_ GE358.out | refine below_set ?_ GE371.out) | exact HB.out)⟩
                 (try clear BK358)
                 (try clear BK371)
                 (try clear HB)
                 generalize ((w55.setCell ⟨gb371, 0, none⟩ (.string ((rd_T85 l0_3 x65_3).f0))).setCell ⟨gb371, 1, none⟩ (.slice A370_1 ((rd_T85 l0_3 x65_3).f1).length c370_1)) = w64 at n0_ n1_ n2_ ⊢
                 have BK358 := n0_
                 have BK371 := n1_
                 have HB := n2_
                 clear n0_ n1_ n2_
                 have n0_ := Aside0.mk (blk_drew BK358.out)
                 have n1_ := Aside0.mk (blk_drew BK371.out)
                 have n2_ := Aside0.mk (below_drew1 HB.out)
                 clear BK358
                 clear BK371
                 clear HB
                 have BK358 := n0_
                 have BK371 := n1_
                 have HB := n2_
                 clear n0_ n1_ n2_
                 have p373 : 0 ≤ ((ji61) : Int) := da
                 have q373 : (ji61) < (l0_3.length : Int) := da
                 obtain ⟨ad373, A373_1, c373_1, e373, hx373_0, hx373_1, hl373_1, hi373_1⟩ := at_T85 HR0_3.out (ji61) p373 q373
                 have hw373_1 := hx373_1
                 have hw373_0 := hx373_0
                 obtain rfl : ad370 = ad373 := (by injection e373)
                 replace hx373_0 := (HB.out.cell (bL w _ hx373_0)).trans hx373_0
                 replace hx373_1 := (HB.out.cell (bL w _ hx373_1)).trans hx373_1
                 have HR373_1 := Aside0.mk hi373_1
                 have HC373_1 := Aside0.mk hl373_1
                 clear hi373_1 hl373_1
                 replace p373 := eq_true p373
                 replace q373 := eq_true q373
                 refine start_ (n := 20) (S := fun w' => w'.cell? ⟨gb371, 0, none⟩ = some (.string ((rd_T85 l0_3 x65_3).f0)) ∧ w'.cell? ⟨gb371, 1, none⟩ = some (.slice A370_1 ((rd_T85 l0_3 x65_3).f1).length c370_1) ∧ w'.cell? ⟨gb358, 0, none⟩ = some (.int .i64 a0_0) ∧ w'.cell? ⟨gb358, 1, none⟩ = some (.int .i64 a0_1) ∧ w'.cell? ⟨gb358, 2, none⟩ = some (.slice A0_2 l0_2.length c0_2) ∧ w'.cell? ⟨gb358, 3, none⟩ = some (.slice (some ad370) l0_3.length c0_3) ∧ w'.cell? (ad370.add (((ji61)).toNat * 2)) = some (.string ((rd_T85 l0_3 (ji61)).f0)) ∧ w'.cell? ⟨(ad370.add (((ji61)).toNat * 2)).block, (ad370.add (((ji61)).toNat * 2)).off + 1, none⟩ = some (.slice A373_1 ((rd_T85 l0_3 (ji61)).f1).length c373_1)) (ds := []) #[fF,fF,fF,fF,fF,fF,fF,fF,fF,fF,fF,fF,fF,fF,fF,fF,fF,fF,fF,fF] (by kernel_rfl) rfl rfl ⟨(blk_cell BK371.out 0).trans rfl, (blk_cell BK371.out 1).trans rfl, (blk_cell BK358.out 0).trans rfl, (blk_cell BK358.out 1).trans rfl, (blk_cell BK358.out 2).trans rfl, (blk_cell BK358.out 3).trans rfl, ((HB.out.cell (bL w _ hw373_0)).trans hw373_0), ((HB.out.cell (bL w _ hw373_1)).trans hw373_1)⟩ (fun hHeld => ?_); refine with_tabW impl_ValidDrawing.tab12 impl_ValidDrawing.bits12 (fun HT_ HW_ => ?_)
                 generalize w64.drew = w65 at BK358 BK371 HB HR373_1 hx373_0 hx373_1 hHeld ⊢
                 refine pu 0 70 HT_ ?_
                 refine tk 1 71 HT_ HW_ hHeld ?_
                 refine on 2 72 HT_ (fun K hK => ?_)
                 refine goes_ Tryd.func95 (by kernel_rfl) rfl #[.string ((rd_T85 l0_3 x65_3).f0)] (by rfl) rfl rfl (by (try simp only [List.map_toArray, List.map_cons, List.map_nil]); first | done | rfl | (simp only [List.length_drop, List.length_take]; rfl)) ?_
                 with_reducible refine (impl_IsName.calls k3 ((rd_T85 l0_3 x65_3).f0) true _ A58.out).mono ?_
                 rintro e w' ⟨rfl, ⟨nd, rfl⟩⟩
                 refine ⟨_, rfl, ?_⟩
                 refine hK.out _ _ ⟨(blk_cell BK371.out 0).trans rfl, (blk_cell BK371.out 1).trans rfl, (blk_cell BK358.out 0).trans rfl, (blk_cell BK358.out 1).trans rfl, (blk_cell BK358.out 2).trans rfl, (blk_cell BK358.out 3).trans rfl, ((HB.out.cell (bL w _ hw373_0)).trans hw373_0), ((HB.out.cell (bL w _ hw373_1)).trans hw373_1)⟩ (fun hHeld => ?_)
                 clear hK K
                 refine norm_ (a' := ?_) ?_ ?_
                 rotate_left
                 ·show Act.put _ (some 72) _ = _
                  simp only [Act.put, List.setIfInBounds_toArray, List.set_cons_zero, List.set_cons_succ, i64_w, i32_w]
                  rfl
                 refine pu 3 73 HT_ ?_
                 refine pu 4 74 HT_ ?_
                 refine pu 5 75 HT_ ?_
                 refine pu 6 76 HT_ ?_
                 refine pu 7 77 HT_ ?_
                 refine pu 8 78 HT_ ?_
                 refine pu 10 80 HT_ ?_
                 refine pu 11 81 HT_ ?_
                 refine pu 15 85 HT_ ?_
                 refine tk 9 79 HT_ HW_ hHeld ?_
                 refine pu 12 82 HT_ ?_
                 refine pu 13 83 HT_ ?_
                 refine tk 14 84 HT_ HW_ hHeld ?_
                 refine tk 16 86 HT_ HW_ hHeld ?_
                 refine pu 17 87 HT_ ?_
                 refine pu 18 88 HT_ ?_
                 refine pu 19 89 HT_ ?_
                 refine done_ (done_of HT_.out (by kernel_rfl)) ?_
                 try go_wp2
                 go_meet
                 case rel => exact ⟨_, (!(Op.bytesLess (((rd_T85 l0_3 (ji61)).f0).toList) (((rd_T85 l0_3 x65_3).f0).toList))), (by first | rfl | (simp; done) | (simp only [← hji61] <;> (first | rfl | simp)) | (simp [*]; done)), H', ⟨by have := HJ1.out; have := HK2.out; have := HK3.out; first | omega | exact Nat.le_refl _⟩, ⟨by exact bk BK358⟩, ⟨by exact bk BK371⟩, ⟨by repeat (first | (with_reducible first | exact HB.out | apply below_alloc | apply pw_below_drewN | apply below_drew1 | refine below_set ?_ GE358.out | refine below_set ?_ GE371.out) | exact HB.out)⟩⟩
                ·rw [if_neg c63] at H
                 exact absurd H (by simp)
               ·rw [if_neg c62] at H
                exact absurd H (by simp)
              ·rw [if_neg c60] at H
               have c60b0 : decide (0 < x65_3) = false := decide_eq_false c60
               clear c60
               (first | rw [c60b0] | (simp only [i64_w, i32_w]; rw [c60b0]) | skip)
               have H' := Aside0.mk H
               clear H
               try go_wp2
               have n0_ : Aside0 (((w55.setCell ⟨gb371, 0, none⟩ (.string ((rd_T85 l0_3 x65_3).f0))).setCell ⟨gb371, 1, none⟩ (.slice A370_1 ((rd_T85 l0_3 x65_3).f1).length c370_1)).heap[gb358]? = some (.cells #[.int .i64 a0_0, .int .i64 a0_1, .slice A0_2 l0_2.length c0_2, .slice (some ad370) l0_3.length c0_3] 63 (0, 0))) := ⟨by refine bF NB358_371.out ?_; refine bF NB358_371.out ?_; exact bk BK358⟩
               have n1_ : Aside0 (((w55.setCell ⟨gb371, 0, none⟩ (.string ((rd_T85 l0_3 x65_3).f0))).setCell ⟨gb371, 1, none⟩ (.slice A370_1 ((rd_T85 l0_3 x65_3).f1).length c370_1)).heap[gb371]? = some (.cells #[.string ((rd_T85 l0_3 x65_3).f0), .slice A370_1 ((rd_T85 l0_3 x65_3).f1).length c370_1] 85 (0, 0))) := ⟨by refine bP (cs := #[.string ((rd_T85 l0_3 x65_3).f0), .slice none 0 0]) 1 ?_; refine bP (cs := #[.string (⟨#[]⟩ : ByteArray), .slice none 0 0]) 0 ?_; exact bk BK371⟩
               have n2_ : Aside0 (Below w.heap.size w ((w55.setCell ⟨gb371, 0, none⟩ (.string ((rd_T85 l0_3 x65_3).f0))).setCell ⟨gb371, 1, none⟩ (.slice A370_1 ((rd_T85 l0_3 x65_3).f1).length c370_1))) := ⟨by repeat (first | (with_reducible first | exact HB.out | apply below_alloc | apply pw_below_drewN | apply below_drew1 | refine below_set ?_ GE358.out | refine below_set ?_ GE371.out) | exact HB.out)⟩
               (try clear BK358)
               (try clear BK371)
               (try clear HB)
               generalize ((w55.setCell ⟨gb371, 0, none⟩ (.string ((rd_T85 l0_3 x65_3).f0))).setCell ⟨gb371, 1, none⟩ (.slice A370_1 ((rd_T85 l0_3 x65_3).f1).length c370_1)) = w66 at n0_ n1_ n2_ ⊢
               have BK358 := n0_
               have BK371 := n1_
               have HB := n2_
               clear n0_ n1_ n2_
               have n0_ := Aside0.mk (blk_drew BK358.out)
               have n1_ := Aside0.mk (blk_drew BK371.out)
               have n2_ := Aside0.mk (below_drew1 HB.out)
               clear BK358
               clear BK371
               clear HB
               have BK358 := n0_
               have BK371 := n1_
               have HB := n2_
               clear n0_ n1_ n2_
               refine start_ (n := 20) (S := fun w' => w'.cell? ⟨gb371, 0, none⟩ = some (.string ((rd_T85 l0_3 x65_3).f0)) ∧ w'.cell? ⟨gb371, 1, none⟩ = some (.slice A370_1 ((rd_T85 l0_3 x65_3).f1).length c370_1)) (ds := []) #[fF,fF,fF,fF,fF,fF,fF,fF,fF,fF,fF,fF,fF,fF,fF,fF,fF,fF,fF,fF] (by kernel_rfl) rfl rfl ⟨(blk_cell BK371.out 0).trans rfl, (blk_cell BK371.out 1).trans rfl⟩ (fun hHeld => ?_); refine with_tabW impl_ValidDrawing.tab12 impl_ValidDrawing.bits12 (fun HT_ HW_ => ?_)
               generalize w66.drew = w67 at BK358 BK371 HB hHeld ⊢
               refine pu 0 70 HT_ ?_
               refine tk 1 71 HT_ HW_ hHeld ?_
               refine on 2 72 HT_ (fun K hK => ?_)
               refine goes_ Tryd.func95 (by kernel_rfl) rfl #[.string ((rd_T85 l0_3 x65_3).f0)] (by rfl) rfl rfl (by (try simp only [List.map_toArray, List.map_cons, List.map_nil]); first | done | rfl | (simp only [List.length_drop, List.length_take]; rfl)) ?_
               with_reducible refine (impl_IsName.calls k3 ((rd_T85 l0_3 x65_3).f0) true _ A58.out).mono ?_
               rintro e w' ⟨rfl, ⟨nd, rfl⟩⟩
               refine ⟨_, rfl, ?_⟩
               refine hK.out _ _ ⟨(blk_cell BK371.out 0).trans rfl, (blk_cell BK371.out 1).trans rfl⟩ (fun hHeld => ?_)
               clear hK K
               refine norm_ (a' := ?_) ?_ ?_
               rotate_left
               ·show Act.put _ (some 72) _ = _
                simp only [Act.put, List.setIfInBounds_toArray, List.set_cons_zero, List.set_cons_succ, i64_w, i32_w]
                rfl
               refine pu 3 73 HT_ ?_
               refine pu 4 74 HT_ ?_
               refine pu 5 75 HT_ ?_
               refine pu 6 76 HT_ ?_
               refine pu 7 77 HT_ ?_
               refine pd 8 78 HT_ ?_
               refine pd 9 79 HT_ ?_
               refine pd 10 80 HT_ ?_
               refine pd 11 81 HT_ ?_
               refine pd 12 82 HT_ ?_
               refine pd 13 83 HT_ ?_
               refine pd 14 84 HT_ ?_
               refine pd 15 85 HT_ ?_
               refine pd 16 86 HT_ ?_
               refine pd 17 87 HT_ ?_
               refine pu 18 88 HT_ ?_
               refine pu 19 89 HT_ ?_
               refine done_ (done_of HT_.out (by kernel_rfl)) ?_
               try go_wp2
               go_meet
               case rel => exact ⟨_, (false), (by first | rfl | (simp; done) | (simp [*]; done)), H', ⟨by have := HJ1.out; have := HK2.out; have := HK3.out; first | omega | exact Nat.le_refl _⟩, ⟨by exact bk BK358⟩, ⟨by exact bk BK371⟩, ⟨by repeat (first | (with_reducible first | exact HB.out | apply below_alloc | apply pw_below_drewN | apply below_drew1 | refine below_set ?_ GE358.out | refine below_set ?_ GE371.out) | exact HB.out)⟩⟩
             ·replace c59 := Bool.eq_false_iff.mpr c59
              subst c59
              have H1 : (impl_ValidDrawing.j3 k3 l0_3 (l0_3.length : Int) x65_3 true a0_0 a0_1 l0_2 l0_3 ((rd_T85 l0_3 x65_3).f0) ((rd_T85 l0_3 x65_3).f1)) = some r := by rw [if_neg (show ¬ (false = true) by decide)] at H; exact H
              clear H
              have H := H1
              clear H1
              have H' := Aside0.mk H
              clear H
              try go_wp2
              have n0_ : Aside0 (((w55.setCell ⟨gb371, 0, none⟩ (.string ((rd_T85 l0_3 x65_3).f0))).setCell ⟨gb371, 1, none⟩ (.slice A370_1 ((rd_T85 l0_3 x65_3).f1).length c370_1)).heap[gb358]? = some (.cells #[.int .i64 a0_0, .int .i64 a0_1, .slice A0_2 l0_2.length c0_2, .slice (some ad370) l0_3.length c0_3] 63 (0, 0))) := ⟨by refine bF NB358_371.out ?_; refine bF NB358_371.out ?_; exact bk BK358⟩
              have n1_ : Aside0 (((w55.setCell ⟨gb371, 0, none⟩ (.string ((rd_T85 l0_3 x65_3).f0))).setCell ⟨gb371, 1, none⟩ (.slice A370_1 ((rd_T85 l0_3 x65_3).f1).length c370_1)).heap[gb371]? = some (.cells #[.string ((rd_T85 l0_3 x65_3).f0), .slice A370_1 ((rd_T85 l0_3 x65_3).f1).length c370_1] 85 (0, 0))) := ⟨by refine bP (cs := #[.string ((rd_T85 l0_3 x65_3).f0), .slice none 0 0]) 1 ?_; refine bP (cs := #[.string (⟨#[]⟩ : ByteArray), .slice none 0 0]) 0 ?_; exact bk BK371⟩
              have n2_ : Aside0 (Below w.heap.size w ((w55.setCell ⟨gb371, 0, none⟩ (.string ((rd_T85 l0_3 x65_3).f0))).setCell ⟨gb371, 1, none⟩ (.slice A370_1 ((rd_T85 l0_3 x65_3).f1).length c370_1))) := ⟨by repeat (first | (with_reducible first | exact HB.out | apply below_alloc | apply pw_below_drewN | apply below_drew1 | refine below_set ?_ GE358.out | refine below_set ?_ GE371.out) | exact HB.out)⟩
              (try clear BK358)
              (try clear BK371)
              (try clear HB)
              generalize ((w55.setCell ⟨gb371, 0, none⟩ (.string ((rd_T85 l0_3 x65_3).f0))).setCell ⟨gb371, 1, none⟩ (.slice A370_1 ((rd_T85 l0_3 x65_3).f1).length c370_1)) = w68 at n0_ n1_ n2_ ⊢
              have BK358 := n0_
              have BK371 := n1_
              have HB := n2_
              clear n0_ n1_ n2_
              have n0_ := Aside0.mk (blk_drew BK358.out)
              have n1_ := Aside0.mk (blk_drew BK371.out)
              have n2_ := Aside0.mk (below_drew1 HB.out)
              clear BK358
              clear BK371
              clear HB
              have BK358 := n0_
              have BK371 := n1_
              have HB := n2_
              clear n0_ n1_ n2_
              refine start_ (n := 20) (S := fun w' => w'.cell? ⟨gb371, 0, none⟩ = some (.string ((rd_T85 l0_3 x65_3).f0)) ∧ w'.cell? ⟨gb371, 1, none⟩ = some (.slice A370_1 ((rd_T85 l0_3 x65_3).f1).length c370_1)) (ds := []) #[fF,fF,fF,fF,fF,fF,fF,fF,fF,fF,fF,fF,fF,fF,fF,fF,fF,fF,fF,fF] (by kernel_rfl) rfl rfl ⟨(blk_cell BK371.out 0).trans rfl, (blk_cell BK371.out 1).trans rfl⟩ (fun hHeld => ?_); refine with_tabW impl_ValidDrawing.tab12 impl_ValidDrawing.bits12 (fun HT_ HW_ => ?_)
              generalize w68.drew = w69 at BK358 BK371 HB hHeld ⊢
              refine pu 0 70 HT_ ?_
              refine tk 1 71 HT_ HW_ hHeld ?_
              refine on 2 72 HT_ (fun K hK => ?_)
              refine goes_ Tryd.func95 (by kernel_rfl) rfl #[.string ((rd_T85 l0_3 x65_3).f0)] (by rfl) rfl rfl (by (try simp only [List.map_toArray, List.map_cons, List.map_nil]); first | done | rfl | (simp only [List.length_drop, List.length_take]; rfl)) ?_
              with_reducible refine (impl_IsName.calls k3 ((rd_T85 l0_3 x65_3).f0) false _ A58.out).mono ?_
              rintro e w' ⟨rfl, ⟨nd, rfl⟩⟩
              refine ⟨_, rfl, ?_⟩
              refine hK.out _ _ ⟨(blk_cell BK371.out 0).trans rfl, (blk_cell BK371.out 1).trans rfl⟩ (fun hHeld => ?_)
              clear hK K
              refine norm_ (a' := ?_) ?_ ?_
              rotate_left
              ·show Act.put _ (some 72) _ = _
               simp only [Act.put, List.setIfInBounds_toArray, List.set_cons_zero, List.set_cons_succ, i64_w, i32_w]
               rfl
              refine pu 3 73 HT_ ?_
              refine pu 4 74 HT_ ?_
              refine pd 5 75 HT_ ?_
              refine pd 6 76 HT_ ?_
              refine pd 7 77 HT_ ?_
              refine pd 8 78 HT_ ?_
              refine pd 9 79 HT_ ?_
              refine pd 10 80 HT_ ?_
              refine pd 11 81 HT_ ?_
              refine pd 12 82 HT_ ?_
              refine pd 13 83 HT_ ?_
              refine pd 14 84 HT_ ?_
              refine pd 15 85 HT_ ?_
              refine pd 16 86 HT_ ?_
              refine pd 17 87 HT_ ?_
              refine pd 18 88 HT_ ?_
              refine pu 19 89 HT_ ?_
              refine done_ (done_of HT_.out (by kernel_rfl)) ?_
              try go_wp2
              go_meet
              case rel => exact ⟨_, (true), (by first | rfl | (simp; done) | (simp [*]; done)), H', ⟨by have := HJ1.out; have := HK2.out; have := HK3.out; first | omega | exact Nat.le_refl _⟩, ⟨by exact bk BK358⟩, ⟨by exact bk BK371⟩, ⟨by repeat (first | (with_reducible first | exact HB.out | apply below_alloc | apply pw_below_drewN | apply below_drew1 | refine below_set ?_ GE358.out | refine below_set ?_ GE371.out) | exact HB.out)⟩⟩
            case rest =>
             clear HC54
             try clear p2
             try clear c3
             try clear p3
             try clear q3
             try clear hx3
             try clear c5
             try clear c6
             try clear p6
             try clear c9
             try clear p36
             try clear q36
             try clear hx36
             try clear c37
             try clear p37
             try clear q37
             try clear hx37
             try clear q38
             try clear c51
             try clear c51b0
             try clear c52
             try clear c52b0
             try clear c53
             try clear c53b0
             try clear c56
             try clear c59
             try clear c60
             try clear c60b0
             try clear c62
             try clear c62b0
             try clear c63
             try clear c63b0
             try clear p64
             try clear hcz47_0
             try clear hcz47_1
             try clear hcz50_0
             try clear hcz50_1
             try clear hcz50_2
             try clear hcz50_3
             try clear hcz57_0
             try clear hcz57_1
             try clear hfz42_0
             try clear hfz42_1
             try clear hfz47_0
             try clear hfz47_1
             try clear hfz50_0
             try clear hfz50_1
             try clear hfz50_2
             try clear hfz50_3
             try clear hfz57_0
             try clear hfz57_1
             try clear hx361_0
             try clear hx361_1
             try clear hx370_0
             try clear hx370_1
             try clear hx373_0
             try clear hx373_1
             try clear p361
             try clear p370
             try clear p373
             try clear q361
             try clear q370
             try clear q373
             try clear q38
             obtain ⟨kq, x89_53, rfl, HA, HJ53, BK358, BK371, HB⟩ := hcut
             cases kq with
             | zero => exact absurd HA.out (by simp [impl_ValidDrawing.j3])
             | succ kj53 =>
              have H := HA.out
              clear HA
              simp only [impl_ValidDrawing.j3] at H
              by_cases c70 : x89_53 = true
              ·subst c70
               have H1 : (some false) = some r := by rw [if_pos rfl] at H; exact H
               clear H
               have H := H1
               clear H1
               obtain rfl := Option.some.inj H
               go_wp2
               go_ret
               exact ⟨by first | rfl | (simp [errW_none, errW_some] <;> rfl) | (simp [*, errW_none, errW_some] <;> rfl), by repeat (first | (with_reducible first | exact HB.out | apply below_alloc | apply pw_below_drewN | apply below_drew1 | refine below_set ?_ GE358.out | refine below_set ?_ GE371.out) | exact HB.out)⟩
              ·replace c70 := Bool.eq_false_iff.mpr c70
               subst c70
               have H1 : ((impl_ringPolygon.f kj53 l0_2 ((rd_T85 l0_3 x65_3).f1)).bind fun bt374 => (if bt374.2 = true then ((impl_ValidPolygon.f kj53 bt374.1).bind fun t378 => (if t378 = true then (impl_ValidDrawing.l1 kj53 l0_3 (l0_3.length : Int) (wrap64 (x65_3 + 1)) a0_0 a0_1 l0_2 l0_3) else (some false))) else (some false))) = some r := by rw [if_neg (show ¬ (false = true) by decide)] at H; exact H
               clear H
               have H := H1
               clear H1
               replace H := Option.bind_eq_some_iff.mp H
               obtain ⟨⟨t374, t375⟩, A710, H⟩ := H
               replace H : (if t375 = true then ((impl_ValidPolygon.f kj53 t374).bind fun t378 => (if t378 = true then (impl_ValidDrawing.l1 kj53 l0_3 (l0_3.length : Int) (wrap64 (x65_3 + 1)) a0_0 a0_1 l0_2 l0_3) else (some false))) else (some false)) = some r := H
               have A71 := Aside0.mk A710
               clear A710
               by_cases c72 : t375 = true
               ·subst c72
                have H1 : ((impl_ValidPolygon.f kj53 t374).bind fun t378 => (if t378 = true then (impl_ValidDrawing.l1 kj53 l0_3 (l0_3.length : Int) (wrap64 (x65_3 + 1)) a0_0 a0_1 l0_2 l0_3) else (some false))) = some r := by rw [if_pos rfl] at H; exact H
                clear H
                have H := H1
                clear H1
                replace H := Option.bind_eq_some_iff.mp H
                obtain ⟨t378, A730, H⟩ := H
                replace H : (if t378 = true then (impl_ValidDrawing.l1 kj53 l0_3 (l0_3.length : Int) (wrap64 (x65_3 + 1)) a0_0 a0_1 l0_2 l0_3) else (some false)) = some r := H
                have A73 := Aside0.mk A730
                clear A730
                by_cases c74 : t378 = true
                ·subst c74
                 have H1 : (impl_ValidDrawing.l1 kj53 l0_3 (l0_3.length : Int) (wrap64 (x65_3 + 1)) a0_0 a0_1 l0_2 l0_3) = some r := by rw [if_pos rfl] at H; exact H
                 clear H
                 have H := H1
                 clear H1
                 have H' := Aside0.mk H
                 clear H
                 have hnb75 := NB358_371.out
                 have hnc75 := NB371_358.out
                 have hcz76_0 : wc.cell? ⟨gb358, 0, none⟩ = some (.int .i64 a0_0) := (blk_cell BK358.out 0).trans rfl
                 have hcz76_1 : wc.cell? ⟨gb358, 1, none⟩ = some (.int .i64 a0_1) := (blk_cell BK358.out 1).trans rfl
                 have hcz76_2 : wc.cell? ⟨gb358, 2, none⟩ = some (.slice A0_2 l0_2.length c0_2) := (blk_cell BK358.out 2).trans rfl
                 have hcz76_3 : wc.cell? ⟨gb358, 3, none⟩ = some (.slice (some ad370) l0_3.length c0_3) := (blk_cell BK358.out 3).trans rfl
                 have hfz76_0 := blk_frozen BK358.out 0
                 have hfz76_1 := blk_frozen BK358.out 1
                 have hfz76_2 := blk_frozen BK358.out 2
                 have hfz76_3 := blk_frozen BK358.out 3
                 have hcz77_0 : wc.cell? ⟨gb371, 0, none⟩ = some (.string ((rd_T85 l0_3 x65_3).f0)) := (blk_cell BK371.out 0).trans rfl
                 have hcz77_1 : wc.cell? ⟨gb371, 1, none⟩ = some (.slice A370_1 ((rd_T85 l0_3 x65_3).f1).length c370_1) := (blk_cell BK371.out 1).trans rfl
                 have hfz77_0 := blk_frozen BK371.out 0
                 have hfz77_1 := blk_frozen BK371.out 1
                 go_wp2_with (first | ((with_reducible refine gate_callee (f := 96) rfl ?_); refine goesL_ (some 95) rfl rfl Tryd.func96 (by kernel_rfl) rfl #[.slice A0_2 l0_2.length c0_2, .slice A370_1 ((rd_T85 l0_3 x65_3).f1).length c370_1] rfl (by (try simp only [List.map_toArray, List.map_cons, List.map_nil]); first | done | rfl | (simp only [List.length_drop, List.length_take]; rfl)) ?_; (with_reducible refine (impl_ringPolygon.calls kj53 _ _ l0_2 _ _ ((rd_T85 l0_3 x65_3).f1) t374 true _ ?side1 ?side2 ?side3 ?side4 A71.out).mono ?_); (case side1 => repeat (first | exact (Kd.C_below HR0_2.out HB.out) | (with_reducible refine Kd.C_alloc ?_ _) | (with_reducible refine Kd.C_drewN ?_ _) | (with_reducible refine Kd.C_drew ?_))); (case side2 => exact HC0_2.out); (case side3 => repeat (first | exact (Kd.C_below HR370_1.out HB.out) | (with_reducible refine Kd.C_alloc ?_ _) | (with_reducible refine Kd.C_drewN ?_ _) | (with_reducible refine Kd.C_drew ?_))); (case side4 => exact HC370_1.out); rintro e w78 ⟨v376, rfl, ho0, hb⟩; refine ⟨_, rfl, ?_⟩; have n0_ := Aside0.mk (Kd.R_lower ho0 (below_size ib)); have n1_ := kb BK358 hb; have n2_ := kb BK371 hb; have n3_ := sb hb; clear BK358; clear BK371; clear HB; have HO377 := n0_; have BK358 := n1_; have BK371 := n2_; have HB := n3_; clear n0_ n1_ n2_ n3_; (try clear hb); (try clear hb2); (try clear hk); (try clear hi); (try clear ho0); obtain ⟨Ao79, co79, eo79⟩ := Kd.R_slice HO377.out; subst eo79) | (go_at_call 65; (with_reducible refine (impl_ValidPolygon.calls kj53 _ _ t374 true _ ?side1 ?side2 A73.out).mono ?_); (case side1 => repeat (first | exact (Kd.R_reads' HO377.out).2.2 | (with_reducible refine Kd.C_alloc ?_ _) | (with_reducible refine Kd.C_drewN ?_ _) | (with_reducible refine Kd.C_drew ?_))); (case side2 => exact (Kd.R_reads' HO377.out).2.1); rintro e w80 ⟨rfl, hb⟩; have n0_ := Aside0.mk (Kd.R_below (by (with_reducible repeat (first | apply Kd.R_alloc | apply Kd.R_drewN | apply Kd.R_drew)); exact HO377.out) hb); have n1_ := kb BK358 hb; have n2_ := kb BK371 hb; have n3_ := sb hb; clear HO377; clear BK358; clear BK371; clear HB; have HO377 := n0_; have BK358 := n1_; have BK371 := n2_; have HB := n3_; clear n0_ n1_ n2_ n3_; (try clear hb); (try clear hb2); (try clear hk); (try clear hi)))
                 go_roundg kj53
                 case measure => have := HJ1.out; have := HK2.out; have := HK3.out; have := HJ53.out; omega
                 case rel => exact ⟨(wrap64 (x65_3 + 1)), (by first | rfl | (simp; done) | (simp [*]; done)), H', ⟨by have := HJ1.out; have := HK2.out; have := HK3.out; have := HJ53.out; omega⟩, ⟨by exact bk BK358⟩, ⟨by repeat (first | (with_reducible first | exact HB.out | apply below_alloc | apply pw_below_drewN | apply below_drew1 | refine below_set ?_ GE358.out | refine below_set ?_ GE371.out) | exact HB.out)⟩⟩
                ·replace c74 := Bool.eq_false_iff.mpr c74
                 subst c74
                 have H1 : (some false) = some r := by rw [if_neg (show ¬ (false = true) by decide)] at H; exact H
                 clear H
                 have H := H1
                 clear H1
                 obtain rfl := Option.some.inj H
                 have hnb81 := NB358_371.out
                 have hnc81 := NB371_358.out
                 have hcz82_0 : wc.cell? ⟨gb358, 0, none⟩ = some (.int .i64 a0_0) := (blk_cell BK358.out 0).trans rfl
                 have hcz82_1 : wc.cell? ⟨gb358, 1, none⟩ = some (.int .i64 a0_1) := (blk_cell BK358.out 1).trans rfl
                 have hcz82_2 : wc.cell? ⟨gb358, 2, none⟩ = some (.slice A0_2 l0_2.length c0_2) := (blk_cell BK358.out 2).trans rfl
                 have hcz82_3 : wc.cell? ⟨gb358, 3, none⟩ = some (.slice (some ad370) l0_3.length c0_3) := (blk_cell BK358.out 3).trans rfl
                 have hfz82_0 := blk_frozen BK358.out 0
                 have hfz82_1 := blk_frozen BK358.out 1
                 have hfz82_2 := blk_frozen BK358.out 2
                 have hfz82_3 := blk_frozen BK358.out 3
                 have hcz83_0 : wc.cell? ⟨gb371, 0, none⟩ = some (.string ((rd_T85 l0_3 x65_3).f0)) := (blk_cell BK371.out 0).trans rfl
                 have hcz83_1 : wc.cell? ⟨gb371, 1, none⟩ = some (.slice A370_1 ((rd_T85 l0_3 x65_3).f1).length c370_1) := (blk_cell BK371.out 1).trans rfl
                 have hfz83_0 := blk_frozen BK371.out 0
                 have hfz83_1 := blk_frozen BK371.out 1
                 go_wp2_with (first | ((with_reducible refine gate_callee (f := 96) rfl ?_); refine goesL_ (some 95) rfl rfl Tryd.func96 (by kernel_rfl) rfl #[.slice A0_2 l0_2.length c0_2, .slice A370_1 ((rd_T85 l0_3 x65_3).f1).length c370_1] rfl (by (try simp only [List.map_toArray, List.map_cons, List.map_nil]); first | done | rfl | (simp only [List.length_drop, List.length_take]; rfl)) ?_; (with_reducible refine (impl_ringPolygon.calls kj53 _ _ l0_2 _ _ ((rd_T85 l0_3 x65_3).f1) t374 true _ ?side1 ?side2 ?side3 ?side4 A71.out).mono ?_); (case side1 => repeat (first | exact (Kd.C_below HR0_2.out HB.out) | (with_reducible refine Kd.C_alloc ?_ _) | (with_reducible refine Kd.C_drewN ?_ _) | (with_reducible refine Kd.C_drew ?_))); (case side2 => exact HC0_2.out); (case side3 => repeat (first | exact (Kd.C_below HR370_1.out HB.out) | (with_reducible refine Kd.C_alloc ?_ _) | (with_reducible refine Kd.C_drewN ?_ _) | (with_reducible refine Kd.C_drew ?_))); (case side4 => exact HC370_1.out); rintro e w84 ⟨v376, rfl, ho0, hb⟩; refine ⟨_, rfl, ?_⟩; have n0_ := Aside0.mk (Kd.R_lower ho0 (below_size ib)); have n1_ := kb BK358 hb; have n2_ := kb BK371 hb; have n3_ := sb hb; clear BK358; clear BK371; clear HB; have HO377 := n0_; have BK358 := n1_; have BK371 := n2_; have HB := n3_; clear n0_ n1_ n2_ n3_; (try clear hb); (try clear hb2); (try clear hk); (try clear hi); (try clear ho0); obtain ⟨Ao85, co85, eo85⟩ := Kd.R_slice HO377.out; subst eo85) | (go_at_call 65; (with_reducible refine (impl_ValidPolygon.calls kj53 _ _ t374 false _ ?side1 ?side2 A73.out).mono ?_); (case side1 => repeat (first | exact (Kd.R_reads' HO377.out).2.2 | (with_reducible refine Kd.C_alloc ?_ _) | (with_reducible refine Kd.C_drewN ?_ _) | (with_reducible refine Kd.C_drew ?_))); (case side2 => exact (Kd.R_reads' HO377.out).2.1); rintro e w86 ⟨rfl, hb⟩; have n0_ := Aside0.mk (Kd.R_below (by (with_reducible repeat (first | apply Kd.R_alloc | apply Kd.R_drewN | apply Kd.R_drew)); exact HO377.out) hb); have n1_ := kb BK358 hb; have n2_ := kb BK371 hb; have n3_ := sb hb; clear HO377; clear BK358; clear BK371; clear HB; have HO377 := n0_; have BK358 := n1_; have BK371 := n2_; have HB := n3_; clear n0_ n1_ n2_ n3_; (try clear hb); (try clear hb2); (try clear hk); (try clear hi)))
                 go_ret
                 exact ⟨by first | rfl | (simp [errW_none, errW_some] <;> rfl) | (simp [*, errW_none, errW_some] <;> rfl), by repeat (first | (with_reducible first | exact HB.out | apply below_alloc | apply pw_below_drewN | apply below_drew1 | refine below_set ?_ GE358.out | refine below_set ?_ GE371.out) | exact HB.out)⟩
               ·replace c72 := Bool.eq_false_iff.mpr c72
                subst c72
                have H1 : (some false) = some r := by rw [if_neg (show ¬ (false = true) by decide)] at H; exact H
                clear H
                have H := H1
                clear H1
                obtain rfl := Option.some.inj H
                have hnb87 := NB358_371.out
                have hnc87 := NB371_358.out
                have hcz88_0 : wc.cell? ⟨gb358, 0, none⟩ = some (.int .i64 a0_0) := (blk_cell BK358.out 0).trans rfl
                have hcz88_1 : wc.cell? ⟨gb358, 1, none⟩ = some (.int .i64 a0_1) := (blk_cell BK358.out 1).trans rfl
                have hcz88_2 : wc.cell? ⟨gb358, 2, none⟩ = some (.slice A0_2 l0_2.length c0_2) := (blk_cell BK358.out 2).trans rfl
                have hcz88_3 : wc.cell? ⟨gb358, 3, none⟩ = some (.slice (some ad370) l0_3.length c0_3) := (blk_cell BK358.out 3).trans rfl
                have hfz88_0 := blk_frozen BK358.out 0
                have hfz88_1 := blk_frozen BK358.out 1
                have hfz88_2 := blk_frozen BK358.out 2
                have hfz88_3 := blk_frozen BK358.out 3
                have hcz89_0 : wc.cell? ⟨gb371, 0, none⟩ = some (.string ((rd_T85 l0_3 x65_3).f0)) := (blk_cell BK371.out 0).trans rfl
                have hcz89_1 : wc.cell? ⟨gb371, 1, none⟩ = some (.slice A370_1 ((rd_T85 l0_3 x65_3).f1).length c370_1) := (blk_cell BK371.out 1).trans rfl
                have hfz89_0 := blk_frozen BK371.out 0
                have hfz89_1 := blk_frozen BK371.out 1
                go_wp2_with (first | ((with_reducible refine gate_callee (f := 96) rfl ?_); refine goesL_ (some 95) rfl rfl Tryd.func96 (by kernel_rfl) rfl #[.slice A0_2 l0_2.length c0_2, .slice A370_1 ((rd_T85 l0_3 x65_3).f1).length c370_1] rfl (by (try simp only [List.map_toArray, List.map_cons, List.map_nil]); first | done | rfl | (simp only [List.length_drop, List.length_take]; rfl)) ?_; (with_reducible refine (impl_ringPolygon.calls kj53 _ _ l0_2 _ _ ((rd_T85 l0_3 x65_3).f1) t374 false _ ?side1 ?side2 ?side3 ?side4 A71.out).mono ?_); (case side1 => repeat (first | exact (Kd.C_below HR0_2.out HB.out) | (with_reducible refine Kd.C_alloc ?_ _) | (with_reducible refine Kd.C_drewN ?_ _) | (with_reducible refine Kd.C_drew ?_))); (case side2 => exact HC0_2.out); (case side3 => repeat (first | exact (Kd.C_below HR370_1.out HB.out) | (with_reducible refine Kd.C_alloc ?_ _) | (with_reducible refine Kd.C_drewN ?_ _) | (with_reducible refine Kd.C_drew ?_))); (case side4 => exact HC370_1.out); rintro e w90 ⟨v376, rfl, ho0, hb⟩; refine ⟨_, rfl, ?_⟩; have n0_ := Aside0.mk (Kd.R_lower ho0 (below_size ib)); have n1_ := kb BK358 hb; have n2_ := kb BK371 hb; have n3_ := sb hb; clear BK358; clear BK371; clear HB; have HO377 := n0_; have BK358 := n1_; have BK371 := n2_; have HB := n3_; clear n0_ n1_ n2_ n3_; (try clear hb); (try clear hb2); (try clear hk); (try clear hi); (try clear ho0)))
                go_ret
                exact ⟨by first | rfl | (simp [errW_none, errW_some] <;> rfl) | (simp [*, errW_none, errW_some] <;> rfl), by repeat (first | (with_reducible first | exact HB.out | apply below_alloc | apply pw_below_drewN | apply below_drew1 | refine below_set ?_ GE358.out | refine below_set ?_ GE371.out) | exact HB.out)⟩
           ·first | (exfalso; have z_ := of_decide_eq_true c51b0; omega) | (rw [if_neg c53] at H; exact absurd H (by simp))
          ·rw [if_neg c52] at H
           exact absurd H (by simp)
         ·rw [if_neg c51] at H
          have c51b0 : decide (x65_3 < (l0_3.length : Int)) = false := decide_eq_false c51
          clear c51
          obtain rfl := Option.some.inj H
          go_wp2
          go_ret
          exact ⟨by first | rfl | (simp [errW_none, errW_some] <;> rfl) | (simp [*, errW_none, errW_some] <;> rfl), by repeat (first | (with_reducible first | exact HB.out | apply below_alloc | apply pw_below_drewN | apply below_drew1 | refine below_set ?_ GE358.out) | exact HB.out)⟩
end Go.Proofs.YtdegladckdnhiaaDoor.PFnExactDrawingText
