/- Contracts of functions that FnExactDiagonalsOf reaches, out of the lines of the kit's print. -/
import Derived.Test.YtnnchaggdnlfmaaQFnExactDiagonalsOfx0
import Derived.Test.YtnnchaggdnlfmaaQFnExactDiagonalsOfx7
import Derived.Test.YtnnchaggdnlfmaaQFnExactDiagonalsOfx8
import Derived.Test.YtnnchaggdnlfmaaQFnExactDiagonalsOfx10
namespace Go.Proofs.Ytnnchaggdnlfmaa.PFnExactDiagonalsOf
open Go.RowKit Go.Proofs.YtnnchaggdnlfmaaW.PrintWords Go.Proofs.YtnnchaggdnlfmaaW.PrintLast Go.Proofs.YtnnchaggdnlfmaaW.PrintMore
open Bool renaming true → tT, false → fF
open Go.World renaming block_lt_of_cell? → bL
attribute [local go_sem] max2_int min2_int max_two min_two max_three min_three max_four min_four
set_option linter.unusedVariables false
set_option linter.unusedSimpArgs false
mutual
def impl_diagonal.j0 : Nat → List (S73) → Int → Int → Int → Bool → Option (Bool)
 | 0, _, _, _, _, _ => none
 | k + 1, x0, x1, x2, x7, x35 => if x35 = true then (some false) else (if 0 ≤ x1 then (if x1 < (x0.length : Int) then (if 0 ≤ x2 then (if x2 < (x0.length : Int) then (impl_diagonal.l0 k x0 x1 x2 x7 x7 0 ((rd_T73 x0 x1).f0) ((rd_T73 x0 x1).f1) ((rd_T73 x0 x2).f0) ((rd_T73 x0 x2).f1)) else (none)) else (none)) else (none)) else (none))
def impl_diagonal.l0 : Nat → List (S73) → Int → Int → Int → Int → Int → Int → Int → Int → Int → Option (Bool)
 | 0, _, _, _, _, _, _, _, _, _, _ => none
 | k + 1, x0, x1, x2, x7, x44, x45, x259000, x259001, x260000, x260001 => if x45 < x44 then (if x7 = 0 then (none) else (if x45 = x1 then (impl_diagonal.j2 k x0 x1 x2 x7 x45 (Int.tmod (wrap64 (x45 + 1)) x7) x44 x45 false x259000 x259001 x260000 x260001) else (if x45 = x2 then (impl_diagonal.j2 k x0 x1 x2 x7 x45 (Int.tmod (wrap64 (x45 + 1)) x7) x44 x45 false x259000 x259001 x260000 x260001) else (if 0 ≤ x45 then (if x45 < (x0.length : Int) then ((impl_on.f x259000 x259001 x260000 x260001 ((rd_T73 x0 x45).f0) ((rd_T73 x0 x45).f1)).bind fun t261 => (impl_diagonal.j2 k x0 x1 x2 x7 x45 (Int.tmod (wrap64 (x45 + 1)) x7) x44 x45 t261 x259000 x259001 x260000 x260001)) else (none)) else (none))))) else (impl_diagonal.l1 k (([] : List (S73))) x0 (x0.length : Int) 0 x259000 x259001 x260000 x260001)
def impl_diagonal.j2 : Nat → List (S73) → Int → Int → Int → Int → Int → Int → Int → Bool → Int → Int → Int → Int → Option (Bool)
 | 0, _, _, _, _, _, _, _, _, _, _, _, _, _ => none
 | k + 1, x0, x1, x2, x7, x10, x11, x44, x45, x68, x259000, x259001, x260000, x260001 => if x68 = true then (some false) else (if x10 = x1 then (impl_diagonal.l0 k x0 x1 x2 x7 x44 (wrap64 (x45 + 1)) x259000 x259001 x260000 x260001) else (if x10 = x2 then (impl_diagonal.l0 k x0 x1 x2 x7 x44 (wrap64 (x45 + 1)) x259000 x259001 x260000 x260001) else (if x11 = x1 then (impl_diagonal.l0 k x0 x1 x2 x7 x44 (wrap64 (x45 + 1)) x259000 x259001 x260000 x260001) else (if x11 = x2 then (impl_diagonal.l0 k x0 x1 x2 x7 x44 (wrap64 (x45 + 1)) x259000 x259001 x260000 x260001) else (if 0 ≤ x10 then (if x10 < (x0.length : Int) then (if 0 ≤ x11 then (if x11 < (x0.length : Int) then ((impl_touching.f x259000 x259001 x260000 x260001 ((rd_T73 x0 x10).f0) ((rd_T73 x0 x10).f1) ((rd_T73 x0 x11).f0) ((rd_T73 x0 x11).f1)).bind fun t264 => (if t264 = true then (some false) else (impl_diagonal.l0 k x0 x1 x2 x7 x44 (wrap64 (x45 + 1)) x259000 x259001 x260000 x260001))) else (none)) else (none)) else (none)) else (none))))))
def impl_diagonal.l1 : Nat → List (S73) → List (S73) → Int → Int → Int → Int → Int → Int → Option (Bool)
 | 0, _, _, _, _, _, _, _, _ => none
 | k + 1, x12, x102, x103, x104, x259000, x259001, x260000, x260001 => if x104 < x103 then (if 0 ≤ x104 then (if x104 < (x102.length : Int) then (if x12.length < 8796093022208 then (impl_diagonal.l1 k (x12 ++ [(⟨wrap64 (2 * ((rd_T73 x102 x104).f0)), wrap64 (2 * ((rd_T73 x102 x104).f1))⟩ : S73)]) x102 x103 (wrap64 (x104 + 1)) x259000 x259001 x260000 x260001) else (none)) else (none)) else (none)) else ((impl_inside.f k x12 (wrap64 (x259000 + x260000)) (wrap64 (x259001 + x260001))).bind fun t273 => (some (decide (t273 > 0))))
end
def impl_diagonal.f (k : Nat) (l0 : List (S73)) (a1 : Int) (a2 : Int) : Option (Bool) := if a1 = a2 then (impl_diagonal.j0 k l0 a1 a2 (l0.length : Int) true) else (if (l0.length : Int) = 0 then (none) else (if (Int.tmod (wrap64 (a1 + 1)) (l0.length : Int)) = a2 then (impl_diagonal.j0 k l0 a1 a2 (l0.length : Int) true) else (impl_diagonal.j0 k l0 a1 a2 (l0.length : Int) ((Int.tmod (wrap64 (a2 + 1)) (l0.length : Int)) == a1))))
theorem impl_diagonal.mono_l : ∀ k, (∀ y0 y1 y2 y3 y4, LeO (impl_diagonal.j0 k y0 y1 y2 y3 y4) (impl_diagonal.j0 (k + 1) y0 y1 y2 y3 y4)) ∧ (∀ y0 y1 y2 y3 y4 y5 y6 y7 y8 y9, LeO (impl_diagonal.l0 k y0 y1 y2 y3 y4 y5 y6 y7 y8 y9) (impl_diagonal.l0 (k + 1) y0 y1 y2 y3 y4 y5 y6 y7 y8 y9)) ∧ (∀ y0 y1 y2 y3 y4 y5 y6 y7 y8 y9 y10 y11 y12, LeO (impl_diagonal.j2 k y0 y1 y2 y3 y4 y5 y6 y7 y8 y9 y10 y11 y12) (impl_diagonal.j2 (k + 1) y0 y1 y2 y3 y4 y5 y6 y7 y8 y9 y10 y11 y12)) ∧ (∀ y0 y1 y2 y3 y4 y5 y6 y7, LeO (impl_diagonal.l1 k y0 y1 y2 y3 y4 y5 y6 y7) (impl_diagonal.l1 (k + 1) y0 y1 y2 y3 y4 y5 y6 y7))
 | 0 => ⟨fun _ _ _ _ _ r h => by simp [impl_diagonal.j0] at h, fun _ _ _ _ _ _ _ _ _ _ r h => by simp [impl_diagonal.l0] at h, fun _ _ _ _ _ _ _ _ _ _ _ _ _ r h => by simp [impl_diagonal.j2] at h, fun _ _ _ _ _ _ _ _ r h => by simp [impl_diagonal.l1] at h⟩
 | k + 1 => by
  obtain ⟨ih0, ih1, ih2, ih3⟩ := impl_diagonal.mono_l k
  refine ⟨?_, ?_, ?_, ?_⟩
  ·intro y0 y1 y2 y3 y4
   unfold impl_diagonal.j0
   repeat' first
   | (with_reducible exact ih0 _ _ _ _ _)
   | (with_reducible exact ih1 _ _ _ _ _ _ _ _ _ _)
   | (with_reducible exact ih2 _ _ _ _ _ _ _ _ _ _ _ _ _)
   | (with_reducible exact ih3 _ _ _ _ _ _ _ _)
   | (with_reducible exact impl_inside.mono _ _ _ _)
   | (with_reducible exact LeO.refl _)
   | (with_reducible exact LeO.none _)
   | (with_reducible refine LeO.ite ?_ ?_)
   | (with_reducible refine LeO.bind ?_ (fun _ => ?_))
   | exact ih0 _ _ _ _ _
   | exact ih1 _ _ _ _ _ _ _ _ _ _
   | exact ih2 _ _ _ _ _ _ _ _ _ _ _ _ _
   | exact ih3 _ _ _ _ _ _ _ _
   | exact impl_inside.mono _ _ _ _
   | exact LeO.none _
   | refine LeO.ite ?_ ?_
   | refine LeO.bind ?_ (fun _ => ?_)
  ·intro y0 y1 y2 y3 y4 y5 y6 y7 y8 y9
   unfold impl_diagonal.l0
   repeat' first
   | (with_reducible exact ih0 _ _ _ _ _)
   | (with_reducible exact ih1 _ _ _ _ _ _ _ _ _ _)
   | (with_reducible exact ih2 _ _ _ _ _ _ _ _ _ _ _ _ _)
   | (with_reducible exact ih3 _ _ _ _ _ _ _ _)
   | (with_reducible exact impl_inside.mono _ _ _ _)
   | (with_reducible exact LeO.refl _)
   | (with_reducible exact LeO.none _)
   | (with_reducible refine LeO.ite ?_ ?_)
   | (with_reducible refine LeO.bind ?_ (fun _ => ?_))
   | exact ih0 _ _ _ _ _
   | exact ih1 _ _ _ _ _ _ _ _ _ _
   | exact ih2 _ _ _ _ _ _ _ _ _ _ _ _ _
   | exact ih3 _ _ _ _ _ _ _ _
   | exact impl_inside.mono _ _ _ _
   | exact LeO.none _
   | refine LeO.ite ?_ ?_
   | refine LeO.bind ?_ (fun _ => ?_)
  ·intro y0 y1 y2 y3 y4 y5 y6 y7 y8 y9 y10 y11 y12
   unfold impl_diagonal.j2
   repeat' first
   | (with_reducible exact ih0 _ _ _ _ _)
   | (with_reducible exact ih1 _ _ _ _ _ _ _ _ _ _)
   | (with_reducible exact ih2 _ _ _ _ _ _ _ _ _ _ _ _ _)
   | (with_reducible exact ih3 _ _ _ _ _ _ _ _)
   | (with_reducible exact impl_inside.mono _ _ _ _)
   | (with_reducible exact LeO.refl _)
   | (with_reducible exact LeO.none _)
   | (with_reducible refine LeO.ite ?_ ?_)
   | (with_reducible refine LeO.bind ?_ (fun _ => ?_))
   | exact ih0 _ _ _ _ _
   | exact ih1 _ _ _ _ _ _ _ _ _ _
   | exact ih2 _ _ _ _ _ _ _ _ _ _ _ _ _
   | exact ih3 _ _ _ _ _ _ _ _
   | exact impl_inside.mono _ _ _ _
   | exact LeO.none _
   | refine LeO.ite ?_ ?_
   | refine LeO.bind ?_ (fun _ => ?_)
  ·intro y0 y1 y2 y3 y4 y5 y6 y7
   unfold impl_diagonal.l1
   repeat' first
   | (with_reducible exact ih0 _ _ _ _ _)
   | (with_reducible exact ih1 _ _ _ _ _ _ _ _ _ _)
   | (with_reducible exact ih2 _ _ _ _ _ _ _ _ _ _ _ _ _)
   | (with_reducible exact ih3 _ _ _ _ _ _ _ _)
   | (with_reducible exact impl_inside.mono _ _ _ _)
   | (with_reducible exact LeO.refl _)
   | (with_reducible exact LeO.none _)
   | (with_reducible refine LeO.ite ?_ ?_)
   | (with_reducible refine LeO.bind ?_ (fun _ => ?_))
   | exact ih0 _ _ _ _ _
   | exact ih1 _ _ _ _ _ _ _ _ _ _
   | exact ih2 _ _ _ _ _ _ _ _ _ _ _ _ _
   | exact ih3 _ _ _ _ _ _ _ _
   | exact impl_inside.mono _ _ _ _
   | exact LeO.none _
   | refine LeO.ite ?_ ?_
   | refine LeO.bind ?_ (fun _ => ?_)
theorem impl_diagonal.mono : ∀ a0 a1 a2 k, LeO (impl_diagonal.f k a0 a1 a2) (impl_diagonal.f (k + 1) a0 a1 a2) := by
 intro a0 a1 a2 k
 obtain ⟨ih0, ih1, ih2, ih3⟩ := impl_diagonal.mono_l k
 unfold impl_diagonal.f
 repeat' first
   | (with_reducible exact ih0 _ _ _ _ _)
   | (with_reducible exact ih1 _ _ _ _ _ _ _ _ _ _)
   | (with_reducible exact ih2 _ _ _ _ _ _ _ _ _ _ _ _ _)
   | (with_reducible exact ih3 _ _ _ _ _ _ _ _)
   | (with_reducible exact impl_inside.mono _ _ _ _)
   | (with_reducible exact LeO.refl _)
   | (with_reducible exact LeO.none _)
   | (with_reducible refine LeO.ite ?_ ?_)
   | (with_reducible refine LeO.bind ?_ (fun _ => ?_))
   | exact ih0 _ _ _ _ _
   | exact ih1 _ _ _ _ _ _ _ _ _ _
   | exact ih2 _ _ _ _ _ _ _ _ _ _ _ _ _
   | exact ih3 _ _ _ _ _ _ _ _
   | exact impl_inside.mono _ _ _ _
   | exact LeO.none _
   | refine LeO.ite ?_ ?_
   | refine LeO.bind ?_ (fun _ => ?_)
def impl_diagonal.T4 : Bool × List (List Nat × List Nat) := (true, [([], []), ([], []), ([0, 1], [0, 1]), ([2], [2]), ([], []), ([], []), ([4, 5], [4, 5]), ([6], [6]), ([], []), ([], []), ([8, 3, 0, 1, 2, 3, 8, 9], [3, 8]), ([9, 7, 10, 0, 1, 2, 3, 4, 5, 6, 7, 8, 9, 10], [7, 9])])
def impl_diagonal.B4 : List Nat := [0, 0, 3, 7, 0, 0, 48, 112, 0, 0, 783, 2047]
theorem impl_diagonal.tab4 : rtab .any (opsOf Try.f63 4) = impl_diagonal.T4 := by kernel_rfl
theorem impl_diagonal.bits4 : waitsOk impl_diagonal.T4.2 impl_diagonal.B4 = true := by kernel_rfl
def impl_diagonal.T9 : Bool × List (List Nat × List Nat) := (true, [([], []), ([], []), ([0, 1], [0, 1]), ([2], [2]), ([3], [3]), ([3], [3]), ([4, 5, 3], [3, 4, 5]), ([3, 6], [3, 6]), ([7, 3], [7]), ([8], [8]), ([8], [8]), ([8], [8]), ([8], [8]), ([11, 12, 8], [8, 11, 12]), ([13, 8], [8, 13]), ([9, 10, 14, 8, 8], [8, 9, 10, 14]), ([8, 15], [8, 15])])
def impl_diagonal.B9 : List Nat := [0, 0, 3, 7, 15, 15, 63, 127, 255, 511, 511, 511, 511, 6655, 14847, 32767, 65535]
theorem impl_diagonal.tab9 : rtab .any (opsOf Try.f63 9) = impl_diagonal.T9 := by kernel_rfl
theorem impl_diagonal.bits9 : waitsOk impl_diagonal.T9.2 impl_diagonal.B9 = true := by kernel_rfl
def impl_diagonal.T11 : Bool × List (List Nat × List Nat) := (true, [([], []), ([], []), ([0, 1], [0, 1]), ([2], [2]), ([3], [3]), ([3], [3]), ([4, 5, 3], [3, 4, 5]), ([3, 6], [3, 6]), ([7, 3], [7]), ([8], [8]), ([8], [8]), ([9, 10, 8], [8, 9, 10]), ([8, 11], [8, 11]), ([12, 8], [12]), ([13], [13]), ([13], [13]), ([14, 15, 13], [13, 14, 15]), ([13, 16], [13, 16]), ([17, 13], [17]), ([18], [18]), ([18], [18]), ([18], [18]), ([18], [18]), ([21, 22, 18], [18, 21, 22]), ([23, 18], [18, 23]), ([18], [18]), ([18], [18]), ([25, 26, 18], [18, 25, 26]), ([27, 18], [18, 27]), ([19, 20, 24, 28, 18, 18], [18, 19, 20, 24, 28]), ([18, 29], [18, 29])])
def impl_diagonal.B11 : List Nat := [0, 0, 3, 7, 15, 15, 63, 127, 255, 511, 511, 2047, 4095, 8191, 16383, 16383, 65535, 131071, 262143, 524287, 524287, 524287, 524287, 6815743, 15204351, 524287, 524287, 101187583, 235405311, 536870911, 1073741823]
theorem impl_diagonal.tab11 : rtab .any (opsOf Try.f63 11) = impl_diagonal.T11 := by kernel_rfl
theorem impl_diagonal.bits11 : waitsOk impl_diagonal.T11.2 impl_diagonal.B11 = true := by kernel_rfl
set_option maxHeartbeats 8000000 in
set_option maxRecDepth 100000 in
theorem impl_diagonal.calls (k : Nat) (A0 : Option Addr) (c0 : Nat) (l0 : List (S73)) (a1 : Int) (a2 : Int) (r : Bool) (w : World) (hr0 : Kd.C k73 w A0 l0.length l0) (hc0 : l0.length ≤ c0) (h : impl_diagonal.f k l0 a1 a2 = some r) :
  Calls Try.prog 63 #[.slice A0 l0.length c0, .int .i64 a1, .int .i64 a2] w fun e w' => e = .returned (.bool r) ∧ Below w.heap.size w w' := by
 have hu73 := Try.underlying73
 have HR0 := Aside0.mk hr0
 have HC0 := Aside0.mk hc0
 clear hr0 hc0
 have HB := Aside0.mk (Below.refl w.heap.size w)
 have H : (if a1 = a2 then (impl_diagonal.j0 k l0 a1 a2 (l0.length : Int) true) else (if (l0.length : Int) = 0 then (none) else (if (Int.tmod (wrap64 (a1 + 1)) (l0.length : Int)) = a2 then (impl_diagonal.j0 k l0 a1 a2 (l0.length : Int) true) else (impl_diagonal.j0 k l0 a1 a2 (l0.length : Int) ((Int.tmod (wrap64 (a2 + 1)) (l0.length : Int)) == a1))))) = some r := h
 clear h
 have HC4 := Aside0.mk H
 clear H
 go_enter Try.func63, Try.ntmps63
 go_upto_region 2 with (fail)
 go_cut [35] (fun v35 wc => ∃ (kq : Nat) (x35_3 : Bool), v35 = .bool x35_3 ∧ Aside0 (impl_diagonal.j0 kq l0 a1 a2 (l0.length : Int) x35_3 = some r) ∧ Aside0 (kq ≤ k) ∧ Aside0 (Below w.heap.size w wc))
 case first =>
  have H := HC4.out
  clear HC4
  by_cases c5 : a1 = a2
  ·rw [if_pos c5] at H
   have c5b0 : (a1 == a2) = true := beq_iff_eq.mpr c5
   have c5b1 : (a1 != a2) = false := bne_eq_false_iff_eq.mpr c5
   clear c5
   (first | rw [c5b0] | (simp only [i64_w, i32_w]; rw [c5b0]) | skip)
   have H' := Aside0.mk H
   clear H
   go_wp2
   go_meet
   case rel => exact ⟨_, (true), (by first | rfl | (simp; done) | (simp [*]; done)), H', ⟨by first | omega | exact Nat.le_refl _⟩, ⟨by repeat (first | (with_reducible first | exact HB.out | apply below_alloc | apply pw_below_drewN | apply below_drew1) | exact HB.out)⟩⟩
  ·rw [if_neg c5] at H
   have c5b0 : (a1 == a2) = false := beq_eq_false_iff_ne.mpr c5
   have c5b1 : (a1 != a2) = true := bne_iff_ne.mpr c5
   (first | rw [c5b0] | (simp only [i64_w, i32_w]; rw [c5b0]) | skip)
   by_cases c6 : (l0.length : Int) = 0
   ·rw [if_pos c6] at H
    exact absurd H (by simp)
   ·rw [if_neg c6] at H
    have c6b0 : ((l0.length : Int) == 0) = false := beq_eq_false_iff_ne.mpr c6
    have c6b1 : ((l0.length : Int) != 0) = true := bne_iff_ne.mpr c6
    have c6b2 : ¬ (l0 = []) := fun h_ => c6 (by rw [h_]; rfl)
    by_cases c7 : (Int.tmod (wrap64 (a1 + 1)) (l0.length : Int)) = a2
    ·rw [if_pos c7] at H
     have c7b0 : ((Int.tmod (wrap64 (a1 + 1)) (l0.length : Int)) == a2) = true := beq_iff_eq.mpr c7
     have c7b1 : ((Int.tmod (wrap64 (a1 + 1)) (l0.length : Int)) != a2) = false := bne_eq_false_iff_eq.mpr c7
     clear c7
     have H' := Aside0.mk H
     clear H
     go_wp2
     go_meet
     case rel => exact ⟨_, (true), (by first | rfl | (simp; done) | (simp [*]; done)), H', ⟨by first | omega | exact Nat.le_refl _⟩, ⟨by repeat (first | (with_reducible first | exact HB.out | apply below_alloc | apply pw_below_drewN | apply below_drew1) | exact HB.out)⟩⟩
    ·rw [if_neg c7] at H
     have c7b0 : ((Int.tmod (wrap64 (a1 + 1)) (l0.length : Int)) == a2) = false := beq_eq_false_iff_ne.mpr c7
     have c7b1 : ((Int.tmod (wrap64 (a1 + 1)) (l0.length : Int)) != a2) = true := bne_iff_ne.mpr c7
     have H' := Aside0.mk H
     clear H
     go_wp2
     go_meet
     case rel => exact ⟨_, (((Int.tmod (wrap64 (a2 + 1)) (l0.length : Int)) == a1)), (by first | rfl | (simp; done) | (simp [*]; done)), H', ⟨by first | omega | exact Nat.le_refl _⟩, ⟨by repeat (first | (with_reducible first | exact HB.out | apply below_alloc | apply pw_below_drewN | apply below_drew1) | exact HB.out)⟩⟩
 case rest =>
  clear HC4
  try clear p2
  try clear c5
  try clear c5b0
  try clear c5b1
  try clear c6
  try clear c6b0
  try clear c6b1
  try clear c6b2
  try clear p6
  try clear c7
  try clear c7b0
  try clear c7b1
  obtain ⟨kq, x35_3, rfl, HA, HJ3, HB⟩ := hcut
  cases kq with
  | zero => exact absurd HA.out (by simp [impl_diagonal.j0])
  | succ kj3 =>
   have H := HA.out
   clear HA
   simp only [impl_diagonal.j0] at H
   by_cases c8 : x35_3 = true
   ·subst c8
    have H1 : (some false) = some r := by rw [if_pos rfl] at H; exact H
    clear H
    have H := H1
    clear H1
    obtain rfl := Option.some.inj H
    go_wp2
    go_ret
    exact ⟨by first | rfl | (simp [errW_none, errW_some] <;> rfl) | (simp [*, errW_none, errW_some] <;> rfl), by repeat (first | (with_reducible first | exact HB.out | apply below_alloc | apply pw_below_drewN | apply below_drew1) | exact HB.out)⟩
   ·replace c8 := Bool.eq_false_iff.mpr c8
    subst c8
    have H1 : (if 0 ≤ a1 then (if a1 < (l0.length : Int) then (if 0 ≤ a2 then (if a2 < (l0.length : Int) then (impl_diagonal.l0 kj3 l0 a1 a2 (l0.length : Int) (l0.length : Int) 0 ((rd_T73 l0 a1).f0) ((rd_T73 l0 a1).f1) ((rd_T73 l0 a2).f0) ((rd_T73 l0 a2).f1)) else (none)) else (none)) else (none)) else (none)) = some r := by rw [if_neg (show ¬ (false = true) by decide)] at H; exact H
    clear H
    have H := H1
    clear H1
    by_cases c9 : 0 ≤ a1
    ·rw [if_pos c9] at H
     have c9b0 : decide (0 ≤ a1) = true := decide_eq_true c9
     clear c9
     by_cases c10 : a1 < (l0.length : Int)
     ·rw [if_pos c10] at H
      have c10b0 : decide (a1 < (l0.length : Int)) = true := decide_eq_true c10
      clear c10
      by_cases c11 : 0 ≤ a2
      ·rw [if_pos c11] at H
       have c11b0 : decide (0 ≤ a2) = true := decide_eq_true c11
       clear c11
       by_cases c12 : a2 < (l0.length : Int)
       ·rw [if_pos c12] at H
        have c12b0 : decide (a2 < (l0.length : Int)) = true := decide_eq_true c12
        clear c12
        have H' := Aside0.mk H
        clear H
        try go_wp2
        have n0_ := Aside0.mk (below_drew1 HB.out)
        clear HB
        have HB := n0_
        clear n0_
        have p256 : 0 ≤ (a1 : Int) := da
        have q256 : a1 < (l0.length : Int) := da
        obtain ⟨ad256, e256, hx256_0, hx256_1⟩ := at_T73 HR0.out a1 p256 q256
        have hw256_1 := hx256_1
        have hw256_0 := hx256_0
        cases e256
        replace hx256_0 := (HB.out.cell (bL w _ hx256_0)).trans hx256_0
        replace hx256_1 := (HB.out.cell (bL w _ hx256_1)).trans hx256_1
        replace p256 := eq_true p256
        replace q256 := eq_true q256
        have p257 : 0 ≤ (a2 : Int) := da
        have q257 : a2 < (l0.length : Int) := da
        obtain ⟨ad257, e257, hx257_0, hx257_1⟩ := at_T73 HR0.out a2 p257 q257
        have hw257_1 := hx257_1
        have hw257_0 := hx257_0
        obtain rfl : ad256 = ad257 := (by injection e257)
        replace hx257_0 := (HB.out.cell (bL w _ hx257_0)).trans hx257_0
        replace hx257_1 := (HB.out.cell (bL w _ hx257_1)).trans hx257_1
        replace p257 := eq_true p257
        replace q257 := eq_true q257
        refine start_ (n := 12) (S := fun w' => w'.cell? (ad256.add ((a1).toNat * 2)) = some (.int .i64 ((rd_T73 l0 a1).f0)) ∧ w'.cell? ⟨(ad256.add ((a1).toNat * 2)).block, (ad256.add ((a1).toNat * 2)).off + 1, none⟩ = some (.int .i64 ((rd_T73 l0 a1).f1)) ∧ w'.cell? (ad256.add ((a2).toNat * 2)) = some (.int .i64 ((rd_T73 l0 a2).f0)) ∧ w'.cell? ⟨(ad256.add ((a2).toNat * 2)).block, (ad256.add ((a2).toNat * 2)).off + 1, none⟩ = some (.int .i64 ((rd_T73 l0 a2).f1))) (ds := []) #[fF,fF,fF,fF,fF,fF,fF,fF,fF,fF,fF,fF] (by kernel_rfl) rfl rfl ⟨((HB.out.cell (bL w _ hw256_0)).trans hw256_0), ((HB.out.cell (bL w _ hw256_1)).trans hw256_1), ((HB.out.cell (bL w _ hw257_0)).trans hw257_0), ((HB.out.cell (bL w _ hw257_1)).trans hw257_1)⟩ (fun hHeld => ?_); refine with_tabW impl_diagonal.tab4 impl_diagonal.bits4 (fun HT_ HW_ => ?_)
        generalize wc.drew = w13 at HB hx256_0 hx256_1 hx257_0 hx257_1 hHeld ⊢
        refine pu 0 36 HT_ ?_
        refine pu 1 37 HT_ ?_
        refine pu 2 38 HT_ ?_
        refine pu 4 40 HT_ ?_
        refine pu 5 41 HT_ ?_
        refine pu 6 42 HT_ ?_
        refine tk 3 39 HT_ HW_ hHeld ?_
        refine tk 7 43 HT_ HW_ hHeld ?_
        refine join_ (σ := Nat × Nat) 2 #[tT,tT,tT,tT,tT,tT,tT,tT,tT,tT,fF,fF] (fun s_ => [(8, .pointer (some ⟨s_.1, 0, none⟩)), (9, .pointer (some ⟨s_.2, 0, none⟩))]) (fun s_ w' => (w'.cell? (ad256.add ((a1).toNat * 2)) = some (.int .i64 ((rd_T73 l0 a1).f0)) ∧ w'.cell? ⟨(ad256.add ((a1).toNat * 2)).block, (ad256.add ((a1).toNat * 2)).off + 1, none⟩ = some (.int .i64 ((rd_T73 l0 a1).f1)) ∧ w'.cell? (ad256.add ((a2).toNat * 2)) = some (.int .i64 ((rd_T73 l0 a2).f0)) ∧ w'.cell? ⟨(ad256.add ((a2).toNat * 2)).block, (ad256.add ((a2).toNat * 2)).off + 1, none⟩ = some (.int .i64 ((rd_T73 l0 a2).f1))) ∧ (w'.heap[s_.1]? = some (.cells #[.int .i64 0, .int .i64 0] 73 (0, 0))) ∧ (w'.heap[s_.2]? = some (.cells #[.int .i64 0, .int .i64 0] 73 (0, 0))) ∧ (w.heap.size ≤ s_.1) ∧ (w.heap.size ≤ s_.1) ∧ (s_.2 ≠ s_.1) ∧ (s_.1 ≠ s_.2) ∧ (w.heap.size ≤ s_.2) ∧ (w.heap.size ≤ s_.2) ∧ (Below w.heap.size w w')) ?_ ?_
        rotate_left
        ·intro hCont
         refine two_ (i := 8) (j := 9) (Ni := some 8) (Nj := some 9) #[tT,tT,tT,tT,tT,tT,tT,tT,tT,fF,fF,fF] #[tT,tT,tT,tT,tT,tT,tT,tT,fF,tT,fF,fF] rfl rfl rfl rfl (two_of HT_.out (by kernel_rfl)) (by decide) (by decide) (fun K hK => ?_) (fun K hK => ?_)
         ·skip
          refine box_step ?hg (N := 8) ?hd (cs := #[.int .i64 0, .int .i64 0]) (t := 73) ?hr ?_; (case hd => rfl); (case hg => rfl); (case hr => first | (go_simp; done) | (go_simp; rfl))
          intro gb258 hg w14 hbox hb
          have n0_ := sb hb
          have n1_ := Aside0.mk (hbox)
          have n2_ := zb hg
          have n3_ := zb hg
          clear HB
          have HB := n0_
          have BK258 := n1_
          have GW258 := n2_
          have GE258 := n3_
          clear n0_ n1_ n2_ n3_
          clear hb hbox hg
          refine hK.out _ _ ⟨((HB.out.cell (bL w _ hw256_0)).trans hw256_0), ((HB.out.cell (bL w _ hw256_1)).trans hw256_1), ((HB.out.cell (bL w _ hw257_0)).trans hw257_0), ((HB.out.cell (bL w _ hw257_1)).trans hw257_1)⟩ (fun hHeld => ?_)
          clear hK K
          refine norm_ (a' := ?_) ?_ ?_
          rotate_left
          ·show Act.put _ (some 8) _ = _
           simp only [Act.put, List.setIfInBounds_toArray, List.set_cons_zero, List.set_cons_succ, i64_w, i32_w]
           rfl
          refine on 9 9 HT_ (fun K hK => ?_)
          refine box_step ?hg (N := 9) ?hd (cs := #[.int .i64 0, .int .i64 0]) (t := 73) ?hr ?_; (case hd => rfl); (case hg => rfl); (case hr => first | (go_simp; done) | (go_simp; rfl))
          intro gb259 hg w15 hbox hb
          have n0_ := kb BK258 hb
          have n1_ := sb hb
          have n2_ := Aside0.mk (hbox)
          have n3_ := zb hg
          have n4_ := zb hg
          have n5_ := nl BK258 hg
          have n6_ := ng BK258 hg
          clear BK258
          clear HB
          have BK258 := n0_
          have HB := n1_
          have BK259 := n2_
          have GW259 := n3_
          have GE259 := n4_
          have NB258_259 := n5_
          have NB259_258 := n6_
          clear n0_ n1_ n2_ n3_ n4_ n5_ n6_
          clear hb hbox hg
          refine hK.out _ _ ⟨((HB.out.cell (bL w _ hw256_0)).trans hw256_0), ((HB.out.cell (bL w _ hw256_1)).trans hw256_1), ((HB.out.cell (bL w _ hw257_0)).trans hw257_0), ((HB.out.cell (bL w _ hw257_1)).trans hw257_1)⟩ (fun hHeld => ?_)
          clear hK K
          refine norm_ (a' := ?_) ?_ ?_
          rotate_left
          ·show Act.put _ (some 9) _ = _
           simp only [Act.put, List.setIfInBounds_toArray, List.set_cons_zero, List.set_cons_succ, i64_w, i32_w]
           rfl
          exact norm_ (by simp only [putAll, Act.put, List.setIfInBounds_toArray, List.set_cons_zero, List.set_cons_succ]) (hCont (gb258, gb259) _ ⟨hHeld, (bk BK258), (bk BK259), GW258.out, GE258.out, NB259_258.out, NB258_259.out, GW259.out, GE259.out, ib⟩)
         ·skip
          refine box_step ?hg (N := 9) ?hd (cs := #[.int .i64 0, .int .i64 0]) (t := 73) ?hr ?_; (case hd => rfl); (case hg => rfl); (case hr => first | (go_simp; done) | (go_simp; rfl))
          intro gb259 hg w14 hbox hb
          have n0_ := sb hb
          have n1_ := Aside0.mk (hbox)
          have n2_ := zb hg
          have n3_ := zb hg
          clear HB
          have HB := n0_
          have BK259 := n1_
          have GW259 := n2_
          have GE259 := n3_
          clear n0_ n1_ n2_ n3_
          clear hb hbox hg
          refine hK.out _ _ ⟨((HB.out.cell (bL w _ hw256_0)).trans hw256_0), ((HB.out.cell (bL w _ hw256_1)).trans hw256_1), ((HB.out.cell (bL w _ hw257_0)).trans hw257_0), ((HB.out.cell (bL w _ hw257_1)).trans hw257_1)⟩ (fun hHeld => ?_)
          clear hK K
          refine norm_ (a' := ?_) ?_ ?_
          rotate_left
          ·show Act.put _ (some 9) _ = _
           simp only [Act.put, List.setIfInBounds_toArray, List.set_cons_zero, List.set_cons_succ, i64_w, i32_w]
           rfl
          refine on 8 8 HT_ (fun K hK => ?_)
          refine box_step ?hg (N := 8) ?hd (cs := #[.int .i64 0, .int .i64 0]) (t := 73) ?hr ?_; (case hd => rfl); (case hg => rfl); (case hr => first | (go_simp; done) | (go_simp; rfl))
          intro gb258 hg w15 hbox hb
          have n0_ := kb BK259 hb
          have n1_ := sb hb
          have n2_ := Aside0.mk (hbox)
          have n3_ := zb hg
          have n4_ := zb hg
          have n5_ := nl BK259 hg
          have n6_ := ng BK259 hg
          clear BK259
          clear HB
          have BK259 := n0_
          have HB := n1_
          have BK258 := n2_
          have GW258 := n3_
          have GE258 := n4_
          have NB259_258 := n5_
          have NB258_259 := n6_
          clear n0_ n1_ n2_ n3_ n4_ n5_ n6_
          clear hb hbox hg
          refine hK.out _ _ ⟨((HB.out.cell (bL w _ hw256_0)).trans hw256_0), ((HB.out.cell (bL w _ hw256_1)).trans hw256_1), ((HB.out.cell (bL w _ hw257_0)).trans hw257_0), ((HB.out.cell (bL w _ hw257_1)).trans hw257_1)⟩ (fun hHeld => ?_)
          clear hK K
          refine norm_ (a' := ?_) ?_ ?_
          rotate_left
          ·show Act.put _ (some 8) _ = _
           simp only [Act.put, List.setIfInBounds_toArray, List.set_cons_zero, List.set_cons_succ, i64_w, i32_w]
           rfl
          exact norm_ (by simp only [putAll, Act.put, List.setIfInBounds_toArray, List.set_cons_zero, List.set_cons_succ]) (hCont (gb258, gb259) _ ⟨hHeld, (bk BK258), (bk BK259), GW258.out, GE258.out, NB259_258.out, NB258_259.out, GW259.out, GE259.out, ib⟩)
        rintro ⟨gb258, gb259⟩ w16 ⟨hS_, h0_, h1_, h2_, h3_, h4_, h5_, h6_, h7_, h8_⟩
        have n0_ : Aside0 (w16.heap[gb258]? = some (.cells #[.int .i64 0, .int .i64 0] 73 (0, 0))) := ⟨h0_⟩
        have n1_ : Aside0 (w16.heap[gb259]? = some (.cells #[.int .i64 0, .int .i64 0] 73 (0, 0))) := ⟨h1_⟩
        have n2_ : Aside0 (w.heap.size ≤ gb258) := ⟨h2_⟩
        have n3_ : Aside0 (w.heap.size ≤ gb258) := ⟨h3_⟩
        have n4_ : Aside0 (gb259 ≠ gb258) := ⟨h4_⟩
        have n5_ : Aside0 (gb258 ≠ gb259) := ⟨h5_⟩
        have n6_ : Aside0 (w.heap.size ≤ gb259) := ⟨h6_⟩
        have n7_ : Aside0 (w.heap.size ≤ gb259) := ⟨h7_⟩
        have n8_ : Aside0 (Below w.heap.size w w16) := ⟨h8_⟩
        clear HB
        clear h0_ h1_ h2_ h3_ h4_ h5_ h6_ h7_ h8_
        have BK258 := n0_
        have BK259 := n1_
        have GW258 := n2_
        have GE258 := n3_
        have NB259_258 := n4_
        have NB258_259 := n5_
        have GW259 := n6_
        have GE259 := n7_
        have HB := n8_
        clear n0_ n1_ n2_ n3_ n4_ n5_ n6_ n7_ n8_
        have hHeld : w16.cell? (ad256.add ((a1).toNat * 2)) = some (.int .i64 ((rd_T73 l0 a1).f0)) ∧ w16.cell? ⟨(ad256.add ((a1).toNat * 2)).block, (ad256.add ((a1).toNat * 2)).off + 1, none⟩ = some (.int .i64 ((rd_T73 l0 a1).f1)) ∧ w16.cell? (ad256.add ((a2).toNat * 2)) = some (.int .i64 ((rd_T73 l0 a2).f0)) ∧ w16.cell? ⟨(ad256.add ((a2).toNat * 2)).block, (ad256.add ((a2).toNat * 2)).off + 1, none⟩ = some (.int .i64 ((rd_T73 l0 a2).f1)) := hS_
        refine norm_ (a' := ?_) ?_ ?_
        rotate_left
        ·simp only [putAll, Act.put, List.setIfInBounds_toArray, List.set_cons_zero, List.set_cons_succ]
         rfl
        refine one_ (i := 10) (N := none) #[tT,tT,tT,tT,tT,tT,tT,tT,tT,tT,tT,fF] rfl rfl (one_of HT_.out (by kernel_rfl)) (by decide) (fun K hK => ?_)
        have hs17 : w16.cell? ⟨gb258, 0, none⟩ = some (.int .i64 0) := (blk_cell BK258.out 0).trans rfl
        have hfs17 := blk_frozen BK258.out 0
        have hns17_1 := NB259_258.out
        have hms17_1 := NB258_259.out
        have hs18 : w16.cell? ⟨gb258, 1, none⟩ = some (.int .i64 0) := (blk_cell BK258.out 1).trans rfl
        have hfs18 := blk_frozen BK258.out 1
        have hns18_1 := NB259_258.out
        have hms18_1 := NB258_259.out
        refine skip_ (w1 := ?_) (by rfl) rfl ?_ ?_
        rotate_left
        ·go_simp
         rfl
        refine hK.out _ _ ⟨(cg hw256_0 GW258 ((cg hw256_0 GW258 (hHeld.1)))), (cg hw256_1 GW258 ((cg hw256_1 GW258 (hHeld.2.1)))), (cg hw257_0 GW258 ((cg hw257_0 GW258 (hHeld.2.2.1)))), (cg hw257_1 GW258 ((cg hw257_1 GW258 (hHeld.2.2.2))))⟩ (fun hHeld => ?_)
        clear hK K
        refine one_ (i := 11) (N := none) #[tT,tT,tT,tT,tT,tT,tT,tT,tT,tT,tT,tT] rfl rfl (one_of HT_.out (by kernel_rfl)) (by decide) (fun K hK => ?_)
        have hs19 : w16.cell? ⟨gb259, 0, none⟩ = some (.int .i64 0) := (blk_cell BK259.out 0).trans rfl
        have hfs19 := blk_frozen BK259.out 0
        have hns19_0 := NB258_259.out
        have hms19_0 := NB259_258.out
        have hs20 : w16.cell? ⟨gb259, 1, none⟩ = some (.int .i64 0) := (blk_cell BK259.out 1).trans rfl
        have hfs20 := blk_frozen BK259.out 1
        have hns20_0 := NB258_259.out
        have hms20_0 := NB259_258.out
        refine skip_ (w1 := ?_) (by rfl) rfl ?_ ?_
        rotate_left
        ·go_simp
         rfl
        refine hK.out _ _ ⟨(cg hw256_0 GW259 ((cg hw256_0 GW259 (hHeld.1)))), (cg hw256_1 GW259 ((cg hw256_1 GW259 (hHeld.2.1)))), (cg hw257_0 GW259 ((cg hw257_0 GW259 (hHeld.2.2.1)))), (cg hw257_1 GW259 ((cg hw257_1 GW259 (hHeld.2.2.2))))⟩ (fun hHeld => ?_)
        clear hK K
        refine done_ (done_of HT_.out (by kernel_rfl)) ?_
        try go_wp2
        go_loopg [45] kj3 (fun kq v45 w' => ∃ (x45_2 : Int), v45 = .int .i64 x45_2 ∧ Aside0 (impl_diagonal.l0 kq l0 a1 a2 (l0.length : Int) (l0.length : Int) x45_2 ((rd_T73 l0 a1).f0) ((rd_T73 l0 a1).f1) ((rd_T73 l0 a2).f0) ((rd_T73 l0 a2).f1) = some r) ∧ Aside0 (kq ≤ kj3) ∧ Aside0 (w'.heap[gb258]? = some (.cells #[.int .i64 ((rd_T73 l0 a1).f0), .int .i64 ((rd_T73 l0 a1).f1)] 73 (0, 0))) ∧ Aside0 (w'.heap[gb259]? = some (.cells #[.int .i64 ((rd_T73 l0 a2).f0), .int .i64 ((rd_T73 l0 a2).f1)] 73 (0, 0))) ∧ Aside0 (Below w.heap.size w w'))
        case atStart => exact ⟨(0), (by first | rfl | (simp; done) | (simp [*]; done)), H', ⟨Nat.le_refl _⟩, ⟨by refine bF NB258_259.out ?_; refine bF NB258_259.out ?_; refine bP (cs := #[.int .i64 ((rd_T73 l0 a1).f0), .int .i64 0]) 1 ?_; refine bP (cs := #[.int .i64 0, .int .i64 0]) 0 ?_; exact bk BK258⟩, ⟨by refine bP (cs := #[.int .i64 ((rd_T73 l0 a2).f0), .int .i64 0]) 1 ?_; refine bP (cs := #[.int .i64 0, .int .i64 0]) 0 ?_; refine bF NB259_258.out ?_; refine bF NB259_258.out ?_; exact bk BK259⟩, ⟨by repeat (first | (with_reducible first | exact HB.out | apply below_alloc | apply pw_below_drewN | apply below_drew1 | refine below_set ?_ GE258.out | refine below_set ?_ GE259.out) | exact HB.out)⟩⟩
        case round =>
         clear H'
         try clear c1
         try clear p2
         try clear q2
         try clear hx2
         try clear c5
         try clear c5b0
         try clear c5b1
         try clear c6
         try clear c6b0
         try clear c6b1
         try clear c6b2
         try clear p6
         try clear c7
         try clear c7b0
         try clear c7b1
         try clear c8
         try clear c9
         try clear c9b0
         try clear c10
         try clear c10b0
         try clear c11
         try clear c11b0
         try clear c12
         try clear c12b0
         try clear hx256_0
         try clear hx256_1
         try clear hx257_0
         try clear hx257_1
         try clear p2
         try clear p256
         try clear p257
         try clear p6
         try clear q256
         try clear q257
         obtain ⟨x45_2, rfl, HA, HK2, BK258, BK259, HB⟩ := hrel
         cases gk with
         | zero => exact absurd HA.out (by simp [impl_diagonal.l0])
         | succ k2 =>
          have H := HA.out
          clear HA
          simp only [impl_diagonal.l0] at H
          by_cases c21 : x45_2 < (l0.length : Int)
          ·rw [if_pos c21] at H
           have c21b0 : decide (x45_2 < (l0.length : Int)) = true := decide_eq_true c21
           clear c21
           by_cases c22 : (l0.length : Int) = 0
           ·rw [if_pos c22] at H
            exact absurd H (by simp)
           ·rw [if_neg c22] at H
            have c22b0 : ((l0.length : Int) == 0) = false := beq_eq_false_iff_ne.mpr c22
            have c22b1 : ((l0.length : Int) != 0) = true := bne_iff_ne.mpr c22
            have c22b2 : ¬ (l0 = []) := fun h_ => c22 (by rw [h_]; rfl)
            have HC23 := Aside0.mk H
            clear H
            go_upto_region 9 with (fail)
            go_cut [68] (fun v68 wc => ∃ (kq : Nat) (x68_22 : Bool), v68 = .bool x68_22 ∧ Aside0 (impl_diagonal.j2 kq l0 a1 a2 (l0.length : Int) x45_2 (Int.tmod (wrap64 (x45_2 + 1)) (l0.length : Int)) (l0.length : Int) x45_2 x68_22 ((rd_T73 l0 a1).f0) ((rd_T73 l0 a1).f1) ((rd_T73 l0 a2).f0) ((rd_T73 l0 a2).f1) = some r) ∧ Aside0 (kq ≤ k2) ∧ Aside0 (wc.heap[gb258]? = some (.cells #[.int .i64 ((rd_T73 l0 a1).f0), .int .i64 ((rd_T73 l0 a1).f1)] 73 (0, 0))) ∧ Aside0 (wc.heap[gb259]? = some (.cells #[.int .i64 ((rd_T73 l0 a2).f0), .int .i64 ((rd_T73 l0 a2).f1)] 73 (0, 0))) ∧ Aside0 (Below w.heap.size w wc))
            case first =>
             have H := HC23.out
             clear HC23
             by_cases c24 : x45_2 = a1
             ·rw [if_pos c24] at H
              have c24b0 : (x45_2 == a1) = true := beq_iff_eq.mpr c24
              have c24b1 : (x45_2 != a1) = false := bne_eq_false_iff_eq.mpr c24
              clear c24
              (first | rw [c24b0] | (simp only [i64_w, i32_w]; rw [c24b0]) | skip)
              have H' := Aside0.mk H
              clear H
              try go_wp2
              have n0_ := Aside0.mk (blk_drew BK258.out)
              have n1_ := Aside0.mk (blk_drew BK259.out)
              have n2_ := Aside0.mk (below_drew1 HB.out)
              clear BK258
              clear BK259
              clear HB
              have BK258 := n0_
              have BK259 := n1_
              have HB := n2_
              clear n0_ n1_ n2_
              refine start_ (n := 17) (S := fun w' => True) (ds := []) #[fF,fF,fF,fF,fF,fF,fF,fF,fF,fF,fF,fF,fF,fF,fF,fF,fF] (by kernel_rfl) rfl rfl trivial (fun hHeld => ?_); refine with_tabW impl_diagonal.tab9 impl_diagonal.bits9 (fun HT_ HW_ => ?_)
              generalize wr.drew = w25 at BK258 BK259 HB hHeld ⊢
              refine pu 0 52 HT_ ?_
              refine pu 1 53 HT_ ?_
              refine pu 2 54 HT_ ?_
              refine pu 3 55 HT_ ?_
              refine pd 4 56 HT_ ?_
              refine pd 5 57 HT_ ?_
              refine pd 6 58 HT_ ?_
              refine pu 7 59 HT_ ?_
              refine pu 8 60 HT_ ?_
              refine pd 9 61 HT_ ?_
              refine pd 10 62 HT_ ?_
              refine pd 11 63 HT_ ?_
              refine pd 12 64 HT_ ?_
              refine pd 13 65 HT_ ?_
              refine pd 14 66 HT_ ?_
              refine pd 15 67 HT_ ?_
              refine pu 16 68 HT_ ?_
              refine done_ (done_of HT_.out (by kernel_rfl)) ?_
              try go_wp2
              go_meet
              case rel => exact ⟨_, (false), (by first | rfl | (simp; done) | (simp [*]; done)), H', ⟨by have := HJ3.out; have := HK2.out; first | omega | exact Nat.le_refl _⟩, ⟨by exact bk BK258⟩, ⟨by exact bk BK259⟩, ⟨by repeat (first | (with_reducible first | exact HB.out | apply below_alloc | apply pw_below_drewN | apply below_drew1 | refine below_set ?_ GE258.out | refine below_set ?_ GE259.out) | exact HB.out)⟩⟩
             ·rw [if_neg c24] at H
              have c24b0 : (x45_2 == a1) = false := beq_eq_false_iff_ne.mpr c24
              have c24b1 : (x45_2 != a1) = true := bne_iff_ne.mpr c24
              (first | rw [c24b0] | (simp only [i64_w, i32_w]; rw [c24b0]) | skip)
              by_cases c26 : x45_2 = a2
              ·rw [if_pos c26] at H
               have c26b0 : (x45_2 == a2) = true := beq_iff_eq.mpr c26
               have c26b1 : (x45_2 != a2) = false := bne_eq_false_iff_eq.mpr c26
               clear c26
               have H' := Aside0.mk H
               clear H
               try go_wp2
               have n0_ := Aside0.mk (blk_drew BK258.out)
               have n1_ := Aside0.mk (blk_drew BK259.out)
               have n2_ := Aside0.mk (below_drew1 HB.out)
               clear BK258
               clear BK259
               clear HB
               have BK258 := n0_
               have BK259 := n1_
               have HB := n2_
               clear n0_ n1_ n2_
               refine start_ (n := 17) (S := fun w' => True) (ds := []) #[fF,fF,fF,fF,fF,fF,fF,fF,fF,fF,fF,fF,fF,fF,fF,fF,fF] (by kernel_rfl) rfl rfl trivial (fun hHeld => ?_); refine with_tabW impl_diagonal.tab9 impl_diagonal.bits9 (fun HT_ HW_ => ?_)
               generalize wr.drew = w27 at BK258 BK259 HB hHeld ⊢
               refine pu 0 52 HT_ ?_
               refine pu 1 53 HT_ ?_
               refine pu 2 54 HT_ ?_
               refine pu 3 55 HT_ ?_
               refine pu 4 56 HT_ ?_
               refine pu 5 57 HT_ ?_
               refine pu 6 58 HT_ ?_
               refine pu 7 59 HT_ ?_
               refine pu 8 60 HT_ ?_
               refine pd 9 61 HT_ ?_
               refine pd 10 62 HT_ ?_
               refine pd 11 63 HT_ ?_
               refine pd 12 64 HT_ ?_
               refine pd 13 65 HT_ ?_
               refine pd 14 66 HT_ ?_
               refine pd 15 67 HT_ ?_
               refine pu 16 68 HT_ ?_
               refine done_ (done_of HT_.out (by kernel_rfl)) ?_
               try go_wp2
               go_meet
               case rel => exact ⟨_, (false), (by first | rfl | (simp; done) | (simp [*]; done)), H', ⟨by have := HJ3.out; have := HK2.out; first | omega | exact Nat.le_refl _⟩, ⟨by exact bk BK258⟩, ⟨by exact bk BK259⟩, ⟨by repeat (first | (with_reducible first | exact HB.out | apply below_alloc | apply pw_below_drewN | apply below_drew1 | refine below_set ?_ GE258.out | refine below_set ?_ GE259.out) | exact HB.out)⟩⟩
              ·rw [if_neg c26] at H
               have c26b0 : (x45_2 == a2) = false := beq_eq_false_iff_ne.mpr c26
               have c26b1 : (x45_2 != a2) = true := bne_iff_ne.mpr c26
               by_cases c28 : 0 ≤ x45_2
               ·rw [if_pos c28] at H
                have c28b0 : decide (0 ≤ x45_2) = true := decide_eq_true c28
                clear c28
                by_cases c29 : x45_2 < (l0.length : Int)
                ·rw [if_pos c29] at H
                 have c29b0 : decide (x45_2 < (l0.length : Int)) = true := decide_eq_true c29
                 clear c29
                 replace H := Option.bind_eq_some_iff.mp H
                 obtain ⟨t261, A300, H⟩ := H
                 replace H : (impl_diagonal.j2 k2 l0 a1 a2 (l0.length : Int) x45_2 (Int.tmod (wrap64 (x45_2 + 1)) (l0.length : Int)) (l0.length : Int) x45_2 t261 ((rd_T73 l0 a1).f0) ((rd_T73 l0 a1).f1) ((rd_T73 l0 a2).f0) ((rd_T73 l0 a2).f1)) = some r := H
                 have A30 := Aside0.mk A300
                 clear A300
                 have H' := Aside0.mk H
                 clear H
                 try go_wp2
                 have n0_ := Aside0.mk (blk_drew BK258.out)
                 have n1_ := Aside0.mk (blk_drew BK259.out)
                 have n2_ := Aside0.mk (below_drew1 HB.out)
                 clear BK258
                 clear BK259
                 clear HB
                 have BK258 := n0_
                 have BK259 := n1_
                 have HB := n2_
                 clear n0_ n1_ n2_
                 have p260 : 0 ≤ (x45_2 : Int) := da
                 have q260 : x45_2 < (l0.length : Int) := da
                 obtain ⟨ad260, e260, hx260_0, hx260_1⟩ := at_T73 HR0.out x45_2 p260 q260
                 have hw260_1 := hx260_1
                 have hw260_0 := hx260_0
                 obtain rfl : ad256 = ad260 := (by injection e260)
                 replace hx260_0 := (HB.out.cell (bL w _ hx260_0)).trans hx260_0
                 replace hx260_1 := (HB.out.cell (bL w _ hx260_1)).trans hx260_1
                 replace p260 := eq_true p260
                 replace q260 := eq_true q260
                 refine start_ (n := 17) (S := fun w' => w'.cell? ⟨gb258, 0, none⟩ = some (.int .i64 ((rd_T73 l0 a1).f0)) ∧ w'.cell? ⟨gb258, 1, none⟩ = some (.int .i64 ((rd_T73 l0 a1).f1)) ∧ w'.cell? ⟨gb259, 0, none⟩ = some (.int .i64 ((rd_T73 l0 a2).f0)) ∧ w'.cell? ⟨gb259, 1, none⟩ = some (.int .i64 ((rd_T73 l0 a2).f1)) ∧ w'.cell? (ad256.add ((x45_2).toNat * 2)) = some (.int .i64 ((rd_T73 l0 x45_2).f0)) ∧ w'.cell? ⟨(ad256.add ((x45_2).toNat * 2)).block, (ad256.add ((x45_2).toNat * 2)).off + 1, none⟩ = some (.int .i64 ((rd_T73 l0 x45_2).f1))) (ds := []) #[fF,fF,fF,fF,fF,fF,fF,fF,fF,fF,fF,fF,fF,fF,fF,fF,fF] (by kernel_rfl) rfl rfl ⟨(blk_cell BK258.out 0).trans rfl, (blk_cell BK258.out 1).trans rfl, (blk_cell BK259.out 0).trans rfl, (blk_cell BK259.out 1).trans rfl, ((HB.out.cell (bL w _ hw260_0)).trans hw260_0), ((HB.out.cell (bL w _ hw260_1)).trans hw260_1)⟩ (fun hHeld => ?_); refine with_tabW impl_diagonal.tab9 impl_diagonal.bits9 (fun HT_ HW_ => ?_)
                 generalize wr.drew = w31 at BK258 BK259 HB hx260_0 hx260_1 hHeld ⊢
                 refine pu 0 52 HT_ ?_
                 refine pu 1 53 HT_ ?_
                 refine pu 2 54 HT_ ?_
                 refine pu 3 55 HT_ ?_
                 refine pu 4 56 HT_ ?_
                 refine pu 5 57 HT_ ?_
                 refine pu 6 58 HT_ ?_
                 refine pu 7 59 HT_ ?_
                 refine pu 8 60 HT_ ?_
                 refine pu 11 63 HT_ ?_
                 refine pu 12 64 HT_ ?_
                 refine pu 13 65 HT_ ?_
                 refine tk 9 61 HT_ HW_ hHeld ?_
                 refine tk 10 62 HT_ HW_ hHeld ?_
                 refine tk 14 66 HT_ HW_ hHeld ?_
                 refine on 15 67 HT_ (fun K hK => ?_)
                 refine goes_ Try.func105 (by kernel_rfl) rfl #[.agg #[.int .i64 ((rd_T73 l0 a1).f0), .int .i64 ((rd_T73 l0 a1).f1)], .agg #[.int .i64 ((rd_T73 l0 a2).f0), .int .i64 ((rd_T73 l0 a2).f1)], .agg #[.int .i64 ((rd_T73 l0 x45_2).f0), .int .i64 ((rd_T73 l0 x45_2).f1)]] (by rfl) rfl rfl (by (try simp only [List.map_toArray, List.map_cons, List.map_nil]); first | done | rfl | (simp only [List.length_drop, List.length_take]; rfl)) ?_
                 with_reducible refine (impl_on.calls ((rd_T73 l0 a1).f0) ((rd_T73 l0 a1).f1) ((rd_T73 l0 a2).f0) ((rd_T73 l0 a2).f1) ((rd_T73 l0 x45_2).f0) ((rd_T73 l0 x45_2).f1) t261 _ A30.out).mono ?_
                 rintro e w32 ⟨rfl, hb⟩
                 refine ⟨_, rfl, ?_⟩
                 have n0_ := kb BK258 hb
                 have n1_ := kb BK259 hb
                 have n2_ := sb hb
                 clear BK258
                 clear BK259
                 clear HB
                 have BK258 := n0_
                 have BK259 := n1_
                 have HB := n2_
                 clear n0_ n1_ n2_
                 (try clear hb)
                 (try clear hb2)
                 (try clear hk)
                 (try clear hi)
                 refine hK.out _ _ ⟨(blk_cell BK258.out 0).trans rfl, (blk_cell BK258.out 1).trans rfl, (blk_cell BK259.out 0).trans rfl, (blk_cell BK259.out 1).trans rfl, ((HB.out.cell (bL w _ hw260_0)).trans hw260_0), ((HB.out.cell (bL w _ hw260_1)).trans hw260_1)⟩ (fun hHeld => ?_)
                 clear hK K
                 refine norm_ (a' := ?_) ?_ ?_
                 rotate_left
                 ·show Act.put _ (some 67) _ = _
                  simp only [Act.put, List.setIfInBounds_toArray, List.set_cons_zero, List.set_cons_succ, i64_w, i32_w]
                  rfl
                 refine pu 16 68 HT_ ?_
                 refine done_ (done_of HT_.out (by kernel_rfl)) ?_
                 try go_wp2
                 go_meet
                 case rel => exact ⟨_, (t261), (by first | rfl | (simp; done) | (simp [*]; done)), H', ⟨by have := HJ3.out; have := HK2.out; first | omega | exact Nat.le_refl _⟩, ⟨by exact bk BK258⟩, ⟨by exact bk BK259⟩, ⟨by repeat (first | (with_reducible first | exact HB.out | apply below_alloc | apply pw_below_drewN | apply below_drew1 | refine below_set ?_ GE258.out | refine below_set ?_ GE259.out) | exact HB.out)⟩⟩
                ·rw [if_neg c29] at H
                 exact absurd H (by simp)
               ·rw [if_neg c28] at H
                exact absurd H (by simp)
            case rest =>
             clear HC23
             try clear c1
             try clear c2
             try clear p2
             try clear q2
             try clear hx2
             try clear c5
             try clear c5b0
             try clear c5b1
             try clear c6
             try clear c6b0
             try clear c6b1
             try clear c6b2
             try clear p6
             try clear c7
             try clear c7b0
             try clear c7b1
             try clear c8
             try clear c9
             try clear c9b0
             try clear c10
             try clear c10b0
             try clear c11
             try clear c11b0
             try clear c12
             try clear c12b0
             try clear c21
             try clear c21b0
             try clear c22
             try clear c22b0
             try clear c22b1
             try clear c22b2
             try clear c24
             try clear c24b0
             try clear c24b1
             try clear p25
             try clear q25
             try clear hx25
             try clear c26
             try clear c26b0
             try clear c26b1
             try clear p26
             try clear q26
             try clear hx26
             try clear c28
             try clear c28b0
             try clear c29
             try clear c29b0
             try clear hx256_0
             try clear hx256_1
             try clear hx257_0
             try clear hx257_1
             try clear hx260_0
             try clear hx260_1
             try clear p2
             try clear p256
             try clear p257
             try clear p260
             try clear p6
             try clear q2
             try clear q256
             try clear q257
             try clear q260
             obtain ⟨kq, x68_22, rfl, HA, HJ22, BK258, BK259, HB⟩ := hcut
             cases kq with
             | zero => exact absurd HA.out (by simp [impl_diagonal.j2])
             | succ kj22 =>
              have H := HA.out
              clear HA
              simp only [impl_diagonal.j2] at H
              by_cases c33 : x68_22 = true
              ·subst c33
               have H1 : (some false) = some r := by rw [if_pos rfl] at H; exact H
               clear H
               have H := H1
               clear H1
               obtain rfl := Option.some.inj H
               go_wp2
               go_ret
               exact ⟨by first | rfl | (simp [errW_none, errW_some] <;> rfl) | (simp [*, errW_none, errW_some] <;> rfl), by repeat (first | (with_reducible first | exact HB.out | apply below_alloc | apply pw_below_drewN | apply below_drew1 | refine below_set ?_ GE258.out | refine below_set ?_ GE259.out) | exact HB.out)⟩
              ·replace c33 := Bool.eq_false_iff.mpr c33
               subst c33
               have H1 : (if x45_2 = a1 then (impl_diagonal.l0 kj22 l0 a1 a2 (l0.length : Int) (l0.length : Int) (wrap64 (x45_2 + 1)) ((rd_T73 l0 a1).f0) ((rd_T73 l0 a1).f1) ((rd_T73 l0 a2).f0) ((rd_T73 l0 a2).f1)) else (if x45_2 = a2 then (impl_diagonal.l0 kj22 l0 a1 a2 (l0.length : Int) (l0.length : Int) (wrap64 (x45_2 + 1)) ((rd_T73 l0 a1).f0) ((rd_T73 l0 a1).f1) ((rd_T73 l0 a2).f0) ((rd_T73 l0 a2).f1)) else (if (Int.tmod (wrap64 (x45_2 + 1)) (l0.length : Int)) = a1 then (impl_diagonal.l0 kj22 l0 a1 a2 (l0.length : Int) (l0.length : Int) (wrap64 (x45_2 + 1)) ((rd_T73 l0 a1).f0) ((rd_T73 l0 a1).f1) ((rd_T73 l0 a2).f0) ((rd_T73 l0 a2).f1)) else (if (Int.tmod (wrap64 (x45_2 + 1)) (l0.length : Int)) = a2 then (impl_diagonal.l0 kj22 l0 a1 a2 (l0.length : Int) (l0.length : Int) (wrap64 (x45_2 + 1)) ((rd_T73 l0 a1).f0) ((rd_T73 l0 a1).f1) ((rd_T73 l0 a2).f0) ((rd_T73 l0 a2).f1)) else (if 0 ≤ x45_2 then (if x45_2 < (l0.length : Int) then (if 0 ≤ (Int.tmod (wrap64 (x45_2 + 1)) (l0.length : Int)) then (if (Int.tmod (wrap64 (x45_2 + 1)) (l0.length : Int)) < (l0.length : Int) then ((impl_touching.f ((rd_T73 l0 a1).f0) ((rd_T73 l0 a1).f1) ((rd_T73 l0 a2).f0) ((rd_T73 l0 a2).f1) ((rd_T73 l0 x45_2).f0) ((rd_T73 l0 x45_2).f1) ((rd_T73 l0 (Int.tmod (wrap64 (x45_2 + 1)) (l0.length : Int))).f0) ((rd_T73 l0 (Int.tmod (wrap64 (x45_2 + 1)) (l0.length : Int))).f1)).bind fun t264 => (if t264 = true then (some false) else (impl_diagonal.l0 kj22 l0 a1 a2 (l0.length : Int) (l0.length : Int) (wrap64 (x45_2 + 1)) ((rd_T73 l0 a1).f0) ((rd_T73 l0 a1).f1) ((rd_T73 l0 a2).f0) ((rd_T73 l0 a2).f1)))) else (none)) else (none)) else (none)) else (none)))))) = some r := by rw [if_neg (show ¬ (false = true) by decide)] at H; exact H
               clear H
               have H := H1
               clear H1
               by_cases c34 : x45_2 = a1
               ·rw [if_pos c34] at H
                have c34b0 : (x45_2 == a1) = true := beq_iff_eq.mpr c34
                have c34b1 : (x45_2 != a1) = false := bne_eq_false_iff_eq.mpr c34
                clear c34
                have H' := Aside0.mk H
                clear H
                try go_wp2
                have n0_ := Aside0.mk (blk_drew BK258.out)
                have n1_ := Aside0.mk (blk_drew BK259.out)
                have n2_ := Aside0.mk (below_drew1 HB.out)
                clear BK258
                clear BK259
                clear HB
                have BK258 := n0_
                have BK259 := n1_
                have HB := n2_
                clear n0_ n1_ n2_
                refine start_ (n := 31) (S := fun w' => True) (ds := []) #[fF,fF,fF,fF,fF,fF,fF,fF,fF,fF,fF,fF,fF,fF,fF,fF,fF,fF,fF,fF,fF,fF,fF,fF,fF,fF,fF,fF,fF,fF,fF] (by kernel_rfl) rfl rfl trivial (fun hHeld => ?_); refine with_tabW impl_diagonal.tab11 impl_diagonal.bits11 (fun HT_ HW_ => ?_)
                generalize wc.drew = w35 at BK258 BK259 HB hHeld ⊢
                refine pu 0 69 HT_ ?_
                refine pu 1 70 HT_ ?_
                refine pu 2 71 HT_ ?_
                refine pu 3 72 HT_ ?_
                refine pd 4 73 HT_ ?_
                refine pd 5 74 HT_ ?_
                refine pd 6 75 HT_ ?_
                refine pu 7 76 HT_ ?_
                refine pu 8 77 HT_ ?_
                refine pd 9 78 HT_ ?_
                refine pd 10 79 HT_ ?_
                refine pd 11 80 HT_ ?_
                refine pu 12 81 HT_ ?_
                refine pu 13 82 HT_ ?_
                refine pd 14 83 HT_ ?_
                refine pd 15 84 HT_ ?_
                refine pd 16 85 HT_ ?_
                refine pu 17 86 HT_ ?_
                refine pu 18 87 HT_ ?_
                refine pd 19 88 HT_ ?_
                refine pd 20 89 HT_ ?_
                refine pd 21 90 HT_ ?_
                refine pd 22 91 HT_ ?_
                refine pd 23 92 HT_ ?_
                refine pd 24 93 HT_ ?_
                refine pd 25 94 HT_ ?_
                refine pd 26 95 HT_ ?_
                refine pd 27 96 HT_ ?_
                refine pd 28 97 HT_ ?_
                refine pd 29 98 HT_ ?_
                refine pu 30 99 HT_ ?_
                refine done_ (done_of HT_.out (by kernel_rfl)) ?_
                try go_wp2
                go_roundg kj22
                case measure => have := HJ3.out; have := HK2.out; have := HJ22.out; omega
                case rel => exact ⟨(wrap64 (x45_2 + 1)), (by first | rfl | (simp; done) | (simp [*]; done)), H', ⟨by have := HJ3.out; have := HK2.out; have := HJ22.out; omega⟩, ⟨by exact bk BK258⟩, ⟨by exact bk BK259⟩, ⟨by repeat (first | (with_reducible first | exact HB.out | apply below_alloc | apply pw_below_drewN | apply below_drew1 | refine below_set ?_ GE258.out | refine below_set ?_ GE259.out) | exact HB.out)⟩⟩
               ·rw [if_neg c34] at H
                have c34b0 : (x45_2 == a1) = false := beq_eq_false_iff_ne.mpr c34
                have c34b1 : (x45_2 != a1) = true := bne_iff_ne.mpr c34
                by_cases c36 : x45_2 = a2
                ·rw [if_pos c36] at H
                 have c36b0 : (x45_2 == a2) = true := beq_iff_eq.mpr c36
                 have c36b1 : (x45_2 != a2) = false := bne_eq_false_iff_eq.mpr c36
                 clear c36
                 have H' := Aside0.mk H
                 clear H
                 try go_wp2
                 have n0_ := Aside0.mk (blk_drew BK258.out)
                 have n1_ := Aside0.mk (blk_drew BK259.out)
                 have n2_ := Aside0.mk (below_drew1 HB.out)
                 clear BK258
                 clear BK259
                 clear HB
                 have BK258 := n0_
                 have BK259 := n1_
                 have HB := n2_
                 clear n0_ n1_ n2_
                 refine start_ (n := 31) (S := fun w' => True) (ds := []) #[fF,fF,fF,fF,fF,fF,fF,fF,fF,fF,fF,fF,fF,fF,fF,fF,fF,fF,fF,fF,fF,fF,fF,fF,fF,fF,fF,fF,fF,fF,fF] (by kernel_rfl) rfl rfl trivial (fun hHeld => ?_); refine with_tabW impl_diagonal.tab11 impl_diagonal.bits11 (fun HT_ HW_ => ?_)
                 generalize wc.drew = w37 at BK258 BK259 HB hHeld ⊢
                 refine pu 0 69 HT_ ?_
                 refine pu 1 70 HT_ ?_
                 refine pu 2 71 HT_ ?_
                 refine pu 3 72 HT_ ?_
                 refine pu 4 73 HT_ ?_
                 refine pu 5 74 HT_ ?_
                 refine pu 6 75 HT_ ?_
                 refine pu 7 76 HT_ ?_
                 refine pu 8 77 HT_ ?_
                 refine pd 9 78 HT_ ?_
                 refine pd 10 79 HT_ ?_
                 refine pd 11 80 HT_ ?_
                 refine pu 12 81 HT_ ?_
                 refine pu 13 82 HT_ ?_
                 refine pd 14 83 HT_ ?_
                 refine pd 15 84 HT_ ?_
                 refine pd 16 85 HT_ ?_
                 refine pu 17 86 HT_ ?_
                 refine pu 18 87 HT_ ?_
                 refine pd 19 88 HT_ ?_
                 refine pd 20 89 HT_ ?_
                 refine pd 21 90 HT_ ?_
                 refine pd 22 91 HT_ ?_
                 refine pd 23 92 HT_ ?_
                 refine pd 24 93 HT_ ?_
                 refine pd 25 94 HT_ ?_
                 refine pd 26 95 HT_ ?_
                 refine pd 27 96 HT_ ?_
                 refine pd 28 97 HT_ ?_
                 refine pd 29 98 HT_ ?_
                 refine pu 30 99 HT_ ?_
                 refine done_ (done_of HT_.out (by kernel_rfl)) ?_
                 try go_wp2
                 go_roundg kj22
                 case measure => have := HJ3.out; have := HK2.out; have := HJ22.out; omega
                 case rel => exact ⟨(wrap64 (x45_2 + 1)), (by first | rfl | (simp; done) | (simp [*]; done)), H', ⟨by have := HJ3.out; have := HK2.out; have := HJ22.out; omega⟩, ⟨by exact bk BK258⟩, ⟨by exact bk BK259⟩, ⟨by repeat (first | (with_reducible first | exact HB.out | apply below_alloc | apply pw_below_drewN | apply below_drew1 | refine below_set ?_ GE258.out | refine below_set ?_ GE259.out) | exact HB.out)⟩⟩
                ·rw [if_neg c36] at H
                 have c36b0 : (x45_2 == a2) = false := beq_eq_false_iff_ne.mpr c36
                 have c36b1 : (x45_2 != a2) = true := bne_iff_ne.mpr c36
                 by_cases c38 : (Int.tmod (wrap64 (x45_2 + 1)) (l0.length : Int)) = a1
                 ·rw [if_pos c38] at H
                  have c38b0 : ((Int.tmod (wrap64 (x45_2 + 1)) (l0.length : Int)) == a1) = true := beq_iff_eq.mpr c38
                  have c38b1 : ((Int.tmod (wrap64 (x45_2 + 1)) (l0.length : Int)) != a1) = false := bne_eq_false_iff_eq.mpr c38
                  clear c38
                  have H' := Aside0.mk H
                  clear H
                  try go_wp2
                  have n0_ := Aside0.mk (blk_drew BK258.out)
                  have n1_ := Aside0.mk (blk_drew BK259.out)
                  have n2_ := Aside0.mk (below_drew1 HB.out)
                  clear BK258
                  clear BK259
                  clear HB
                  have BK258 := n0_
                  have BK259 := n1_
                  have HB := n2_
                  clear n0_ n1_ n2_
                  refine start_ (n := 31) (S := fun w' => True) (ds := []) #[fF,fF,fF,fF,fF,fF,fF,fF,fF,fF,fF,fF,fF,fF,fF,fF,fF,fF,fF,fF,fF,fF,fF,fF,fF,fF,fF,fF,fF,fF,fF] (by kernel_rfl) rfl rfl trivial (fun hHeld => ?_); refine with_tabW impl_diagonal.tab11 impl_diagonal.bits11 (fun HT_ HW_ => ?_)
                  generalize wc.drew = w39 at BK258 BK259 HB hHeld ⊢
                  refine pu 0 69 HT_ ?_
                  refine pu 1 70 HT_ ?_
                  refine pu 2 71 HT_ ?_
                  refine pu 3 72 HT_ ?_
                  refine pu 4 73 HT_ ?_
                  refine pu 5 74 HT_ ?_
                  refine pu 6 75 HT_ ?_
                  refine pu 7 76 HT_ ?_
                  refine pu 8 77 HT_ ?_
                  refine pu 9 78 HT_ ?_
                  refine pu 10 79 HT_ ?_
                  refine pu 11 80 HT_ ?_
                  refine pu 12 81 HT_ ?_
                  refine pu 13 82 HT_ ?_
                  refine pd 14 83 HT_ ?_
                  refine pd 15 84 HT_ ?_
                  refine pd 16 85 HT_ ?_
                  refine pu 17 86 HT_ ?_
                  refine pu 18 87 HT_ ?_
                  refine pd 19 88 HT_ ?_
                  refine pd 20 89 HT_ ?_
                  refine pd 21 90 HT_ ?_
                  refine pd 22 91 HT_ ?_
                  refine pd 23 92 HT_ ?_
                  refine pd 24 93 HT_ ?_
                  refine pd 25 94 HT_ ?_
                  refine pd 26 95 HT_ ?_
                  refine pd 27 96 HT_ ?_
                  refine pd 28 97 HT_ ?_
                  refine pd 29 98 HT_ ?_
                  refine pu 30 99 HT_ ?_
                  refine done_ (done_of HT_.out (by kernel_rfl)) ?_
                  try go_wp2
                  go_roundg kj22
                  case measure => have := HJ3.out; have := HK2.out; have := HJ22.out; omega
                  case rel => exact ⟨(wrap64 (x45_2 + 1)), (by first | rfl | (simp; done) | (simp [*]; done)), H', ⟨by have := HJ3.out; have := HK2.out; have := HJ22.out; omega⟩, ⟨by exact bk BK258⟩, ⟨by exact bk BK259⟩, ⟨by repeat (first | (with_reducible first | exact HB.out | apply below_alloc | apply pw_below_drewN | apply below_drew1 | refine below_set ?_ GE258.out | refine below_set ?_ GE259.out) | exact HB.out)⟩⟩
                 ·rw [if_neg c38] at H
                  have c38b0 : ((Int.tmod (wrap64 (x45_2 + 1)) (l0.length : Int)) == a1) = false := beq_eq_false_iff_ne.mpr c38
                  have c38b1 : ((Int.tmod (wrap64 (x45_2 + 1)) (l0.length : Int)) != a1) = true := bne_iff_ne.mpr c38
                  by_cases c40 : (Int.tmod (wrap64 (x45_2 + 1)) (l0.length : Int)) = a2
                  ·rw [if_pos c40] at H
                   have c40b0 : ((Int.tmod (wrap64 (x45_2 + 1)) (l0.length : Int)) == a2) = true := beq_iff_eq.mpr c40
                   have c40b1 : ((Int.tmod (wrap64 (x45_2 + 1)) (l0.length : Int)) != a2) = false := bne_eq_false_iff_eq.mpr c40
                   clear c40
                   have H' := Aside0.mk H
                   clear H
                   try go_wp2
                   have n0_ := Aside0.mk (blk_drew BK258.out)
                   have n1_ := Aside0.mk (blk_drew BK259.out)
                   have n2_ := Aside0.mk (below_drew1 HB.out)
                   clear BK258
                   clear BK259
                   clear HB
                   have BK258 := n0_
                   have BK259 := n1_
                   have HB := n2_
                   clear n0_ n1_ n2_
                   refine start_ (n := 31) (S := fun w' => True) (ds := []) #[fF,fF,fF,fF,fF,fF,fF,fF,fF,fF,fF,fF,fF,fF,fF,fF,fF,fF,fF,fF,fF,fF,fF,fF,fF,fF,fF,fF,fF,fF,fF] (by kernel_rfl) rfl rfl trivial (fun hHeld => ?_); refine with_tabW impl_diagonal.tab11 impl_diagonal.bits11 (fun HT_ HW_ => ?_)
                   generalize wc.drew = w41 at BK258 BK259 HB hHeld ⊢
                   refine pu 0 69 HT_ ?_
                   refine pu 1 70 HT_ ?_
                   refine pu 2 71 HT_ ?_
                   refine pu 3 72 HT_ ?_
                   refine pu 4 73 HT_ ?_
                   refine pu 5 74 HT_ ?_
                   refine pu 6 75 HT_ ?_
                   refine pu 7 76 HT_ ?_
                   refine pu 8 77 HT_ ?_
                   refine pu 9 78 HT_ ?_
                   refine pu 10 79 HT_ ?_
                   refine pu 11 80 HT_ ?_
                   refine pu 12 81 HT_ ?_
                   refine pu 13 82 HT_ ?_
                   refine pu 14 83 HT_ ?_
                   refine pu 15 84 HT_ ?_
                   refine pu 16 85 HT_ ?_
                   refine pu 17 86 HT_ ?_
                   refine pu 18 87 HT_ ?_
                   refine pd 19 88 HT_ ?_
                   refine pd 20 89 HT_ ?_
                   refine pd 21 90 HT_ ?_
                   refine pd 22 91 HT_ ?_
                   refine pd 23 92 HT_ ?_
                   refine pd 24 93 HT_ ?_
                   refine pd 25 94 HT_ ?_
                   refine pd 26 95 HT_ ?_
                   refine pd 27 96 HT_ ?_
                   refine pd 28 97 HT_ ?_
                   refine pd 29 98 HT_ ?_
                   refine pu 30 99 HT_ ?_
                   refine done_ (done_of HT_.out (by kernel_rfl)) ?_
                   try go_wp2
                   go_roundg kj22
                   case measure => have := HJ3.out; have := HK2.out; have := HJ22.out; omega
                   case rel => exact ⟨(wrap64 (x45_2 + 1)), (by first | rfl | (simp; done) | (simp [*]; done)), H', ⟨by have := HJ3.out; have := HK2.out; have := HJ22.out; omega⟩, ⟨by exact bk BK258⟩, ⟨by exact bk BK259⟩, ⟨by repeat (first | (with_reducible first | exact HB.out | apply below_alloc | apply pw_below_drewN | apply below_drew1 | refine below_set ?_ GE258.out | refine below_set ?_ GE259.out) | exact HB.out)⟩⟩
                  ·rw [if_neg c40] at H
                   have c40b0 : ((Int.tmod (wrap64 (x45_2 + 1)) (l0.length : Int)) == a2) = false := beq_eq_false_iff_ne.mpr c40
                   have c40b1 : ((Int.tmod (wrap64 (x45_2 + 1)) (l0.length : Int)) != a2) = true := bne_iff_ne.mpr c40
                   by_cases c42 : 0 ≤ x45_2
                   ·rw [if_pos c42] at H
                    have c42b0 : decide (0 ≤ x45_2) = true := decide_eq_true c42
                    clear c42
                    by_cases c43 : x45_2 < (l0.length : Int)
                    ·rw [if_pos c43] at H
                     have c43b0 : decide (x45_2 < (l0.length : Int)) = true := decide_eq_true c43
                     clear c43
                     obtain ⟨ji44, hji44⟩ : ∃ j_ : Int, (Int.tmod (wrap64 (x45_2 + 1)) (l0.length : Int)) = j_ := ⟨_, rfl⟩
                     replace H : (if 0 ≤ (ji44) then (if (ji44) < (l0.length : Int) then ((impl_touching.f ((rd_T73 l0 a1).f0) ((rd_T73 l0 a1).f1) ((rd_T73 l0 a2).f0) ((rd_T73 l0 a2).f1) ((rd_T73 l0 x45_2).f0) ((rd_T73 l0 x45_2).f1) ((rd_T73 l0 (ji44)).f0) ((rd_T73 l0 (ji44)).f1)).bind fun t264 => (if t264 = true then (some false) else (impl_diagonal.l0 kj22 l0 a1 a2 (l0.length : Int) (l0.length : Int) (wrap64 (x45_2 + 1)) ((rd_T73 l0 a1).f0) ((rd_T73 l0 a1).f1) ((rd_T73 l0 a2).f0) ((rd_T73 l0 a2).f1)))) else (none)) else (none)) = some r := by first | (rw [hji44] at H; exact H) | (simp only [hji44] at H ⊢; exact H)
                     (try rw [hji44] at c38b0)
                     (try rw [hji44] at c38b1)
                     (try rw [hji44] at c40b0)
                     (try rw [hji44] at c40b1)
                     by_cases c45 : 0 ≤ (ji44)
                     ·rw [if_pos c45] at H
                      have c45b0 : decide (0 ≤ (ji44)) = true := decide_eq_true c45
                      clear c45
                      by_cases c46 : (ji44) < (l0.length : Int)
                      ·rw [if_pos c46] at H
                       have c46b0 : decide ((ji44) < (l0.length : Int)) = true := decide_eq_true c46
                       clear c46
                       replace H := Option.bind_eq_some_iff.mp H
                       obtain ⟨t264, A470, H⟩ := H
                       replace H : (if t264 = true then (some false) else (impl_diagonal.l0 kj22 l0 a1 a2 (l0.length : Int) (l0.length : Int) (wrap64 (x45_2 + 1)) ((rd_T73 l0 a1).f0) ((rd_T73 l0 a1).f1) ((rd_T73 l0 a2).f0) ((rd_T73 l0 a2).f1))) = some r := H
                       have A47 := Aside0.mk A470
                       clear A470
                       by_cases c48 : t264 = true
                       ·subst c48
                        have H1 : (some false) = some r := by rw [if_pos rfl] at H; exact H
                        clear H
                        have H := H1
                        clear H1
                        obtain rfl := Option.some.inj H
                        try go_wp2
                        have n0_ := Aside0.mk (blk_drew BK258.out)
                        have n1_ := Aside0.mk (blk_drew BK259.out)
                        have n2_ := Aside0.mk (below_drew1 HB.out)
                        clear BK258
                        clear BK259
                        clear HB
                        have BK258 := n0_
                        have BK259 := n1_
                        have HB := n2_
                        clear n0_ n1_ n2_
                        have p262 : 0 ≤ (x45_2 : Int) := da
                        have q262 : x45_2 < (l0.length : Int) := da
                        obtain ⟨ad262, e262, hx262_0, hx262_1⟩ := at_T73 HR0.out x45_2 p262 q262
                        have hw262_1 := hx262_1
                        have hw262_0 := hx262_0
                        obtain rfl : ad256 = ad262 := (by injection e262)
                        replace hx262_0 := (HB.out.cell (bL w _ hx262_0)).trans hx262_0
                        replace hx262_1 := (HB.out.cell (bL w _ hx262_1)).trans hx262_1
                        replace p262 := eq_true p262
                        replace q262 := eq_true q262
                        have p263 : 0 ≤ ((ji44) : Int) := da
                        have q263 : (ji44) < (l0.length : Int) := da
                        obtain ⟨ad263, e263, hx263_0, hx263_1⟩ := at_T73 HR0.out (ji44) p263 q263
                        have hw263_1 := hx263_1
                        have hw263_0 := hx263_0
                        obtain rfl : ad256 = ad263 := (by injection e263)
                        replace hx263_0 := (HB.out.cell (bL w _ hx263_0)).trans hx263_0
                        replace hx263_1 := (HB.out.cell (bL w _ hx263_1)).trans hx263_1
                        replace p263 := eq_true p263
                        replace q263 := eq_true q263
                        refine start_ (n := 31) (S := fun w' => w'.cell? ⟨gb258, 0, none⟩ = some (.int .i64 ((rd_T73 l0 a1).f0)) ∧ w'.cell? ⟨gb258, 1, none⟩ = some (.int .i64 ((rd_T73 l0 a1).f1)) ∧ w'.cell? ⟨gb259, 0, none⟩ = some (.int .i64 ((rd_T73 l0 a2).f0)) ∧ w'.cell? ⟨gb259, 1, none⟩ = some (.int .i64 ((rd_T73 l0 a2).f1)) ∧ w'.cell? (ad256.add ((x45_2).toNat * 2)) = some (.int .i64 ((rd_T73 l0 x45_2).f0)) ∧ w'.cell? ⟨(ad256.add ((x45_2).toNat * 2)).block, (ad256.add ((x45_2).toNat * 2)).off + 1, none⟩ = some (.int .i64 ((rd_T73 l0 x45_2).f1)) ∧ w'.cell? (ad256.add (((ji44)).toNat * 2)) = some (.int .i64 ((rd_T73 l0 (ji44)).f0)) ∧ w'.cell? ⟨(ad256.add (((ji44)).toNat * 2)).block, (ad256.add (((ji44)).toNat * 2)).off + 1, none⟩ = some (.int .i64 ((rd_T73 l0 (ji44)).f1))) (ds := []) #[fF,fF,fF,fF,fF,fF,fF,fF,fF,fF,fF,fF,fF,fF,fF,fF,fF,fF,fF,fF,fF,fF,fF,fF,fF,fF,fF,fF,fF,fF,fF] (by kernel_rfl) rfl rfl ⟨(blk_cell BK258.out 0).trans rfl, (blk_cell BK258.out 1).trans rfl, (blk_cell BK259.out 0).trans rfl, (blk_cell BK259.out 1).trans rfl, ((HB.out.cell (bL w _ hw262_0)).trans hw262_0), ((HB.out.cell (bL w _ hw262_1)).trans hw262_1), ((HB.out.cell (bL w _ hw263_0)).trans hw263_0), ((HB.out.cell (bL w _ hw263_1)).trans hw263_1)⟩ (fun hHeld => ?_); refine with_tabW impl_diagonal.tab11 impl_diagonal.bits11 (fun HT_ HW_ => ?_)
                        generalize wc.drew = w49 at BK258 BK259 HB hx262_0 hx262_1 hx263_0 hx263_1 hHeld ⊢
                        refine pu 0 69 HT_ ?_
                        refine pu 1 70 HT_ ?_
                        refine pu 2 71 HT_ ?_
                        refine pu 3 72 HT_ ?_
                        refine pu 4 73 HT_ ?_
                        refine pu 5 74 HT_ ?_
                        refine pu 6 75 HT_ ?_
                        refine pu 7 76 HT_ ?_
                        refine pu 8 77 HT_ ?_
                        refine pu 9 78 HT_ ?_
                        refine pu 10 79 HT_ ?_
                        refine pu 11 80 HT_ ?_
                        refine pu 12 81 HT_ ?_
                        refine pu 13 82 HT_ ?_
                        refine pu 14 83 HT_ ?_
                        refine pu 15 84 HT_ ?_
                        refine pu 16 85 HT_ ?_
                        refine pu 17 86 HT_ ?_
                        refine pu 18 87 HT_ ?_
                        refine pu 21 90 HT_ ?_
                        refine pu 22 91 HT_ ?_
                        refine pu 23 92 HT_ ?_
                        refine pu 25 94 HT_ ?_
                        refine pu 26 95 HT_ ?_
                        refine pu 27 96 HT_ ?_
                        refine tk 19 88 HT_ HW_ hHeld ?_
                        refine tk 20 89 HT_ HW_ hHeld ?_
                        refine tk 24 93 HT_ HW_ hHeld ?_
                        refine tk 28 97 HT_ HW_ hHeld ?_
                        refine on 29 98 HT_ (fun K hK => ?_)
                        refine goes_ Try.func106 (by kernel_rfl) rfl #[.agg #[.int .i64 ((rd_T73 l0 a1).f0), .int .i64 ((rd_T73 l0 a1).f1)], .agg #[.int .i64 ((rd_T73 l0 a2).f0), .int .i64 ((rd_T73 l0 a2).f1)], .agg #[.int .i64 ((rd_T73 l0 x45_2).f0), .int .i64 ((rd_T73 l0 x45_2).f1)], .agg #[.int .i64 ((rd_T73 l0 (ji44)).f0), .int .i64 ((rd_T73 l0 (ji44)).f1)]] (by rfl) rfl rfl (by (try simp only [List.map_toArray, List.map_cons, List.map_nil]); first | done | (simp only [hji44]; rfl) | rfl | (simp only [List.length_drop, List.length_take]; rfl)) ?_
                        with_reducible refine (impl_touching.calls ((rd_T73 l0 a1).f0) ((rd_T73 l0 a1).f1) ((rd_T73 l0 a2).f0) ((rd_T73 l0 a2).f1) ((rd_T73 l0 x45_2).f0) ((rd_T73 l0 x45_2).f1) ((rd_T73 l0 (ji44)).f0) ((rd_T73 l0 (ji44)).f1) true _ A47.out).mono ?_
                        rintro e w50 ⟨rfl, hb⟩
                        refine ⟨_, rfl, ?_⟩
                        have n0_ := kb BK258 hb
                        have n1_ := kb BK259 hb
                        have n2_ := sb hb
                        clear BK258
                        clear BK259
                        clear HB
                        have BK258 := n0_
                        have BK259 := n1_
                        have HB := n2_
                        clear n0_ n1_ n2_
                        (try clear hb)
                        (try clear hb2)
                        (try clear hk)
                        (try clear hi)
                        refine hK.out _ _ ⟨(blk_cell BK258.out 0).trans rfl, (blk_cell BK258.out 1).trans rfl, (blk_cell BK259.out 0).trans rfl, (blk_cell BK259.out 1).trans rfl, ((HB.out.cell (bL w _ hw262_0)).trans hw262_0), ((HB.out.cell (bL w _ hw262_1)).trans hw262_1), ((HB.out.cell (bL w _ hw263_0)).trans hw263_0), ((HB.out.cell (bL w _ hw263_1)).trans hw263_1)⟩ (fun hHeld => ?_)
                        clear hK K
                        refine norm_ (a' := ?_) ?_ ?_
                        rotate_left
                        ·show Act.put _ (some 98) _ = _
                         simp only [Act.put, List.setIfInBounds_toArray, List.set_cons_zero, List.set_cons_succ, i64_w, i32_w]
                         rfl
                        refine pu 30 99 HT_ ?_
                        refine done_ (done_of HT_.out (by kernel_rfl)) ?_
                        try go_wp2
                        go_ret
                        exact ⟨by first | rfl | (simp [errW_none, errW_some] <;> rfl) | (simp only [← hji44]; first | rfl | (simp [errW_none, errW_some] <;> rfl)) | (simp [*, errW_none, errW_some] <;> rfl), by repeat (first | (with_reducible first | exact HB.out | apply below_alloc | apply pw_below_drewN | apply below_drew1 | refine below_set ?_ GE258.out | refine below_set ?_ GE259.out) | exact HB.out)⟩
                       ·replace c48 := Bool.eq_false_iff.mpr c48
                        subst c48
                        have H1 : (impl_diagonal.l0 kj22 l0 a1 a2 (l0.length : Int) (l0.length : Int) (wrap64 (x45_2 + 1)) ((rd_T73 l0 a1).f0) ((rd_T73 l0 a1).f1) ((rd_T73 l0 a2).f0) ((rd_T73 l0 a2).f1)) = some r := by rw [if_neg (show ¬ (false = true) by decide)] at H; exact H
                        clear H
                        have H := H1
                        clear H1
                        have H' := Aside0.mk H
                        clear H
                        try go_wp2
                        have n0_ := Aside0.mk (blk_drew BK258.out)
                        have n1_ := Aside0.mk (blk_drew BK259.out)
                        have n2_ := Aside0.mk (below_drew1 HB.out)
                        clear BK258
                        clear BK259
                        clear HB
                        have BK258 := n0_
                        have BK259 := n1_
                        have HB := n2_
                        clear n0_ n1_ n2_
                        have p262 : 0 ≤ (x45_2 : Int) := da
                        have q262 : x45_2 < (l0.length : Int) := da
                        obtain ⟨ad262, e262, hx262_0, hx262_1⟩ := at_T73 HR0.out x45_2 p262 q262
                        have hw262_1 := hx262_1
                        have hw262_0 := hx262_0
                        obtain rfl : ad256 = ad262 := (by injection e262)
                        replace hx262_0 := (HB.out.cell (bL w _ hx262_0)).trans hx262_0
                        replace hx262_1 := (HB.out.cell (bL w _ hx262_1)).trans hx262_1
                        replace p262 := eq_true p262
                        replace q262 := eq_true q262
                        have p263 : 0 ≤ ((ji44) : Int) := da
                        have q263 : (ji44) < (l0.length : Int) := da
                        obtain ⟨ad263, e263, hx263_0, hx263_1⟩ := at_T73 HR0.out (ji44) p263 q263
                        have hw263_1 := hx263_1
                        have hw263_0 := hx263_0
                        obtain rfl : ad256 = ad263 := (by injection e263)
                        replace hx263_0 := (HB.out.cell (bL w _ hx263_0)).trans hx263_0
                        replace hx263_1 := (HB.out.cell (bL w _ hx263_1)).trans hx263_1
                        replace p263 := eq_true p263
                        replace q263 := eq_true q263
                        refine start_ (n := 31) (S := fun w' => w'.cell? ⟨gb258, 0, none⟩ = some (.int .i64 ((rd_T73 l0 a1).f0)) ∧ w'.cell? ⟨gb258, 1, none⟩ = some (.int .i64 ((rd_T73 l0 a1).f1)) ∧ w'.cell? ⟨gb259, 0, none⟩ = some (.int .i64 ((rd_T73 l0 a2).f0)) ∧ w'.cell? ⟨gb259, 1, none⟩ = some (.int .i64 ((rd_T73 l0 a2).f1)) ∧ w'.cell? (ad256.add ((x45_2).toNat * 2)) = some (.int .i64 ((rd_T73 l0 x45_2).f0)) ∧ w'.cell? ⟨(ad256.add ((x45_2).toNat * 2)).block, (ad256.add ((x45_2).toNat * 2)).off + 1, none⟩ = some (.int .i64 ((rd_T73 l0 x45_2).f1)) ∧ w'.cell? (ad256.add (((ji44)).toNat * 2)) = some (.int .i64 ((rd_T73 l0 (ji44)).f0)) ∧ w'.cell? ⟨(ad256.add (((ji44)).toNat * 2)).block, (ad256.add (((ji44)).toNat * 2)).off + 1, none⟩ = some (.int .i64 ((rd_T73 l0 (ji44)).f1))) (ds := []) #[fF,fF,fF,fF,fF,fF,fF,fF,fF,fF,fF,fF,fF,fF,fF,fF,fF,fF,fF,fF,fF,fF,fF,fF,fF,fF,fF,fF,fF,fF,fF] (by kernel_rfl) rfl rfl ⟨(blk_cell BK258.out 0).trans rfl, (blk_cell BK258.out 1).trans rfl, (blk_cell BK259.out 0).trans rfl, (blk_cell BK259.out 1).trans rfl, ((HB.out.cell (bL w _ hw262_0)).trans hw262_0), ((HB.out.cell (bL w _ hw262_1)).trans hw262_1), ((HB.out.cell (bL w _ hw263_0)).trans hw263_0), ((HB.out.cell (bL w _ hw263_1)).trans hw263_1)⟩ (fun hHeld => ?_); refine with_tabW impl_diagonal.tab11 impl_diagonal.bits11 (fun HT_ HW_ => ?_)
                        generalize wc.drew = w51 at BK258 BK259 HB hx262_0 hx262_1 hx263_0 hx263_1 hHeld ⊢
                        refine pu 0 69 HT_ ?_
                        refine pu 1 70 HT_ ?_
                        refine pu 2 71 HT_ ?_
                        refine pu 3 72 HT_ ?_
                        refine pu 4 73 HT_ ?_
                        refine pu 5 74 HT_ ?_
                        refine pu 6 75 HT_ ?_
                        refine pu 7 76 HT_ ?_
                        refine pu 8 77 HT_ ?_
                        refine pu 9 78 HT_ ?_
                        refine pu 10 79 HT_ ?_
                        refine pu 11 80 HT_ ?_
                        refine pu 12 81 HT_ ?_
                        refine pu 13 82 HT_ ?_
                        refine pu 14 83 HT_ ?_
                        refine pu 15 84 HT_ ?_
                        refine pu 16 85 HT_ ?_
                        refine pu 17 86 HT_ ?_
                        refine pu 18 87 HT_ ?_
                        refine pu 21 90 HT_ ?_
                        refine pu 22 91 HT_ ?_
                        refine pu 23 92 HT_ ?_
                        refine pu 25 94 HT_ ?_
                        refine pu 26 95 HT_ ?_
                        refine pu 27 96 HT_ ?_
                        refine tk 19 88 HT_ HW_ hHeld ?_
                        refine tk 20 89 HT_ HW_ hHeld ?_
                        refine tk 24 93 HT_ HW_ hHeld ?_
                        refine tk 28 97 HT_ HW_ hHeld ?_
                        refine on 29 98 HT_ (fun K hK => ?_)
                        refine goes_ Try.func106 (by kernel_rfl) rfl #[.agg #[.int .i64 ((rd_T73 l0 a1).f0), .int .i64 ((rd_T73 l0 a1).f1)], .agg #[.int .i64 ((rd_T73 l0 a2).f0), .int .i64 ((rd_T73 l0 a2).f1)], .agg #[.int .i64 ((rd_T73 l0 x45_2).f0), .int .i64 ((rd_T73 l0 x45_2).f1)], .agg #[.int .i64 ((rd_T73 l0 (ji44)).f0), .int .i64 ((rd_T73 l0 (ji44)).f1)]] (by rfl) rfl rfl (by (try simp only [List.map_toArray, List.map_cons, List.map_nil]); first | done | (simp only [hji44]; rfl) | rfl | (simp only [List.length_drop, List.length_take]; rfl)) ?_
                        with_reducible refine (impl_touching.calls ((rd_T73 l0 a1).f0) ((rd_T73 l0 a1).f1) ((rd_T73 l0 a2).f0) ((rd_T73 l0 a2).f1) ((rd_T73 l0 x45_2).f0) ((rd_T73 l0 x45_2).f1) ((rd_T73 l0 (ji44)).f0) ((rd_T73 l0 (ji44)).f1) false _ A47.out).mono ?_
                        rintro e w52 ⟨rfl, hb⟩
                        refine ⟨_, rfl, ?_⟩
                        have n0_ := kb BK258 hb
                        have n1_ := kb BK259 hb
                        have n2_ := sb hb
                        clear BK258
                        clear BK259
                        clear HB
                        have BK258 := n0_
                        have BK259 := n1_
                        have HB := n2_
                        clear n0_ n1_ n2_
                        (try clear hb)
                        (try clear hb2)
                        (try clear hk)
                        (try clear hi)
                        refine hK.out _ _ ⟨(blk_cell BK258.out 0).trans rfl, (blk_cell BK258.out 1).trans rfl, (blk_cell BK259.out 0).trans rfl, (blk_cell BK259.out 1).trans rfl, ((HB.out.cell (bL w _ hw262_0)).trans hw262_0), ((HB.out.cell (bL w _ hw262_1)).trans hw262_1), ((HB.out.cell (bL w _ hw263_0)).trans hw263_0), ((HB.out.cell (bL w _ hw263_1)).trans hw263_1)⟩ (fun hHeld => ?_)
                        clear hK K
                        refine norm_ (a' := ?_) ?_ ?_
                        rotate_left
                        ·show Act.put _ (some 98) _ = _
                         simp only [Act.put, List.setIfInBounds_toArray, List.set_cons_zero, List.set_cons_succ, i64_w, i32_w]
                         rfl
                        refine pu 30 99 HT_ ?_
                        refine done_ (done_of HT_.out (by kernel_rfl)) ?_
                        try go_wp2
                        go_roundg kj22
                        case measure => have := HJ3.out; have := HK2.out; have := HJ22.out; omega
                        case rel => exact ⟨(wrap64 (x45_2 + 1)), (by first | rfl | (simp; done) | (simp [*]; done)), H', ⟨by have := HJ3.out; have := HK2.out; have := HJ22.out; omega⟩, ⟨by exact bk BK258⟩, ⟨by exact bk BK259⟩, ⟨by repeat (first | (with_reducible first | exact HB.out | apply below_alloc | apply pw_below_drewN | apply below_drew1 | refine below_set ?_ GE258.out | refine below_set ?_ GE259.out) | exact HB.out)⟩⟩
                      ·rw [if_neg c46] at H
                       exact absurd H (by simp)
                     ·rw [if_neg c45] at H
                      exact absurd H (by simp)
                    ·rw [if_neg c43] at H
                     exact absurd H (by simp)
                   ·rw [if_neg c42] at H
                    exact absurd H (by simp)
          ·rw [if_neg c21] at H
           have c21b0 : decide (x45_2 < (l0.length : Int)) = false := decide_eq_false c21
           clear c21
           obtain ⟨y265, hy265⟩ : ∃ y_ : List (S73), y_ = (([] : List (S73))) := ⟨_, rfl⟩
           replace H : (impl_diagonal.l1 k2 y265 l0 (l0.length : Int) 0 ((rd_T73 l0 a1).f0) ((rd_T73 l0 a1).f1) ((rd_T73 l0 a2).f0) ((rd_T73 l0 a2).f1)) = some r := by first | (rw [hy265]; with_reducible exact H) | (have H2_ := (Option.bind_some _ _).symm.trans H; rw [hy265]; with_reducible exact H2_) | (have H2_ := (Option.bind_some _ _).symm.trans H; with_reducible exact H2_) | with_reducible exact H | (rw [hy265]; exact H) | exact H
           have Ny265 := Aside0.mk hy265
           clear hy265
           have H' := Aside0.mk H
           clear H
           go_wp2_with (first | ((with_reducible refine gate_dst (N := 101) rfl ?_); refine Kd.R_lit k73 _ 73 ?hg (N := 101) ?hd (xs := ([] : List (S73))) (inner := []) (ok := fun _ => True) (okp := fun _ => True) ?hr ?hp (fun _ hk => hk) trivial (Below.refl _ _) (Nat.le_refl _) (by simp) ?_; (case hd => rfl); (case hg => rfl); (case hr => first | (go_simp; done) | (go_simp; rfl)); (case hp => exact (Reps.none _ _)); intro v266 w53 ho54 hb hg_ hnew_; clear hg_ hnew_; (first | rw [← Ny265.out] at ho54 | (simp only [Int.reduceToNat] at ho54; rw [← Ny265.out] at ho54)); have n0_ := Aside0.mk (Kd.R_lower (Kd.R_newB (Kd.R_newB ho54 (g := gb258) (o := .cells #[.int .i64 ((rd_T73 l0 a1).f0), .int .i64 ((rd_T73 l0 a1).f1)] 73 (0, 0)) (bk BK258)) (g := gb259) (o := .cells #[.int .i64 ((rd_T73 l0 a2).f0), .int .i64 ((rd_T73 l0 a2).f1)] 73 (0, 0)) (bk BK259)) (below_size ib)); have n1_ := kb BK258 hb; have n2_ := kb BK259 hb; have n3_ := sb hb; clear BK258; clear BK259; clear HB; have HO267 := n0_; have BK258 := n1_; have BK259 := n2_; have HB := n3_; clear n0_ n1_ n2_ n3_; clear hb ho54))
           go_loopg [12, 104] k2 (fun kq v12 v104 w' => ∃ (x12_3 : List (S73)) (x104_3 : Int), v104 = .int .i64 x104_3 ∧ Aside0 (impl_diagonal.l1 kq x12_3 l0 (l0.length : Int) x104_3 ((rd_T73 l0 a1).f0) ((rd_T73 l0 a1).f1) ((rd_T73 l0 a2).f0) ((rd_T73 l0 a2).f1) = some r) ∧ Aside0 (kq ≤ k2) ∧ Aside0 (Kd.R k73 73 w' w.heap.size (fun k_ => k_ ≠ gb258 ∧ k_ ≠ gb259) v12 x12_3) ∧ Aside0 (w'.heap[gb258]? = some (.cells #[.int .i64 ((rd_T73 l0 a1).f0), .int .i64 ((rd_T73 l0 a1).f1)] 73 (0, 0))) ∧ Aside0 (w'.heap[gb259]? = some (.cells #[.int .i64 ((rd_T73 l0 a2).f0), .int .i64 ((rd_T73 l0 a2).f1)] 73 (0, 0))) ∧ Aside0 (Below w.heap.size w w'))
           case atStart => exact ⟨(y265), (0), (by first | rfl | (simp; done) | (simp [*]; done)), H', ⟨Nat.le_refl _⟩, ⟨by (with_reducible repeat (first | apply Kd.R_alloc | apply Kd.R_drewN | apply Kd.R_drew)); exact Kd.R_mono HO267.out (fun _ hk => ⟨hk.1.2, hk.2⟩)⟩, ⟨by exact bk BK258⟩, ⟨by exact bk BK259⟩, ⟨by repeat (first | (with_reducible first | exact HB.out | apply below_alloc | apply pw_below_drewN | apply below_drew1 | refine below_set ?_ GE258.out | refine below_set ?_ GE259.out) | exact HB.out)⟩⟩
           case round =>
            clear H'
            try clear c1
            try clear c2
            try clear p2
            try clear q2
            try clear hx2
            try clear c4
            try clear p6
            try clear c10
            try clear c21
            try clear c21b0
            try clear p26
            try clear q26
            try clear hx26
            try clear c42
            try clear c43
            try clear c45
            try clear c46
            try clear c48
            try clear hx262_0
            try clear hx262_1
            try clear hx263_0
            try clear hx263_1
            try clear p262
            try clear p263
            try clear q262
            try clear q263
            obtain ⟨x12_3, x104_3, rfl, HA, HK3, HO_12, BK258, BK259, HB⟩ := hrel
            cases gk with
            | zero => exact absurd HA.out (by simp [impl_diagonal.l1])
            | succ k3 =>
             have H := HA.out
             clear HA
             simp only [impl_diagonal.l1] at H
             by_cases c55 : x104_3 < (l0.length : Int)
             ·rw [if_pos c55] at H
              have c55b0 : decide (x104_3 < (l0.length : Int)) = true := decide_eq_true c55
              clear c55
              by_cases c56 : 0 ≤ x104_3
              ·rw [if_pos c56] at H
               have c56b0 : decide (0 ≤ x104_3) = true := decide_eq_true c56
               clear c56
               by_cases c57 : x104_3 < (l0.length : Int)
               ·rw [if_pos c57] at H
                have c57b0 : decide (x104_3 < (l0.length : Int)) = true := decide_eq_true c57
                clear c57
                by_cases c58 : x12_3.length < 8796093022208
                ·rw [if_pos c58] at H
                 have LMc58 := Aside0.mk c58
                 clear c58
                 obtain ⟨y270, hy270⟩ : ∃ y_ : List (S73), y_ = (x12_3 ++ [(⟨wrap64 (2 * ((rd_T73 l0 x104_3).f0)), wrap64 (2 * ((rd_T73 l0 x104_3).f1))⟩ : S73)]) := ⟨_, rfl⟩
                 replace H : (impl_diagonal.l1 k3 y270 l0 (l0.length : Int) (wrap64 (x104_3 + 1)) ((rd_T73 l0 a1).f0) ((rd_T73 l0 a1).f1) ((rd_T73 l0 a2).f0) ((rd_T73 l0 a2).f1)) = some r := by first | (rw [hy270]; with_reducible exact H) | (have H2_ := (Option.bind_some _ _).symm.trans H; rw [hy270]; with_reducible exact H2_) | (have H2_ := (Option.bind_some _ _).symm.trans H; with_reducible exact H2_) | with_reducible exact H | (rw [hy270]; exact H) | exact H
                 have Ny270 := Aside0.mk hy270
                 clear hy270
                 have H' := Aside0.mk H
                 clear H
                 have p268 : 0 ≤ (x104_3 : Int) := da
                 have q268 : x104_3 < (l0.length : Int) := da
                 obtain ⟨ad268, e268, hx268_0, hx268_1⟩ := at_T73 HR0.out x104_3 p268 q268
                 obtain rfl : ad256 = ad268 := (by injection e268)
                 replace hx268_0 := (HB.out.cell (bL w _ hx268_0)).trans hx268_0
                 replace hx268_1 := (HB.out.cell (bL w _ hx268_1)).trans hx268_1
                 replace p268 := eq_true p268
                 replace q268 := eq_true q268
                 go_wp2_with (first | ((with_reducible refine gate_dst (N := 14) rfl ?_); refine bx (cs := #[.int .i64 0, .int .i64 0]) (t := 73) ?_; intro gb269 hg w59 hbox hb; have n0_ := Aside0.mk (Kd.R_below (Kd.R_elderB (by (with_reducible repeat (first | apply Kd.R_alloc | apply Kd.R_drewN | apply Kd.R_drew)); exact HO_12.out) gb269 (Nat.le_of_eq hg.symm)) hb); have n1_ := kb BK258 hb; have n2_ := kb BK259 hb; have n3_ := sb hb; have n4_ := Aside0.mk (hbox); have n5_ := zb hg; have n6_ := zb hg; have n7_ := nl BK258 hg; have n8_ := ng BK258 hg; have n9_ := nl BK259 hg; have n10_ := ng BK259 hg; clear HO_12; clear BK258; clear BK259; clear HB; have HO_12 := n0_; have BK258 := n1_; have BK259 := n2_; have HB := n3_; have BK269 := n4_; have GW269 := n5_; have GE269 := n6_; have NB258_269 := n7_; have NB269_258 := n8_; have NB259_269 := n9_; have NB269_259 := n10_; clear n0_ n1_ n2_ n3_ n4_ n5_ n6_ n7_ n8_ n9_ n10_; clear hb hbox hg; have hnb60 := NB269_258.out; have hnc60 := NB258_269.out; have hnb61 := NB269_259.out; have hnc61 := NB259_269.out; have hcz62_0 := ck BK269 0; have hcz62_1 := ck BK269 1; have hfz62_0 := blk_frozen BK269.out 0; have hfz62_1 := blk_frozen BK269.out 1) | ((with_reducible refine gate_builtin (b := .append) (xs := #[.tmp 108, .tmp 116]) rfl ?_); at_builtin; refine Kd.R_append k73 (w0 := w) w.heap.size rfl (.tmp 108) (.tmp 116) 25 73 (.agg #[(.int .i64 0), (.int .i64 0)]) 16 rfl Try.underlying25 info73 rfl (by decide) (by omega) u12 x12_3 (⟨wrap64 (2 * ((rd_T73 l0 x104_3).f0)), wrap64 (2 * ((rd_T73 l0 x104_3).f1))⟩ : S73) [.int .i64 (wrap64 (2 * ((rd_T73 l0 x104_3).f0))), .int .i64 (wrap64 (2 * ((rd_T73 l0 x104_3).f1)))] (fun k_ => k_ ≠ gb258 ∧ k_ ≠ gb259 ∧ k_ ≠ gb269) (fun _ => False) rfl (by first | (go_simp; done) | (go_simp; rfl)) ?aP (fun _ hk => hk.elim) ?aF ?aO ?aB ?aS ?aL ?_; (case aP => exact k73_mkM _ _ _ (⟨wrap64 (2 * ((rd_T73 l0 x104_3).f0)), wrap64 (2 * ((rd_T73 l0 x104_3).f1))⟩ : S73)); (case aB => exact ib); (case aF => exact (fun k_ hk => ⟨Kd.freshB (g := gb258) (o := .cells #[.int .i64 ((rd_T73 l0 a1).f0), .int .i64 ((rd_T73 l0 a1).f1)] 73 (0, 0)) (by refine bF NB258_269.out ?_; refine bF NB258_269.out ?_; exact bk BK258) k_ hk, Kd.freshB (g := gb259) (o := .cells #[.int .i64 ((rd_T73 l0 a2).f0), .int .i64 ((rd_T73 l0 a2).f1)] 73 (0, 0)) (by refine bF NB259_269.out ?_; refine bF NB259_269.out ?_; exact bk BK259) k_ hk, Kd.freshB (g := gb269) (o := .cells #[.int .i64 ((rd_T73 l0 x104_3).f0), .int .i64 ((rd_T73 l0 x104_3).f1)] 73 (0, 0)) (by refine bP (cs := #[.int .i64 ((rd_T73 l0 x104_3).f0), .int .i64 0]) 1 ?_; refine bP (cs := #[.int .i64 0, .int .i64 0]) 0 ?_; exact bk BK269) k_ hk⟩)); (case aO => exact (by (with_reducible repeat (first | apply Kd.R_alloc | apply Kd.R_drewN | apply Kd.R_drew)); exact Kd.R_mono (Kd.R_far (p := ⟨gb269, 1, none⟩) (Kd.R_far (p := ⟨gb269, 0, none⟩) (Kd.R_mono HO_12.out (fun k_ hk => (⟨hk, hk.2⟩ : _ ∧ k_ ≠ gb269))) (fun _ hk => hk.2) (.int .i64 ((rd_T73 l0 x104_3).f0))) (fun _ hk => hk.2) (.int .i64 ((rd_T73 l0 x104_3).f1))) (fun _ hk => ⟨hk.1.1.1, ⟨hk.1.1.2, hk.1.2⟩⟩))); (case aS => exact (below_size ib)); (case aL => have := LMc58.out; omega); intro v271 w63 ho hb hg hat; rw [← Ny270.out] at ho; have n0_ := Aside0.mk (blk_grown (g := gb258) (o := .cells #[.int .i64 ((rd_T73 l0 a1).f0), .int .i64 ((rd_T73 l0 a1).f1)] 73 (0, 0)) (by refine bF NB258_269.out ?_; refine bF NB258_269.out ?_; exact bk BK258) hg (Kd.R_away HO_12.out (fun _ hk => hk.1.1))); have n1_ := Aside0.mk (blk_grown (g := gb259) (o := .cells #[.int .i64 ((rd_T73 l0 a2).f0), .int .i64 ((rd_T73 l0 a2).f1)] 73 (0, 0)) (by refine bF NB259_269.out ?_; refine bF NB259_269.out ?_; exact bk BK259) hg (Kd.R_away HO_12.out (fun _ hk => hk.1.2))); have n2_ := Aside0.mk (blk_grown (g := gb269) (o := .cells #[.int .i64 ((rd_T73 l0 x104_3).f0), .int .i64 ((rd_T73 l0 x104_3).f1)] 73 (0, 0)) (by refine bP (cs := #[.int .i64 ((rd_T73 l0 x104_3).f0), .int .i64 0]) 1 ?_; refine bP (cs := #[.int .i64 0, .int .i64 0]) 0 ?_; exact bk BK269) hg (Kd.R_away HO_12.out (fun _ hk => hk.2))); have n3_ := Aside0.mk (hb); have n4_ := Aside0.mk (ho); clear BK258; clear BK259; clear BK269; clear HB; clear HO_12; have BK258 := n0_; have BK259 := n1_; have BK269 := n2_; have HB := n3_; have HO272 := n4_; clear n0_ n1_ n2_ n3_ n4_; clear ho hb hg hat))
                 go_roundg k3
                 case measure => have := HJ3.out; have := HK2.out; have := HK3.out; omega
                 case rel => exact ⟨(y270), (wrap64 (x104_3 + 1)), (by first | rfl | (simp; done) | (simp [*]; done)), H', ⟨by have := HJ3.out; have := HK2.out; have := HK3.out; omega⟩, ⟨by (with_reducible repeat (first | apply Kd.R_alloc | apply Kd.R_drewN | apply Kd.R_drew)); exact Kd.R_mono HO272.out (fun _ hk => ⟨hk.1, hk.2.1⟩)⟩, ⟨by exact bk BK258⟩, ⟨by exact bk BK259⟩, ⟨by repeat (first | (with_reducible first | exact HB.out | apply below_alloc | apply pw_below_drewN | apply below_drew1 | refine below_set ?_ GE258.out | refine below_set ?_ GE259.out | refine below_set ?_ GE269.out) | exact HB.out)⟩⟩
                ·rw [if_neg c58] at H
                 exact absurd H (by simp)
               ·rw [if_neg c57] at H
                exact absurd H (by simp)
              ·rw [if_neg c56] at H
               exact absurd H (by simp)
             ·rw [if_neg c55] at H
              have c55b0 : decide (x104_3 < (l0.length : Int)) = false := decide_eq_false c55
              clear c55
              replace H := Option.bind_eq_some_iff.mp H
              obtain ⟨t273, A640, H⟩ := H
              replace H : (some (decide (t273 > 0))) = some r := H
              have A64 := Aside0.mk A640
              clear A640
              obtain rfl := Option.some.inj H
              have hnb65 := NB258_259.out
              have hnc65 := NB259_258.out
              have hcz66_0 : wr.cell? ⟨gb258, 0, none⟩ = some (.int .i64 ((rd_T73 l0 a1).f0)) := (blk_cell BK258.out 0).trans rfl
              have hcz66_1 : wr.cell? ⟨gb258, 1, none⟩ = some (.int .i64 ((rd_T73 l0 a1).f1)) := (blk_cell BK258.out 1).trans rfl
              have hfz66_0 := blk_frozen BK258.out 0
              have hfz66_1 := blk_frozen BK258.out 1
              have hcz67_0 : wr.cell? ⟨gb259, 0, none⟩ = some (.int .i64 ((rd_T73 l0 a2).f0)) := (blk_cell BK259.out 0).trans rfl
              have hcz67_1 : wr.cell? ⟨gb259, 1, none⟩ = some (.int .i64 ((rd_T73 l0 a2).f1)) := (blk_cell BK259.out 1).trans rfl
              have hfz67_0 := blk_frozen BK259.out 0
              have hfz67_1 := blk_frozen BK259.out 1
              obtain ⟨Ao68, co68, eo68⟩ := Kd.R_slice HO_12.out
              subst eo68
              go_wp2_with (first | ((with_reducible refine gate_callee (f := 108) rfl ?_); refine goesL_ (some 131) rfl rfl Try.func108 (by kernel_rfl) rfl #[.slice Ao68 x12_3.length co68, .agg #[.int .i64 (wrap64 (((rd_T73 l0 a1).f0) + ((rd_T73 l0 a2).f0))), .int .i64 (wrap64 (((rd_T73 l0 a1).f1) + ((rd_T73 l0 a2).f1)))]] rfl (by (try simp only [List.map_toArray, List.map_cons, List.map_nil]); first | done | rfl | (simp only [List.length_drop, List.length_take]; rfl)) ?_; (with_reducible refine (impl_inside.calls k3 _ _ x12_3 (wrap64 (((rd_T73 l0 a1).f0) + ((rd_T73 l0 a2).f0))) (wrap64 (((rd_T73 l0 a1).f1) + ((rd_T73 l0 a2).f1))) t273 _ ?side1 ?side2 A64.out).mono ?_); (case side1 => repeat (first | exact (Kd.R_reads' HO_12.out).2.2 | (with_reducible refine Kd.C_alloc ?_ _) | (with_reducible refine Kd.C_drewN ?_ _) | (with_reducible refine Kd.C_drew ?_))); (case side2 => exact (Kd.R_reads' HO_12.out).2.1); rintro e w69 ⟨rfl, hb⟩; refine ⟨_, rfl, ?_⟩; have n0_ := Aside0.mk (Kd.R_below (by (with_reducible repeat (first | apply Kd.R_alloc | apply Kd.R_drewN | apply Kd.R_drew)); exact HO_12.out) hb); have n1_ := kb BK258 hb; have n2_ := kb BK259 hb; have n3_ := sb hb; clear HO_12; clear BK258; clear BK259; clear HB; have HO_12 := n0_; have BK258 := n1_; have BK259 := n2_; have HB := n3_; clear n0_ n1_ n2_ n3_; (try clear hb); (try clear hb2); (try clear hk); (try clear hi)))
              go_ret
              exact ⟨by first | rfl | (simp [errW_none, errW_some] <;> rfl) | (simp [*, errW_none, errW_some] <;> rfl), by repeat (first | (with_reducible first | exact HB.out | apply below_alloc | apply pw_below_drewN | apply below_drew1 | refine below_set ?_ GE258.out | refine below_set ?_ GE259.out) | exact HB.out)⟩
       ·rw [if_neg c12] at H
        exact absurd H (by simp)
      ·rw [if_neg c11] at H
       exact absurd H (by simp)
     ·rw [if_neg c10] at H
      exact absurd H (by simp)
    ·rw [if_neg c9] at H
     exact absurd H (by simp)
end Go.Proofs.Ytnnchaggdnlfmaa.PFnExactDiagonalsOf
