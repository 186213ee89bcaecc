/- The plain law: what FnExactInTriangle computes is true at every input. -/
import Derived.Test.YtolccaaoimjbdaaPFnExactInTrianglex
namespace Go.Proofs.Ytolccaaoimjbdaa.Pure
open Go.RowKit Go.Proofs.Ytolccaaoimjbdaa.PFnExactInTriangle Go.Proofs.YtolccaaoimjbdaaW.PrintWords Go.Proofs.YtolccaaoimjbdaaW.PrintLast Go.Proofs.YtolccaaoimjbdaaW.PrintMore
set_option linter.unusedVariables false
set_option linter.unusedSimpArgs false

theorem w64 {x : Int} (h1 : -9223372036854775808 ≤ x) (h2 : x ≤ 9223372036854775807) : wrap64 x = x := by
  unfold wrap64
  omega
theorem wf64 {n : Int} (h : (Lit.int .i64 n).wf = true) : -9223372036854775808 ≤ n ∧ n ≤ 9223372036854775807 := by
  simp [Lit.wf, IntKind.min, IntKind.max, IntKind.bits, IntKind.signed] at h
  omega
theorem toList_nil_iff (s : ByteArray) : s.toList = ([] : List UInt8) ↔ s.size = 0 := by
  rw [ByteArray.toList_eq, List.eq_nil_iff_length_eq_zero, data_length]

theorem impl_within_eq (n lo hi : Int) : impl_within.f n lo hi = some (decide (lo ≤ n ∧ n ≤ hi)) := by
  unfold impl_within.f
  by_cases h : n ≥ lo
  · rw [if_pos h]
    have : lo ≤ n := h
    simp [this]
  · rw [if_neg h]
    have : ¬ lo ≤ n := h
    simp [this]

theorem spec_l00In_eq (n lo hi : Int) : spec_l00In.f n lo hi = some (decide (lo ≤ n ∧ n ≤ hi)) := by
  unfold spec_l00In.f
  by_cases h : n ≥ lo
  · rw [if_pos h]
    have : lo ≤ n := h
    simp [this]
  · rw [if_neg h]
    have : ¬ lo ≤ n := h
    simp [this]

/-- A valid point. -/
def okP (x y : Int) : Bool := decide (0 ≤ x ∧ x ≤ 20000) && decide (0 ≤ y ∧ y ≤ 20000)
theorem okP_iff (x y : Int) : okP x y = true ↔ (0 ≤ x ∧ x ≤ 20000) ∧ (0 ≤ y ∧ y ≤ 20000) := by
  unfold okP
  rw [Bool.and_eq_true, decide_eq_true_eq, decide_eq_true_eq]
theorem ok_bind (x y : Int) (f : Bool → Option Bool) (hf : ∀ b, f b = some b) : (if decide (0 ≤ x ∧ x ≤ 20000) = true then (some (decide (0 ≤ y ∧ y ≤ 20000))).bind f else some false) = some (okP x y) := by
  unfold okP
  by_cases h : 0 ≤ x ∧ x ≤ 20000
  · rw [decide_eq_true h, if_pos rfl]
    simp [hf]
  · rw [decide_eq_false h, if_neg (by decide)]
    simp

theorem impl_ValidPoint_eq (x y : Int) : impl_ValidPoint.f x y = some (okP x y) := by
  unfold impl_ValidPoint.f
  simp only [impl_within_eq]
  rw [Option.bind_some]
  exact ok_bind x y _ (fun _ => rfl)
theorem impl_validPoints_loop (l : List S25) (hl : l.length ≤ 9223372036854775806) : ∀ (d k : Nat) (i : Nat), l.length - i ≤ d → d < k → impl_validPoints.l0 k l (l.length : Int) i = some ((l.drop i).all fun s => okP s.f0 s.f1)
  | d, 0, i, h1, h2 => absurd h2 (by omega)
  | d, k + 1, i, h1, h2 => by
    simp only [impl_validPoints.l0, impl_ValidPoint_eq, Option.bind_some]
    by_cases h : i < l.length
    · rw [if_pos (by omega), if_pos (by omega), if_pos (by omega), w64 (by omega) (by omega), show ((i : Int) + 1) = ((i + 1 : Nat) : Int) by omega, impl_validPoints_loop l hl (d - 1) k (i + 1) (by omega) (by omega), List.drop_eq_getElem_cons h, List.all_cons]
      have e : rd_T25 l (i : Int) = l[i] := by
        unfold rd_T25
        rw [Int.toNat_natCast, List.getD_eq_getElem?_getD, List.getElem?_eq_getElem h]
        rfl
      rw [e]
      cases okP (l[i]).f0 (l[i]).f1 <;> simp
    · rw [if_neg (by omega), List.drop_eq_nil_of_le (by omega)]
      rfl
theorem impl_validPoints_eq (l : List S25) (hl : l.length ≤ 9223372036854775806) (k : Nat) (hk : l.length < k) : impl_validPoints.f k l = some (l.all fun s => okP s.f0 s.f1) := by
  unfold impl_validPoints.f
  exact impl_validPoints_loop l hl l.length k 0 (by omega) hk

theorem spec_l02Ok_eq (x y : Int) : spec_l02Ok.f x y = some (okP x y) := by
  unfold spec_l02Ok.f
  simp only [spec_l00In_eq]
  rw [Option.bind_some]
  exact ok_bind x y _ (fun _ => rfl)

theorem spec_l02Four_eq (a0 a1 b0 b1 c0 c1 d0 d1 : Int) : spec_l02Four.f a0 a1 b0 b1 c0 c1 d0 d1 = some (okP a0 a1 && okP b0 b1 && okP c0 c1 && okP d0 d1) := by
  unfold spec_l02Four.f
  simp only [spec_l02Ok_eq, Option.bind_some]
  cases okP a0 a1 <;> cases okP b0 b1 <;> cases okP c0 c1 <;> simp

theorem sides_same (a0 a1 b0 b1 c0 c1 : Int) : spec_l02Side.f a0 a1 b0 b1 c0 c1 = impl_side.f a0 a1 b0 b1 c0 c1 := by
  unfold spec_l02Side.f spec_l02Cross.f impl_side.f
  rfl
/-- The side, as the program reckons it. -/
def sideW (a0 a1 b0 b1 c0 c1 : Int) : Int := if (wrap64 ((wrap64 ((wrap64 (b0 - a0)) * (wrap64 (c1 - a1)))) - (wrap64 ((wrap64 (b1 - a1)) * (wrap64 (c0 - a0)))))) > 0 then 1 else (if (wrap64 ((wrap64 ((wrap64 (b0 - a0)) * (wrap64 (c1 - a1)))) - (wrap64 ((wrap64 (b1 - a1)) * (wrap64 (c0 - a0)))))) < 0 then -1 else 0)
theorem impl_side_eq (a0 a1 b0 b1 c0 c1 : Int) : impl_side.f a0 a1 b0 b1 c0 c1 = some (sideW a0 a1 b0 b1 c0 c1) := by
  unfold impl_side.f sideW
  split
  · rfl
  · split <;> rfl
theorem spec_side_eq (a0 a1 b0 b1 c0 c1 : Int) : spec_l02Side.f a0 a1 b0 b1 c0 c1 = some (sideW a0 a1 b0 b1 c0 c1) := by
  rw [sides_same, impl_side_eq]
theorem sideW_three (a0 a1 b0 b1 c0 c1 : Int) : sideW a0 a1 b0 b1 c0 c1 = 1 ∨ sideW a0 a1 b0 b1 c0 c1 = -1 ∨ sideW a0 a1 b0 b1 c0 c1 = 0 := by
  unfold sideW
  split
  · exact .inl rfl
  · split
    · exact .inr (.inl rfl)
    · exact .inr (.inr rfl)

def inTriW (a0 a1 b0 b1 c0 c1 q0 q1 : Int) : Bool := decide (sideW a0 a1 b0 b1 q0 q1 ≥ 0) && (decide (sideW b0 b1 c0 c1 q0 q1 ≥ 0) && decide (sideW c0 c1 a0 a1 q0 q1 ≥ 0))
theorem inTri_fold (x y z : Int) : (some x).bind (fun t => if t ≥ 0 then (some y).bind fun t => if t ≥ 0 then (some z).bind fun t => some (decide (t ≥ 0)) else some false else some false) = some (decide (x ≥ 0) && (decide (y ≥ 0) && decide (z ≥ 0))) := by
  by_cases h1 : x ≥ 0
  · by_cases h2 : y ≥ 0
    · simp [h1, h2]
    · simp [h1, h2]
  · simp [h1]
theorem impl_inTriangle_eq (a0 a1 b0 b1 c0 c1 q0 q1 : Int) : impl_inTriangle.f a0 a1 b0 b1 c0 c1 q0 q1 = some (inTriW a0 a1 b0 b1 c0 c1 q0 q1) := by
  unfold impl_inTriangle.f inTriW
  simp only [impl_side_eq]
  exact inTri_fold _ _ _
theorem spec_l04In_eq (a0 a1 b0 b1 c0 c1 q0 q1 : Int) : spec_l04In.f a0 a1 b0 b1 c0 c1 q0 q1 = some (inTriW a0 a1 b0 b1 c0 c1 q0 q1) := by
  unfold spec_l04In.f inTriW
  simp only [spec_side_eq]
  exact inTri_fold _ _ _

theorem FnExactInTriangle (a0 a1 b0 b1 c0 c1 d0 d1 : Int) (_ : (Lit.int .i64 a0).wf = true) (_ : (Lit.int .i64 a1).wf = true) (_ : (Lit.int .i64 b0).wf = true) (_ : (Lit.int .i64 b1).wf = true) (_ : (Lit.int .i64 c0).wf = true) (_ : (Lit.int .i64 c1).wf = true) (_ : (Lit.int .i64 d0).wf = true) (_ : (Lit.int .i64 d1).wf = true) : ∃ k, laws_FnExactInTriangle.f k a0 a1 b0 b1 c0 c1 d0 d1 = some true := by
  refine ⟨5, ?_⟩
  unfold laws_FnExactInTriangle.f laws_toPoint.f spec_InTriangle.f impl_InTriangle.f
  simp only [Option.bind_some, spec_l02Four_eq, impl_side_eq, spec_side_eq, spec_l04In_eq, impl_inTriangle_eq]
  rw [impl_validPoints_eq _ (by simp) 5 (by simp)]
  simp only [List.all_cons, List.all_nil, Bool.and_true, Bool.and_assoc, Option.bind_some]
  cases (okP a0 a1 && (okP b0 b1 && (okP c0 c1 && okP d0 d1)))
  · simp
  · rcases sideW_three a0 a1 b0 b1 c0 c1 with h | h | h <;> rw [h] <;> simp

end Go.Proofs.Ytolccaaoimjbdaa.Pure
