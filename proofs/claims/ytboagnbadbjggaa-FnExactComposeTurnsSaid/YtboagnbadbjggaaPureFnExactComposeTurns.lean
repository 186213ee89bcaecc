/- The plain law: what FnExactComposeTurns computes is true at every input. -/
import Derived.Test.YtboagnbadbjggaaQFnExactComposeTurnsx
namespace Go.Proofs.Ytboagnbadbjggaa.Pure
open Go.RowKit Go.Proofs.Ytboagnbadbjggaa.PFnExactComposeTurns Go.Proofs.YtboagnbadbjggaaW.PrintWords Go.Proofs.YtboagnbadbjggaaW.PrintLast Go.Proofs.YtboagnbadbjggaaW.PrintMore
set_option linter.unusedVariables false
set_option linter.unusedSimpArgs false

theorem w64 {x : Int} (h1 : -9223372036854775808 ≤ x) (h2 : x ≤ 9223372036854775807) : wrap64 x = x := by
  unfold wrap64
  omega
theorem wf64 {n : Int} (h : (Lit.int .i64 n).wf = true) : -9223372036854775808 ≤ n ∧ n ≤ 9223372036854775807 := by
  simp [Lit.wf, IntKind.min, IntKind.max, IntKind.bits, IntKind.signed] at h
  omega
theorem toList_nil_iff (s : ByteArray) : s.toList = ([] : List UInt8) ↔ s.size = 0 := by
  rw [ByteArray.toList_eq, List.eq_nil_iff_length_eq_zero, data_length]

theorem impl_within_eq (n lo hi : Int) : impl_within.f n lo hi = some (decide (lo ≤ n ∧ n ≤ hi)) := by
  unfold impl_within.f
  by_cases h : n ≥ lo
  · rw [if_pos h]
    have : lo ≤ n := h
    simp [this]
  · rw [if_neg h]
    have : ¬ lo ≤ n := h
    simp [this]

theorem spec_l00In_eq (n lo hi : Int) : spec_l00In.f n lo hi = some (decide (lo ≤ n ∧ n ≤ hi)) := by
  unfold spec_l00In.f
  by_cases h : n ≥ lo
  · rw [if_pos h]
    have : lo ≤ n := h
    simp [this]
  · rw [if_neg h]
    have : ¬ lo ≤ n := h
    simp [this]

theorem FnExactComposeTurns (a b : Int) (_ : (Lit.int .i64 a).wf = true) (_ : (Lit.int .i64 b).wf = true) : ∃ k, laws_FnExactComposeTurns.f k a b = some true := by
  by_cases h : 0 ≤ a ∧ a ≤ 7
  · by_cases h' : 0 ≤ b ∧ b ≤ 7
    · refine ⟨30, ?_⟩
      have ha : a = 0 ∨ a = 1 ∨ a = 2 ∨ a = 3 ∨ a = 4 ∨ a = 5 ∨ a = 6 ∨ a = 7 := by omega
      have hb : b = 0 ∨ b = 1 ∨ b = 2 ∨ b = 3 ∨ b = 4 ∨ b = 5 ∨ b = 6 ∨ b = 7 := by omega
      clear h h'
      rcases ha with rfl | rfl | rfl | rfl | rfl | rfl | rfl | rfl <;> rcases hb with rfl | rfl | rfl | rfl | rfl | rfl | rfl | rfl <;> decide +kernel
    · refine ⟨1, ?_⟩
      unfold laws_FnExactComposeTurns.f spec_ComposeTurns.f impl_ComposeTurns.f spec_l02Turn.f impl_ComposeTurns.j0
      simp only [impl_within_eq, spec_l00In_eq, Option.bind_some]
      rw [decide_eq_true h, decide_eq_false h']
      simp
  · refine ⟨1, ?_⟩
    unfold laws_FnExactComposeTurns.f spec_ComposeTurns.f impl_ComposeTurns.f spec_l02Turn.f impl_ComposeTurns.j0
    simp only [impl_within_eq, spec_l00In_eq, Option.bind_some]
    rw [decide_eq_false h]
    simp

end Go.Proofs.Ytboagnbadbjggaa.Pure
