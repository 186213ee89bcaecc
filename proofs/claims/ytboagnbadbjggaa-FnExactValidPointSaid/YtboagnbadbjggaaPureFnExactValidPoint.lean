/- The plain law: what FnExactValidPoint computes is true at every input. -/
import Derived.Test.YtboagnbadbjggaaPFnExactValidPointx
namespace Go.Proofs.Ytboagnbadbjggaa.Pure
open Go.RowKit Go.Proofs.Ytboagnbadbjggaa.PFnExactValidPoint Go.Proofs.YtboagnbadbjggaaW.PrintWords Go.Proofs.YtboagnbadbjggaaW.PrintLast Go.Proofs.YtboagnbadbjggaaW.PrintMore
set_option linter.unusedVariables false
set_option linter.unusedSimpArgs false

theorem w64 {x : Int} (h1 : -9223372036854775808 ≤ x) (h2 : x ≤ 9223372036854775807) : wrap64 x = x := by
  unfold wrap64
  omega
theorem wf64 {n : Int} (h : (Lit.int .i64 n).wf = true) : -9223372036854775808 ≤ n ∧ n ≤ 9223372036854775807 := by
  simp [Lit.wf, IntKind.min, IntKind.max, IntKind.bits, IntKind.signed] at h
  omega
theorem toList_nil_iff (s : ByteArray) : s.toList = ([] : List UInt8) ↔ s.size = 0 := by
  rw [ByteArray.toList_eq, List.eq_nil_iff_length_eq_zero, data_length]

theorem impl_within_eq (n lo hi : Int) : impl_within.f n lo hi = some (decide (lo ≤ n ∧ n ≤ hi)) := by
  unfold impl_within.f
  by_cases h : n ≥ lo
  · rw [if_pos h]
    have : lo ≤ n := h
    simp [this]
  · rw [if_neg h]
    have : ¬ lo ≤ n := h
    simp [this]

theorem spec_l00In_eq (n lo hi : Int) : spec_l00In.f n lo hi = some (decide (lo ≤ n ∧ n ≤ hi)) := by
  unfold spec_l00In.f
  by_cases h : n ≥ lo
  · rw [if_pos h]
    have : lo ≤ n := h
    simp [this]
  · rw [if_neg h]
    have : ¬ lo ≤ n := h
    simp [this]

theorem FnExactValidPoint (x y : Int) (_ : (Lit.int .i64 x).wf = true) (_ : (Lit.int .i64 y).wf = true) : laws_FnExactValidPoint.f x y = some true := by
  unfold laws_FnExactValidPoint.f spec_ValidPoint.f impl_ValidPoint.f spec_l02Ok.f laws_toPoint.f
  simp only [impl_within_eq, spec_l00In_eq, Option.bind_some]
  by_cases h : 0 ≤ x ∧ x ≤ 20000
  · simp only [h, decide_true, if_true, and_self, Option.bind_some, bne_self_eq_false, Bool.false_eq_true, if_false]
  · simp only [h, decide_false, Bool.false_eq_true, if_false, Option.bind_some, bne_self_eq_false]

end Go.Proofs.Ytboagnbadbjggaa.Pure
