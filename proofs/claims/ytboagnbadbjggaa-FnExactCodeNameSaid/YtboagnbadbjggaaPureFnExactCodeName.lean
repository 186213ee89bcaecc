/- The plain law: what FnExactCodeName computes is true at every input. -/
import Derived.Test.YtboagnbadbjggaaPFnExactCodeNamex
namespace Go.Proofs.Ytboagnbadbjggaa.Pure
open Go.RowKit Go.Proofs.Ytboagnbadbjggaa.PFnExactCodeName Go.Proofs.YtboagnbadbjggaaW.PrintWords Go.Proofs.YtboagnbadbjggaaW.PrintLast Go.Proofs.YtboagnbadbjggaaW.PrintMore
set_option linter.unusedVariables false
set_option linter.unusedSimpArgs false

theorem w64 {x : Int} (h1 : -9223372036854775808 ≤ x) (h2 : x ≤ 9223372036854775807) : wrap64 x = x := by
  unfold wrap64
  omega
theorem wf64 {n : Int} (h : (Lit.int .i64 n).wf = true) : -9223372036854775808 ≤ n ∧ n ≤ 9223372036854775807 := by
  simp [Lit.wf, IntKind.min, IntKind.max, IntKind.bits, IntKind.signed] at h
  omega
theorem toList_nil_iff (s : ByteArray) : s.toList = ([] : List UInt8) ↔ s.size = 0 := by
  rw [ByteArray.toList_eq, List.eq_nil_iff_length_eq_zero, data_length]

theorem spec_l00In_eq (n lo hi : Int) : spec_l00In.f n lo hi = some (decide (lo ≤ n ∧ n ≤ hi)) := by
  unfold spec_l00In.f
  by_cases h : n ≥ lo
  · rw [if_pos h]
    have : lo ≤ n := h
    simp [this]
  · rw [if_neg h]
    have : ¬ lo ≤ n := h
    simp [this]

theorem code_spec (a : Int) : spec_CodeName.f a = if 0 ≤ a ∧ a ≤ 11 then some (rdOf ByteArray.empty [(⟨#[111, 107]⟩ : ByteArray), (⟨#[105, 110, 118, 97, 108, 105, 100]⟩ : ByteArray), (⟨#[114, 97, 110, 103, 101]⟩ : ByteArray), (⟨#[110, 111, 116, 45, 102, 111, 117, 110, 100]⟩ : ByteArray), (⟨#[101, 120, 105, 115, 116, 115]⟩ : ByteArray), (⟨#[102, 117, 108, 108]⟩ : ByteArray), (⟨#[115, 116, 97, 116, 101]⟩ : ByteArray), (⟨#[111, 114, 100, 101, 114]⟩ : ByteArray), (⟨#[115, 121, 110, 116, 97, 120]⟩ : ByteArray), (⟨#[102, 111, 114, 109, 97, 116]⟩ : ByteArray), (⟨#[99, 104, 101, 99, 107, 115, 117, 109]⟩ : ByteArray), (⟨#[116, 114, 117, 110, 99, 97, 116, 101, 100]⟩ : ByteArray)] a) else some ⟨#[]⟩ := by
  unfold spec_CodeName.f
  simp only [spec_l00In_eq, Option.bind_some, List.length_cons, List.length_nil]
  have e : wrap64 (((0 + 1 + 1 + 1 + 1 + 1 + 1 + 1 + 1 + 1 + 1 + 1 + 1 : Nat) : Int) - 1) = 11 := by
    rw [w64 (by omega) (by omega)]
    omega
  simp only [e]
  by_cases h : 0 ≤ a ∧ a ≤ 11
  · rw [if_pos h, decide_eq_true h, if_pos rfl, if_pos h.1, if_pos (by omega)]
  · rw [if_neg h, decide_eq_false h, if_neg (by decide)]
theorem code_same (a : Int) : ∃ r, spec_CodeName.f a = some r ∧ impl_CodeName.f a = some r := by
  rw [code_spec]
  by_cases h : 0 ≤ a ∧ a ≤ 11
  · rw [if_pos h]
    have : a = 0 ∨ a = 1 ∨ a = 2 ∨ a = 3 ∨ a = 4 ∨ a = 5 ∨ a = 6 ∨ a = 7 ∨ a = 8 ∨ a = 9 ∨ a = 10 ∨ a = 11 := by omega
    rcases this with rfl | rfl | rfl | rfl | rfl | rfl | rfl | rfl | rfl | rfl | rfl | rfl <;> exact ⟨_, rfl, by unfold impl_CodeName.f rdOf; simp⟩
  · rw [if_neg h]
    refine ⟨⟨#[]⟩, rfl, ?_⟩
    unfold impl_CodeName.f
    repeat rw [if_neg (by omega)]
theorem FnExactCodeName : laws_FnExactCodeName.Pure := by
  intro a _
  obtain ⟨r, h1, h2⟩ := code_same a
  unfold laws_FnExactCodeName.f
  rw [h1, h2]
  simp only [Option.bind_some, if_true]

end Go.Proofs.Ytboagnbadbjggaa.Pure
