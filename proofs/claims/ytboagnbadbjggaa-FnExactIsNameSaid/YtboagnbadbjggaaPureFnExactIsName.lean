/- The plain law: what FnExactIsName computes is true at every input. -/
import Derived.Test.YtboagnbadbjggaaPFnExactIsNamex
namespace Go.Proofs.Ytboagnbadbjggaa.Pure
open Go.RowKit Go.Proofs.Ytboagnbadbjggaa.PFnExactIsName Go.Proofs.YtboagnbadbjggaaW.PrintWords Go.Proofs.YtboagnbadbjggaaW.PrintLast Go.Proofs.YtboagnbadbjggaaW.PrintMore
set_option linter.unusedVariables false
set_option linter.unusedSimpArgs false

theorem w64 {x : Int} (h1 : -9223372036854775808 ≤ x) (h2 : x ≤ 9223372036854775807) : wrap64 x = x := by
  unfold wrap64
  omega
theorem wf64 {n : Int} (h : (Lit.int .i64 n).wf = true) : -9223372036854775808 ≤ n ∧ n ≤ 9223372036854775807 := by
  simp [Lit.wf, IntKind.min, IntKind.max, IntKind.bits, IntKind.signed] at h
  omega
theorem toList_nil_iff (s : ByteArray) : s.toList = ([] : List UInt8) ↔ s.size = 0 := by
  rw [ByteArray.toList_eq, List.eq_nil_iff_length_eq_zero, data_length]

theorem spec_l01Small_eq (c : Int) : spec_l01Small.f c = some (decide (97 ≤ c ∧ c ≤ 122)) := by
  unfold spec_l01Small.f
  by_cases h : c ≥ 97
  · rw [if_pos h]
    have : 97 ≤ c := h
    simp [this]
  · rw [if_neg h]
    have : ¬ 97 ≤ c := h
    simp [this]
theorem spec_l01Digit_eq (c : Int) : spec_l01Digit.f c = some (decide (48 ≤ c ∧ c ≤ 57)) := by
  unfold spec_l01Digit.f
  by_cases h : c ≥ 48
  · rw [if_pos h]
    have : 48 ≤ c := h
    simp [this]
  · rw [if_neg h]
    have : ¬ 48 ≤ c := h
    simp [this]
theorem name_loops (s : ByteArray) : ∀ (k : Nat) (i : Int), spec_l01Name.l0 k s i = impl_IsName.l0 k s i
  | 0, _ => rfl
  | k + 1, i => by
    simp only [spec_l01Name.l0, impl_IsName.l0, spec_l01Small_eq, spec_l01Digit_eq, Option.bind_some, name_loops s k]
    by_cases h1 : i < (s.size : Int)
    · rw [if_pos h1, if_pos h1]
      by_cases h2 : 0 ≤ i
      · rw [if_pos h2, if_pos h2]
        generalize bt s i = c
        by_cases h3 : c < 97
        · have a1 : ¬ (97 ≤ c ∧ c ≤ 122) := by omega
          by_cases h4 : c < 48
          · have a2 : ¬ (48 ≤ c ∧ c ≤ 57) := by omega
            simp only [h3, h4, decide_eq_false a1, decide_eq_false a2, if_true, Bool.false_eq_true, if_false]
          · by_cases h5 : c > 57
            · have a2 : ¬ (48 ≤ c ∧ c ≤ 57) := by omega
              simp only [h3, h4, h5, decide_eq_false a1, decide_eq_false a2, if_true, Bool.false_eq_true, if_false]
            · have a2 : (48 ≤ c ∧ c ≤ 57) := by omega
              simp only [h3, h4, h5, decide_eq_false a1, decide_eq_true a2, if_true, Bool.false_eq_true, if_false]
        · by_cases h6 : c > 122
          · have a1 : ¬ (97 ≤ c ∧ c ≤ 122) := by omega
            have a2 : ¬ (48 ≤ c ∧ c ≤ 57) := by omega
            have a3 : ¬ c < 48 := by omega
            have a4 : c > 57 := by omega
            simp only [h3, h6, a3, a4, decide_eq_false a1, decide_eq_false a2, if_true, Bool.false_eq_true, if_false]
          · have a1 : (97 ≤ c ∧ c ≤ 122) := by omega
            simp only [h3, h6, decide_eq_true a1, if_true, Bool.false_eq_true, if_false]
      · rw [if_neg h2, if_neg h2]
    · rw [if_neg h1, if_neg h1]
theorem name_j (s : ByteArray) (b : Bool) : ∀ k : Nat, spec_l01Name.j0 k s b = impl_IsName.j0 k s b
  | 0 => rfl
  | k + 1 => by simp only [spec_l01Name.j0, impl_IsName.j0, name_loops]
theorem name_same (s : ByteArray) (k : Nat) : spec_IsName.f k s = impl_IsName.f k s := by
  unfold spec_IsName.f spec_l01Name.f impl_IsName.f
  simp only [name_j, spec_l01Small_eq, Option.bind_some, toList_nil_iff]
  by_cases h0 : s.size = 0
  · have h1 : (s.size : Int) < 1 := by omega
    simp only [h0, h1, if_true]
    cases impl_IsName.j0 k s true <;> rfl
  · have h1 : ¬ (s.size : Int) < 1 := by omega
    simp only [h0, h1, if_false]
    by_cases h2 : (s.size : Int) > 10
    · simp only [h2, if_true]
      cases impl_IsName.j0 k s true <;> rfl
    · have h3 : 0 < (s.size : Int) := by omega
      simp only [h2, h3, if_true, if_false]
      by_cases h4 : bt s 0 < 97
      · have : decide (97 ≤ bt s 0 ∧ bt s 0 ≤ 122) = false := by simp; omega
        simp only [h4, this, if_true, Bool.not_false]
        cases impl_IsName.j0 k s true <;> rfl
      · have : (!decide (97 ≤ bt s 0 ∧ bt s 0 ≤ 122)) = decide (bt s 0 > 122) := by
          by_cases h3 : bt s 0 > 122
          · simp [h3]; try omega
          · simp [h3]; omega
        simp only [h4, this, if_false]
        cases impl_IsName.j0 k s (decide (bt s 0 > 122)) <;> rfl
theorem name_ends (s : ByteArray) (hs : s.size ≤ 140737488351232) : ∀ (d k : Nat) (i : Int), 0 ≤ i → (s.size : Int) - i ≤ d → d < k → ∃ b, impl_IsName.l0 k s i = some b
  | d, 0, i, _, _, h => absurd h (by omega)
  | d, k + 1, i, h0, h1, h => by
    simp only [impl_IsName.l0]
    by_cases hi : i < (s.size : Int)
    · have e : wrap64 (i + 1) = i + 1 := w64 (by omega) (by omega)
      obtain ⟨b, hb⟩ := name_ends s hs (d - 1) k (i + 1) (by omega) (by omega) (by omega)
      rw [if_pos hi, if_pos h0, e, hb]
      repeat' split
      all_goals exact ⟨_, rfl⟩
    · rw [if_neg hi]
      exact ⟨_, rfl⟩
theorem name_total (s : ByteArray) (hs : s.size ≤ 140737488351232) : ∃ b, ∀ k, s.size + 2 ≤ k → impl_IsName.f k s = some b := by
  have j1 : ∀ k, impl_IsName.j0 (k + 1) s true = some false := fun k => by simp only [impl_IsName.j0, if_true]
  obtain ⟨b, hb⟩ := name_ends s hs s.size (s.size + 1) 0 (by omega) (by omega) (by omega)
  have mono := (fun k => (impl_IsName.mono_l k).2 s 0)
  have hb' : ∀ k, s.size + 1 ≤ k → impl_IsName.l0 k s 0 = some b := fun k hk => at_rounds mono hk hb
  have j0 : ∀ k, s.size + 1 ≤ k → impl_IsName.j0 (k + 1) s false = some b := fun k hk => by simp only [impl_IsName.j0, Bool.false_eq_true, if_false, hb' k hk]
  by_cases h1 : (s.size : Int) < 1
  · refine ⟨false, fun k hk => ?_⟩
    obtain ⟨k, rfl⟩ : ∃ m, k = m + 1 := ⟨k - 1, by omega⟩
    unfold impl_IsName.f
    rw [if_pos h1, j1]
  · by_cases h2 : (s.size : Int) > 10
    · refine ⟨false, fun k hk => ?_⟩
      obtain ⟨k, rfl⟩ : ∃ m, k = m + 1 := ⟨k - 1, by omega⟩
      unfold impl_IsName.f
      rw [if_neg h1, if_pos h2, j1]
    · by_cases h3 : bt s 0 < 97
      · refine ⟨false, fun k hk => ?_⟩
        obtain ⟨k, rfl⟩ : ∃ m, k = m + 1 := ⟨k - 1, by omega⟩
        unfold impl_IsName.f
        rw [if_neg h1, if_neg h2, if_pos (by omega), if_pos h3, j1]
      · by_cases h4 : bt s 0 > 122
        · refine ⟨false, fun k hk => ?_⟩
          obtain ⟨k, rfl⟩ : ∃ m, k = m + 1 := ⟨k - 1, by omega⟩
          unfold impl_IsName.f
          rw [if_neg h1, if_neg h2, if_pos (by omega), if_neg h3, decide_eq_true h4, j1]
        · refine ⟨b, fun k hk => ?_⟩
          obtain ⟨k, rfl⟩ : ∃ m, k = m + 1 := ⟨k - 1, by omega⟩
          unfold impl_IsName.f
          rw [if_neg h1, if_neg h2, if_pos (by omega), if_neg h3, decide_eq_false h4, j0 k (by omega)]

theorem FnExactIsName : laws_FnExactIsName.Pure := by
  intro s hs
  obtain ⟨b, hb⟩ := name_total s hs
  refine ⟨s.size + 2, ?_⟩
  unfold laws_FnExactIsName.f
  rw [name_same, hb _ (Nat.le_refl _)]
  simp only [Option.bind_some, bne_self_eq_false, Bool.false_eq_true, if_false, ite_self]

end Go.Proofs.Ytboagnbadbjggaa.Pure
