/- The plain law: what FnExactCrc16 computes is true at every input. -/
import Derived.Test.YtboagnbadbjggaaPFnExactCrc16x
namespace Go.Proofs.Ytboagnbadbjggaa.Pure
open Go.RowKit Go.Proofs.Ytboagnbadbjggaa.PFnExactCrc16 Go.Proofs.YtboagnbadbjggaaW.PrintWords Go.Proofs.YtboagnbadbjggaaW.PrintLast Go.Proofs.YtboagnbadbjggaaW.PrintMore
set_option linter.unusedVariables false
set_option linter.unusedSimpArgs false

theorem w64 {x : Int} (h1 : -9223372036854775808 ≤ x) (h2 : x ≤ 9223372036854775807) : wrap64 x = x := by
  unfold wrap64
  omega
theorem wf64 {n : Int} (h : (Lit.int .i64 n).wf = true) : -9223372036854775808 ≤ n ∧ n ≤ 9223372036854775807 := by
  simp [Lit.wf, IntKind.min, IntKind.max, IntKind.bits, IntKind.signed] at h
  omega
theorem toList_nil_iff (s : ByteArray) : s.toList = ([] : List UInt8) ↔ s.size = 0 := by
  rw [ByteArray.toList_eq, List.eq_nil_iff_length_eq_zero, data_length]

theorem impl_within_eq (n lo hi : Int) : impl_within.f n lo hi = some (decide (lo ≤ n ∧ n ≤ hi)) := by
  unfold impl_within.f
  by_cases h : n ≥ lo
  · rw [if_pos h]
    have : lo ≤ n := h
    simp [this]
  · rw [if_neg h]
    have : ¬ lo ≤ n := h
    simp [this]

theorem spec_l00In_eq (n lo hi : Int) : spec_l00In.f n lo hi = some (decide (lo ≤ n ∧ n ≤ hi)) := by
  unfold spec_l00In.f
  by_cases h : n ≥ lo
  · rw [if_pos h]
    have : lo ≤ n := h
    simp [this]
  · rw [if_neg h]
    have : ¬ lo ≤ n := h
    simp [this]

theorem crc_same (s : ByteArray) : ∀ k, (∀ c i, spec_l01Crc.l0 k s c i = impl_Crc16.l0 k s c i) ∧ (∀ c i j, spec_l01Crc.l1 k s c i j = impl_Crc16.l1 k s c i j)
  | 0 => ⟨fun _ _ => rfl, fun _ _ _ => rfl⟩
  | k + 1 => by
    obtain ⟨h0, h1⟩ := crc_same s k
    exact ⟨fun c i => by simp only [spec_l01Crc.l0, impl_Crc16.l0, h1], fun c i j => by simp only [spec_l01Crc.l1, impl_Crc16.l1, h0, h1]⟩
theorem crc_ends (s : ByteArray) (hs : s.size ≤ 1048576) : ∀ d : Nat, (∀ (k : Nat) c (i : Int), 0 ≤ i → ((s.size : Int) - i) * 10 + 8 < d → d < k → ∃ r, impl_Crc16.l0 k s c i = some r) ∧
    (∀ (k : Nat) c (i j : Int), 0 ≤ i → i < s.size → 0 ≤ j → j ≤ 8 → ((s.size : Int) - i) * 10 - j + 7 < d → d < k → ∃ r, impl_Crc16.l1 k s c i j = some r) := by
  intro d
  induction d with
  | zero =>
    refine ⟨fun k c i h0 h1 h2 => ?_, fun k c i j h0 h1 h2 h3 h4 h5 => by omega⟩
    obtain ⟨k, rfl⟩ : ∃ m, k = m + 1 := ⟨k - 1, by omega⟩
    exact ⟨c, by simp only [impl_Crc16.l0]; rw [if_neg (by omega)]⟩
  | succ d ih =>
    obtain ⟨i0, i1⟩ := ih
    refine ⟨fun k c i h0 h1 h2 => ?_, fun k c i j h0 h1 h2 h3 h4 h5 => ?_⟩
    · obtain ⟨k, rfl⟩ : ∃ m, k = m + 1 := ⟨k - 1, by omega⟩
      simp only [impl_Crc16.l0]
      by_cases h : i < (s.size : Int)
      · rw [if_pos h, if_pos h0]
        exact i1 k _ i 0 h0 h (by omega) (by omega) (by omega) (by omega)
      · rw [if_neg h]
        exact ⟨_, rfl⟩
    · obtain ⟨k, rfl⟩ : ∃ m, k = m + 1 := ⟨k - 1, by omega⟩
      simp only [impl_Crc16.l1]
      by_cases h : j < 8
      · rw [if_pos h, w64 (x := j + 1) (by omega) (by omega)]
        obtain ⟨r1, hr1⟩ := i1 k (Go.bits .xor .i64 (Go.bits .and .i64 (wrap64 (c * 2)) 65535) 4129) i (j + 1) h0 h1 (by omega) (by omega) (by omega) (by omega)
        obtain ⟨r2, hr2⟩ := i1 k (wrap64 (c * 2)) i (j + 1) h0 h1 (by omega) (by omega) (by omega) (by omega)
        rw [hr1, hr2]
        split
        · exact ⟨_, rfl⟩
        · exact ⟨_, rfl⟩
      · rw [if_neg h, w64 (x := i + 1) (by omega) (by omega)]
        exact i0 k _ (i + 1) (by omega) (by omega) (by omega)
theorem FnExactCrc16 : laws_FnExactCrc16.Pure := by
  intro s c hs hc
  unfold laws_FnExactCrc16.f spec_Crc16.f impl_Crc16.f spec_l01Crc.f
  simp only [impl_within_eq, spec_l00In_eq, Option.bind_some, (crc_same s _).1]
  by_cases h : (s.size : Int) > 1048576
  · exact ⟨0, by rw [if_pos h]⟩
  · by_cases hr : 0 ≤ c ∧ c ≤ 65535
    · obtain ⟨r, hr'⟩ := (crc_ends s (by omega) (s.size * 10 + 9)).1 (s.size * 10 + 10) c 0 (by omega) (by omega) (by omega)
      refine ⟨s.size * 10 + 10, ?_⟩
      rw [if_neg h, decide_eq_true hr, if_pos rfl, if_pos rfl, hr']
      simp
    · refine ⟨0, ?_⟩
      rw [if_neg h, decide_eq_false hr, if_neg (by decide), if_neg (by decide)]
      simp

end Go.Proofs.Ytboagnbadbjggaa.Pure
