/- The plain law: what FnExactRootOf computes is true at every input. -/
import Derived.Test.YtboagnbadbjggaaPFnExactRootOfx
namespace Go.Proofs.Ytboagnbadbjggaa.Pure
open Go.RowKit Go.Proofs.Ytboagnbadbjggaa.PFnExactRootOf Go.Proofs.YtboagnbadbjggaaW.PrintWords Go.Proofs.YtboagnbadbjggaaW.PrintLast Go.Proofs.YtboagnbadbjggaaW.PrintMore
set_option linter.unusedVariables false
set_option linter.unusedSimpArgs false

theorem w64 {x : Int} (h1 : -9223372036854775808 ≤ x) (h2 : x ≤ 9223372036854775807) : wrap64 x = x := by
  unfold wrap64
  omega
theorem wf64 {n : Int} (h : (Lit.int .i64 n).wf = true) : -9223372036854775808 ≤ n ∧ n ≤ 9223372036854775807 := by
  simp [Lit.wf, IntKind.min, IntKind.max, IntKind.bits, IntKind.signed] at h
  omega
theorem toList_nil_iff (s : ByteArray) : s.toList = ([] : List UInt8) ↔ s.size = 0 := by
  rw [ByteArray.toList_eq, List.eq_nil_iff_length_eq_zero, data_length]

theorem mid_of (lo hi : Int) (h0 : 0 ≤ lo) (h : lo < hi) (hM : hi ≤ 3037000499) : ∃ m, wrap64 (Int.tdiv (wrap64 ((wrap64 (lo + hi)) + 1)) 2) = m ∧ lo < m ∧ m ≤ hi := by
  refine ⟨(lo + hi + 1) / 2, ?_, by omega, by omega⟩
  rw [w64 (x := lo + hi) (by omega) (by omega), w64 (x := lo + hi + 1) (by omega) (by omega), Int.tdiv_eq_ediv_of_nonneg (by omega), w64 (by omega) (by omega)]
theorem sq_le {a b : Int} (h0 : 0 ≤ a) (h : a ≤ b) : a * a ≤ b * b := Int.mul_le_mul h h h0 (by omega)
/-- What both searches find: the root, rounded down. -/
def IsRoot (n r : Int) : Prop := 0 ≤ r ∧ r ≤ 3037000499 ∧ (r = 0 ∨ r * r ≤ n) ∧ (r = 3037000499 ∨ n < (r + 1) * (r + 1))
theorem root_one {n r q : Int} (h1 : IsRoot n r) (h2 : IsRoot n q) : r = q := by
  obtain ⟨a0, a1, a2, a3⟩ := h1
  obtain ⟨b0, b1, b2, b3⟩ := h2
  rcases Int.lt_trichotomy r q with h | h | h
  · exfalso
    have := sq_le (a := r + 1) (b := q) (by omega) (by omega)
    omega
  · exact h
  · exfalso
    have := sq_le (a := q + 1) (b := r) (by omega) (by omega)
    omega
theorem spec_root_loop (n : Int) : ∀ (d k : Nat) (lo hi : Int), 0 ≤ lo → lo ≤ hi → hi ≤ 3037000499 → hi - lo ≤ d → d < k → (lo = 0 ∨ lo * lo ≤ n) → (hi = 3037000499 ∨ n < (hi + 1) * (hi + 1)) →
    ∃ r, spec_l01Root.l0 k n lo hi = some r ∧ IsRoot n r
  | d, 0, _, _, _, _, _, _, h, _, _ => absurd h (by omega)
  | d, k + 1, lo, hi, h0, h1, h2, h3, h4, h5, h6 => by
    simp only [spec_l01Root.l0]
    by_cases hlt : lo < hi
    · rw [if_pos hlt]
      obtain ⟨m, hm, m1, m2⟩ := mid_of lo hi h0 hlt h2
      rw [hm]
      have hsq := sq_le (a := m) (b := 3037000499) (by omega) (by omega)
      have hsq0 : 0 ≤ m * m := Int.mul_nonneg (by omega) (by omega)
      rw [w64 (x := m * m) (by omega) (by omega), w64 (x := m - 1) (by omega) (by omega)]
      by_cases hle : m * m ≤ n
      · rw [if_pos hle]
        exact spec_root_loop n (d - 1) k m hi (by omega) m2 h2 (by omega) (by omega) (.inr hle) h6
      · rw [if_neg hle]
        refine spec_root_loop n (d - 1) k lo (m - 1) h0 (by omega) (by omega) (by omega) (by omega) h5 (.inr ?_)
        rw [show m - 1 + 1 = m by omega]
        omega
    · rw [if_neg hlt]
      have : lo = hi := by omega
      subst this
      exact ⟨lo, rfl, h0, h2, h5, h6⟩
theorem le_div_iff (m n : Int) (h : 0 < m) (hn : 0 ≤ n) : m ≤ Int.tdiv n m ↔ m * m ≤ n := by
  rw [Int.tdiv_eq_ediv_of_nonneg hn]
  exact Int.le_ediv_iff_mul_le h
theorem impl_root_loop (n : Int) (hn0 : 1 ≤ n) (hn1 : n ≤ 9223372036854775807) : ∀ (d k : Nat) (lo hi : Int), 1 ≤ lo → lo ≤ hi → hi ≤ 3037000499 → hi - lo ≤ d → d < k → lo * lo ≤ n → (hi = 3037000499 ∨ n < (hi + 1) * (hi + 1)) →
    ∃ r, impl_RootOf.l0 k n lo hi = some r ∧ IsRoot n r
  | d, 0, _, _, _, _, _, _, h, _, _ => absurd h (by omega)
  | d, k + 1, lo, hi, h0, h1, h2, h3, h4, h5, h6 => by
    simp only [impl_RootOf.l0]
    by_cases hlt : lo < hi
    · rw [if_pos hlt]
      obtain ⟨m, hm, m1, m2⟩ := mid_of lo hi (by omega) hlt h2
      rw [hm, if_neg (by omega)]
      have hq : 0 ≤ Int.tdiv n m ∧ Int.tdiv n m ≤ n := by
        rw [Int.tdiv_eq_ediv_of_nonneg (by omega)]
        exact ⟨Int.ediv_nonneg (by omega) (by omega), Int.ediv_le_self _ (by omega)⟩
      rw [w64 (x := Int.tdiv n m) (by omega) (by omega), w64 (x := m - 1) (by omega) (by omega)]
      have hi_ := le_div_iff m n (by omega) (by omega)
      by_cases hle : m ≤ Int.tdiv n m
      · rw [if_pos hle]
        exact impl_root_loop n hn0 hn1 (d - 1) k m hi (by omega) m2 h2 (by omega) (by omega) (hi_.1 hle) h6
      · rw [if_neg hle]
        refine impl_root_loop n hn0 hn1 (d - 1) k lo (m - 1) h0 (by omega) (by omega) (by omega) (by omega) h5 (.inr ?_)
        rw [show m - 1 + 1 = m by omega]
        have : ¬ m * m ≤ n := fun h => hle (hi_.2 h)
        omega
    · rw [if_neg hlt]
      have : lo = hi := by omega
      subst this
      exact ⟨lo, rfl, by omega, h2, .inr h5, h6⟩
theorem roots (n : Int) (h0 : -9223372036854775808 ≤ n) (h1 : n ≤ 9223372036854775807) : ∃ r, (∀ k, 3037000500 ≤ k → spec_l01Root.f k n = some r) ∧ (∀ k, 3037000500 ≤ k → impl_RootOf.f k n = some r) ∧ IsRoot n r := by
  obtain ⟨r, hr, hR⟩ := spec_root_loop n 3037000499 3037000500 0 3037000499 (by omega) (by omega) (by omega) (by omega) (by omega) (.inl rfl) (.inl rfl)
  refine ⟨r, fun k hk => at_rounds (fun k => spec_l01Root.mono_l k _ _ _) hk hr, ?_, hR⟩
  unfold impl_RootOf.f
  by_cases hn : n < 1
  · refine fun k _ => ?_
    rw [if_pos hn]
    have : IsRoot n 0 := ⟨by omega, by omega, .inl rfl, .inr (by omega)⟩
    rw [root_one hR this]
  · obtain ⟨q, hq, hQ⟩ := impl_root_loop n (by omega) h1 3037000498 3037000499 1 3037000499 (by omega) (by omega) (by omega) (by omega) (by omega) (by omega) (.inl rfl)
    refine fun k hk => ?_
    rw [if_neg hn, root_one hR hQ]
    exact at_rounds (fun k => impl_RootOf.mono_l k _ _ _) (by omega) hq

theorem FnExactRootOf : laws_FnExactRootOf.Pure := by
  intro n hn
  have hn := wf64 hn
  obtain ⟨r, h1, h2, _⟩ := roots n hn.1 hn.2
  refine ⟨3037000501, ?_⟩
  unfold laws_FnExactRootOf.f spec_RootOf.f
  rw [h1 _ (by omega)]
  simp only [Option.bind_some]
  rw [h2 _ (by omega)]
  simp

end Go.Proofs.Ytboagnbadbjggaa.Pure
