/- The plain law: what FnExactTurned computes is true at every input. -/
import Derived.Test.YtboagnbadbjggaaQFnExactTurnedx
namespace Go.Proofs.Ytboagnbadbjggaa.Pure
open Go.RowKit Go.Proofs.Ytboagnbadbjggaa.PFnExactTurned Go.Proofs.YtboagnbadbjggaaW.PrintWords Go.Proofs.YtboagnbadbjggaaW.PrintLast Go.Proofs.YtboagnbadbjggaaW.PrintMore
set_option linter.unusedVariables false
set_option linter.unusedSimpArgs false

theorem w64 {x : Int} (h1 : -9223372036854775808 ≤ x) (h2 : x ≤ 9223372036854775807) : wrap64 x = x := by
  unfold wrap64
  omega
theorem wf64 {n : Int} (h : (Lit.int .i64 n).wf = true) : -9223372036854775808 ≤ n ∧ n ≤ 9223372036854775807 := by
  simp [Lit.wf, IntKind.min, IntKind.max, IntKind.bits, IntKind.signed] at h
  omega
theorem toList_nil_iff (s : ByteArray) : s.toList = ([] : List UInt8) ↔ s.size = 0 := by
  rw [ByteArray.toList_eq, List.eq_nil_iff_length_eq_zero, data_length]

theorem impl_within_eq (n lo hi : Int) : impl_within.f n lo hi = some (decide (lo ≤ n ∧ n ≤ hi)) := by
  unfold impl_within.f
  by_cases h : n ≥ lo
  · rw [if_pos h]
    have : lo ≤ n := h
    simp [this]
  · rw [if_neg h]
    have : ¬ lo ≤ n := h
    simp [this]

theorem spec_l00In_eq (n lo hi : Int) : spec_l00In.f n lo hi = some (decide (lo ≤ n ∧ n ≤ hi)) := by
  unfold spec_l00In.f
  by_cases h : n ≥ lo
  · rw [if_pos h]
    have : lo ≤ n := h
    simp [this]
  · rw [if_neg h]
    have : ¬ lo ≤ n := h
    simp [this]

theorem turn_loops : ∀ (k : Nat) (t x y : Int), spec_l02Turned.l0 k t x y = impl_Turned.l0 k t x y
  | 0, _, _, _ => rfl
  | k + 1, t, x, y => by simp only [spec_l02Turned.l0, impl_Turned.l0, turn_loops k]
theorem turn_ends : ∀ (d k : Nat) (t x y : Int), 0 ≤ t → t ≤ 3 → t < d → d ≤ k → ∃ r, impl_Turned.l0 k t x y = some r
  | d, 0, t, x, y, h0, h1, h2, h3 => absurd h2 (by omega)
  | d, k + 1, t, x, y, h0, h1, h2, h3 => by
    simp only [impl_Turned.l0]
    by_cases h : t > 0
    · rw [if_pos h, w64 (x := t - 1) (by omega) (by omega)]
      exact turn_ends (d - 1) k (t - 1) _ _ (by omega) (by omega) (by omega) (by omega)
    · rw [if_neg h]
      exact ⟨_, rfl⟩
theorem tmod4 {t : Int} (h0 : 0 ≤ t) : 0 ≤ Int.tmod t 4 ∧ Int.tmod t 4 ≤ 3 := by
  rw [Int.tmod_eq_emod_of_nonneg h0]
  omega
/-- Both turn a point alike, with 7 rounds and more. -/
theorem turned_both (x y t : Int) (h0 : 0 ≤ t) (h1 : t ≤ 7) (hx : -20000 ≤ x ∧ x ≤ 20000) (hy : -20000 ≤ y ∧ y ≤ 20000) : ∃ r : Int × Int, (∀ k, 9 ≤ k → spec_l02Turned.f k x y t = some r) ∧ (∀ k, 9 ≤ k → impl_Turned.f k x y t = some r) := by
  have hm := tmod4 h0
  have key : ∃ r : Int × Int, ∀ k, 5 ≤ k → (if t ≥ 4 then impl_Turned.l0 k (Int.tmod t 4) (wrap64 (-x)) y else impl_Turned.l0 k (Int.tmod t 4) x y) = some r := by
    by_cases h : t ≥ 4
    · obtain ⟨r, hr⟩ := turn_ends 4 5 (Int.tmod t 4) (wrap64 (-x)) y hm.1 hm.2 (by omega) (by omega)
      exact ⟨r, fun k hk => by rw [if_pos h]; exact at_rounds (fun k => (impl_Turned.mono_l k).2.2 _ _ _) hk hr⟩
    · obtain ⟨r, hr⟩ := turn_ends 4 5 (Int.tmod t 4) x y hm.1 hm.2 (by omega) (by omega)
      exact ⟨r, fun k hk => by rw [if_neg h]; exact at_rounds (fun k => (impl_Turned.mono_l k).2.2 _ _ _) hk hr⟩
  obtain ⟨r, hr⟩ := key
  refine ⟨r, fun k hk => ?_, fun k hk => ?_⟩
  · obtain ⟨k, rfl⟩ : ∃ m, k = m + 1 := ⟨k - 1, by omega⟩
    have := hr k (by omega)
    unfold spec_l02Turned.f
    simp only [spec_l02Turned.j0, turn_loops]
    exact this
  · obtain ⟨k, rfl⟩ : ∃ m, k = m + 2 := ⟨k - 2, by omega⟩
    have := hr k (by omega)
    unfold impl_Turned.f
    simp only [impl_within_eq, Option.bind_some]
    rw [decide_eq_true (show 0 ≤ t ∧ t ≤ 7 from ⟨h0, h1⟩), decide_eq_true hx, decide_eq_true hy, if_pos rfl, if_pos rfl]
    simp only [impl_Turned.j0, impl_Turned.j1, Bool.not_true, Bool.false_eq_true, if_false]
    rw [← this]
    by_cases h : t ≥ 4
    · rw [if_pos h, if_pos (by omega)]
    · rw [if_neg h, if_neg (by omega)]

theorem FnExactTurned (x y t : Int) (_ : (Lit.int .i64 x).wf = true) (_ : (Lit.int .i64 y).wf = true) (_ : (Lit.int .i64 t).wf = true) : ∃ k, laws_FnExactTurned.f k x y t = some true := by
  refine ⟨9, ?_⟩
  unfold laws_FnExactTurned.f laws_toPoint.f laws_eqPoint.f spec_Turned.f spec_l02Turn.f
  simp only [spec_l00In_eq, Option.bind_some]
  by_cases ht : 0 ≤ t ∧ t ≤ 7
  · by_cases hx : -20000 ≤ x ∧ x ≤ 20000
    · by_cases hy : -20000 ≤ y ∧ y ≤ 20000
      · obtain ⟨r, h1, h2⟩ := turned_both x y t ht.1 ht.2 hx hy
        rw [decide_eq_true ht, decide_eq_true hx, decide_eq_true hy, h1 9 (by omega), h2 9 (by omega)]
        simp
      · unfold impl_Turned.f
        simp only [impl_within_eq, Option.bind_some, impl_Turned.j0]
        rw [decide_eq_true ht, decide_eq_true hx, decide_eq_false hy]
        simp
    · unfold impl_Turned.f
      simp only [impl_within_eq, Option.bind_some, impl_Turned.j0]
      rw [decide_eq_true ht, decide_eq_false hx]
      simp
  · unfold impl_Turned.f
    simp only [impl_within_eq, Option.bind_some, impl_Turned.j0]
    rw [decide_eq_false ht]
    simp

end Go.Proofs.Ytboagnbadbjggaa.Pure
