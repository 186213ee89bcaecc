/- The plain law: what FnExactTurnsOf computes is true at every input. -/
import Derived.Test.YtfhgfdphdmlpbaaLFnExactTurnsOfb
namespace Go.Proofs.Ytfhgfdphdmlpbaa.Pure
open Go.RowKit Go.Proofs.Ytfhgfdphdmlpbaa.PFnExactTurnsOf Go.Proofs.YtfhgfdphdmlpbaaW.PrintWords Go.Proofs.YtfhgfdphdmlpbaaW.PrintLast Go.Proofs.YtfhgfdphdmlpbaaW.PrintMore Go.Proofs.Ytfhgfdphdmlpbaa.MaGeoA Go.Proofs.Ytfhgfdphdmlpbaa.MaGeoB Go.Proofs.Ytfhgfdphdmlpbaa.MaGeoC Go.Proofs.Ytfhgfdphdmlpbaa.MaGeoF
set_option linter.unusedVariables false
set_option linter.unusedSimpArgs false

theorem turn_loops : ∀ (k : Nat) (t x y : Int), spec_l02Turned.l0 k t x y = impl_Turned.l0 k t x y
  | 0, _, _, _ => rfl
  | k + 1, t, x, y => by simp only [spec_l02Turned.l0, impl_Turned.l0, turn_loops k]
theorem turn_ends : ∀ (d k : Nat) (t x y : Int), 0 ≤ t → t ≤ 3 → t < d → d ≤ k → ∃ r, impl_Turned.l0 k t x y = some r
  | d, 0, t, x, y, h0, h1, h2, h3 => absurd h2 (by omega)
  | d, k + 1, t, x, y, h0, h1, h2, h3 => by
    simp only [impl_Turned.l0]
    by_cases h : t > 0
    · rw [if_pos h, w64 (x := t - 1) (by omega) (by omega)]
      exact turn_ends (d - 1) k (t - 1) _ _ (by omega) (by omega) (by omega) (by omega)
    · rw [if_neg h]
      exact ⟨_, rfl⟩
theorem tmod4 {t : Int} (h0 : 0 ≤ t) : 0 ≤ Int.tmod t 4 ∧ Int.tmod t 4 ≤ 3 := by
  rw [Int.tmod_eq_emod_of_nonneg h0]
  omega
/-- Both turn a point alike, with 7 rounds and more. -/
theorem turned_both (x y t : Int) (h0 : 0 ≤ t) (h1 : t ≤ 7) (hx : -20000 ≤ x ∧ x ≤ 20000) (hy : -20000 ≤ y ∧ y ≤ 20000) : ∃ r : Int × Int, (∀ k, 9 ≤ k → spec_l02Turned.f k x y t = some r) ∧ (∀ k, 9 ≤ k → impl_Turned.f k x y t = some r) := by
  have hm := tmod4 h0
  have key : ∃ r : Int × Int, ∀ k, 5 ≤ k → (if t ≥ 4 then impl_Turned.l0 k (Int.tmod t 4) (wrap64 (-x)) y else impl_Turned.l0 k (Int.tmod t 4) x y) = some r := by
    by_cases h : t ≥ 4
    · obtain ⟨r, hr⟩ := turn_ends 4 5 (Int.tmod t 4) (wrap64 (-x)) y hm.1 hm.2 (by omega) (by omega)
      exact ⟨r, fun k hk => by rw [if_pos h]; exact at_rounds (fun k => (impl_Turned.mono_l k).2.2 _ _ _) hk hr⟩
    · obtain ⟨r, hr⟩ := turn_ends 4 5 (Int.tmod t 4) x y hm.1 hm.2 (by omega) (by omega)
      exact ⟨r, fun k hk => by rw [if_neg h]; exact at_rounds (fun k => (impl_Turned.mono_l k).2.2 _ _ _) hk hr⟩
  obtain ⟨r, hr⟩ := key
  refine ⟨r, fun k hk => ?_, fun k hk => ?_⟩
  · obtain ⟨k, rfl⟩ : ∃ m, k = m + 1 := ⟨k - 1, by omega⟩
    have := hr k (by omega)
    unfold spec_l02Turned.f
    simp only [spec_l02Turned.j0, turn_loops]
    exact this
  · obtain ⟨k, rfl⟩ : ∃ m, k = m + 2 := ⟨k - 2, by omega⟩
    have := hr k (by omega)
    unfold impl_Turned.f
    simp only [impl_within_eq, Option.bind_some]
    rw [decide_eq_true (show 0 ≤ t ∧ t ≤ 7 from ⟨h0, h1⟩), decide_eq_true hx, decide_eq_true hy, if_pos rfl, if_pos rfl]
    simp only [impl_Turned.j0, impl_Turned.j1, Bool.not_true, Bool.false_eq_true, if_false]
    rw [← this]
    by_cases h : t ≥ 4
    · rw [if_pos h, if_pos (by omega)]
    · rw [if_neg h, if_neg (by omega)]

theorem impl_bounds_ends (p : List S51) (hn : p.length ≤ 1000000000) : ∀ (d i : Nat) (a b c e : Int), p.length - i ≤ d → ∃ r, ∀ k, d < k → impl_bounds.l0 k p (p.length : Int) i a b c e = some r := by
  intro d
  induction d with
  | zero =>
    intro i a b c e hi
    refine ⟨(a, b, c, e), fun k hk => ?_⟩
    obtain ⟨k, rfl⟩ : ∃ m, k = m + 1 := ⟨k - 1, by omega⟩
    simp only [impl_bounds.l0]
    rw [if_neg (by omega)]
  | succ d ih =>
    intro i a b c e hi
    by_cases hlt : i < p.length
    · obtain ⟨r, hr⟩ := ih (i + 1) (mn a ((p.getD i z51).f0)) (mn b ((p.getD i z51).f1)) (mx c ((p.getD i z51).f0)) (mx e ((p.getD i z51).f1)) (by omega)
      refine ⟨r, fun k hk => ?_⟩
      obtain ⟨k, rfl⟩ : ∃ m, k = m + 1 := ⟨k - 1, by omega⟩
      simp only [impl_bounds.l0]
      rw [if_pos (by omega), if_pos (by omega), if_pos (by omega), rdN, w1 (by omega)]
      exact hr k (by omega)
    · refine ⟨(a, b, c, e), fun k hk => ?_⟩
      obtain ⟨k, rfl⟩ : ∃ m, k = m + 1 := ⟨k - 1, by omega⟩
      simp only [impl_bounds.l0]
      rw [if_neg (by omega)]
theorem impl_bounds_one (p : List S51) (h0 : 0 < p.length) (k : Nat) : impl_bounds.f (k + 1) p = impl_bounds.l0 k p (p.length : Int) 1 (p.getD 0 z51).f0 (p.getD 0 z51).f1 (p.getD 0 z51).f0 (p.getD 0 z51).f1 := by
  unfold impl_bounds.f
  have e : rd_T51 p 0 = p.getD 0 z51 := rdN p 0
  rw [if_pos (by omega)]
  simp only [impl_bounds.l0]
  rw [if_pos (by omega), if_pos (by omega), if_pos (by omega), e, w64 (x := 0 + 1) (by omega) (by omega)]
  have q : ∀ x : Int, mn x x = x := fun x => by unfold mn; split <;> rfl
  have r : ∀ x : Int, mx x x = x := fun x => by unfold mx; split <;> rfl
  rw [q, q, r, r]
  rfl

theorem bounds_lock (p : List S51) (hn : p.length ≤ 1000000000) : ∀ (k : Nat) (i a b c e : Int), spec_l03Bounds.l0 k p i a b c e = impl_bounds.l0 k p (p.length : Int) i a b c e
  | 0, _, _, _, _, _ => rfl
  | k + 1, i, a, b, c, e => by
    simp only [spec_l03Bounds.l0, impl_bounds.l0, spec_min_eq, spec_max_eq, Option.bind_some, bounds_lock p hn k]
    by_cases hi : i < (p.length : Int)
    · simp only [hi, if_true]
    · simp only [hi, if_false]
theorem bounds_eq (p : List S51) (h0 : 0 < p.length) (hn : p.length ≤ 1000000000) : ∃ r, ∀ k, p.length + 1 < k → spec_l03Bounds.f k p = some r ∧ impl_bounds.f k p = some r := by
  obtain ⟨r, hr⟩ := impl_bounds_ends p hn p.length 1 (p.getD 0 z51).f0 (p.getD 0 z51).f1 (p.getD 0 z51).f0 (p.getD 0 z51).f1 (by omega)
  refine ⟨r, fun k hk => ⟨?_, ?_⟩⟩
  · unfold spec_l03Bounds.f
    have e : rd_T51 p 0 = p.getD 0 z51 := rdN p 0
    rw [if_pos (by omega), bounds_lock p hn, e]
    exact hr k (by omega)
  · obtain ⟨k, rfl⟩ : ∃ m, k = m + 1 := ⟨k - 1, by omega⟩
    rw [impl_bounds_one p h0]
    exact hr k (by omega)

def shiftL (p : List S51) (dx dy : Int) : List S51 := p.map fun s => ⟨wrap64 (s.f0 + dx), wrap64 (s.f1 + dy)⟩
theorem shiftL_length (p : List S51) (dx dy : Int) : (shiftL p dx dy).length = p.length := by
  unfold shiftL
  rw [List.length_map]
theorem shiftL_take (p : List S51) (dx dy : Int) (i : Nat) (h : i < p.length) : (shiftL p dx dy).take (i + 1) = (shiftL p dx dy).take i ++ [⟨wrap64 ((p.getD i z51).f0 + dx), wrap64 ((p.getD i z51).f1 + dy)⟩] := by
  rw [List.take_succ_eq_append_getElem (by rw [shiftL_length]; exact h)]
  congr 2
  unfold shiftL
  rw [List.getElem_map, List.getD_eq_getElem?_getD, List.getElem?_eq_getElem h]
  rfl
theorem impl_shifted_loop (p : List S51) (dx dy : Int) (hn : p.length ≤ 1000000000) : ∀ (d k i : Nat), i ≤ p.length → p.length - i ≤ d → d < k → impl_shifted.l0 k dx dy ((shiftL p dx dy).take i) p (p.length : Int) i = some (shiftL p dx dy)
  | d, 0, i, _, _, h => absurd h (by omega)
  | d, k + 1, i, hi, h1, h2 => by
    simp only [impl_shifted.l0]
    by_cases hlt : i < p.length
    · rw [if_pos (by omega), if_pos (by omega), if_pos (by omega), if_pos (by rw [List.length_take, shiftL_length]; omega), rdN, w1 (by omega), ← shiftL_take p dx dy i hlt]
      exact impl_shifted_loop p dx dy hn (d - 1) k (i + 1) (by omega) (by omega) (by omega)
    · rw [if_neg (by omega), List.take_of_length_le (by rw [shiftL_length]; omega)]
theorem impl_shifted_eq (p : List S51) (dx dy : Int) (hn : p.length ≤ 1000000000) (k : Nat) (hk : p.length < k) : impl_shifted.f k p dx dy = some (shiftL p dx dy) := by
  unfold impl_shifted.f
  have := impl_shifted_loop p dx dy hn p.length k 0 (by omega) (by omega) hk
  rw [List.take_zero] at this
  exact this

theorem spec_shifted_loop (p : List S51) (dx dy : Int) (hn : p.length ≤ 1000000000) : ∀ (d k i : Nat), i ≤ p.length → p.length - i ≤ d → d < k → spec_l03Shifted.l0 k p dx dy ((shiftL p dx dy).take i) i = some (shiftL p dx dy)
  | d, 0, i, _, _, h => absurd h (by omega)
  | d, k + 1, i, hi, h1, h2 => by
    simp only [spec_l03Shifted.l0]
    by_cases hlt : i < p.length
    · rw [if_pos (by omega), if_pos (by omega), if_pos (by rw [List.length_take, shiftL_length]; omega), rdN, w1 (by omega), ← shiftL_take p dx dy i hlt]
      exact spec_shifted_loop p dx dy hn (d - 1) k (i + 1) (by omega) (by omega) (by omega)
    · rw [if_neg (by omega), List.take_of_length_le (by rw [shiftL_length]; omega)]
theorem spec_shifted_eq (p : List S51) (dx dy : Int) (hn : p.length ≤ 1000000000) (k : Nat) (hk : p.length < k) : spec_l03Shifted.f k p dx dy = some (shiftL p dx dy) := by
  unfold spec_l03Shifted.f
  have := spec_shifted_loop p dx dy hn p.length k 0 (by omega) (by omega) hk
  rw [List.take_zero] at this
  exact this

theorem getDz_ext (x y : List S51) (h : x.length = y.length) (e : ∀ i, i < x.length → x.getD i z51 = y.getD i z51) : x = y := by
  apply List.ext_getElem h
  intro i h1 h2
  have := e i h1
  rw [List.getD_eq_getElem?_getD, List.getD_eq_getElem?_getD, List.getElem?_eq_getElem h1, List.getElem?_eq_getElem h2] at this
  exact this
theorem getDs_self (x : List S51) (i : Nat) (v : S51) (h : i < x.length) : (x.set i v).getD i z51 = v := by
  rw [List.getD_eq_getElem?_getD, List.getElem?_set_self h]
  rfl
theorem getDs_ne (x : List S51) (i j : Nat) (v : S51) (h : i ≠ j) : (x.set i v).getD j z51 = x.getD j z51 := by
  rw [List.getD_eq_getElem?_getD, List.getElem?_set_ne h, List.getD_eq_getElem?_getD]
/-- A point turned. -/
def turnD (x y t : Int) : Int × Int := (impl_Turned.f 9 x y t).getD (0, 0)
theorem turnD_eq (x y t : Int) (h0 : 0 ≤ t) (h1 : t ≤ 7) (ho : okP x y = true) (k : Nat) (hk : 9 ≤ k) : spec_l02Turned.f k x y t = some (turnD x y t) ∧ impl_Turned.f k x y t = some (turnD x y t) := by
  obtain ⟨a, b⟩ := (okP_iff x y).1 ho
  obtain ⟨r, g1, g2⟩ := turned_both x y t h0 h1 (by omega) (by omega)
  have e : turnD x y t = r := by
    unfold turnD
    rw [g2 9 (Nat.le_refl _)]
    rfl
  rw [e]
  exact ⟨g1 k hk, g2 k hk⟩
def tpt (t : Int) (s : S51) : S51 := ⟨(turnD s.f0 s.f1 t).1, (turnD s.f0 s.f1 t).2⟩
def mapT (p : List S51) (t : Int) : List S51 := p.map (tpt t)
theorem mapT_length (p : List S51) (t : Int) : (mapT p t).length = p.length := by
  unfold mapT
  rw [List.length_map]
theorem mapT_getD (p : List S51) (t : Int) (i : Nat) (hi : i < p.length) : (mapT p t).getD i z51 = tpt t (p.getD i z51) := by
  unfold mapT
  rw [List.getD_eq_getElem?_getD, List.getElem?_map, List.getElem?_eq_getElem hi, List.getD_eq_getElem?_getD, List.getElem?_eq_getElem hi]
  rfl
/-- The first stays, the others the other way round. -/
def backT (x : List S51) : List S51 := (List.range x.length).map fun i => x.getD ((x.length - i) % x.length) z51
theorem backT_length (x : List S51) : (backT x).length = x.length := by
  unfold backT
  rw [List.length_map, List.length_range]
theorem backT_getD (x : List S51) (i : Nat) (hi : i < x.length) : (backT x).getD i z51 = x.getD ((x.length - i) % x.length) z51 := by
  unfold backT
  rw [List.getD_eq_getElem?_getD, List.getElem?_map, List.getElem?_range hi]
  rfl
theorem tail_loop (x : List S51) (m : Nat) (hM : m ≤ 1000000000) : ∀ (d k i : Nat) (s : List S51), i ≤ m → m - i ≤ d → d < k → s.length = m + 1 → s.getD 0 z51 = x.getD 0 z51 → (∀ a, a < m → s.getD (a + 1) z51 = if a < i ∨ m ≤ a + i then x.getD (m - a) z51 else x.getD (a + 1) z51) →
    ∃ y, impl_Tail.l0 m k s i ((m : Int) - 1 - i) = some y ∧ y.length = m + 1 ∧ y.getD 0 z51 = x.getD 0 z51 ∧ ∀ a, a < m → y.getD (a + 1) z51 = x.getD (m - a) z51
  | d, 0, i, s, _, _, h, _, _, _ => absurd h (by omega)
  | d, k + 1, i, s, hi, h1, h2, hl, hz, ha => by
    simp only [impl_Tail.l0]
    by_cases c : (i : Int) < (m : Int) - 1 - i
    · have e2 : ((i : Int) + 1).toNat = i + 1 := by omega
      have e3 : ((m : Int) - 1 - i + 1).toNat = m - i := by omega
      have r2 : rd_T51 s ((i : Int) + 1) = x.getD (i + 1) z51 := by
        unfold rd_T51
        rw [e2, ha i (by omega), if_neg (by omega)]
      have r3 : rd_T51 s ((m : Int) - 1 - i + 1) = x.getD (m - i) z51 := by
        unfold rd_T51
        rw [e3, show m - i = (m - 1 - i) + 1 by omega, ha (m - 1 - i) (by omega), if_neg (by omega)]
      rw [if_pos c, if_pos (by omega), if_pos (by omega), if_pos (by omega), if_pos (by omega), r2, r3, e2, e3, w1 (by omega), w64 (x := (m : Int) - 1 - i - 1) (by omega) (by omega), show (m : Int) - 1 - i - 1 = (m : Int) - 1 - ((i + 1 : Nat) : Int) by omega]
      refine tail_loop x m hM (d - 1) k (i + 1) _ (by omega) (by omega) (by omega) (by simp [hl]) ?_ (fun a h => ?_)
      · rw [getDs_ne _ _ _ _ (by omega), getDs_ne _ _ _ _ (by omega)]
        exact hz
      · by_cases q1 : a + 1 = m - i
        · rw [q1, getDs_self _ _ _ (by simp; omega), if_pos (by omega), show m - a = i + 1 by omega]
        · rw [getDs_ne _ _ _ _ (by omega)]
          by_cases q2 : a = i
          · rw [q2, getDs_self _ _ _ (by omega), if_pos (by omega)]
          · rw [getDs_ne _ _ _ _ (by omega), ha a h]
            by_cases q3 : a < i ∨ m ≤ a + i
            · rw [if_pos q3, if_pos (by omega)]
            · rw [if_neg q3, if_neg (by omega)]
    · rw [if_neg c]
      refine ⟨s, rfl, hl, hz, fun a h => ?_⟩
      rw [ha a h]
      by_cases q : a < i ∨ m ≤ a + i
      · rw [if_pos q]
      · rw [if_neg q, show m - a = a + 1 by omega]
theorem tail_eq (x : List S51) (m : Nat) (hm : x.length = m + 1) (hM : m ≤ 1000000000) (k : Nat) (hk : m < k) : impl_Tail.f k m x = some (backT x) := by
  unfold impl_Tail.f
  obtain ⟨y, e, hl, hz, ha⟩ := tail_loop x m hM m k 0 x (by omega) (by omega) hk hm rfl (fun a h => by rw [if_neg (by omega)])
  have hy : y = backT x := by
    refine getDz_ext _ _ (by rw [hl, backT_length, hm]) (fun i hi => ?_)
    rw [hl] at hi
    rw [backT_getD x i (by omega), hm]
    by_cases h0 : i = 0
    · rw [h0, hz, Nat.sub_zero, Nat.mod_self]
    · obtain ⟨a, rfl⟩ : ∃ a, i = a + 1 := ⟨i - 1, by omega⟩
      rw [ha a (by omega), show m + 1 - (a + 1) = m - a by omega, Nat.mod_eq_of_lt (by omega)]
  have e0 : (m : Int) - 1 - ((0 : Nat) : Int) = (m : Int) - 1 := by omega
  rw [e0] at e
  rw [w64 (x := (m : Int) - 1) (by omega) (by omega), ← hy]
  exact e
/-- A polygon turned, not yet moved. -/
def turnL (p : List S51) (t : Int) : List S51 := if t > 3 then backT (mapT p t) else mapT p t
theorem turnL_length (p : List S51) (t : Int) : (turnL p t).length = p.length := by
  unfold turnL
  split
  · rw [backT_length, mapT_length]
  · rw [mapT_length]
theorem take_more (q : List S51) (i : Nat) (h : i < q.length) : q.take (i + 1) = q.take i ++ [q.getD i z51] := by
  rw [List.take_succ_eq_append_getElem h, List.getD_eq_getElem?_getD, List.getElem?_eq_getElem h]
  rfl
theorem impl_turn_loop (p : List S51) (t : Int) (h0 : 0 ≤ t) (h1 : t ≤ 7) (hok : (p.all fun s => okP s.f0 s.f1) = true) (hn : p.length ≤ 1000000) (K : Nat) (hK : 9 ≤ K) (r : List S51) (hr : ∀ k, K ≤ k → (if t > 3 then (if 1 < (mapT p t).length then ((impl_Tail.f k ((mapT p t).length - 1) (mapT p t)).bind fun y => (impl_turnPoints.g k y)) else (none)) else (impl_turnPoints.g k (mapT p t))) = some r) :
    ∀ (d k i : Nat), i ≤ p.length → p.length - i ≤ d → K + d + 1 ≤ k → impl_turnPoints.l0 k p t ((mapT p t).take i) i = some r
  | d, 0, i, _, _, h => absurd h (by omega)
  | d, k + 1, i, hi, h2, h3 => by
    simp only [impl_turnPoints.l0]
    by_cases c : i < p.length
    · have hp : okP (p.getD i z51).f0 (p.getD i z51).f1 = true := by
        have e : p.getD i z51 = p[i] := by
          rw [List.getD_eq_getElem?_getD, List.getElem?_eq_getElem c]
          rfl
        rw [e]
        exact List.all_eq_true.1 hok _ (List.getElem_mem c)
      rw [if_pos (by omega), if_pos (by omega), rdN, (turnD_eq _ _ t h0 h1 hp k (by omega)).2, Option.bind_some, if_pos (by rw [List.length_take, mapT_length]; omega), w1 (by omega)]
      have e : (mapT p t).take i ++ [(⟨(turnD (p.getD i z51).f0 (p.getD i z51).f1 t).1, (turnD (p.getD i z51).f0 (p.getD i z51).f1 t).2⟩ : S51)] = (mapT p t).take (i + 1) := by
        rw [take_more _ i (by rw [mapT_length]; exact c), mapT_getD p t i c]
        rfl
      rw [e]
      exact impl_turn_loop p t h0 h1 hok hn K hK r hr (d - 1) k (i + 1) (by omega) (by omega) (by omega)
    · rw [if_neg (by omega), List.take_of_length_le (by rw [mapT_length]; omega)]
      exact hr k (by omega)
theorem spec_turn_loop (p : List S51) (t : Int) (h0 : 0 ≤ t) (h1 : t ≤ 7) (hok : (p.all fun s => okP s.f0 s.f1) = true) (hn : p.length ≤ 1000000) (K : Nat) (hK : 9 ≤ K) (r : List S51) (hr : ∀ k, K ≤ k → ((spec_l03Bounds.f k (turnL p t)).bind fun bt => ((spec_l03Shifted.f k (turnL p t) (wrap64 (-bt.1)) (wrap64 (-bt.2.1))).bind fun t2 => (some t2))) = some r) :
    ∀ (d k i : Nat), i ≤ p.length → p.length - i ≤ d → K + d + 1 ≤ k → spec_l03Turned.l0 k p t ((turnL p t).take i) i = some r
  | d, 0, i, _, _, h => absurd h (by omega)
  | d, k + 1, i, hi, h2, h3 => by
    simp only [spec_l03Turned.l0]
    by_cases c : i < p.length
    · have hall : ∀ j, j < p.length → okP (p.getD j z51).f0 (p.getD j z51).f1 = true := by
        intro j hj
        have e : p.getD j z51 = p[j] := by
          rw [List.getD_eq_getElem?_getD, List.getElem?_eq_getElem hj]
          rfl
        rw [e]
        exact List.all_eq_true.1 hok _ (List.getElem_mem hj)
      have next := spec_turn_loop p t h0 h1 hok hn K hK r hr (d - 1) k (i + 1) (by omega) (by omega) (by omega)
      rw [take_more _ i (by rw [turnL_length]; exact c)] at next
      rw [if_pos (by omega)]
      by_cases ht : t ≥ 4
      · have hm := Nat.mod_lt (p.length - i) (show 0 < p.length by omega)
        have e1 : Int.tmod (wrap64 ((p.length : Int) - i)) (p.length : Int) = (((p.length - i) % p.length : Nat) : Int) := by
          rw [w64 (by omega) (by omega), Int.tmod_eq_emod_of_nonneg (by omega), Int.natCast_emod, show (p.length : Int) - i = ((p.length - i : Nat) : Int) by omega]
        rw [if_pos ht, if_neg (by omega), e1, if_pos (by omega), if_pos (by omega), rdN, (turnD_eq _ _ t h0 h1 (hall _ hm) k (by omega)).1, Option.bind_some, if_pos (by rw [List.length_take, turnL_length]; omega), w1 (by omega)]
        have e2 : (turnL p t).getD i z51 = ⟨(turnD (p.getD ((p.length - i) % p.length) z51).f0 (p.getD ((p.length - i) % p.length) z51).f1 t).1, (turnD (p.getD ((p.length - i) % p.length) z51).f0 (p.getD ((p.length - i) % p.length) z51).f1 t).2⟩ := by
          unfold turnL
          rw [if_pos (by omega), backT_getD _ i (by rw [mapT_length]; exact c), mapT_length, mapT_getD p t _ hm]
          rfl
        rw [e2] at next
        exact next
      · rw [if_neg ht, if_pos (by omega), rdN, (turnD_eq _ _ t h0 h1 (hall i c) k (by omega)).1, Option.bind_some, if_pos (by rw [List.length_take, turnL_length]; omega), w1 (by omega)]
        have e2 : (turnL p t).getD i z51 = ⟨(turnD (p.getD i z51).f0 (p.getD i z51).f1 t).1, (turnD (p.getD i z51).f0 (p.getD i z51).f1 t).2⟩ := by
          unfold turnL
          rw [if_neg (by omega), mapT_getD p t i c]
          rfl
        rw [e2] at next
        exact next
    · rw [if_neg (by omega), List.take_of_length_le (by rw [turnL_length]; omega)]
      exact hr k (by omega)
/-- Both turn a polygon alike. -/
theorem turned_eq (p : List S51) (t : Int) (h0 : 0 ≤ t) (h1 : t ≤ 7) (hok : (p.all fun s => okP s.f0 s.f1) = true) (h3 : 3 ≤ p.length) (hn : p.length ≤ 24) : ∃ r : List S51, r.length = p.length ∧ ∀ k, 100 ≤ k → spec_l03Turned.f k p t = some r ∧ impl_turnPoints.f k p t = some r := by
  obtain ⟨b, hb⟩ := bounds_eq (turnL p t) (by rw [turnL_length]; omega) (by rw [turnL_length]; omega)
  rw [turnL_length] at hb
  refine ⟨shiftL (turnL p t) (wrap64 (-b.1)) (wrap64 (-b.2.1)), by rw [shiftL_length, turnL_length], fun k hk => ⟨?_, ?_⟩⟩
  · unfold spec_l03Turned.f
    have := spec_turn_loop p t h0 h1 hok (by omega) 50 (by omega) (shiftL (turnL p t) (wrap64 (-b.1)) (wrap64 (-b.2.1))) (fun k hk => by
      rw [(hb k (by omega)).1, Option.bind_some, spec_shifted_eq _ _ _ (by rw [turnL_length]; omega) k (by rw [turnL_length]; omega)]
      rfl) p.length k 0 (by omega) (by omega) (by omega)
    rw [List.take_zero] at this
    exact this
  · unfold impl_turnPoints.f
    have hg : ∀ k, 50 ≤ k → impl_turnPoints.g k (turnL p t) = some (shiftL (turnL p t) (wrap64 (-b.1)) (wrap64 (-b.2.1))) := fun k hk => by
      unfold impl_turnPoints.g
      rw [(hb k (by omega)).2, Option.bind_some, impl_shifted_eq _ _ _ (by rw [turnL_length]; omega) k (by rw [turnL_length]; omega)]
      rfl
    have := impl_turn_loop p t h0 h1 hok (by omega) 50 (by omega) (shiftL (turnL p t) (wrap64 (-b.1)) (wrap64 (-b.2.1))) (fun k hk => by
      have hl := mapT_length p t
      have hgk := hg k hk
      unfold turnL at hgk ⊢
      by_cases c : t > 3
      · rw [if_pos c, if_pos (by omega), tail_eq (mapT p t) ((mapT p t).length - 1) (by omega) (by omega) k (by omega), Option.bind_some]
        rw [if_pos c] at hgk ⊢
        exact hgk
      · rw [if_neg c]
        rw [if_neg c] at hgk ⊢
        exact hgk) p.length k 0 (by omega) (by omega) (by omega)
    rw [List.take_zero] at this
    exact this
-- cut here

end Go.Proofs.Ytfhgfdphdmlpbaa.Pure
