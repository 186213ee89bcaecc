/- The plain law: what FnExactShiftPolygon computes is true at every input. -/
import Derived.Test.YtkobmkdjmpnojaaLFnExactShiftPolygonb
namespace Go.Proofs.Ytkobmkdjmpnojaa.Pure
open Go.RowKit Go.Proofs.Ytkobmkdjmpnojaa.PFnExactShiftPolygon Go.Proofs.YtkobmkdjmpnojaaW.PrintWords Go.Proofs.YtkobmkdjmpnojaaW.PrintLast Go.Proofs.YtkobmkdjmpnojaaW.PrintMore
set_option linter.unusedVariables false
set_option linter.unusedSimpArgs false

def shiftL (p : List S30) (dx dy : Int) : List S30 := p.map fun s => ⟨wrap64 (s.f0 + dx), wrap64 (s.f1 + dy)⟩
theorem shiftL_length (p : List S30) (dx dy : Int) : (shiftL p dx dy).length = p.length := by
  unfold shiftL
  rw [List.length_map]
theorem shiftL_take (p : List S30) (dx dy : Int) (i : Nat) (h : i < p.length) : (shiftL p dx dy).take (i + 1) = (shiftL p dx dy).take i ++ [⟨wrap64 ((p.getD i z30).f0 + dx), wrap64 ((p.getD i z30).f1 + dy)⟩] := by
  rw [List.take_succ_eq_append_getElem (by rw [shiftL_length]; exact h)]
  congr 2
  unfold shiftL
  rw [List.getElem_map, List.getD_eq_getElem?_getD, List.getElem?_eq_getElem h]
  rfl
theorem impl_shifted_loop (p : List S30) (dx dy : Int) (hn : p.length ≤ 1000000000) : ∀ (d k i : Nat), i ≤ p.length → p.length - i ≤ d → d < k → impl_shifted.l0 k dx dy ((shiftL p dx dy).take i) p (p.length : Int) i = some (shiftL p dx dy)
  | d, 0, i, _, _, h => absurd h (by omega)
  | d, k + 1, i, hi, h1, h2 => by
    simp only [impl_shifted.l0]
    by_cases hlt : i < p.length
    · rw [if_pos (by omega), if_pos (by omega), if_pos (by omega), if_pos (by rw [List.length_take, shiftL_length]; omega), rdN, w1 (by omega), ← shiftL_take p dx dy i hlt]
      exact impl_shifted_loop p dx dy hn (d - 1) k (i + 1) (by omega) (by omega) (by omega)
    · rw [if_neg (by omega), List.take_of_length_le (by rw [shiftL_length]; omega)]
theorem impl_shifted_eq (p : List S30) (dx dy : Int) (hn : p.length ≤ 1000000000) (k : Nat) (hk : p.length < k) : impl_shifted.f k p dx dy = some (shiftL p dx dy) := by
  unfold impl_shifted.f
  have := impl_shifted_loop p dx dy hn p.length k 0 (by omega) (by omega) hk
  rw [List.take_zero] at this
  exact this

theorem spec_shifted_loop (p : List S30) (dx dy : Int) (hn : p.length ≤ 1000000000) : ∀ (d k i : Nat), i ≤ p.length → p.length - i ≤ d → d < k → spec_l03Shifted.l0 k p dx dy ((shiftL p dx dy).take i) i = some (shiftL p dx dy)
  | d, 0, i, _, _, h => absurd h (by omega)
  | d, k + 1, i, hi, h1, h2 => by
    simp only [spec_l03Shifted.l0]
    by_cases hlt : i < p.length
    · rw [if_pos (by omega), if_pos (by omega), if_pos (by rw [List.length_take, shiftL_length]; omega), rdN, w1 (by omega), ← shiftL_take p dx dy i hlt]
      exact spec_shifted_loop p dx dy hn (d - 1) k (i + 1) (by omega) (by omega) (by omega)
    · rw [if_neg (by omega), List.take_of_length_le (by rw [shiftL_length]; omega)]
theorem spec_shifted_eq (p : List S30) (dx dy : Int) (hn : p.length ≤ 1000000000) (k : Nat) (hk : p.length < k) : spec_l03Shifted.f k p dx dy = some (shiftL p dx dy) := by
  unfold spec_l03Shifted.f
  have := spec_shifted_loop p dx dy hn p.length k 0 (by omega) (by omega) hk
  rw [List.take_zero] at this
  exact this

/-- The law's points as the program's. -/
def conv (l : List S24) : List S30 := l.map fun s => ⟨s.f0, s.f1⟩
theorem conv_length (l : List S24) : (conv l).length = l.length := by
  unfold conv
  rw [List.length_map]
theorem sz_small (l : List S24) (h : l.length ≤ 1048576) : laws_szPointS.f l 1048576 = some (1048576 - (l.length : Int)) := by
  unfold laws_szPointS.f
  rw [w64 (by omega) (by omega), if_neg (by omega)]
theorem sz_large (l : List S24) (hm : l.length ≤ 9223372036854775807) (h : 1048576 < l.length) : laws_szPointS.f l 1048576 = some (-1) := by
  unfold laws_szPointS.f
  rw [w64 (by omega) (by omega), if_pos (by omega)]
theorem rdLN (l : List S24) (j : Nat) : rd_T24 l (j : Int) = l.getD j z24 := by
  unfold rd_T24
  rw [Int.toNat_natCast]
theorem toPointS_loop (l : List S24) (h : l.length ≤ 1048576) : ∀ (d k i : Nat) (x : List S30), i ≤ l.length → l.length - i ≤ d → d < k → x.length = l.length → laws_toPointS.l0 k l x i = some (x.take i ++ (conv l).drop i)
  | d, 0, i, x, _, _, h2, _ => absurd h2 (by omega)
  | d, k + 1, i, x, h0, h1, h2, hx => by
    simp only [laws_toPointS.l0, laws_toPoint.f]
    by_cases hi : i < l.length
    · rw [if_pos (by omega), if_pos (by omega), Option.bind_some, if_pos (by omega), w1 (by omega), toPointS_loop l h (d - 1) k (i + 1) _ (by omega) (by omega) (by omega) (by rw [List.length_set, hx]), rdLN]
      have e : l.getD i z24 = l[i] := by
        rw [List.getD_eq_getElem?_getD, List.getElem?_eq_getElem hi]
        rfl
      rw [e, Int.toNat_natCast, List.take_succ_eq_append_getElem (by rw [List.length_set, hx]; exact hi), List.getElem_set_self, List.take_set_of_le (Nat.le_refl _), List.append_assoc]
      congr 2
      rw [List.drop_eq_getElem_cons (i := i) (by rw [conv_length]; exact hi)]
      unfold conv
      rw [List.getElem_map]
      rfl
    · rw [if_neg (by omega), List.take_of_length_le (by omega), List.drop_eq_nil_of_le (by rw [conv_length]; omega), List.append_nil]
theorem toPointS_eq (l : List S24) (h : l.length ≤ 1048576) (k : Nat) (hk : l.length < k) : laws_toPointS.f k l = some (conv l) := by
  unfold laws_toPointS.f
  rw [if_pos (by omega), if_pos (by omega)]
  have := toPointS_loop l h l.length k 0 (List.replicate ((l.length : Int) : Int).toNat z30) (by omega) (by omega) hk (by rw [List.length_replicate, Int.toNat_natCast])
  simp only [Int.natCast_zero] at this
  rw [this, List.take_zero, List.nil_append, List.drop_zero]
theorem eqPoint_self (x y : Int) : laws_eqPoint.f x y x y = some true := by
  unfold laws_eqPoint.f
  rw [if_pos rfl, if_pos rfl]
theorem eqPointS_loop (l : List S30) (h : l.length ≤ 1000000000) : ∀ (d k i : Nat), l.length - i ≤ d → d < k → laws_eqPointS.l0 k l l i = some true
  | d, 0, i, _, h2 => absurd h2 (by omega)
  | d, k + 1, i, h1, h2 => by
    simp only [laws_eqPointS.l0]
    by_cases hi : i < l.length
    · rw [if_pos (by omega), if_pos (by omega), if_pos (by omega), eqPoint_self, Option.bind_some, if_pos rfl, w1 (by omega)]
      exact eqPointS_loop l h (d - 1) k (i + 1) (by omega) (by omega)
    · rw [if_neg (by omega)]
theorem eqPointS_self (l : List S30) (h : l.length ≤ 1000000000) (k : Nat) (hk : l.length < k) : laws_eqPointS.f k l l = some true := by
  unfold laws_eqPointS.f
  rw [if_pos rfl]
  exact eqPointS_loop l h l.length k 0 (by omega) hk

theorem back_eq (l : List S24) (h : l.length ≤ 1048576) (k : Nat) (hk : l.length < k) : ((laws_toPointS.f k l).bind fun t => (laws_eqPointS.f k (conv l) t).bind fun b => if b = true then some true else some false) = some true := by
  rw [toPointS_eq l h k hk, Option.bind_some, eqPointS_self (conv l) (by rw [conv_length]; omega) k (by rw [conv_length]; omega)]
  rfl

theorem p_ext {x y : S30} (h0 : x.f0 = y.f0) (h1 : x.f1 = y.f1) : x = y := by
  cases x
  cases y
  simp_all
theorem getD_set_self (x : List S30) (i : Nat) (v : S30) (h : i < x.length) : (x.set i v).getD i z30 = v := by
  rw [List.getD_eq_getElem?_getD, List.getElem?_set_self h]
  rfl
theorem getD_set_ne (x : List S30) (i j : Nat) (v : S30) (h : i ≠ j) : (x.set i v).getD j z30 = x.getD j z30 := by
  rw [List.getD_eq_getElem?_getD, List.getElem?_set_ne h, List.getD_eq_getElem?_getD]
theorem mark_loop (n : Nat) (hn : n ≤ 1000000000) : ∀ (d k i : Nat) (x : List S30), x.length = n → i ≤ n → n - i ≤ d → d < k → (∀ j, j < i → x.getD j z30 = ⟨1 + 2 * (j : Int), 1 + 2 * (j : Int) + 1⟩) →
    ∃ m : List S30, laws_markPointS.l0 k x (1 + 2 * (i : Int)) i = some (1 + 2 * (n : Int), m) ∧ m.length = n ∧ ∀ j, j < n → m.getD j z30 = ⟨1 + 2 * (j : Int), 1 + 2 * (j : Int) + 1⟩
  | d, 0, i, x, _, _, _, h, _ => absurd h (by omega)
  | d, k + 1, i, x, hx, hi, h1, h2, hm => by
    simp only [laws_markPointS.l0]
    by_cases hlt : i < n
    · rw [if_pos (by omega), if_pos (by omega), Option.bind_some, Int.toNat_natCast, rdN, rdN, getD_set_self x i _ (by omega), w1 (by omega), w64 (x := 1 + 2 * (i : Int) + 1) (by omega) (by omega), w64 (x := 1 + 2 * (i : Int) + 1 + 1) (by omega) (by omega)]
      have := mark_loop n hn (d - 1) k (i + 1) ((x.set i ⟨1 + 2 * (i : Int), (x.getD i z30).f1⟩).set i ⟨1 + 2 * (i : Int), 1 + 2 * (i : Int) + 1⟩) (by simp [hx]) (by omega) (by omega) (by omega) (fun j hj => by
        by_cases e : i = j
        · subst e
          rw [getD_set_self _ _ _ (by simp; omega)]
        · rw [getD_set_ne _ _ _ _ e, getD_set_ne _ _ _ _ e]
          exact hm j (by omega))
      rw [show (1 + 2 * (i : Int) + 1 + 1) = 1 + 2 * ((i + 1 : Nat) : Int) by omega]
      exact this
    · have e : i = n := by omega
      subst e
      exact ⟨x, by rw [if_neg (by omega)], hx, hm⟩
theorem held_loop (n : Nat) (hn : n ≤ 1000000000) (m : List S30) (hl : m.length = n) (hm : ∀ j, j < n → m.getD j z30 = ⟨1 + 2 * (j : Int), 1 + 2 * (j : Int) + 1⟩) : ∀ (d k i : Nat), i ≤ n → n - i ≤ d → d < k → laws_heldPointS.l0 k m (1 + 2 * (i : Int)) i = some (1 + 2 * (n : Int))
  | d, 0, i, _, _, h => absurd h (by omega)
  | d, k + 1, i, hi, h1, h2 => by
    simp only [laws_heldPointS.l0]
    by_cases hlt : i < n
    · rw [if_pos (by omega), if_pos (by omega), rdN, hm i hlt, if_pos rfl, w64 (x := 1 + 2 * (i : Int) + 1) (by omega) (by omega), if_pos rfl, w1 (by omega), w64 (x := 1 + 2 * (i : Int) + 1 + 1) (by omega) (by omega), show (1 + 2 * (i : Int) + 1 + 1) = 1 + 2 * ((i + 1 : Nat) : Int) by omega]
      exact held_loop n hn m hl hm (d - 1) k (i + 1) (by omega) (by omega) (by omega)
    · rw [if_neg (by omega), show i = n by omega]
/-- What is marked is held. -/
theorem mark_held (x : List S30) (hn : x.length ≤ 1000000000) : ∃ (n : Int) (m : List S30), 0 < n ∧ (∀ k, x.length < k → laws_markPointS.f k x 1 = some (n, m)) ∧ (∀ k, x.length < k → laws_heldPointS.f k m 1 = some n) := by
  obtain ⟨m, h1, h2, h3⟩ := mark_loop x.length hn x.length (x.length + 1) 0 x rfl (by omega) (by omega) (by omega) (fun j hj => absurd hj (by omega))
  refine ⟨1 + 2 * (x.length : Int), m, by omega, fun k hk => ?_, fun k hk => ?_⟩
  · unfold laws_markPointS.f
    exact at_rounds (fun k => laws_markPointS.mono_l k _ _ _) (show x.length + 1 ≤ k by omega) h1
  · unfold laws_heldPointS.f
    exact held_loop x.length hn m h2 h3 x.length k 0 (by omega) (by omega) hk

theorem shifts_eq (p : List S30) (dx dy : Int) (hl : p.length ≤ 1048576) : ∃ r : List S30 × Int, r.1.length ≤ p.length ∧ (∀ k, 1048577 ≤ k → spec_ShiftPolygon.f (k + 1) p dx dy = some r) ∧ (∀ k, 1048577 ≤ k → impl_ShiftPolygon.f (k + 1) p dx dy = some r) := by
  obtain ⟨b, h1, h2, hv⟩ := spec_valid_eq p hl
  cases b with
  | false =>
    refine ⟨([], 1), by simp, fun k hk => ?_, fun k hk => ?_⟩
    · unfold spec_ShiftPolygon.f
      rw [h1 _ (by omega)]
      rfl
    · unfold impl_ShiftPolygon.f
      rw [h2 _ (by omega)]
      rfl
  | true =>
    have hn := (hv.1 rfl).2.1
    by_cases hx : -20000 ≤ dx ∧ dx ≤ 20000
    · by_cases hy : -20000 ≤ dy ∧ dy ≤ 20000
      · obtain ⟨c, g1, g2, _⟩ := spec_valid_eq (shiftL p dx dy) (by rw [shiftL_length]; exact hl)
        refine ⟨if c = true then (shiftL p dx dy, 0) else ([], 6), by cases c <;> simp [shiftL_length], fun k hk => ?_, fun k hk => ?_⟩
        · unfold spec_ShiftPolygon.f
          simp only [spec_l00In_eq, decide_eq_true hx, decide_eq_true hy]
          rw [h1 _ (by omega)]
          simp only [Option.bind_some, if_true, spec_ShiftPolygon.j0, Bool.not_true, Bool.false_eq_true, if_false]
          rw [spec_shifted_eq p dx dy (by omega) k (by omega), Option.bind_some, g1 k (by omega)]
          cases c <;> rfl
        · unfold impl_ShiftPolygon.f
          simp only [impl_within_eq, decide_eq_true hx, decide_eq_true hy]
          rw [h2 _ (by omega)]
          simp only [Option.bind_some, if_true, impl_ShiftPolygon.j0, Bool.not_true, Bool.false_eq_true, if_false]
          rw [impl_shifted_eq p dx dy (by omega) k (by omega), Option.bind_some, g2 k (by omega)]
          cases c <;> rfl
      · refine ⟨([], 2), by simp, fun k hk => ?_, fun k hk => ?_⟩
        · unfold spec_ShiftPolygon.f
          simp only [spec_l00In_eq, decide_eq_true hx, decide_eq_false hy]
          rw [h1 _ (by omega)]
          simp only [Option.bind_some, if_true, spec_ShiftPolygon.j0, Bool.not_false]
        · unfold impl_ShiftPolygon.f
          simp only [impl_within_eq, decide_eq_true hx, decide_eq_false hy]
          rw [h2 _ (by omega)]
          simp only [Option.bind_some, if_true, impl_ShiftPolygon.j0, Bool.not_false]
    · refine ⟨([], 2), by simp, fun k hk => ?_, fun k hk => ?_⟩
      · unfold spec_ShiftPolygon.f
        simp only [spec_l00In_eq, decide_eq_false hx]
        rw [h1 _ (by omega)]
        simp only [Option.bind_some, if_true, spec_ShiftPolygon.j0, Bool.false_eq_true, if_false]
      · unfold impl_ShiftPolygon.f
        simp only [impl_within_eq, decide_eq_false hx]
        rw [h2 _ (by omega)]
        simp only [Option.bind_some, if_true, impl_ShiftPolygon.j0, Bool.false_eq_true, if_false]
theorem FnExactShiftPolygon (l : List S24) (dx dy : Int) (hl : l.length ≤ maxLen) (hg : ∀ x ∈ l, (Lit.int .i64 x.f0).wf = true ∧ (Lit.int .i64 x.f1).wf = true) (_ : (Lit.int .i64 dx).wf = true) (_ : (Lit.int .i64 dy).wf = true) : ∃ k, laws_FnExactShiftPolygon.f k l dx dy = some true := by
  unfold maxLen at hl
  by_cases hs : l.length ≤ 1048576
  · obtain ⟨⟨g0, g1⟩, hr, h1, h2⟩ := shifts_eq (conv l) dx dy (by rw [conv_length]; exact hs)
    rw [conv_length] at hr
    have hr : g0.length ≤ l.length := hr
    obtain ⟨n0, m0, hn0, a1, a2⟩ := mark_held (conv l) (by rw [conv_length]; omega)
    obtain ⟨n1, m1, hn1, b1, b2⟩ := mark_held g0 (by omega)
    rw [conv_length] at a1
    have e1 := fun k (hk : l.length < k) => toPointS_eq l hs k hk
    have e2 := fun k (hk : l.length < k) => eqPointS_self (conv l) (by rw [conv_length]; omega) k (by rw [conv_length]; exact hk)
    have e3 := fun k (hk : l.length < k) => eqPointS_self g0 (by omega) k (by omega)
    have b1' := fun k (hk : l.length < k) => b1 k (by omega)
    have b2' := fun k (hk : l.length < k) => b2 k (by omega)
    have h1' := fun k (hk : 1048578 ≤ k) => (by obtain ⟨k, rfl⟩ : ∃ m, k = m + 1 := ⟨k - 1, by omega⟩; exact h1 k (by omega) : spec_ShiftPolygon.f k (conv l) dx dy = some (g0, g1))
    have h2' := fun k (hk : 1048578 ≤ k) => (by obtain ⟨k, rfl⟩ : ∃ m, k = m + 1 := ⟨k - 1, by omega⟩; exact h2 k (by omega) : impl_ShiftPolygon.f k (conv l) dx dy = some (g0, g1))
    have q0 : ¬ n0 < 0 := by omega
    have q1 : ¬ n1 < 0 := by omega
    have q2 : ¬ (1048576 - (l.length : Int)) < 0 := by omega
    obtain ⟨B, hB⟩ : ∃ B : Nat, 1048578 ≤ B := ⟨_, Nat.le_refl _⟩
    refine ⟨B + 3, ?_⟩
    unfold laws_FnExactShiftPolygon.f
    rw [sz_small l hs, Option.bind_some, if_neg q2, e1 (B + 3) (by omega), Option.bind_some]
    rw [h1' (B + 3) (by omega), Option.bind_some, Option.bind_some, h2' (B + 3) (by omega), Option.bind_some]
    try dsimp only
    rw [e3 (B + 3) (by omega), Option.bind_some, if_pos rfl]
    simp only [laws_FnExactShiftPolygon.j0, bne_self_eq_false, Bool.false_eq_true, if_false]
    rw [e1 (B + 2) (by omega), Option.bind_some, e2 (B + 2) (by omega), Option.bind_some, if_pos rfl, a1 (B + 2) (by omega), Option.bind_some]
    try dsimp only
    rw [if_neg q0, e3 (B + 2) (by omega), Option.bind_some, if_pos rfl]
    simp only [laws_FnExactShiftPolygon.j1, bne_self_eq_false, Bool.false_eq_true, if_false]
    rw [b1' (B + 1) (by omega), Option.bind_some]
    try dsimp only
    rw [b2' (B + 1) (by omega), Option.bind_some, if_neg q1, if_pos rfl, e1 (B + 1) (by omega), Option.bind_some, h2' (B + 1) (by omega), Option.bind_some]
    try dsimp only
    rw [e3 (B + 1) (by omega), Option.bind_some, if_pos rfl]
    simp only [laws_FnExactShiftPolygon.j2, bne_self_eq_false, Bool.false_eq_true, if_false]
    rw [b2' B (by omega), Option.bind_some, if_neg q1, if_pos rfl]
  · refine ⟨0, ?_⟩
    unfold laws_FnExactShiftPolygon.f
    rw [sz_large l hl (by omega)]
    rfl

end Go.Proofs.Ytkobmkdjmpnojaa.Pure
