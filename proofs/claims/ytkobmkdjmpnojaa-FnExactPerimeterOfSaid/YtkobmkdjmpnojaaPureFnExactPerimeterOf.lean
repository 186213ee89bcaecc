/- The plain law: what FnExactPerimeterOf computes is true at every input. -/
import Derived.Test.YtkobmkdjmpnojaaLFnExactPerimeterOfb
namespace Go.Proofs.Ytkobmkdjmpnojaa.Pure
open Go.RowKit Go.Proofs.Ytkobmkdjmpnojaa.PFnExactPerimeterOf Go.Proofs.YtkobmkdjmpnojaaW.PrintWords Go.Proofs.YtkobmkdjmpnojaaW.PrintLast Go.Proofs.YtkobmkdjmpnojaaW.PrintMore
set_option linter.unusedVariables false
set_option linter.unusedSimpArgs false

theorem mid_of (lo hi : Int) (h0 : 0 ≤ lo) (h : lo < hi) (hM : hi ≤ 3037000499) : ∃ m, wrap64 (Int.tdiv (wrap64 ((wrap64 (lo + hi)) + 1)) 2) = m ∧ lo < m ∧ m ≤ hi := by
  refine ⟨(lo + hi + 1) / 2, ?_, by omega, by omega⟩
  rw [w64 (x := lo + hi) (by omega) (by omega), w64 (x := lo + hi + 1) (by omega) (by omega), Int.tdiv_eq_ediv_of_nonneg (by omega), w64 (by omega) (by omega)]
theorem sq_le {a b : Int} (h0 : 0 ≤ a) (h : a ≤ b) : a * a ≤ b * b := Int.mul_le_mul h h h0 (by omega)
/-- What both searches find: the root, rounded down. -/
def IsRoot (n r : Int) : Prop := 0 ≤ r ∧ r ≤ 3037000499 ∧ (r = 0 ∨ r * r ≤ n) ∧ (r = 3037000499 ∨ n < (r + 1) * (r + 1))
theorem root_one {n r q : Int} (h1 : IsRoot n r) (h2 : IsRoot n q) : r = q := by
  obtain ⟨a0, a1, a2, a3⟩ := h1
  obtain ⟨b0, b1, b2, b3⟩ := h2
  rcases Int.lt_trichotomy r q with h | h | h
  · exfalso
    have := sq_le (a := r + 1) (b := q) (by omega) (by omega)
    omega
  · exact h
  · exfalso
    have := sq_le (a := q + 1) (b := r) (by omega) (by omega)
    omega
theorem spec_root_loop (n : Int) : ∀ (d k : Nat) (lo hi : Int), 0 ≤ lo → lo ≤ hi → hi ≤ 3037000499 → hi - lo ≤ d → d < k → (lo = 0 ∨ lo * lo ≤ n) → (hi = 3037000499 ∨ n < (hi + 1) * (hi + 1)) →
    ∃ r, spec_l01Root.l0 k n lo hi = some r ∧ IsRoot n r
  | d, 0, _, _, _, _, _, _, h, _, _ => absurd h (by omega)
  | d, k + 1, lo, hi, h0, h1, h2, h3, h4, h5, h6 => by
    simp only [spec_l01Root.l0]
    by_cases hlt : lo < hi
    · rw [if_pos hlt]
      obtain ⟨m, hm, m1, m2⟩ := mid_of lo hi h0 hlt h2
      rw [hm]
      have hsq := sq_le (a := m) (b := 3037000499) (by omega) (by omega)
      have hsq0 : 0 ≤ m * m := Int.mul_nonneg (by omega) (by omega)
      rw [w64 (x := m * m) (by omega) (by omega), w64 (x := m - 1) (by omega) (by omega)]
      by_cases hle : m * m ≤ n
      · rw [if_pos hle]
        exact spec_root_loop n (d - 1) k m hi (by omega) m2 h2 (by omega) (by omega) (.inr hle) h6
      · rw [if_neg hle]
        refine spec_root_loop n (d - 1) k lo (m - 1) h0 (by omega) (by omega) (by omega) (by omega) h5 (.inr ?_)
        rw [show m - 1 + 1 = m by omega]
        omega
    · rw [if_neg hlt]
      have : lo = hi := by omega
      subst this
      exact ⟨lo, rfl, h0, h2, h5, h6⟩
theorem le_div_iff (m n : Int) (h : 0 < m) (hn : 0 ≤ n) : m ≤ Int.tdiv n m ↔ m * m ≤ n := by
  rw [Int.tdiv_eq_ediv_of_nonneg hn]
  exact Int.le_ediv_iff_mul_le h
theorem impl_root_loop (n : Int) (hn0 : 1 ≤ n) (hn1 : n ≤ 9223372036854775807) : ∀ (d k : Nat) (lo hi : Int), 1 ≤ lo → lo ≤ hi → hi ≤ 3037000499 → hi - lo ≤ d → d < k → lo * lo ≤ n → (hi = 3037000499 ∨ n < (hi + 1) * (hi + 1)) →
    ∃ r, impl_RootOf.l0 k n lo hi = some r ∧ IsRoot n r
  | d, 0, _, _, _, _, _, _, h, _, _ => absurd h (by omega)
  | d, k + 1, lo, hi, h0, h1, h2, h3, h4, h5, h6 => by
    simp only [impl_RootOf.l0]
    by_cases hlt : lo < hi
    · rw [if_pos hlt]
      obtain ⟨m, hm, m1, m2⟩ := mid_of lo hi (by omega) hlt h2
      rw [hm, if_neg (by omega)]
      have hq : 0 ≤ Int.tdiv n m ∧ Int.tdiv n m ≤ n := by
        rw [Int.tdiv_eq_ediv_of_nonneg (by omega)]
        exact ⟨Int.ediv_nonneg (by omega) (by omega), Int.ediv_le_self _ (by omega)⟩
      rw [w64 (x := Int.tdiv n m) (by omega) (by omega), w64 (x := m - 1) (by omega) (by omega)]
      have hi_ := le_div_iff m n (by omega) (by omega)
      by_cases hle : m ≤ Int.tdiv n m
      · rw [if_pos hle]
        exact impl_root_loop n hn0 hn1 (d - 1) k m hi (by omega) m2 h2 (by omega) (by omega) (hi_.1 hle) h6
      · rw [if_neg hle]
        refine impl_root_loop n hn0 hn1 (d - 1) k lo (m - 1) h0 (by omega) (by omega) (by omega) (by omega) h5 (.inr ?_)
        rw [show m - 1 + 1 = m by omega]
        have : ¬ m * m ≤ n := fun h => hle (hi_.2 h)
        omega
    · rw [if_neg hlt]
      have : lo = hi := by omega
      subst this
      exact ⟨lo, rfl, by omega, h2, .inr h5, h6⟩
theorem roots (n : Int) (h0 : -9223372036854775808 ≤ n) (h1 : n ≤ 9223372036854775807) : ∃ r, (∀ k, 3037000500 ≤ k → spec_l01Root.f k n = some r) ∧ (∀ k, 3037000500 ≤ k → impl_RootOf.f k n = some r) ∧ IsRoot n r := by
  obtain ⟨r, hr, hR⟩ := spec_root_loop n 3037000499 3037000500 0 3037000499 (by omega) (by omega) (by omega) (by omega) (by omega) (.inl rfl) (.inl rfl)
  refine ⟨r, fun k hk => at_rounds (fun k => spec_l01Root.mono_l k _ _ _) hk hr, ?_, hR⟩
  unfold impl_RootOf.f
  by_cases hn : n < 1
  · refine fun k _ => ?_
    rw [if_pos hn]
    have : IsRoot n 0 := ⟨by omega, by omega, .inl rfl, .inr (by omega)⟩
    rw [root_one hR this]
  · obtain ⟨q, hq, hQ⟩ := impl_root_loop n (by omega) h1 3037000498 3037000499 1 3037000499 (by omega) (by omega) (by omega) (by omega) (by omega) (by omega) (.inl rfl)
    refine fun k hk => ?_
    rw [if_neg hn, root_one hR hQ]
    exact at_rounds (fun k => impl_RootOf.mono_l k _ _ _) (by omega) hq

def sqW (a0 a1 b0 b1 : Int) : Int := wrap64 ((wrap64 ((wrap64 (a0 - b0)) * (wrap64 (a0 - b0)))) + (wrap64 ((wrap64 (a1 - b1)) * (wrap64 (a1 - b1)))))
theorem wrap64_range (x : Int) : -9223372036854775808 ≤ wrap64 x ∧ wrap64 x ≤ 9223372036854775807 := by
  unfold wrap64
  omega
theorem sqW_range (a0 a1 b0 b1 : Int) : -9223372036854775808 ≤ sqW a0 a1 b0 b1 ∧ sqW a0 a1 b0 b1 ≤ 9223372036854775807 := wrap64_range _
theorem spec_square_eq (a0 a1 b0 b1 : Int) : spec_l02Square.f a0 a1 b0 b1 = some (sqW a0 a1 b0 b1) := rfl
theorem impl_squared_eq (a0 a1 b0 b1 : Int) : impl_squared.f a0 a1 b0 b1 = some (sqW a0 a1 b0 b1) := rfl

/-- The law's points as the program's. -/
def conv (l : List S24) : List S30 := l.map fun s => ⟨s.f0, s.f1⟩
theorem conv_length (l : List S24) : (conv l).length = l.length := by
  unfold conv
  rw [List.length_map]
theorem sz_small (l : List S24) (h : l.length ≤ 1048576) : laws_szPointS.f l 1048576 = some (1048576 - (l.length : Int)) := by
  unfold laws_szPointS.f
  rw [w64 (by omega) (by omega), if_neg (by omega)]
theorem sz_large (l : List S24) (hm : l.length ≤ 9223372036854775807) (h : 1048576 < l.length) : laws_szPointS.f l 1048576 = some (-1) := by
  unfold laws_szPointS.f
  rw [w64 (by omega) (by omega), if_pos (by omega)]
theorem rdLN (l : List S24) (j : Nat) : rd_T24 l (j : Int) = l.getD j z24 := by
  unfold rd_T24
  rw [Int.toNat_natCast]
theorem toPointS_loop (l : List S24) (h : l.length ≤ 1048576) : ∀ (d k i : Nat) (x : List S30), i ≤ l.length → l.length - i ≤ d → d < k → x.length = l.length → laws_toPointS.l0 k l x i = some (x.take i ++ (conv l).drop i)
  | d, 0, i, x, _, _, h2, _ => absurd h2 (by omega)
  | d, k + 1, i, x, h0, h1, h2, hx => by
    simp only [laws_toPointS.l0, laws_toPoint.f]
    by_cases hi : i < l.length
    · rw [if_pos (by omega), if_pos (by omega), Option.bind_some, if_pos (by omega), w1 (by omega), toPointS_loop l h (d - 1) k (i + 1) _ (by omega) (by omega) (by omega) (by rw [List.length_set, hx]), rdLN]
      have e : l.getD i z24 = l[i] := by
        rw [List.getD_eq_getElem?_getD, List.getElem?_eq_getElem hi]
        rfl
      rw [e, Int.toNat_natCast, List.take_succ_eq_append_getElem (by rw [List.length_set, hx]; exact hi), List.getElem_set_self, List.take_set_of_le (Nat.le_refl _), List.append_assoc]
      congr 2
      rw [List.drop_eq_getElem_cons (i := i) (by rw [conv_length]; exact hi)]
      unfold conv
      rw [List.getElem_map]
      rfl
    · rw [if_neg (by omega), List.take_of_length_le (by omega), List.drop_eq_nil_of_le (by rw [conv_length]; omega), List.append_nil]
theorem toPointS_eq (l : List S24) (h : l.length ≤ 1048576) (k : Nat) (hk : l.length < k) : laws_toPointS.f k l = some (conv l) := by
  unfold laws_toPointS.f
  rw [if_pos (by omega), if_pos (by omega)]
  have := toPointS_loop l h l.length k 0 (List.replicate ((l.length : Int) : Int).toNat z30) (by omega) (by omega) hk (by rw [List.length_replicate, Int.toNat_natCast])
  simp only [Int.natCast_zero] at this
  rw [this, List.take_zero, List.nil_append, List.drop_zero]
theorem eqPoint_self (x y : Int) : laws_eqPoint.f x y x y = some true := by
  unfold laws_eqPoint.f
  rw [if_pos rfl, if_pos rfl]
theorem eqPointS_loop (l : List S30) (h : l.length ≤ 1000000000) : ∀ (d k i : Nat), l.length - i ≤ d → d < k → laws_eqPointS.l0 k l l i = some true
  | d, 0, i, _, h2 => absurd h2 (by omega)
  | d, k + 1, i, h1, h2 => by
    simp only [laws_eqPointS.l0]
    by_cases hi : i < l.length
    · rw [if_pos (by omega), if_pos (by omega), if_pos (by omega), eqPoint_self, Option.bind_some, if_pos rfl, w1 (by omega)]
      exact eqPointS_loop l h (d - 1) k (i + 1) (by omega) (by omega)
    · rw [if_neg (by omega)]
theorem eqPointS_self (l : List S30) (h : l.length ≤ 1000000000) (k : Nat) (hk : l.length < k) : laws_eqPointS.f k l l = some true := by
  unfold laws_eqPointS.f
  rw [if_pos rfl]
  exact eqPointS_loop l h l.length k 0 (by omega) hk

theorem back_eq (l : List S24) (h : l.length ≤ 1048576) (k : Nat) (hk : l.length < k) : ((laws_toPointS.f k l).bind fun t => (laws_eqPointS.f k (conv l) t).bind fun b => if b = true then some true else some false) = some true := by
  rw [toPointS_eq l h k hk, Option.bind_some, eqPointS_self (conv l) (by rw [conv_length]; omega) k (by rw [conv_length]; omega)]
  rfl

theorem apart_eq (a0 a1 b0 b1 : Int) (ha : okP a0 a1 = true) (hb : okP b0 b1 = true) : ∃ r, ∀ k, 3037000500 ≤ k → spec_l02Apart.f k a0 a1 b0 b1 = some r ∧ impl_Distance.f k a0 a1 b0 b1 = some r := by
  obtain ⟨r, h1, h2, _⟩ := roots (sqW a0 a1 b0 b1) (sqW_range a0 a1 b0 b1).1 (sqW_range a0 a1 b0 b1).2
  refine ⟨r, fun k hk => ⟨?_, ?_⟩⟩
  · unfold spec_l02Apart.f
    rw [spec_square_eq, Option.bind_some, h1 k hk]
    rfl
  · unfold impl_Distance.f
    rw [impl_validPoints_eq _ (by simp) _ (by simp; omega)]
    simp only [List.all_cons, List.all_nil, ha, hb, Bool.and_true, Option.bind_some, if_true, impl_squared_eq]
    rw [h2 k hk]
    rfl
theorem ok_getD {p : List S30} (h : (p.all fun s => okP s.f0 s.f1) = true) (i : Nat) (hi : i < p.length) : okP (p.getD i z30).f0 (p.getD i z30).f1 = true := by
  rw [List.getD_eq_getElem?_getD, List.getElem?_eq_getElem hi]
  exact List.all_eq_true.1 h _ (List.getElem_mem hi)
theorem length_loops {p : List S30} (h : (p.all fun s => okP s.f0 s.f1) = true) (hn : p.length ≤ 24) : ∀ (d i : Nat) (s : Int), p.length - i ≤ d → ∃ r, ∀ k, d + 3037000500 < k → spec_l03Length.l0 k p s i = some r ∧ impl_PerimeterOf.l0 k p s (p.length : Int) i = some (r, 0) := by
  intro d
  induction d with
  | zero =>
    intro i s hi
    refine ⟨s, fun k hk => ?_⟩
    obtain ⟨k, rfl⟩ : ∃ m, k = m + 1 := ⟨k - 1, by omega⟩
    simp only [spec_l03Length.l0, impl_PerimeterOf.l0]
    rw [if_neg (by omega), if_neg (by omega)]
    exact ⟨rfl, rfl⟩
  | succ d ih =>
    intro i s hi
    by_cases hlt : i < p.length
    · have m1 := Nat.mod_lt (i + 1) (show 0 < p.length by omega)
      obtain ⟨t, ht⟩ := apart_eq _ _ _ _ (ok_getD h i hlt) (ok_getD h _ m1)
      obtain ⟨r, hr⟩ := ih (i + 1) (wrap64 (s + t)) (by omega)
      refine ⟨r, fun k hk => ?_⟩
      obtain ⟨k, rfl⟩ : ∃ m, k = m + 1 := ⟨k - 1, by omega⟩
      have h1 := ht k (by omega)
      have h2 := hr k (by omega)
      simp only [spec_l03Length.l0, impl_PerimeterOf.l0]
      rw [tm1 (by omega) hlt, if_pos (by omega), if_pos (by omega), if_neg (by omega), if_pos (by omega), if_pos (by omega), rdN, rdN, h1.1, h1.2, if_pos (by omega), if_pos (by omega), if_pos (by omega), if_neg (by omega), if_pos (by omega), if_pos (by omega), w1 (by omega)]
      exact h2
    · refine ⟨s, fun k hk => ?_⟩
      obtain ⟨k, rfl⟩ : ∃ m, k = m + 1 := ⟨k - 1, by omega⟩
      simp only [spec_l03Length.l0, impl_PerimeterOf.l0]
      rw [if_neg (by omega), if_neg (by omega)]
      exact ⟨rfl, rfl⟩
theorem perimeters_eq (p : List S30) (hl : p.length ≤ 1048576) : ∃ r, (∀ k, 3037001000 ≤ k → spec_PerimeterOf.f k p = some r) ∧ (∀ k, 3037001000 ≤ k → impl_PerimeterOf.f k p = some r) := by
  obtain ⟨b, h1, h2, hv⟩ := spec_valid_eq p hl
  cases b with
  | false =>
    refine ⟨(0, 1), fun k hk => ?_, fun k hk => ?_⟩
    · unfold spec_PerimeterOf.f
      rw [h1 k (by omega)]
      rfl
    · unfold impl_PerimeterOf.f
      rw [h2 k (by omega)]
      rfl
  | true =>
    have hV := hv.1 rfl
    have hn := hV.2.1
    obtain ⟨r, hr⟩ := length_loops hV.2.2.1 hn p.length 0 0 (by omega)
    refine ⟨(r, 0), fun k hk => ?_, fun k hk => ?_⟩
    · unfold spec_PerimeterOf.f spec_l03Length.f
      rw [h1 k (by omega), Option.bind_some, if_pos rfl]
      have := (hr k (by omega)).1
      simp only [Int.natCast_zero] at this
      rw [this]
      rfl
    · unfold impl_PerimeterOf.f
      rw [h2 k (by omega), Option.bind_some, if_pos rfl]
      exact (hr k (by omega)).2
theorem FnExactPerimeterOf (l : List S24) (hl : l.length ≤ maxLen) (hg : ∀ x ∈ l, (Lit.int .i64 x.f0).wf = true ∧ (Lit.int .i64 x.f1).wf = true) : ∃ k, laws_FnExactPerimeterOf.f k l = some true := by
  unfold maxLen at hl
  by_cases hs : l.length ≤ 1048576
  · obtain ⟨r, h1, h2⟩ := perimeters_eq (conv l) (by rw [conv_length]; exact hs)
    obtain ⟨B, hB⟩ : ∃ B : Nat, 3037001000 ≤ B := ⟨_, Nat.le_refl _⟩
    refine ⟨l.length + B + 1, ?_⟩
    unfold laws_FnExactPerimeterOf.f
    rw [sz_small l hs, Option.bind_some, if_neg (by omega), toPointS_eq l hs _ (by omega)]
    simp only [Option.bind_some]
    rw [h1 _ (by omega), h2 _ (by omega)]
    simp only [Option.bind_some, if_true, laws_FnExactPerimeterOf.j0, bne_self_eq_false, Bool.false_eq_true, if_false]
    exact back_eq l hs _ (by omega)
  · refine ⟨0, ?_⟩
    unfold laws_FnExactPerimeterOf.f
    rw [sz_large l hl (by omega)]
    rfl

end Go.Proofs.Ytkobmkdjmpnojaa.Pure
