/- The plain law: what FnExactCentreOf computes is true at every input. -/
import Derived.Test.YtkobmkdjmpnojaaLFnExactCentreOfb
namespace Go.Proofs.Ytkobmkdjmpnojaa.Pure
open Go.RowKit Go.Proofs.Ytkobmkdjmpnojaa.PFnExactCentreOf Go.Proofs.YtkobmkdjmpnojaaW.PrintWords Go.Proofs.YtkobmkdjmpnojaaW.PrintLast Go.Proofs.YtkobmkdjmpnojaaW.PrintMore
set_option linter.unusedVariables false
set_option linter.unusedSimpArgs false

theorem spec_area_loop {p : List S30} (h : InR p) (hn : p.length ≤ 1000000000) : ∀ (d k i : Nat), i ≤ p.length → p.length - i ≤ d → d < k → spec_l03Area.l0 k p (areaTo p i) i = some (areaTo p p.length)
  | d, 0, i, _, _, h3 => absurd h3 (by omega)
  | d, k + 1, i, h1, h2, h3 => by
    simp only [spec_l03Area.l0]
    by_cases hi : i < p.length
    · have hm := Nat.mod_lt (i + 1) (show 0 < p.length by omega)
      rw [tm1 (by omega) hi, if_pos (by omega), if_neg (by omega), if_pos (by omega), if_pos (by omega), if_pos (by omega), rdN, rdN, crossT_w h, w1 (by omega)]
      have b1 := areaTo_in h i
      have b2 := crossT_in h i
      rw [w64 (x := areaTo p i + crossT p i) (by omega) (by omega)]
      exact spec_area_loop h hn (d - 1) k (i + 1) (by omega) (by omega) (by omega)
    · rw [if_neg (by omega), show i = p.length by omega]
theorem spec_area_eq {p : List S30} (h : InR p) (hn : p.length ≤ 1000000000) (k : Nat) (hk : p.length < k) : spec_l03Area.f k p = some (areaTo p p.length) := by
  unfold spec_l03Area.f
  exact spec_area_loop h hn p.length k 0 (by omega) (by omega) hk

/-- The nearest quotient of numbers without a sign. -/
def hq (A B : Int) : Int := A / B + (if A % B ≥ B - A % B then 1 else 0)
theorem half_of (A B : Int) (hA : 0 ≤ A) (hB : 0 < B) : (2 * A + B) / (2 * B) = hq A B := by
  unfold hq
  have h1 := Int.emod_nonneg A (show B ≠ 0 by omega)
  have h2 := Int.emod_lt_of_pos A hB
  have h3 := Int.emod_add_mul_ediv A B
  have e : 2 * A + B = (2 * (A % B) + B) + (2 * B) * (A / B) := by
    have : (2 * B) * (A / B) = 2 * (B * (A / B)) := Int.mul_assoc ..
    omega
  rw [e, Int.add_mul_ediv_left _ _ (by omega)]
  generalize A % B = r at *
  by_cases h : r ≥ B - r
  · rw [if_pos h]
    have : 2 * r + B = (2 * r - B) + (2 * B) * 1 := by omega
    rw [this, Int.add_mul_ediv_left _ _ (by omega), Int.ediv_eq_zero_of_lt (by omega) (by omega)]
    omega
  · rw [if_neg h, Int.ediv_eq_zero_of_lt (by omega) (by omega)]
    omega
theorem hq_zero (B : Int) (hB : 0 < B) : hq 0 B = 0 := by
  unfold hq
  rw [Int.zero_ediv, Int.zero_emod, if_neg (by omega)]
  rfl
theorem hq_bounds (A B : Int) (hA : 0 ≤ A) (hB : 0 < B) : 0 ≤ hq A B ∧ hq A B ≤ A + 1 := by
  unfold hq
  have := Int.ediv_nonneg hA (show 0 ≤ B by omega)
  have := Int.ediv_le_self B hA
  split <;> omega
/-- The nearest quotient. -/
def near (a b : Int) : Int := if (decide (a < 0) != decide (b < 0)) = true then -(hq (if a < 0 then -a else a) (if b < 0 then -b else b)) else hq (if a < 0 then -a else a) (if b < 0 then -b else b)
theorem near_bounds (a b : Int) (hb : b ≠ 0) : -(if a < 0 then -a else a) - 1 ≤ near a b ∧ near a b ≤ (if a < 0 then -a else a) + 1 := by
  have h := hq_bounds (if a < 0 then -a else a) (if b < 0 then -b else b) (by split <;> omega) (by split <;> omega)
  unfold near
  generalize (if a < 0 then -a else a) = A at *
  split <;> omega
theorem mx_abs {a : Int} (h0 : -9223372036854775807 ≤ a) (h1 : a ≤ 9223372036854775807) : mx a (wrap64 (-a)) = (if a < 0 then -a else a) := by
  rw [w64 (by omega) (by omega)]
  unfold mx
  split <;> split <;> omega
theorem impl_nearest_eq (a b : Int) (ha : -9000000000000000000 ≤ a ∧ a ≤ 9000000000000000000) (hb : -9000000000000000000 ≤ b ∧ b ≤ 9000000000000000000) (h0 : b ≠ 0) : impl_nearest.f a b = some (near a b) := by
  unfold impl_nearest.f near
  rw [if_neg h0, mx_abs (by omega) (by omega), mx_abs (by omega) (by omega)]
  have hA : 0 ≤ (if a < 0 then -a else a) ∧ (if a < 0 then -a else a) ≤ 9000000000000000000 := by split <;> omega
  have hB : 0 < (if b < 0 then -b else b) ∧ (if b < 0 then -b else b) ≤ 9000000000000000000 := by split <;> omega
  generalize hA' : (if a < 0 then -a else a) = A at *
  generalize hB' : (if b < 0 then -b else b) = B at *
  have e1 := Int.tdiv_eq_ediv_of_nonneg (b := B) hA.1
  have e2 := Int.tmod_eq_emod_of_nonneg (b := B) hA.1
  have h1 := Int.emod_nonneg A (show B ≠ 0 by omega)
  have h2 := Int.emod_lt_of_pos A hB.1
  have h3 := Int.ediv_nonneg hA.1 (show 0 ≤ B by omega)
  have h4 := Int.ediv_le_self B hA.1
  rw [if_neg (by omega), e1, e2]
  unfold hq
  generalize A % B = r at *
  generalize A / B = q at *
  rw [w64 (x := B - r) (by omega) (by omega), w64 (x := q) (by omega) (by omega), w64 (x := q + 1) (by omega) (by omega), w64 (x := -(q + 1)) (by omega) (by omega), w64 (x := -q) (by omega) (by omega)]
  by_cases h : r ≥ B - r
  · rw [if_pos h, if_pos h]
    split <;> rfl
  · rw [if_neg h, if_neg h]
    split <;> simp
theorem spec_l01Div_eq (a b : Int) (ha : -3000000000000000000 ≤ a ∧ a ≤ 3000000000000000000) (hb : -3000000000000000000 ≤ b ∧ b ≤ 3000000000000000000) (h0 : b ≠ 0) : spec_l01Div.f a b = some (near a b) := by
  unfold spec_l01Div.f near
  by_cases hbn : b < 0
  · rw [if_pos hbn, if_pos hbn, w64 (x := -a) (by omega) (by omega), w64 (x := -b) (by omega) (by omega), w64 (x := 2 * -b) (by omega) (by omega), w64 (x := 2 * -a) (by omega) (by omega), w64 (x := -b - 2 * -a) (by omega) (by omega), w64 (x := 2 * -a + -b) (by omega) (by omega)]
    by_cases han : -a < 0
    · rw [if_pos han, if_neg (by omega), Int.tdiv_eq_ediv_of_nonneg (by omega), if_neg (show ¬ a < 0 by omega), if_pos (by simp; omega)]
      have hq' := half_of a (-b) (by omega) (by omega)
      have hbd := hq_bounds a (-b) (by omega) (by omega)
      rw [show -b - 2 * -a = 2 * a + -b by omega, hq', w64 (x := hq a (-b)) (by omega) (by omega), w64 (x := -hq a (-b)) (by omega) (by omega)]
    · rw [if_neg han, if_neg (by omega), Int.tdiv_eq_ediv_of_nonneg (by omega)]
      have hq' := half_of (-a) (-b) (by omega) (by omega)
      have hbd := hq_bounds (-a) (-b) (by omega) (by omega)
      by_cases hz : a < 0
      · rw [if_neg (by simp; omega), if_pos hz]
        rw [hq', w64 (by omega) (by omega)]
      · have : a = 0 := by omega
        subst this
        have hz0 := hq_zero (-b) (by omega)
        simp only [Int.neg_zero] at hq' hbd ⊢
        rw [hq', hz0]
        simp [hz0]
        exact w64 (by omega) (by omega)
  · rw [if_neg hbn, if_neg hbn, w64 (x := 2 * b) (by omega) (by omega), w64 (x := 2 * a) (by omega) (by omega), w64 (x := b - 2 * a) (by omega) (by omega), w64 (x := 2 * a + b) (by omega) (by omega)]
    by_cases han : a < 0
    · rw [if_pos han, if_neg (by omega), Int.tdiv_eq_ediv_of_nonneg (by omega), if_pos han, if_pos (by simp; omega)]
      have hq' := half_of (-a) b (by omega) (by omega)
      have hbd := hq_bounds (-a) b (by omega) (by omega)
      rw [show b - 2 * a = 2 * -a + b by omega, hq', w64 (x := hq (-a) b) (by omega) (by omega), w64 (x := -hq (-a) b) (by omega) (by omega)]
    · rw [if_neg han, if_neg (by omega), Int.tdiv_eq_ediv_of_nonneg (by omega), if_neg han, if_neg (by simp; omega)]
      have hq' := half_of a b (by omega) (by omega)
      have hbd := hq_bounds a b (by omega) (by omega)
      rw [hq', w64 (by omega) (by omega)]

/-- The law's points as the program's. -/
def conv (l : List S24) : List S30 := l.map fun s => ⟨s.f0, s.f1⟩
theorem conv_length (l : List S24) : (conv l).length = l.length := by
  unfold conv
  rw [List.length_map]
theorem sz_small (l : List S24) (h : l.length ≤ 1048576) : laws_szPointS.f l 1048576 = some (1048576 - (l.length : Int)) := by
  unfold laws_szPointS.f
  rw [w64 (by omega) (by omega), if_neg (by omega)]
theorem sz_large (l : List S24) (hm : l.length ≤ 9223372036854775807) (h : 1048576 < l.length) : laws_szPointS.f l 1048576 = some (-1) := by
  unfold laws_szPointS.f
  rw [w64 (by omega) (by omega), if_pos (by omega)]
theorem rdLN (l : List S24) (j : Nat) : rd_T24 l (j : Int) = l.getD j z24 := by
  unfold rd_T24
  rw [Int.toNat_natCast]
theorem toPointS_loop (l : List S24) (h : l.length ≤ 1048576) : ∀ (d k i : Nat) (x : List S30), i ≤ l.length → l.length - i ≤ d → d < k → x.length = l.length → laws_toPointS.l0 k l x i = some (x.take i ++ (conv l).drop i)
  | d, 0, i, x, _, _, h2, _ => absurd h2 (by omega)
  | d, k + 1, i, x, h0, h1, h2, hx => by
    simp only [laws_toPointS.l0, laws_toPoint.f]
    by_cases hi : i < l.length
    · rw [if_pos (by omega), if_pos (by omega), Option.bind_some, if_pos (by omega), w1 (by omega), toPointS_loop l h (d - 1) k (i + 1) _ (by omega) (by omega) (by omega) (by rw [List.length_set, hx]), rdLN]
      have e : l.getD i z24 = l[i] := by
        rw [List.getD_eq_getElem?_getD, List.getElem?_eq_getElem hi]
        rfl
      rw [e, Int.toNat_natCast, List.take_succ_eq_append_getElem (by rw [List.length_set, hx]; exact hi), List.getElem_set_self, List.take_set_of_le (Nat.le_refl _), List.append_assoc]
      congr 2
      rw [List.drop_eq_getElem_cons (i := i) (by rw [conv_length]; exact hi)]
      unfold conv
      rw [List.getElem_map]
      rfl
    · rw [if_neg (by omega), List.take_of_length_le (by omega), List.drop_eq_nil_of_le (by rw [conv_length]; omega), List.append_nil]
theorem toPointS_eq (l : List S24) (h : l.length ≤ 1048576) (k : Nat) (hk : l.length < k) : laws_toPointS.f k l = some (conv l) := by
  unfold laws_toPointS.f
  rw [if_pos (by omega), if_pos (by omega)]
  have := toPointS_loop l h l.length k 0 (List.replicate ((l.length : Int) : Int).toNat z30) (by omega) (by omega) hk (by rw [List.length_replicate, Int.toNat_natCast])
  simp only [Int.natCast_zero] at this
  rw [this, List.take_zero, List.nil_append, List.drop_zero]
theorem eqPoint_self (x y : Int) : laws_eqPoint.f x y x y = some true := by
  unfold laws_eqPoint.f
  rw [if_pos rfl, if_pos rfl]
theorem eqPointS_loop (l : List S30) (h : l.length ≤ 1000000000) : ∀ (d k i : Nat), l.length - i ≤ d → d < k → laws_eqPointS.l0 k l l i = some true
  | d, 0, i, _, h2 => absurd h2 (by omega)
  | d, k + 1, i, h1, h2 => by
    simp only [laws_eqPointS.l0]
    by_cases hi : i < l.length
    · rw [if_pos (by omega), if_pos (by omega), if_pos (by omega), eqPoint_self, Option.bind_some, if_pos rfl, w1 (by omega)]
      exact eqPointS_loop l h (d - 1) k (i + 1) (by omega) (by omega)
    · rw [if_neg (by omega)]
theorem eqPointS_self (l : List S30) (h : l.length ≤ 1000000000) (k : Nat) (hk : l.length < k) : laws_eqPointS.f k l l = some true := by
  unfold laws_eqPointS.f
  rw [if_pos rfl]
  exact eqPointS_loop l h l.length k 0 (by omega) hk

theorem back_eq (l : List S24) (h : l.length ≤ 1048576) (k : Nat) (hk : l.length < k) : ((laws_toPointS.f k l).bind fun t => (laws_eqPointS.f k (conv l) t).bind fun b => if b = true then some true else some false) = some true := by
  rw [toPointS_eq l h k hk, Option.bind_some, eqPointS_self (conv l) (by rw [conv_length]; omega) k (by rw [conv_length]; omega)]
  rfl

/-- One term of the sums for the centre. -/
theorem centreT {p : List S30} (h : InR p) (i : Nat) (a b : Int) (ha : 0 ≤ a ∧ a ≤ 20000) (hb : 0 ≤ b ∧ b ≤ 20000) : wrap64 (wrap64 (a + b) * crossT p i) = (a + b) * crossT p i ∧ -16000000000000 ≤ (a + b) * crossT p i ∧ (a + b) * crossT p i ≤ 16000000000000 := by
  have hc := crossT_in h i
  rw [w64 (x := a + b) (by omega) (by omega)]
  have h1 : (a + b) * crossT p i ≤ (a + b) * 400000000 := Int.mul_le_mul_of_nonneg_left hc.2 (by omega)
  have h2 : (a + b) * (-400000000) ≤ (a + b) * crossT p i := Int.mul_le_mul_of_nonneg_left hc.1 (by omega)
  exact ⟨w64 (by omega) (by omega), by omega, by omega⟩
theorem centre_loops {p : List S30} (h : InR p) (h3 : 3 ≤ p.length) (hn : p.length ≤ 24) (hA : 0 < areaTo p p.length) : ∀ (d i : Nat) (x y : Int), i ≤ p.length → p.length - i ≤ d → -(16000000000000 * i) ≤ x → x ≤ 16000000000000 * i → -(16000000000000 * i) ≤ y → y ≤ 16000000000000 * i →
    ∃ r, ∀ k, d + 30 < k → spec_CentreOf.l0 k p x y i = some r ∧ impl_CentreOf.l0 k p x y p (p.length : Int) i = some r := by
  intro d
  have fin : ∀ (i : Nat) (x y : Int), i = p.length → -(16000000000000 * i) ≤ x → x ≤ 16000000000000 * i → -(16000000000000 * i) ≤ y → y ≤ 16000000000000 * i → ∃ r, ∀ k, 30 < k → spec_CentreOf.l0 k p x y i = some r ∧ impl_CentreOf.l0 k p x y p (p.length : Int) i = some r := by
    intro i x y hi b1 b2 b3 b4
    have hb := areaTo_in h p.length
    refine ⟨(near x (3 * areaTo p p.length), near y (3 * areaTo p p.length), 0), fun k hk => ?_⟩
    obtain ⟨k, rfl⟩ : ∃ m, k = m + 1 := ⟨k - 1, by omega⟩
    simp only [spec_CentreOf.l0, impl_CentreOf.l0]
    rw [if_neg (by omega), if_neg (by omega), spec_area_eq h (by omega) k (by omega), impl_doubled_eq h (by omega) k (by omega)]
    simp only [Option.bind_some]
    rw [w64 (x := 3 * areaTo p p.length) (by omega) (by omega), spec_l01Div_eq x _ (by omega) (by omega) (by omega), spec_l01Div_eq y _ (by omega) (by omega) (by omega), impl_nearest_eq x _ (by omega) (by omega) (by omega), impl_nearest_eq y _ (by omega) (by omega) (by omega)]
    exact ⟨rfl, rfl⟩
  induction d with
  | zero =>
    intro i x y hi hd b1 b2 b3 b4
    obtain ⟨r, hr⟩ := fin i x y (by omega) b1 b2 b3 b4
    exact ⟨r, fun k hk => hr k (by omega)⟩
  | succ d ih =>
    intro i x y hi hd b1 b2 b3 b4
    by_cases hlt : i < p.length
    · have m1 := Nat.mod_lt (i + 1) (show 0 < p.length by omega)
      obtain ⟨a1, a2, a3, a4⟩ := h i
      obtain ⟨c1, c2, c3, c4⟩ := h ((i + 1) % p.length)
      obtain ⟨e1, e2, e3⟩ := centreT h i (p.getD i z30).f0 (p.getD ((i + 1) % p.length) z30).f0 ⟨a1, a2⟩ ⟨c1, c2⟩
      obtain ⟨g1, g2, g3⟩ := centreT h i (p.getD i z30).f1 (p.getD ((i + 1) % p.length) z30).f1 ⟨a3, a4⟩ ⟨c3, c4⟩
      obtain ⟨r, hr⟩ := ih (i + 1) (x + ((p.getD i z30).f0 + (p.getD ((i + 1) % p.length) z30).f0) * crossT p i) (y + ((p.getD i z30).f1 + (p.getD ((i + 1) % p.length) z30).f1) * crossT p i) (by omega) (by omega) (by omega) (by omega) (by omega) (by omega)
      refine ⟨r, fun k hk => ?_⟩
      obtain ⟨k, rfl⟩ : ∃ m, k = m + 1 := ⟨k - 1, by omega⟩
      have hr' := hr k (by omega)
      simp only [spec_CentreOf.l0, impl_CentreOf.l0]
      rw [tm1 (by omega) hlt, if_pos (by omega), if_neg (by omega), if_pos (by omega), if_pos (by omega), if_pos (by omega), if_pos (by omega), if_pos (by omega), if_pos (by omega), if_neg (by omega), if_pos (by omega), if_pos (by omega)]
      rw [rdN, rdN, crossT_w h, e1, g1, w1 (by omega), w64 (x := x + _) (by omega) (by omega), w64 (x := y + _) (by omega) (by omega)]
      exact hr'
    · obtain ⟨r, hr⟩ := fin i x y (by omega) b1 b2 b3 b4
      exact ⟨r, fun k hk => hr k (by omega)⟩
theorem centres_eq (p : List S30) (hl : p.length ≤ 1048576) : ∃ r, (∀ k, 1000 ≤ k → spec_CentreOf.f k p = some r) ∧ (∀ k, 1000 ≤ k → impl_CentreOf.f k p = some r) := by
  obtain ⟨b, h1, h2, hv⟩ := spec_valid_eq p hl
  cases b with
  | false =>
    refine ⟨(0, 0, 1), fun k hk => ?_, fun k hk => ?_⟩
    · unfold spec_CentreOf.f
      rw [h1 k hk]
      rfl
    · unfold impl_CentreOf.f
      rw [h2 k hk]
      rfl
  | true =>
    have hV := hv.1 rfl
    obtain ⟨r, hr⟩ := centre_loops (inR_of_all hV.2.2.1) hV.1 hV.2.1 hV.2.2.2.2 p.length 0 0 0 (by omega) (by omega) (by omega) (by omega) (by omega) (by omega)
    have hn := hV.2.1
    refine ⟨r, fun k hk => ?_, fun k hk => ?_⟩
    · unfold spec_CentreOf.f
      rw [h1 k hk, Option.bind_some, if_pos rfl]
      exact (hr k (by omega)).1
    · unfold impl_CentreOf.f
      rw [h2 k hk, Option.bind_some, if_pos rfl]
      exact (hr k (by omega)).2
theorem FnExactCentreOf (l : List S24) (hl : l.length ≤ maxLen) (hg : ∀ x ∈ l, (Lit.int .i64 x.f0).wf = true ∧ (Lit.int .i64 x.f1).wf = true) : ∃ k, laws_FnExactCentreOf.f k l = some true := by
  unfold maxLen at hl
  by_cases hs : l.length ≤ 1048576
  · obtain ⟨r, h1, h2⟩ := centres_eq (conv l) (by rw [conv_length]; exact hs)
    refine ⟨l.length + 1001 + 1, ?_⟩
    unfold laws_FnExactCentreOf.f
    rw [sz_small l hs, Option.bind_some, if_neg (by omega), toPointS_eq l hs _ (by omega)]
    simp only [Option.bind_some]
    rw [h1 _ (by omega), h2 _ (by omega)]
    simp only [Option.bind_some, eqPoint_self, if_true, laws_FnExactCentreOf.j0, bne_self_eq_false, Bool.false_eq_true, if_false]
    exact back_eq l hs _ (by omega)
  · refine ⟨0, ?_⟩
    unfold laws_FnExactCentreOf.f
    rw [sz_large l hl (by omega)]
    rfl

end Go.Proofs.Ytkobmkdjmpnojaa.Pure
