/- The plain law: what FnExactCrossPoint computes is true at every input. -/
import Derived.Test.YtolccaaoimjbdaaQFnExactCrossPointx
namespace Go.Proofs.Ytolccaaoimjbdaa.Pure
open Go.RowKit Go.Proofs.Ytolccaaoimjbdaa.PFnExactCrossPoint Go.Proofs.YtolccaaoimjbdaaW.PrintWords Go.Proofs.YtolccaaoimjbdaaW.PrintLast Go.Proofs.YtolccaaoimjbdaaW.PrintMore
set_option linter.unusedVariables false
set_option linter.unusedSimpArgs false

theorem w64 {x : Int} (h1 : -9223372036854775808 ≤ x) (h2 : x ≤ 9223372036854775807) : wrap64 x = x := by
  unfold wrap64
  omega
theorem wf64 {n : Int} (h : (Lit.int .i64 n).wf = true) : -9223372036854775808 ≤ n ∧ n ≤ 9223372036854775807 := by
  simp [Lit.wf, IntKind.min, IntKind.max, IntKind.bits, IntKind.signed] at h
  omega
theorem toList_nil_iff (s : ByteArray) : s.toList = ([] : List UInt8) ↔ s.size = 0 := by
  rw [ByteArray.toList_eq, List.eq_nil_iff_length_eq_zero, data_length]

theorem impl_within_eq (n lo hi : Int) : impl_within.f n lo hi = some (decide (lo ≤ n ∧ n ≤ hi)) := by
  unfold impl_within.f
  by_cases h : n ≥ lo
  · rw [if_pos h]
    have : lo ≤ n := h
    simp [this]
  · rw [if_neg h]
    have : ¬ lo ≤ n := h
    simp [this]

theorem spec_l00In_eq (n lo hi : Int) : spec_l00In.f n lo hi = some (decide (lo ≤ n ∧ n ≤ hi)) := by
  unfold spec_l00In.f
  by_cases h : n ≥ lo
  · rw [if_pos h]
    have : lo ≤ n := h
    simp [this]
  · rw [if_neg h]
    have : ¬ lo ≤ n := h
    simp [this]

/-- A valid point. -/
def okP (x y : Int) : Bool := decide (0 ≤ x ∧ x ≤ 20000) && decide (0 ≤ y ∧ y ≤ 20000)
theorem okP_iff (x y : Int) : okP x y = true ↔ (0 ≤ x ∧ x ≤ 20000) ∧ (0 ≤ y ∧ y ≤ 20000) := by
  unfold okP
  rw [Bool.and_eq_true, decide_eq_true_eq, decide_eq_true_eq]
theorem ok_bind (x y : Int) (f : Bool → Option Bool) (hf : ∀ b, f b = some b) : (if decide (0 ≤ x ∧ x ≤ 20000) = true then (some (decide (0 ≤ y ∧ y ≤ 20000))).bind f else some false) = some (okP x y) := by
  unfold okP
  by_cases h : 0 ≤ x ∧ x ≤ 20000
  · rw [decide_eq_true h, if_pos rfl]
    simp [hf]
  · rw [decide_eq_false h, if_neg (by decide)]
    simp

theorem impl_ValidPoint_eq (x y : Int) : impl_ValidPoint.f x y = some (okP x y) := by
  unfold impl_ValidPoint.f
  simp only [impl_within_eq]
  rw [Option.bind_some]
  exact ok_bind x y _ (fun _ => rfl)
theorem impl_validPoints_loop (l : List S25) (hl : l.length ≤ 9223372036854775806) : ∀ (d k : Nat) (i : Nat), l.length - i ≤ d → d < k → impl_validPoints.l0 k l (l.length : Int) i = some ((l.drop i).all fun s => okP s.f0 s.f1)
  | d, 0, i, h1, h2 => absurd h2 (by omega)
  | d, k + 1, i, h1, h2 => by
    simp only [impl_validPoints.l0, impl_ValidPoint_eq, Option.bind_some]
    by_cases h : i < l.length
    · rw [if_pos (by omega), if_pos (by omega), if_pos (by omega), w64 (by omega) (by omega), show ((i : Int) + 1) = ((i + 1 : Nat) : Int) by omega, impl_validPoints_loop l hl (d - 1) k (i + 1) (by omega) (by omega), List.drop_eq_getElem_cons h, List.all_cons]
      have e : rd_T25 l (i : Int) = l[i] := by
        unfold rd_T25
        rw [Int.toNat_natCast, List.getD_eq_getElem?_getD, List.getElem?_eq_getElem h]
        rfl
      rw [e]
      cases okP (l[i]).f0 (l[i]).f1 <;> simp
    · rw [if_neg (by omega), List.drop_eq_nil_of_le (by omega)]
      rfl
theorem impl_validPoints_eq (l : List S25) (hl : l.length ≤ 9223372036854775806) (k : Nat) (hk : l.length < k) : impl_validPoints.f k l = some (l.all fun s => okP s.f0 s.f1) := by
  unfold impl_validPoints.f
  exact impl_validPoints_loop l hl l.length k 0 (by omega) hk

theorem spec_l02Ok_eq (x y : Int) : spec_l02Ok.f x y = some (okP x y) := by
  unfold spec_l02Ok.f
  simp only [spec_l00In_eq]
  rw [Option.bind_some]
  exact ok_bind x y _ (fun _ => rfl)

theorem spec_l02Four_eq (a0 a1 b0 b1 c0 c1 d0 d1 : Int) : spec_l02Four.f a0 a1 b0 b1 c0 c1 d0 d1 = some (okP a0 a1 && okP b0 b1 && okP c0 c1 && okP d0 d1) := by
  unfold spec_l02Four.f
  simp only [spec_l02Ok_eq, Option.bind_some]
  cases okP a0 a1 <;> cases okP b0 b1 <;> cases okP c0 c1 <;> simp

theorem sides_same (a0 a1 b0 b1 c0 c1 : Int) : spec_l02Side.f a0 a1 b0 b1 c0 c1 = impl_side.f a0 a1 b0 b1 c0 c1 := by
  unfold spec_l02Side.f spec_l02Cross.f impl_side.f
  rfl
/-- The side, as the program reckons it. -/
def sideW (a0 a1 b0 b1 c0 c1 : Int) : Int := if (wrap64 ((wrap64 ((wrap64 (b0 - a0)) * (wrap64 (c1 - a1)))) - (wrap64 ((wrap64 (b1 - a1)) * (wrap64 (c0 - a0)))))) > 0 then 1 else (if (wrap64 ((wrap64 ((wrap64 (b0 - a0)) * (wrap64 (c1 - a1)))) - (wrap64 ((wrap64 (b1 - a1)) * (wrap64 (c0 - a0)))))) < 0 then -1 else 0)
theorem impl_side_eq (a0 a1 b0 b1 c0 c1 : Int) : impl_side.f a0 a1 b0 b1 c0 c1 = some (sideW a0 a1 b0 b1 c0 c1) := by
  unfold impl_side.f sideW
  split
  · rfl
  · split <;> rfl
theorem spec_side_eq (a0 a1 b0 b1 c0 c1 : Int) : spec_l02Side.f a0 a1 b0 b1 c0 c1 = some (sideW a0 a1 b0 b1 c0 c1) := by
  rw [sides_same, impl_side_eq]
theorem sideW_three (a0 a1 b0 b1 c0 c1 : Int) : sideW a0 a1 b0 b1 c0 c1 = 1 ∨ sideW a0 a1 b0 b1 c0 c1 = -1 ∨ sideW a0 a1 b0 b1 c0 c1 = 0 := by
  unfold sideW
  split
  · exact .inl rfl
  · split
    · exact .inr (.inl rfl)
    · exact .inr (.inr rfl)

def crossW (a0 a1 b0 b1 c0 c1 d0 d1 : Int) : Bool := decide (wrap64 (sideW a0 a1 b0 b1 c0 c1 * sideW a0 a1 b0 b1 d0 d1) < 0) && decide (wrap64 (sideW c0 c1 d0 d1 a0 a1 * sideW c0 c1 d0 d1 b0 b1) < 0)
theorem impl_crossing_eq (a0 a1 b0 b1 c0 c1 d0 d1 : Int) : impl_crossing.f a0 a1 b0 b1 c0 c1 d0 d1 = some (crossW a0 a1 b0 b1 c0 c1 d0 d1) := by
  unfold impl_crossing.f crossW
  simp only [impl_side_eq, Option.bind_some]
  by_cases h : wrap64 (sideW a0 a1 b0 b1 c0 c1 * sideW a0 a1 b0 b1 d0 d1) < 0
  · rw [if_pos h, decide_eq_true h, Bool.true_and]
  · rw [if_neg h, decide_eq_false h, Bool.false_and]
theorem spec_crosses_eq (a0 a1 b0 b1 c0 c1 d0 d1 : Int) : spec_l02Crosses.f a0 a1 b0 b1 c0 c1 d0 d1 = some (crossW a0 a1 b0 b1 c0 c1 d0 d1) := by
  rw [← impl_crossing_eq]
  unfold spec_l02Crosses.f impl_crossing.f
  simp only [sides_same]

theorem mul_self_nonneg' (a : Int) : 0 ≤ a * a := by
  rcases Int.le_total 0 a with h | h
  · exact Int.mul_nonneg h h
  · have := Int.mul_nonneg (show 0 ≤ -a by omega) (show 0 ≤ -a by omega)
    rwa [Int.neg_mul_neg] at this
theorem prod_in2 {a b M N : Int} (ha : -M ≤ a ∧ a ≤ M) (hb : -N ≤ b ∧ b ≤ N) (hM : 0 ≤ M) (hN : 0 ≤ N) : -(M * N) ≤ a * b ∧ a * b ≤ M * N := by
  rcases Int.le_total 0 a with h | h
  · have h1 : a * b ≤ a * N := Int.mul_le_mul_of_nonneg_left hb.2 h
    have h2 : a * (-N) ≤ a * b := Int.mul_le_mul_of_nonneg_left hb.1 h
    have h3 : a * N ≤ M * N := Int.mul_le_mul_of_nonneg_right ha.2 hN
    rw [Int.mul_neg] at h2
    omega
  · have h1 : (-a) * b ≤ (-a) * N := Int.mul_le_mul_of_nonneg_left hb.2 (by omega)
    have h2 : (-a) * (-N) ≤ (-a) * b := Int.mul_le_mul_of_nonneg_left hb.1 (by omega)
    have h3 : (-a) * N ≤ M * N := Int.mul_le_mul_of_nonneg_right (by omega) hN
    have e1 : (-a) * b = -(a * b) := Int.neg_mul a b
    have e2 : (-a) * N = -(a * N) := Int.neg_mul a N
    have e3 : (-a) * (-N) = a * N := Int.neg_mul_neg a N
    omega
theorem prod_in {a b M : Int} (ha : -M ≤ a ∧ a ≤ M) (hb : -M ≤ b ∧ b ≤ M) (hM : 0 ≤ M) : -(M * M) ≤ a * b ∧ a * b ≤ M * M := prod_in2 ha hb hM hM

/-- The cross product, exact. -/
def crX (a0 a1 b0 b1 c0 c1 : Int) : Int := (b0 - a0) * (c1 - a1) - (b1 - a1) * (c0 - a0)
theorem crX_w (a0 a1 b0 b1 c0 c1 : Int) (ha : okP a0 a1 = true) (hb : okP b0 b1 = true) (hc : okP c0 c1 = true) :
    wrap64 ((wrap64 ((wrap64 (b0 - a0)) * (wrap64 (c1 - a1)))) - (wrap64 ((wrap64 (b1 - a1)) * (wrap64 (c0 - a0))))) = crX a0 a1 b0 b1 c0 c1 ∧ -800000000 ≤ crX a0 a1 b0 b1 c0 c1 ∧ crX a0 a1 b0 b1 c0 c1 ≤ 800000000 := by
  obtain ⟨⟨A1, A2⟩, A3, A4⟩ := (okP_iff _ _).1 ha
  obtain ⟨⟨B1, B2⟩, B3, B4⟩ := (okP_iff _ _).1 hb
  obtain ⟨⟨C1, C2⟩, C3, C4⟩ := (okP_iff _ _).1 hc
  have h1 := prod_in (a := b0 - a0) (b := c1 - a1) (M := 20000) (by omega) (by omega) (by omega)
  have h2 := prod_in (a := b1 - a1) (b := c0 - a0) (M := 20000) (by omega) (by omega) (by omega)
  unfold crX
  rw [w64 (x := b0 - a0) (by omega) (by omega), w64 (x := b1 - a1) (by omega) (by omega), w64 (x := c0 - a0) (by omega) (by omega), w64 (x := c1 - a1) (by omega) (by omega), w64 (x := (b0 - a0) * (c1 - a1)) (by omega) (by omega), w64 (x := (b1 - a1) * (c0 - a0)) (by omega) (by omega), w64 (by omega) (by omega)]
  exact ⟨rfl, by omega, by omega⟩
theorem sideW_X (a0 a1 b0 b1 c0 c1 : Int) (ha : okP a0 a1 = true) (hb : okP b0 b1 = true) (hc : okP c0 c1 = true) :
    sideW a0 a1 b0 b1 c0 c1 = if crX a0 a1 b0 b1 c0 c1 > 0 then 1 else if crX a0 a1 b0 b1 c0 c1 < 0 then -1 else 0 := by
  unfold sideW
  rw [(crX_w a0 a1 b0 b1 c0 c1 ha hb hc).1]

theorem near_floor (X t r : Int) (hX : -20000 ≤ X ∧ X ≤ 20000) (ht : -800000000 ≤ t ∧ t ≤ 800000000) (hr : -800000000 ≤ r ∧ r ≤ 800000000) (h0 : r ≠ 0) : ∃ v, spec_l02Near.f (wrap64 (X * t)) r = some v ∧ impl_floorDiv.f (wrap64 (wrap64 (wrap64 (2 * X) * t) + r)) (wrap64 (2 * r)) = some v := by
  have h1 := prod_in2 (a := X) (b := t) (M := 20000) (N := 800000000) hX ht (by omega) (by omega)
  have e : 2 * X * t = 2 * (X * t) := Int.mul_assoc 2 X t
  unfold spec_l02Near.f impl_floorDiv.f
  have hz : ¬ wrap64 (2 * r) = 0 := by
    rw [w64 (by omega) (by omega)]
    omega
  rw [w64 (x := X * t) (by omega) (by omega), w64 (x := 2 * X) (by omega) (by omega), e, w64 (x := 2 * (X * t)) (by omega) (by omega), w64 (x := 2 * (X * t) + r) (by omega) (by omega)]
  simp only [hz, if_false]
  split <;> exact ⟨_, rfl, rfl⟩
theorem cross_ne (a0 a1 b0 b1 c0 c1 d0 d1 : Int) (ha : okP a0 a1 = true) (hb : okP b0 b1 = true) (hc : okP c0 c1 = true) (hd : okP d0 d1 = true) (h : crossW a0 a1 b0 b1 c0 c1 d0 d1 = true) : (b0 - a0) * (d1 - c1) - (b1 - a1) * (d0 - c0) ≠ 0 := by
  unfold crossW at h
  rw [Bool.and_eq_true] at h
  have h := of_decide_eq_true h.1
  rw [sideW_X a0 a1 b0 b1 c0 c1 ha hb hc, sideW_X a0 a1 b0 b1 d0 d1 ha hb hd] at h
  have e : (b0 - a0) * (d1 - c1) - (b1 - a1) * (d0 - c0) = crX a0 a1 b0 b1 d0 d1 - crX a0 a1 b0 b1 c0 c1 := by
    unfold crX
    have e1 : (b0 - a0) * (d1 - c1) = (b0 - a0) * (d1 - a1) - (b0 - a0) * (c1 - a1) := by
      rw [← Int.mul_sub]
      congr 1
      omega
    have e2 : (b1 - a1) * (d0 - c0) = (b1 - a1) * (d0 - a0) - (b1 - a1) * (c0 - a0) := by
      rw [← Int.mul_sub]
      congr 1
      omega
    omega
  rw [e]
  intro hz
  have hz : crX a0 a1 b0 b1 d0 d1 = crX a0 a1 b0 b1 c0 c1 := by omega
  rw [hz] at h
  have w1 : wrap64 (1 * 1) = 1 := w64 (by omega) (by omega)
  have w2 : wrap64 (-1 * -1) = 1 := w64 (by omega) (by omega)
  have w3 : wrap64 (0 * 0) = 0 := w64 (by omega) (by omega)
  by_cases p : crX a0 a1 b0 b1 c0 c1 > 0
  · rw [if_pos p, w1] at h
    omega
  · by_cases q : crX a0 a1 b0 b1 c0 c1 < 0
    · rw [if_neg p, if_pos q, w2] at h
      omega
    · rw [if_neg p, if_neg q, w3] at h
      omega
theorem eqPoint_same (x y : Int) : laws_eqPoint.f x y x y = some true := by
  unfold laws_eqPoint.f
  rw [if_pos rfl, if_pos rfl]
theorem FnExactCrossPoint (a0 a1 b0 b1 c0 c1 d0 d1 : Int) (_ : (Lit.int .i64 a0).wf = true) (_ : (Lit.int .i64 a1).wf = true) (_ : (Lit.int .i64 b0).wf = true) (_ : (Lit.int .i64 b1).wf = true) (_ : (Lit.int .i64 c0).wf = true) (_ : (Lit.int .i64 c1).wf = true) (_ : (Lit.int .i64 d0).wf = true) (_ : (Lit.int .i64 d1).wf = true) : ∃ k, laws_FnExactCrossPoint.f k a0 a1 b0 b1 c0 c1 d0 d1 = some true := by
  refine ⟨5, ?_⟩
  have key : ∃ r, spec_CrossPoint.f a0 a1 b0 b1 c0 c1 d0 d1 = some r ∧ impl_CrossPoint.f 5 a0 a1 b0 b1 c0 c1 d0 d1 = some r := by
    unfold spec_CrossPoint.f impl_CrossPoint.f
    simp only [spec_l02Four_eq, spec_crosses_eq, impl_crossing_eq]
    rw [impl_validPoints_eq _ (by simp) 5 (by simp)]
    simp only [List.all_cons, List.all_nil, Bool.and_true, Bool.and_assoc, Option.bind_some]
    cases ha : okP a0 a1
    · exact ⟨_, rfl, rfl⟩
    · cases hb : okP b0 b1
      · exact ⟨_, rfl, rfl⟩
      · cases hc : okP c0 c1
        · exact ⟨_, rfl, rfl⟩
        · cases hd : okP d0 d1
          · exact ⟨_, rfl, rfl⟩
          · cases hx : crossW a0 a1 b0 b1 c0 c1 d0 d1
            · exact ⟨_, rfl, rfl⟩
            · have hne := cross_ne a0 a1 b0 b1 c0 c1 d0 d1 ha hb hc hd hx
              obtain ⟨⟨A1, A2⟩, A3, A4⟩ := (okP_iff _ _).1 ha
              obtain ⟨⟨B1, B2⟩, B3, B4⟩ := (okP_iff _ _).1 hb
              obtain ⟨⟨C1, C2⟩, C3, C4⟩ := (okP_iff _ _).1 hc
              obtain ⟨⟨D1, D2⟩, D3, D4⟩ := (okP_iff _ _).1 hd
              have p1 := prod_in (a := b0 - a0) (b := d1 - c1) (M := 20000) (by omega) (by omega) (by omega)
              have p2 := prod_in (a := b1 - a1) (b := d0 - c0) (M := 20000) (by omega) (by omega) (by omega)
              have p3 := prod_in (a := c0 - a0) (b := d1 - c1) (M := 20000) (by omega) (by omega) (by omega)
              have p4 := prod_in (a := c1 - a1) (b := d0 - c0) (M := 20000) (by omega) (by omega) (by omega)
              simp only [Bool.and_self, if_true]
              rw [w64 (x := b0 - a0) (by omega) (by omega), w64 (x := b1 - a1) (by omega) (by omega), w64 (x := c0 - a0) (by omega) (by omega), w64 (x := c1 - a1) (by omega) (by omega), w64 (x := d0 - c0) (by omega) (by omega), w64 (x := d1 - c1) (by omega) (by omega)]
              rw [w64 (x := (b0 - a0) * (d1 - c1)) (by omega) (by omega), w64 (x := (b1 - a1) * (d0 - c0)) (by omega) (by omega), w64 (x := (c0 - a0) * (d1 - c1)) (by omega) (by omega), w64 (x := (c1 - a1) * (d0 - c0)) (by omega) (by omega)]
              rw [w64 (x := (b0 - a0) * (d1 - c1) - (b1 - a1) * (d0 - c0)) (by omega) (by omega), w64 (x := (c0 - a0) * (d1 - c1) - (c1 - a1) * (d0 - c0)) (by omega) (by omega)]
              have hr : -800000000 ≤ (b0 - a0) * (d1 - c1) - (b1 - a1) * (d0 - c0) ∧ (b0 - a0) * (d1 - c1) - (b1 - a1) * (d0 - c0) ≤ 800000000 := by omega
              have ht : -800000000 ≤ (c0 - a0) * (d1 - c1) - (c1 - a1) * (d0 - c0) ∧ (c0 - a0) * (d1 - c1) - (c1 - a1) * (d0 - c0) ≤ 800000000 := by omega
              clear p1 p2 p3 p4
              generalize (b0 - a0) * (d1 - c1) - (b1 - a1) * (d0 - c0) = r at hr hne ⊢
              generalize (c0 - a0) * (d1 - c1) - (c1 - a1) * (d0 - c0) = t at ht ⊢
              by_cases hneg : r < 0
              · rw [if_pos hneg, if_pos hneg, w64 (x := -r) (by omega) (by omega), w64 (x := -t) (by omega) (by omega)]
                obtain ⟨v1, e1, f1⟩ := near_floor (b0 - a0) (-t) (-r) (by omega) (by omega) (by omega) (by omega)
                obtain ⟨v2, e2, f2⟩ := near_floor (b1 - a1) (-t) (-r) (by omega) (by omega) (by omega) (by omega)
                rw [e1, e2, f1, f2]
                exact ⟨_, rfl, rfl⟩
              · rw [if_neg hneg, if_neg hneg]
                obtain ⟨v1, e1, f1⟩ := near_floor (b0 - a0) t r (by omega) (by omega) (by omega) (by omega)
                obtain ⟨v2, e2, f2⟩ := near_floor (b1 - a1) t r (by omega) (by omega) (by omega) (by omega)
                rw [e1, e2, f1, f2]
                exact ⟨_, rfl, rfl⟩
  obtain ⟨⟨r1, r2, r3⟩, h1, h2⟩ := key
  unfold laws_FnExactCrossPoint.f laws_toPoint.f
  simp only [Option.bind_some]
  rw [h1, h2]
  simp only [Option.bind_some, eqPoint_same, if_true]

end Go.Proofs.Ytolccaaoimjbdaa.Pure
