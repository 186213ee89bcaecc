/- The plain law: what FnExactBlend computes is true at every input. -/
import Derived.Test.YtboagnbadbjggaaPFnExactBlendx
namespace Go.Proofs.Ytboagnbadbjggaa.Pure
open Go.RowKit Go.Proofs.Ytboagnbadbjggaa.PFnExactBlend Go.Proofs.YtboagnbadbjggaaW.PrintWords Go.Proofs.YtboagnbadbjggaaW.PrintLast Go.Proofs.YtboagnbadbjggaaW.PrintMore
set_option linter.unusedVariables false
set_option linter.unusedSimpArgs false

theorem w64 {x : Int} (h1 : -9223372036854775808 ≤ x) (h2 : x ≤ 9223372036854775807) : wrap64 x = x := by
  unfold wrap64
  omega
theorem wf64 {n : Int} (h : (Lit.int .i64 n).wf = true) : -9223372036854775808 ≤ n ∧ n ≤ 9223372036854775807 := by
  simp [Lit.wf, IntKind.min, IntKind.max, IntKind.bits, IntKind.signed] at h
  omega
theorem toList_nil_iff (s : ByteArray) : s.toList = ([] : List UInt8) ↔ s.size = 0 := by
  rw [ByteArray.toList_eq, List.eq_nil_iff_length_eq_zero, data_length]

/-- The nearest quotient of numbers without a sign. -/
def hq (A B : Int) : Int := A / B + (if A % B ≥ B - A % B then 1 else 0)
theorem half_of (A B : Int) (hA : 0 ≤ A) (hB : 0 < B) : (2 * A + B) / (2 * B) = hq A B := by
  unfold hq
  have h1 := Int.emod_nonneg A (show B ≠ 0 by omega)
  have h2 := Int.emod_lt_of_pos A hB
  have h3 := Int.emod_add_mul_ediv A B
  have e : 2 * A + B = (2 * (A % B) + B) + (2 * B) * (A / B) := by
    have : (2 * B) * (A / B) = 2 * (B * (A / B)) := Int.mul_assoc ..
    omega
  rw [e, Int.add_mul_ediv_left _ _ (by omega)]
  generalize A % B = r at *
  by_cases h : r ≥ B - r
  · rw [if_pos h]
    have : 2 * r + B = (2 * r - B) + (2 * B) * 1 := by omega
    rw [this, Int.add_mul_ediv_left _ _ (by omega), Int.ediv_eq_zero_of_lt (by omega) (by omega)]
    omega
  · rw [if_neg h, Int.ediv_eq_zero_of_lt (by omega) (by omega)]
    omega
theorem hq_zero (B : Int) (hB : 0 < B) : hq 0 B = 0 := by
  unfold hq
  rw [Int.zero_ediv, Int.zero_emod, if_neg (by omega)]
  rfl
theorem hq_bounds (A B : Int) (hA : 0 ≤ A) (hB : 0 < B) : 0 ≤ hq A B ∧ hq A B ≤ A + 1 := by
  unfold hq
  have := Int.ediv_nonneg hA (show 0 ≤ B by omega)
  have := Int.ediv_le_self B hA
  split <;> omega
/-- The nearest quotient. -/
def near (a b : Int) : Int := if (decide (a < 0) != decide (b < 0)) = true then -(hq (if a < 0 then -a else a) (if b < 0 then -b else b)) else hq (if a < 0 then -a else a) (if b < 0 then -b else b)
theorem near_bounds (a b : Int) (hb : b ≠ 0) : -(if a < 0 then -a else a) - 1 ≤ near a b ∧ near a b ≤ (if a < 0 then -a else a) + 1 := by
  have h := hq_bounds (if a < 0 then -a else a) (if b < 0 then -b else b) (by split <;> omega) (by split <;> omega)
  unfold near
  generalize (if a < 0 then -a else a) = A at *
  split <;> omega
theorem mx_abs {a : Int} (h0 : -9223372036854775807 ≤ a) (h1 : a ≤ 9223372036854775807) : mx a (wrap64 (-a)) = (if a < 0 then -a else a) := by
  rw [w64 (by omega) (by omega)]
  unfold mx
  split <;> split <;> omega
theorem impl_nearest_eq (a b : Int) (ha : -9000000000000000000 ≤ a ∧ a ≤ 9000000000000000000) (hb : -9000000000000000000 ≤ b ∧ b ≤ 9000000000000000000) (h0 : b ≠ 0) : impl_nearest.f a b = some (near a b) := by
  unfold impl_nearest.f near
  rw [if_neg h0, mx_abs (by omega) (by omega), mx_abs (by omega) (by omega)]
  have hA : 0 ≤ (if a < 0 then -a else a) ∧ (if a < 0 then -a else a) ≤ 9000000000000000000 := by split <;> omega
  have hB : 0 < (if b < 0 then -b else b) ∧ (if b < 0 then -b else b) ≤ 9000000000000000000 := by split <;> omega
  generalize hA' : (if a < 0 then -a else a) = A at *
  generalize hB' : (if b < 0 then -b else b) = B at *
  have e1 := Int.tdiv_eq_ediv_of_nonneg (b := B) hA.1
  have e2 := Int.tmod_eq_emod_of_nonneg (b := B) hA.1
  have h1 := Int.emod_nonneg A (show B ≠ 0 by omega)
  have h2 := Int.emod_lt_of_pos A hB.1
  have h3 := Int.ediv_nonneg hA.1 (show 0 ≤ B by omega)
  have h4 := Int.ediv_le_self B hA.1
  rw [if_neg (by omega), e1, e2]
  unfold hq
  generalize A % B = r at *
  generalize A / B = q at *
  rw [w64 (x := B - r) (by omega) (by omega), w64 (x := q) (by omega) (by omega), w64 (x := q + 1) (by omega) (by omega), w64 (x := -(q + 1)) (by omega) (by omega), w64 (x := -q) (by omega) (by omega)]
  by_cases h : r ≥ B - r
  · rw [if_pos h, if_pos h]
    split <;> rfl
  · rw [if_neg h, if_neg h]
    split <;> simp
theorem spec_l01Div_eq (a b : Int) (ha : -3000000000000000000 ≤ a ∧ a ≤ 3000000000000000000) (hb : -3000000000000000000 ≤ b ∧ b ≤ 3000000000000000000) (h0 : b ≠ 0) : spec_l01Div.f a b = some (near a b) := by
  unfold spec_l01Div.f near
  by_cases hbn : b < 0
  · rw [if_pos hbn, if_pos hbn, w64 (x := -a) (by omega) (by omega), w64 (x := -b) (by omega) (by omega), w64 (x := 2 * -b) (by omega) (by omega), w64 (x := 2 * -a) (by omega) (by omega), w64 (x := -b - 2 * -a) (by omega) (by omega), w64 (x := 2 * -a + -b) (by omega) (by omega)]
    by_cases han : -a < 0
    · rw [if_pos han, if_neg (by omega), Int.tdiv_eq_ediv_of_nonneg (by omega), if_neg (show ¬ a < 0 by omega), if_pos (by simp; omega)]
      have hq' := half_of a (-b) (by omega) (by omega)
      have hbd := hq_bounds a (-b) (by omega) (by omega)
      rw [show -b - 2 * -a = 2 * a + -b by omega, hq', w64 (x := hq a (-b)) (by omega) (by omega), w64 (x := -hq a (-b)) (by omega) (by omega)]
    · rw [if_neg han, if_neg (by omega), Int.tdiv_eq_ediv_of_nonneg (by omega)]
      have hq' := half_of (-a) (-b) (by omega) (by omega)
      have hbd := hq_bounds (-a) (-b) (by omega) (by omega)
      by_cases hz : a < 0
      · rw [if_neg (by simp; omega), if_pos hz]
        rw [hq', w64 (by omega) (by omega)]
      · have : a = 0 := by omega
        subst this
        have hz0 := hq_zero (-b) (by omega)
        simp only [Int.neg_zero] at hq' hbd ⊢
        rw [hq', hz0]
        simp [hz0]
        exact w64 (by omega) (by omega)
  · rw [if_neg hbn, if_neg hbn, w64 (x := 2 * b) (by omega) (by omega), w64 (x := 2 * a) (by omega) (by omega), w64 (x := b - 2 * a) (by omega) (by omega), w64 (x := 2 * a + b) (by omega) (by omega)]
    by_cases han : a < 0
    · rw [if_pos han, if_neg (by omega), Int.tdiv_eq_ediv_of_nonneg (by omega), if_pos han, if_pos (by simp; omega)]
      have hq' := half_of (-a) b (by omega) (by omega)
      have hbd := hq_bounds (-a) b (by omega) (by omega)
      rw [show b - 2 * a = 2 * -a + b by omega, hq', w64 (x := hq (-a) b) (by omega) (by omega), w64 (x := -hq (-a) b) (by omega) (by omega)]
    · rw [if_neg han, if_neg (by omega), Int.tdiv_eq_ediv_of_nonneg (by omega), if_neg han, if_neg (by simp; omega)]
      have hq' := half_of a b (by omega) (by omega)
      have hbd := hq_bounds a b (by omega) (by omega)
      rw [hq', w64 (by omega) (by omega)]

theorem impl_within_eq (n lo hi : Int) : impl_within.f n lo hi = some (decide (lo ≤ n ∧ n ≤ hi)) := by
  unfold impl_within.f
  by_cases h : n ≥ lo
  · rw [if_pos h]
    have : lo ≤ n := h
    simp [this]
  · rw [if_neg h]
    have : ¬ lo ≤ n := h
    simp [this]

theorem spec_l00In_eq (n lo hi : Int) : spec_l00In.f n lo hi = some (decide (lo ≤ n ∧ n ≤ hi)) := by
  unfold spec_l00In.f
  by_cases h : n ≥ lo
  · rw [if_pos h]
    have : lo ≤ n := h
    simp [this]
  · rw [if_neg h]
    have : ¬ lo ≤ n := h
    simp [this]

theorem blend_loop (x0 y0 x1 y1 x : Int) (k : Nat) : impl_Blend.f (k + 6) x0 y0 x1 y1 x =
    if -1000000 ≤ x0 ∧ x0 ≤ 1000000 then if -1000000 ≤ y0 ∧ y0 ≤ 1000000 then if -1000000 ≤ x1 ∧ x1 ≤ 1000000 then if -1000000 ≤ y1 ∧ y1 ≤ 1000000 then
      (if x ≤ x0 then impl_Blend.j1 (k + 1) x0 y0 x1 y1 x true else impl_Blend.j1 (k + 1) x0 y0 x1 y1 x (decide (x1 ≤ x0))) else some 0 else some 0 else some 0 else some 0 := by
  have e1 : wrap64 1 = 1 := w64 (by omega) (by omega)
  have e2 : wrap64 2 = 2 := w64 (by omega) (by omega)
  have e3 : wrap64 3 = 3 := w64 (by omega) (by omega)
  have e4 : wrap64 4 = 4 := w64 (by omega) (by omega)
  simp [impl_Blend.f, impl_Blend.l0, impl_within_eq, rd, e1, e2, e3, e4]
theorem FnExactBlend : laws_FnExactBlend.Pure := by
  intro x0 y0 x1 y1 x _ _ _ _ _
  refine ⟨6, ?_⟩
  unfold laws_FnExactBlend.f spec_Blend.f spec_l01Line.f
  rw [blend_loop x0 y0 x1 y1 x 0]
  simp only [spec_l00In_eq, Option.bind_some]
  by_cases h0 : -1000000 ≤ x0 ∧ x0 ≤ 1000000
  · by_cases h1 : -1000000 ≤ y0 ∧ y0 ≤ 1000000
    · by_cases h2 : -1000000 ≤ x1 ∧ x1 ≤ 1000000
      · by_cases h3 : -1000000 ≤ y1 ∧ y1 ≤ 1000000
        · simp only [if_pos h0, if_pos h1, if_pos h2, if_pos h3, decide_eq_true h0, decide_eq_true h1, decide_eq_true h2, decide_eq_true h3, if_true]
          have same : ∀ b : Bool, (x1 ≤ x0 → b = true ∨ x ≤ x0) → (b = false → x0 < x1 ∧ x0 < x) → ∃ r, spec_l01Line.j0 6 x0 y0 x1 y1 x b = some r ∧ impl_Blend.j1 (0 + 1) x0 y0 x1 y1 x b = some r := by
            intro b _ hb
            simp only [spec_l01Line.j0, impl_Blend.j1]
            cases b with
            | true => exact ⟨_, rfl, rfl⟩
            | false =>
              obtain ⟨q0, q1⟩ := hb rfl
              simp only [Bool.false_eq_true, if_false]
              by_cases hx : x ≥ x1
              · rw [if_pos hx, if_pos hx]; exact ⟨_, rfl, rfl⟩
              · rw [if_neg hx, if_neg hx]
                have p1 : -(2000000 * 2000000) ≤ (y1 - y0) * (x - x0) ∧ (y1 - y0) * (x - x0) ≤ 2000000 * 2000000 := by
                  have u : (y1 - y0) * (x - x0) ≤ 2000000 * (x - x0) := Int.mul_le_mul_of_nonneg_right (by omega) (by omega)
                  have v : -2000000 * (x - x0) ≤ (y1 - y0) * (x - x0) := Int.mul_le_mul_of_nonneg_right (by omega) (by omega)
                  omega
                rw [w64 (x := y1 - y0) (by omega) (by omega), w64 (x := x - x0) (by omega) (by omega), w64 (x := x1 - x0) (by omega) (by omega), w64 (x := (y1 - y0) * (x - x0)) (by omega) (by omega)]
                rw [impl_nearest_eq _ _ (by omega) (by omega) (by omega), spec_l01Div_eq _ _ (by omega) (by omega) (by omega)]
                exact ⟨_, rfl, rfl⟩
          by_cases hx : x ≤ x0
          · rw [if_pos hx, if_pos hx]
            obtain ⟨r, e, e'⟩ := same true (fun _ => .inl rfl) (fun h => by cases h)
            rw [e, e']
            simp
          · rw [if_neg hx, if_neg hx]
            obtain ⟨r, e, e'⟩ := same (decide (x1 ≤ x0)) (fun h => .inl (decide_eq_true h)) (fun h => by have := of_decide_eq_false h; omega)
            rw [e, e']
            simp
        · simp only [if_pos h0, if_pos h1, if_pos h2, if_neg h3, decide_eq_true h0, decide_eq_true h1, decide_eq_true h2, decide_eq_false h3, if_true, Bool.false_eq_true, if_false, Option.bind_some]
      · simp only [if_pos h0, if_pos h1, if_neg h2, decide_eq_true h0, decide_eq_false h2, if_true, Bool.false_eq_true, if_false, Option.bind_some]
    · by_cases h2 : -1000000 ≤ x1 ∧ x1 ≤ 1000000
      · simp only [if_pos h0, if_neg h1, decide_eq_true h0, decide_eq_true h2, decide_eq_false h1, if_true, Bool.false_eq_true, if_false, Option.bind_some]
      · simp only [if_pos h0, if_neg h1, decide_eq_true h0, decide_eq_false h2, if_true, Bool.false_eq_true, if_false, Option.bind_some]
  · simp only [if_neg h0, decide_eq_false h0, if_true, Bool.false_eq_true, if_false, Option.bind_some]

end Go.Proofs.Ytboagnbadbjggaa.Pure
