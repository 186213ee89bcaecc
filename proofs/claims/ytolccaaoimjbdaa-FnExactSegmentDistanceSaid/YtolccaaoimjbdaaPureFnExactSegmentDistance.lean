/- The plain law: what FnExactSegmentDistance computes is true at every input. -/
import Derived.Test.YtolccaaoimjbdaaQFnExactSegmentDistancex
namespace Go.Proofs.Ytolccaaoimjbdaa.Pure
open Go.RowKit Go.Proofs.Ytolccaaoimjbdaa.PFnExactSegmentDistance Go.Proofs.YtolccaaoimjbdaaW.PrintWords Go.Proofs.YtolccaaoimjbdaaW.PrintLast Go.Proofs.YtolccaaoimjbdaaW.PrintMore
set_option linter.unusedVariables false
set_option linter.unusedSimpArgs false

theorem w64 {x : Int} (h1 : -9223372036854775808 ≤ x) (h2 : x ≤ 9223372036854775807) : wrap64 x = x := by
  unfold wrap64
  omega
theorem wf64 {n : Int} (h : (Lit.int .i64 n).wf = true) : -9223372036854775808 ≤ n ∧ n ≤ 9223372036854775807 := by
  simp [Lit.wf, IntKind.min, IntKind.max, IntKind.bits, IntKind.signed] at h
  omega
theorem toList_nil_iff (s : ByteArray) : s.toList = ([] : List UInt8) ↔ s.size = 0 := by
  rw [ByteArray.toList_eq, List.eq_nil_iff_length_eq_zero, data_length]

theorem impl_within_eq (n lo hi : Int) : impl_within.f n lo hi = some (decide (lo ≤ n ∧ n ≤ hi)) := by
  unfold impl_within.f
  by_cases h : n ≥ lo
  · rw [if_pos h]
    have : lo ≤ n := h
    simp [this]
  · rw [if_neg h]
    have : ¬ lo ≤ n := h
    simp [this]

theorem spec_l00In_eq (n lo hi : Int) : spec_l00In.f n lo hi = some (decide (lo ≤ n ∧ n ≤ hi)) := by
  unfold spec_l00In.f
  by_cases h : n ≥ lo
  · rw [if_pos h]
    have : lo ≤ n := h
    simp [this]
  · rw [if_neg h]
    have : ¬ lo ≤ n := h
    simp [this]

/-- A valid point. -/
def okP (x y : Int) : Bool := decide (0 ≤ x ∧ x ≤ 20000) && decide (0 ≤ y ∧ y ≤ 20000)
theorem okP_iff (x y : Int) : okP x y = true ↔ (0 ≤ x ∧ x ≤ 20000) ∧ (0 ≤ y ∧ y ≤ 20000) := by
  unfold okP
  rw [Bool.and_eq_true, decide_eq_true_eq, decide_eq_true_eq]
theorem ok_bind (x y : Int) (f : Bool → Option Bool) (hf : ∀ b, f b = some b) : (if decide (0 ≤ x ∧ x ≤ 20000) = true then (some (decide (0 ≤ y ∧ y ≤ 20000))).bind f else some false) = some (okP x y) := by
  unfold okP
  by_cases h : 0 ≤ x ∧ x ≤ 20000
  · rw [decide_eq_true h, if_pos rfl]
    simp [hf]
  · rw [decide_eq_false h, if_neg (by decide)]
    simp

theorem impl_ValidPoint_eq (x y : Int) : impl_ValidPoint.f x y = some (okP x y) := by
  unfold impl_ValidPoint.f
  simp only [impl_within_eq]
  rw [Option.bind_some]
  exact ok_bind x y _ (fun _ => rfl)
theorem impl_validPoints_loop (l : List S25) (hl : l.length ≤ 9223372036854775806) : ∀ (d k : Nat) (i : Nat), l.length - i ≤ d → d < k → impl_validPoints.l0 k l (l.length : Int) i = some ((l.drop i).all fun s => okP s.f0 s.f1)
  | d, 0, i, h1, h2 => absurd h2 (by omega)
  | d, k + 1, i, h1, h2 => by
    simp only [impl_validPoints.l0, impl_ValidPoint_eq, Option.bind_some]
    by_cases h : i < l.length
    · rw [if_pos (by omega), if_pos (by omega), if_pos (by omega), w64 (by omega) (by omega), show ((i : Int) + 1) = ((i + 1 : Nat) : Int) by omega, impl_validPoints_loop l hl (d - 1) k (i + 1) (by omega) (by omega), List.drop_eq_getElem_cons h, List.all_cons]
      have e : rd_T25 l (i : Int) = l[i] := by
        unfold rd_T25
        rw [Int.toNat_natCast, List.getD_eq_getElem?_getD, List.getElem?_eq_getElem h]
        rfl
      rw [e]
      cases okP (l[i]).f0 (l[i]).f1 <;> simp
    · rw [if_neg (by omega), List.drop_eq_nil_of_le (by omega)]
      rfl
theorem impl_validPoints_eq (l : List S25) (hl : l.length ≤ 9223372036854775806) (k : Nat) (hk : l.length < k) : impl_validPoints.f k l = some (l.all fun s => okP s.f0 s.f1) := by
  unfold impl_validPoints.f
  exact impl_validPoints_loop l hl l.length k 0 (by omega) hk

theorem spec_l02Ok_eq (x y : Int) : spec_l02Ok.f x y = some (okP x y) := by
  unfold spec_l02Ok.f
  simp only [spec_l00In_eq]
  rw [Option.bind_some]
  exact ok_bind x y _ (fun _ => rfl)

theorem spec_l02Four_eq (a0 a1 b0 b1 c0 c1 d0 d1 : Int) : spec_l02Four.f a0 a1 b0 b1 c0 c1 d0 d1 = some (okP a0 a1 && okP b0 b1 && okP c0 c1 && okP d0 d1) := by
  unfold spec_l02Four.f
  simp only [spec_l02Ok_eq, Option.bind_some]
  cases okP a0 a1 <;> cases okP b0 b1 <;> cases okP c0 c1 <;> simp

theorem mid_of (lo hi : Int) (h0 : 0 ≤ lo) (h : lo < hi) (hM : hi ≤ 3037000499) : ∃ m, wrap64 (Int.tdiv (wrap64 ((wrap64 (lo + hi)) + 1)) 2) = m ∧ lo < m ∧ m ≤ hi := by
  refine ⟨(lo + hi + 1) / 2, ?_, by omega, by omega⟩
  rw [w64 (x := lo + hi) (by omega) (by omega), w64 (x := lo + hi + 1) (by omega) (by omega), Int.tdiv_eq_ediv_of_nonneg (by omega), w64 (by omega) (by omega)]
theorem sq_le {a b : Int} (h0 : 0 ≤ a) (h : a ≤ b) : a * a ≤ b * b := Int.mul_le_mul h h h0 (by omega)
/-- What both searches find: the root, rounded down. -/
def IsRoot (n r : Int) : Prop := 0 ≤ r ∧ r ≤ 3037000499 ∧ (r = 0 ∨ r * r ≤ n) ∧ (r = 3037000499 ∨ n < (r + 1) * (r + 1))
theorem root_one {n r q : Int} (h1 : IsRoot n r) (h2 : IsRoot n q) : r = q := by
  obtain ⟨a0, a1, a2, a3⟩ := h1
  obtain ⟨b0, b1, b2, b3⟩ := h2
  rcases Int.lt_trichotomy r q with h | h | h
  · exfalso
    have := sq_le (a := r + 1) (b := q) (by omega) (by omega)
    omega
  · exact h
  · exfalso
    have := sq_le (a := q + 1) (b := r) (by omega) (by omega)
    omega
theorem spec_root_loop (n : Int) : ∀ (d k : Nat) (lo hi : Int), 0 ≤ lo → lo ≤ hi → hi ≤ 3037000499 → hi - lo ≤ d → d < k → (lo = 0 ∨ lo * lo ≤ n) → (hi = 3037000499 ∨ n < (hi + 1) * (hi + 1)) →
    ∃ r, spec_l01Root.l0 k n lo hi = some r ∧ IsRoot n r
  | d, 0, _, _, _, _, _, _, h, _, _ => absurd h (by omega)
  | d, k + 1, lo, hi, h0, h1, h2, h3, h4, h5, h6 => by
    simp only [spec_l01Root.l0]
    by_cases hlt : lo < hi
    · rw [if_pos hlt]
      obtain ⟨m, hm, m1, m2⟩ := mid_of lo hi h0 hlt h2
      rw [hm]
      have hsq := sq_le (a := m) (b := 3037000499) (by omega) (by omega)
      have hsq0 : 0 ≤ m * m := Int.mul_nonneg (by omega) (by omega)
      rw [w64 (x := m * m) (by omega) (by omega), w64 (x := m - 1) (by omega) (by omega)]
      by_cases hle : m * m ≤ n
      · rw [if_pos hle]
        exact spec_root_loop n (d - 1) k m hi (by omega) m2 h2 (by omega) (by omega) (.inr hle) h6
      · rw [if_neg hle]
        refine spec_root_loop n (d - 1) k lo (m - 1) h0 (by omega) (by omega) (by omega) (by omega) h5 (.inr ?_)
        rw [show m - 1 + 1 = m by omega]
        omega
    · rw [if_neg hlt]
      have : lo = hi := by omega
      subst this
      exact ⟨lo, rfl, h0, h2, h5, h6⟩
theorem le_div_iff (m n : Int) (h : 0 < m) (hn : 0 ≤ n) : m ≤ Int.tdiv n m ↔ m * m ≤ n := by
  rw [Int.tdiv_eq_ediv_of_nonneg hn]
  exact Int.le_ediv_iff_mul_le h
theorem impl_root_loop (n : Int) (hn0 : 1 ≤ n) (hn1 : n ≤ 9223372036854775807) : ∀ (d k : Nat) (lo hi : Int), 1 ≤ lo → lo ≤ hi → hi ≤ 3037000499 → hi - lo ≤ d → d < k → lo * lo ≤ n → (hi = 3037000499 ∨ n < (hi + 1) * (hi + 1)) →
    ∃ r, impl_RootOf.l0 k n lo hi = some r ∧ IsRoot n r
  | d, 0, _, _, _, _, _, _, h, _, _ => absurd h (by omega)
  | d, k + 1, lo, hi, h0, h1, h2, h3, h4, h5, h6 => by
    simp only [impl_RootOf.l0]
    by_cases hlt : lo < hi
    · rw [if_pos hlt]
      obtain ⟨m, hm, m1, m2⟩ := mid_of lo hi (by omega) hlt h2
      rw [hm, if_neg (by omega)]
      have hq : 0 ≤ Int.tdiv n m ∧ Int.tdiv n m ≤ n := by
        rw [Int.tdiv_eq_ediv_of_nonneg (by omega)]
        exact ⟨Int.ediv_nonneg (by omega) (by omega), Int.ediv_le_self _ (by omega)⟩
      rw [w64 (x := Int.tdiv n m) (by omega) (by omega), w64 (x := m - 1) (by omega) (by omega)]
      have hi_ := le_div_iff m n (by omega) (by omega)
      by_cases hle : m ≤ Int.tdiv n m
      · rw [if_pos hle]
        exact impl_root_loop n hn0 hn1 (d - 1) k m hi (by omega) m2 h2 (by omega) (by omega) (hi_.1 hle) h6
      · rw [if_neg hle]
        refine impl_root_loop n hn0 hn1 (d - 1) k lo (m - 1) h0 (by omega) (by omega) (by omega) (by omega) h5 (.inr ?_)
        rw [show m - 1 + 1 = m by omega]
        have : ¬ m * m ≤ n := fun h => hle (hi_.2 h)
        omega
    · rw [if_neg hlt]
      have : lo = hi := by omega
      subst this
      exact ⟨lo, rfl, by omega, h2, .inr h5, h6⟩
theorem roots (n : Int) (h0 : -9223372036854775808 ≤ n) (h1 : n ≤ 9223372036854775807) : ∃ r, (∀ k, 3037000500 ≤ k → spec_l01Root.f k n = some r) ∧ (∀ k, 3037000500 ≤ k → impl_RootOf.f k n = some r) ∧ IsRoot n r := by
  obtain ⟨r, hr, hR⟩ := spec_root_loop n 3037000499 3037000500 0 3037000499 (by omega) (by omega) (by omega) (by omega) (by omega) (.inl rfl) (.inl rfl)
  refine ⟨r, fun k hk => at_rounds (fun k => spec_l01Root.mono_l k _ _ _) hk hr, ?_, hR⟩
  unfold impl_RootOf.f
  by_cases hn : n < 1
  · refine fun k _ => ?_
    rw [if_pos hn]
    have : IsRoot n 0 := ⟨by omega, by omega, .inl rfl, .inr (by omega)⟩
    rw [root_one hR this]
  · obtain ⟨q, hq, hQ⟩ := impl_root_loop n (by omega) h1 3037000498 3037000499 1 3037000499 (by omega) (by omega) (by omega) (by omega) (by omega) (by omega) (.inl rfl)
    refine fun k hk => ?_
    rw [if_neg hn, root_one hR hQ]
    exact at_rounds (fun k => impl_RootOf.mono_l k _ _ _) (by omega) hq

def sqW (a0 a1 b0 b1 : Int) : Int := wrap64 ((wrap64 ((wrap64 (a0 - b0)) * (wrap64 (a0 - b0)))) + (wrap64 ((wrap64 (a1 - b1)) * (wrap64 (a1 - b1)))))
theorem wrap64_range (x : Int) : -9223372036854775808 ≤ wrap64 x ∧ wrap64 x ≤ 9223372036854775807 := by
  unfold wrap64
  omega
theorem sqW_range (a0 a1 b0 b1 : Int) : -9223372036854775808 ≤ sqW a0 a1 b0 b1 ∧ sqW a0 a1 b0 b1 ≤ 9223372036854775807 := wrap64_range _
theorem spec_square_eq (a0 a1 b0 b1 : Int) : spec_l02Square.f a0 a1 b0 b1 = some (sqW a0 a1 b0 b1) := rfl
theorem impl_squared_eq (a0 a1 b0 b1 : Int) : impl_squared.f a0 a1 b0 b1 = some (sqW a0 a1 b0 b1) := rfl

theorem mul_self_nonneg' (a : Int) : 0 ≤ a * a := by
  rcases Int.le_total 0 a with h | h
  · exact Int.mul_nonneg h h
  · have := Int.mul_nonneg (show 0 ≤ -a by omega) (show 0 ≤ -a by omega)
    rwa [Int.neg_mul_neg] at this
theorem prod_in2 {a b M N : Int} (ha : -M ≤ a ∧ a ≤ M) (hb : -N ≤ b ∧ b ≤ N) (hM : 0 ≤ M) (hN : 0 ≤ N) : -(M * N) ≤ a * b ∧ a * b ≤ M * N := by
  rcases Int.le_total 0 a with h | h
  · have h1 : a * b ≤ a * N := Int.mul_le_mul_of_nonneg_left hb.2 h
    have h2 : a * (-N) ≤ a * b := Int.mul_le_mul_of_nonneg_left hb.1 h
    have h3 : a * N ≤ M * N := Int.mul_le_mul_of_nonneg_right ha.2 hN
    rw [Int.mul_neg] at h2
    omega
  · have h1 : (-a) * b ≤ (-a) * N := Int.mul_le_mul_of_nonneg_left hb.2 (by omega)
    have h2 : (-a) * (-N) ≤ (-a) * b := Int.mul_le_mul_of_nonneg_left hb.1 (by omega)
    have h3 : (-a) * N ≤ M * N := Int.mul_le_mul_of_nonneg_right (by omega) hN
    have e1 : (-a) * b = -(a * b) := Int.neg_mul a b
    have e2 : (-a) * N = -(a * N) := Int.neg_mul a N
    have e3 : (-a) * (-N) = a * N := Int.neg_mul_neg a N
    omega
theorem prod_in {a b M : Int} (ha : -M ≤ a ∧ a ≤ M) (hb : -M ≤ b ∧ b ≤ M) (hM : 0 ≤ M) : -(M * M) ≤ a * b ∧ a * b ≤ M * M := prod_in2 ha hb hM hM

theorem wraps_u64 : ∀ n : Int, 0 ≤ n → n < 18446744073709551616 → IntKind.u64.wrap n = n := by
  intro n h0 h1
  rw [IntKind.wrap_u64]
  omega
theorem and_mask (a : Int) (h0 : 0 ≤ a) (h1 : a < 4294967296) : Go.bits .and .u64 a 4294967295 = a := by
  have := Go.bits_mask .u64 64 (by decide) (fun n a b => wraps_u64 n a b) 32 (by decide) a h0 (by omega)
  have e : ((2 : Int) ^ 32 - 1) = 4294967295 := by decide
  have e2 : ((2 : Int) ^ 32) = 4294967296 := by decide
  rw [e, e2] at this
  rw [this]
  omega
theorem mul64_small (x : Int) (h0 : 0 ≤ x) (h1 : x ≤ 4000000000) : bits_Mul64.f x x = some (0, x * x) := by
  have hp : 0 ≤ x * x ∧ x * x ≤ 4000000000 * 4000000000 := ⟨Int.mul_nonneg h0 h0, Int.mul_le_mul h1 h1 h0 (by omega)⟩
  have d : x / 4294967296 = 0 := by omega
  unfold bits_Mul64.f
  rw [d, and_mask x h0 (by omega)]
  simp only [Int.zero_mul, Int.mul_zero]
  generalize x * x = y at hp ⊢
  have e0 : IntKind.u64.wrap 0 = 0 := wraps_u64 0 (by omega) (by omega)
  rw [e0, wraps_u64 y hp.1 (by omega)]
  have d2 : 0 + y / 4294967296 = y / 4294967296 := by omega
  rw [d2, wraps_u64 (y / 4294967296) (by omega) (by omega)]
  have d3 : y / 4294967296 / 4294967296 = 0 := by omega
  rw [d3, and_mask (y / 4294967296) (by omega) (by omega)]
  have d4 : y / 4294967296 + 0 = y / 4294967296 := by omega
  rw [d4, wraps_u64 (y / 4294967296) (by omega) (by omega), d3]
  simp only [Int.zero_add, e0, Int.add_zero]
def alongW (a0 a1 b0 b1 p0 p1 : Int) : Int := wrap64 ((wrap64 ((wrap64 (b0 - a0)) * (wrap64 (p0 - a0)))) + (wrap64 ((wrap64 (b1 - a1)) * (wrap64 (p1 - a1)))))
theorem along_swap (a0 a1 b0 b1 p0 p1 : Int) : wrap64 ((wrap64 ((wrap64 (p0 - a0)) * (wrap64 (b0 - a0)))) + (wrap64 ((wrap64 (p1 - a1)) * (wrap64 (b1 - a1))))) = alongW a0 a1 b0 b1 p0 p1 := by
  unfold alongW
  rw [Int.mul_comm (wrap64 (p0 - a0)), Int.mul_comm (wrap64 (p1 - a1))]
theorem mx_neg (c : Int) (h : -4000000000 ≤ c ∧ c ≤ 4000000000) : ∃ x, IntKind.u64.wrap (mx c (wrap64 (-c))) = x ∧ 0 ≤ x ∧ x ≤ 4000000000 ∧ x * x = c * c := by
  rw [w64 (x := -c) (by omega) (by omega)]
  unfold mx
  by_cases hc : c < -c
  · rw [if_pos hc]
    exact ⟨-c, wraps_u64 _ (by omega) (by omega), by omega, by omega, by rw [Int.neg_mul_neg]⟩
  · rw [if_neg hc]
    exact ⟨c, wraps_u64 _ (by omega) (by omega), by omega, by omega, rfl⟩
/-- Both distances of a point and a segment are the same. -/
theorem fars (a0 a1 b0 b1 p0 p1 : Int) (ha : okP a0 a1 = true) (hb : okP b0 b1 = true) (hp : okP p0 p1 = true) : ∃ r, ∀ k, 3037000500 ≤ k → spec_l02Far.f k a0 a1 b0 b1 p0 p1 = some r ∧ impl_toSegment.f k a0 a1 b0 b1 p0 p1 = some r := by
  obtain ⟨⟨A1, A2⟩, A3, A4⟩ := (okP_iff _ _).1 ha
  obtain ⟨⟨B1, B2⟩, B3, B4⟩ := (okP_iff _ _).1 hb
  obtain ⟨⟨P1, P2⟩, P3, P4⟩ := (okP_iff _ _).1 hp
  unfold spec_l02Far.f impl_toSegment.f spec_l02Apart.f
  simp only [spec_square_eq, impl_squared_eq, Option.bind_some]
  have z0 : wrap64 ((wrap64 ((wrap64 (b0 - a0)) * (wrap64 (p0 - a0)))) + (wrap64 ((wrap64 (b1 - a1)) * (wrap64 (p1 - a1))))) = alongW a0 a1 b0 b1 p0 p1 := rfl
  have z1 := along_swap a0 a1 b0 b1 p0 p1
  simp only [z0, z1]
  have sq : 0 ≤ sqW a0 a1 b0 b1 ∧ sqW a0 a1 b0 b1 ≤ 800000000 := by
    have h1 := prod_in (a := a0 - b0) (b := a0 - b0) (M := 20000) (by omega) (by omega) (by omega)
    have h2 := prod_in (a := a1 - b1) (b := a1 - b1) (M := 20000) (by omega) (by omega) (by omega)
    have h3 := mul_self_nonneg' (a0 - b0)
    have h4 := mul_self_nonneg' (a1 - b1)
    unfold sqW
    rw [w64 (x := a0 - b0) (by omega) (by omega), w64 (x := a1 - b1) (by omega) (by omega), w64 (x := (a0 - b0) * (a0 - b0)) (by omega) (by omega), w64 (x := (a1 - b1) * (a1 - b1)) (by omega) (by omega), w64 (by omega) (by omega)]
    omega
  have cr : -800000000 ≤ wrap64 ((wrap64 ((wrap64 (b0 - a0)) * (wrap64 (p1 - a1)))) - (wrap64 ((wrap64 (b1 - a1)) * (wrap64 (p0 - a0))))) ∧ wrap64 ((wrap64 ((wrap64 (b0 - a0)) * (wrap64 (p1 - a1)))) - (wrap64 ((wrap64 (b1 - a1)) * (wrap64 (p0 - a0))))) ≤ 800000000 := by
    have h1 := prod_in (a := b0 - a0) (b := p1 - a1) (M := 20000) (by omega) (by omega) (by omega)
    have h2 := prod_in (a := b1 - a1) (b := p0 - a0) (M := 20000) (by omega) (by omega) (by omega)
    rw [w64 (x := b0 - a0) (by omega) (by omega), w64 (x := b1 - a1) (by omega) (by omega), w64 (x := p0 - a0) (by omega) (by omega), w64 (x := p1 - a1) (by omega) (by omega), w64 (x := (b0 - a0) * (p1 - a1)) (by omega) (by omega), w64 (x := (b1 - a1) * (p0 - a0)) (by omega) (by omega), w64 (by omega) (by omega)]
    omega
  by_cases h1 : alongW a0 a1 b0 b1 p0 p1 ≤ 0
  · obtain ⟨r, r1, r2, _⟩ := roots (sqW a0 a1 p0 p1) (sqW_range _ _ _ _).1 (sqW_range _ _ _ _).2
    refine ⟨r, fun k hk => ?_⟩
    simp only [h1, if_true, r1 k hk, r2 k hk]
    exact ⟨by first | rfl | trivial, by first | rfl | trivial⟩
  · by_cases h2 : alongW a0 a1 b0 b1 p0 p1 ≥ sqW a0 a1 b0 b1
    · obtain ⟨r, r1, r2, _⟩ := roots (sqW b0 b1 p0 p1) (sqW_range _ _ _ _).1 (sqW_range _ _ _ _).2
      refine ⟨r, fun k hk => ?_⟩
      simp only [h1, h2, if_true, if_false, r1 k hk, r2 k hk]
      exact ⟨by first | rfl | trivial, by first | rfl | trivial⟩
    · have hL : 0 < sqW a0 a1 b0 b1 := by omega
      unfold spec_l02Cross.f
      simp only [Option.bind_some]
      generalize wrap64 ((wrap64 ((wrap64 (b0 - a0)) * (wrap64 (p1 - a1)))) - (wrap64 ((wrap64 (b1 - a1)) * (wrap64 (p0 - a0))))) = c at cr ⊢
      generalize sqW a0 a1 b0 b1 = L at sq h2 hL ⊢
      obtain ⟨x, e1, x0, x1, e2⟩ := mx_neg c (by omega)
      have hcc := prod_in (a := c) (b := c) (M := 800000000) (by omega) (by omega) (by omega)
      have hc0 := mul_self_nonneg' c
      rw [e1, mul64_small x x0 x1, e2, wraps_u64 L (by omega) (by omega)]
      generalize c * c = cc at hcc hc0 ⊢
      have q0 := Int.ediv_nonneg hc0 (show 0 ≤ L by omega)
      have q1 := Int.ediv_le_self L hc0
      obtain ⟨r, r1, r2, _⟩ := roots (cc / L) (by omega) (by omega)
      refine ⟨r, fun k hk => ?_⟩
      have h3 : ¬ L = 0 := by omega
      simp only [h1, h2, h3, if_false]
      rw [w64 (x := cc) (by omega) (by omega), Int.tdiv_eq_ediv_of_nonneg hc0, w64 (x := cc / L) (by omega) (by omega), r1 k hk]
      unfold bits_Div64.f
      simp only [Option.bind_some]
      rw [if_pos True.intro, if_pos hL, if_pos hc0, if_pos (by omega), if_pos (by omega)]
      simp only [Option.bind_some]
      rw [w64 (x := cc / L) (by omega) (by omega), r2 k hk]
      exact ⟨by first | rfl | trivial, by first | rfl | trivial⟩

theorem sides_same (a0 a1 b0 b1 c0 c1 : Int) : spec_l02Side.f a0 a1 b0 b1 c0 c1 = impl_side.f a0 a1 b0 b1 c0 c1 := by
  unfold spec_l02Side.f spec_l02Cross.f impl_side.f
  rfl
/-- The side, as the program reckons it. -/
def sideW (a0 a1 b0 b1 c0 c1 : Int) : Int := if (wrap64 ((wrap64 ((wrap64 (b0 - a0)) * (wrap64 (c1 - a1)))) - (wrap64 ((wrap64 (b1 - a1)) * (wrap64 (c0 - a0)))))) > 0 then 1 else (if (wrap64 ((wrap64 ((wrap64 (b0 - a0)) * (wrap64 (c1 - a1)))) - (wrap64 ((wrap64 (b1 - a1)) * (wrap64 (c0 - a0)))))) < 0 then -1 else 0)
theorem impl_side_eq (a0 a1 b0 b1 c0 c1 : Int) : impl_side.f a0 a1 b0 b1 c0 c1 = some (sideW a0 a1 b0 b1 c0 c1) := by
  unfold impl_side.f sideW
  split
  · rfl
  · split <;> rfl
theorem spec_side_eq (a0 a1 b0 b1 c0 c1 : Int) : spec_l02Side.f a0 a1 b0 b1 c0 c1 = some (sideW a0 a1 b0 b1 c0 c1) := by
  rw [sides_same, impl_side_eq]
theorem sideW_three (a0 a1 b0 b1 c0 c1 : Int) : sideW a0 a1 b0 b1 c0 c1 = 1 ∨ sideW a0 a1 b0 b1 c0 c1 = -1 ∨ sideW a0 a1 b0 b1 c0 c1 = 0 := by
  unfold sideW
  split
  · exact .inl rfl
  · split
    · exact .inr (.inl rfl)
    · exact .inr (.inr rfl)

def crossW (a0 a1 b0 b1 c0 c1 d0 d1 : Int) : Bool := decide (wrap64 (sideW a0 a1 b0 b1 c0 c1 * sideW a0 a1 b0 b1 d0 d1) < 0) && decide (wrap64 (sideW c0 c1 d0 d1 a0 a1 * sideW c0 c1 d0 d1 b0 b1) < 0)
theorem impl_crossing_eq (a0 a1 b0 b1 c0 c1 d0 d1 : Int) : impl_crossing.f a0 a1 b0 b1 c0 c1 d0 d1 = some (crossW a0 a1 b0 b1 c0 c1 d0 d1) := by
  unfold impl_crossing.f crossW
  simp only [impl_side_eq, Option.bind_some]
  by_cases h : wrap64 (sideW a0 a1 b0 b1 c0 c1 * sideW a0 a1 b0 b1 d0 d1) < 0
  · rw [if_pos h, decide_eq_true h, Bool.true_and]
  · rw [if_neg h, decide_eq_false h, Bool.false_and]
theorem spec_crosses_eq (a0 a1 b0 b1 c0 c1 d0 d1 : Int) : spec_l02Crosses.f a0 a1 b0 b1 c0 c1 d0 d1 = some (crossW a0 a1 b0 b1 c0 c1 d0 d1) := by
  rw [← impl_crossing_eq]
  unfold spec_l02Crosses.f impl_crossing.f
  simp only [sides_same]

theorem spec_min_eq (a b : Int) : spec_l00Min.f a b = some (mn a b) := by
  unfold spec_l00Min.f mn
  split <;> split <;> first | rfl | (congr 1; omega)
theorem spec_max_eq (a b : Int) : spec_l00Max.f a b = some (mx a b) := by
  unfold spec_l00Max.f mx
  split <;> split <;> first | rfl | (congr 1; omega)
def onW (a0 a1 b0 b1 c0 c1 : Int) : Bool := decide (sideW a0 a1 b0 b1 c0 c1 = 0) && (decide (mn a0 b0 ≤ c0 ∧ c0 ≤ mx a0 b0) && decide (mn a1 b1 ≤ c1 ∧ c1 ≤ mx a1 b1))
theorem impl_on_eq (a0 a1 b0 b1 c0 c1 : Int) : impl_on.f a0 a1 b0 b1 c0 c1 = some (onW a0 a1 b0 b1 c0 c1) := by
  unfold impl_on.f onW
  simp only [impl_side_eq, impl_within_eq, Option.bind_some]
  by_cases h : sideW a0 a1 b0 b1 c0 c1 = 0
  · rw [if_pos h, decide_eq_true h, Bool.true_and]
    cases decide (mn a0 b0 ≤ c0 ∧ c0 ≤ mx a0 b0) <;> simp
  · rw [if_neg h, decide_eq_false h, Bool.false_and]
theorem spec_on_eq (a0 a1 b0 b1 c0 c1 : Int) : spec_l02On.f a0 a1 b0 b1 c0 c1 = some (onW a0 a1 b0 b1 c0 c1) := by
  unfold spec_l02On.f onW
  simp only [spec_side_eq, spec_l00In_eq, spec_min_eq, spec_max_eq, Option.bind_some]
  by_cases h : sideW a0 a1 b0 b1 c0 c1 = 0
  · rw [if_pos h, decide_eq_true h, Bool.true_and]
    cases decide (mn a0 b0 ≤ c0 ∧ c0 ≤ mx a0 b0) <;> simp
  · rw [if_neg h, decide_eq_false h, Bool.false_and]

def touchW (a0 a1 b0 b1 c0 c1 d0 d1 : Int) : Bool := crossW a0 a1 b0 b1 c0 c1 d0 d1 || (onW a0 a1 b0 b1 c0 c1 || (onW a0 a1 b0 b1 d0 d1 || (onW c0 c1 d0 d1 a0 a1 || onW c0 c1 d0 d1 b0 b1)))
theorem touch_fold (x y z u v : Bool) : (some x).bind (fun t => if t = true then some true else (some y).bind fun t => if t = true then some true else (some z).bind fun t => if t = true then some true else (some u).bind fun t => if t = true then some true else (some v).bind fun t => some t) = some (x || (y || (z || (u || v)))) := by
  cases x <;> cases y <;> cases z <;> cases u <;> cases v <;> rfl

theorem impl_touching_eq (a0 a1 b0 b1 c0 c1 d0 d1 : Int) : impl_touching.f a0 a1 b0 b1 c0 c1 d0 d1 = some (touchW a0 a1 b0 b1 c0 c1 d0 d1) := by
  unfold impl_touching.f touchW
  simp only [impl_crossing_eq, impl_on_eq]
  exact touch_fold _ _ _ _ _

theorem spec_touches_eq (a0 a1 b0 b1 c0 c1 d0 d1 : Int) : spec_l02Touches.f a0 a1 b0 b1 c0 c1 d0 d1 = some (touchW a0 a1 b0 b1 c0 c1 d0 d1) := by
  unfold spec_l02Touches.f touchW
  simp only [spec_crosses_eq, spec_on_eq]
  exact touch_fold _ _ _ _ _

theorem mn4 (x y z u : Int) : mn (mn (mn x y) z) u = mn (mn x y) (mn z u) := by
  unfold mn
  repeat' split
  all_goals omega
/-- Both distances of two segments are the same. -/
theorem gaps (a0 a1 b0 b1 c0 c1 d0 d1 : Int) (ha : okP a0 a1 = true) (hb : okP b0 b1 = true) (hc : okP c0 c1 = true) (hd : okP d0 d1 = true) : ∃ r, ∀ k, 3037000500 ≤ k → spec_l02Gap.f k a0 a1 b0 b1 c0 c1 d0 d1 = some r ∧ impl_betweenSegments.f k a0 a1 b0 b1 c0 c1 d0 d1 = some r := by
  obtain ⟨r1, h1⟩ := fars a0 a1 b0 b1 c0 c1 ha hb hc
  obtain ⟨r2, h2⟩ := fars a0 a1 b0 b1 d0 d1 ha hb hd
  obtain ⟨r3, h3⟩ := fars c0 c1 d0 d1 a0 a1 hc hd ha
  obtain ⟨r4, h4⟩ := fars c0 c1 d0 d1 b0 b1 hc hd hb
  refine ⟨if touchW a0 a1 b0 b1 c0 c1 d0 d1 = true then 0 else mn (mn r1 r2) (mn r3 r4), fun k hk => ?_⟩
  unfold spec_l02Gap.f impl_betweenSegments.f
  simp only [spec_touches_eq, impl_touching_eq, Option.bind_some, (h1 k hk).1, (h1 k hk).2, (h2 k hk).1, (h2 k hk).2, (h3 k hk).1, (h3 k hk).2, (h4 k hk).1, (h4 k hk).2, spec_min_eq, mn4]
  constructor <;> split <;> rfl

theorem FnExactSegmentDistance (a0 a1 b0 b1 c0 c1 d0 d1 : Int) (_ : (Lit.int .i64 a0).wf = true) (_ : (Lit.int .i64 a1).wf = true) (_ : (Lit.int .i64 b0).wf = true) (_ : (Lit.int .i64 b1).wf = true) (_ : (Lit.int .i64 c0).wf = true) (_ : (Lit.int .i64 c1).wf = true) (_ : (Lit.int .i64 d0).wf = true) (_ : (Lit.int .i64 d1).wf = true) : ∃ k, laws_FnExactSegmentDistance.f k a0 a1 b0 b1 c0 c1 d0 d1 = some true := by
  refine ⟨3037000500, ?_⟩
  unfold laws_FnExactSegmentDistance.f laws_toPoint.f spec_SegmentDistance.f impl_SegmentDistance.f
  simp only [Option.bind_some, spec_l02Four_eq]
  rw [impl_validPoints_eq _ (by simp) _ (by simp)]
  simp only [List.all_cons, List.all_nil, Bool.and_true, Bool.and_assoc, Option.bind_some, Bool.and_self]
  cases ha : okP a0 a1
  · simp
  · cases hb : okP b0 b1
    · simp
    · cases hc : okP c0 c1
      · simp
      · cases hd : okP d0 d1
        · simp
        · obtain ⟨r, hr⟩ := gaps a0 a1 b0 b1 c0 c1 d0 d1 ha hb hc hd
          have := hr 3037000500 (Nat.le_refl _)
          simp only [Bool.and_self, if_true]
          rw [this.1, this.2]
          simp

end Go.Proofs.Ytolccaaoimjbdaa.Pure
