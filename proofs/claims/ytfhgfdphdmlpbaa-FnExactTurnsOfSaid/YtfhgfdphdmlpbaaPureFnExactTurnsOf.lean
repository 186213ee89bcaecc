/- The plain law: what FnExactTurnsOf computes is true at every input. -/
import Derived.Test.YtfhgfdphdmlpbaaLFnExactTurnsOfc
namespace Go.Proofs.Ytfhgfdphdmlpbaa.Pure
open Go.RowKit Go.Proofs.Ytfhgfdphdmlpbaa.PFnExactTurnsOf Go.Proofs.YtfhgfdphdmlpbaaW.PrintWords Go.Proofs.YtfhgfdphdmlpbaaW.PrintLast Go.Proofs.YtfhgfdphdmlpbaaW.PrintMore Go.Proofs.Ytfhgfdphdmlpbaa.MaGeoA Go.Proofs.Ytfhgfdphdmlpbaa.MaGeoB Go.Proofs.Ytfhgfdphdmlpbaa.MaGeoC Go.Proofs.Ytfhgfdphdmlpbaa.MaGeoF
set_option linter.unusedVariables false
set_option linter.unusedSimpArgs false

theorem mul_self_nonneg' (a : Int) : 0 ≤ a * a := by
  rcases Int.le_total 0 a with h | h
  · exact Int.mul_nonneg h h
  · have := Int.mul_nonneg (show 0 ≤ -a by omega) (show 0 ≤ -a by omega)
    rwa [Int.neg_mul_neg] at this
theorem prod_in2 {a b M N : Int} (ha : -M ≤ a ∧ a ≤ M) (hb : -N ≤ b ∧ b ≤ N) (hM : 0 ≤ M) (hN : 0 ≤ N) : -(M * N) ≤ a * b ∧ a * b ≤ M * N := by
  rcases Int.le_total 0 a with h | h
  · have h1 : a * b ≤ a * N := Int.mul_le_mul_of_nonneg_left hb.2 h
    have h2 : a * (-N) ≤ a * b := Int.mul_le_mul_of_nonneg_left hb.1 h
    have h3 : a * N ≤ M * N := Int.mul_le_mul_of_nonneg_right ha.2 hN
    rw [Int.mul_neg] at h2
    omega
  · have h1 : (-a) * b ≤ (-a) * N := Int.mul_le_mul_of_nonneg_left hb.2 (by omega)
    have h2 : (-a) * (-N) ≤ (-a) * b := Int.mul_le_mul_of_nonneg_left hb.1 (by omega)
    have h3 : (-a) * N ≤ M * N := Int.mul_le_mul_of_nonneg_right (by omega) hN
    have e1 : (-a) * b = -(a * b) := Int.neg_mul a b
    have e2 : (-a) * N = -(a * N) := Int.neg_mul a N
    have e3 : (-a) * (-N) = a * N := Int.neg_mul_neg a N
    omega
theorem prod_in {a b M : Int} (ha : -M ≤ a ∧ a ≤ M) (hb : -M ≤ b ∧ b ≤ M) (hM : 0 ≤ M) : -(M * M) ≤ a * b ∧ a * b ≤ M * M := prod_in2 ha hb hM hM

/-- A point as the plain facts take it. -/
def toPt (s : S51) : Geo.Pt := (s.f0, s.f1)
def ptsOf (p : List S51) : List Geo.Pt := p.map toPt
theorem ptsOf_length (p : List S51) : (ptsOf p).length = p.length := List.length_map _
theorem pt_of (p : List S51) (i : Nat) (h : i < p.length) : Geo.pt (ptsOf p) i = toPt (p.getD i z51) := by
  unfold Geo.pt ptsOf
  rw [List.getD_eq_getElem?_getD, List.getElem?_map, List.getElem?_eq_getElem h, List.getD_eq_getElem?_getD, List.getElem?_eq_getElem h]
  rfl
/-- Coordinates that reckon without a wrap. -/
def inC (x y : Int) : Prop := (0 ≤ x ∧ x ≤ 40000) ∧ (0 ≤ y ∧ y ≤ 40000)
theorem inC_of_ok {x y : Int} (h : okP x y = true) : inC x y := by
  obtain ⟨⟨a, b⟩, c, d⟩ := (okP_iff _ _).1 h
  exact ⟨⟨a, by omega⟩, c, by omega⟩
theorem side_cr {a0 a1 b0 b1 c0 c1 : Int} (ha : inC a0 a1) (hb : inC b0 b1) (hc : inC c0 c1) :
    sideW a0 a1 b0 b1 c0 c1 = if Geo.cr (a0, a1) (b0, b1) (c0, c1) > 0 then 1 else if Geo.cr (a0, a1) (b0, b1) (c0, c1) < 0 then -1 else 0 := by
  obtain ⟨⟨A1, A2⟩, A3, A4⟩ := ha
  obtain ⟨⟨B1, B2⟩, B3, B4⟩ := hb
  obtain ⟨⟨C1, C2⟩, C3, C4⟩ := hc
  have h1 := prod_in (a := b0 - a0) (b := c1 - a1) (M := 40000) (by omega) (by omega) (by omega)
  have h2 := prod_in (a := b1 - a1) (b := c0 - a0) (M := 40000) (by omega) (by omega) (by omega)
  unfold sideW Geo.cr
  rw [w64 (x := b0 - a0) (by omega) (by omega), w64 (x := b1 - a1) (by omega) (by omega), w64 (x := c0 - a0) (by omega) (by omega), w64 (x := c1 - a1) (by omega) (by omega), w64 (x := (b0 - a0) * (c1 - a1)) (by omega) (by omega), w64 (x := (b1 - a1) * (c0 - a0)) (by omega) (by omega), w64 (by omega) (by omega)]
theorem side_sign {a0 a1 b0 b1 c0 c1 : Int} (ha : inC a0 a1) (hb : inC b0 b1) (hc : inC c0 c1) :
    (0 < sideW a0 a1 b0 b1 c0 c1 ↔ 0 < Geo.cr (a0, a1) (b0, b1) (c0, c1)) ∧ (sideW a0 a1 b0 b1 c0 c1 < 0 ↔ Geo.cr (a0, a1) (b0, b1) (c0, c1) < 0) := by
  rw [side_cr ha hb hc]
  generalize Geo.cr (a0, a1) (b0, b1) (c0, c1) = x
  by_cases h : x > 0
  · rw [if_pos h]; constructor <;> omega
  · rw [if_neg h]
    by_cases h2 : x < 0
    · rw [if_pos h2]; constructor <;> omega
    · rw [if_neg h2]; constructor <;> omega
theorem on_iff {a0 a1 b0 b1 c0 c1 : Int} (ha : inC a0 a1) (hb : inC b0 b1) (hc : inC c0 c1) : onW a0 a1 b0 b1 c0 c1 = true ↔ Geo.On (a0, a1) (b0, b1) (c0, c1) := by
  have s := side_sign ha hb hc
  unfold onW Geo.On Geo.Btw mn mx
  rw [Bool.and_eq_true, Bool.and_eq_true, decide_eq_true_eq, decide_eq_true_eq, decide_eq_true_eq]
  refine and_congr ⟨fun h => by omega, fun h => by omega⟩ (and_congr ?_ ?_)
  · constructor
    · intro h; split at h <;> split at h <;> (simp only; omega)
    · intro h; simp only at h; constructor <;> split <;> omega
  · constructor
    · intro h; split at h <;> split at h <;> (simp only; omega)
    · intro h; simp only at h; constructor <;> split <;> omega
theorem sgn_mul {s t x y : Int} (hs : s = 1 ∨ s = -1 ∨ s = 0) (ht : t = 1 ∨ t = -1 ∨ t = 0) (h1 : (0 < s ↔ 0 < x) ∧ (s < 0 ↔ x < 0)) (h2 : (0 < t ↔ 0 < y) ∧ (t < 0 ↔ y < 0)) : wrap64 (s * t) < 0 ↔ x * y < 0 := by
  have key : x * y < 0 ↔ (x < 0 ∧ 0 < y) ∨ (0 < x ∧ y < 0) := ⟨Geo.lt_zero_cases, Geo.mul_lt_zero⟩
  rw [key, ← h1.1, ← h1.2, ← h2.1, ← h2.2]
  rcases hs with rfl | rfl | rfl <;> rcases ht with rfl | rfl | rfl <;> (rw [w64 (by omega) (by omega)]; omega)
theorem cross_iff {a0 a1 b0 b1 c0 c1 d0 d1 : Int} (ha : inC a0 a1) (hb : inC b0 b1) (hc : inC c0 c1) (hd : inC d0 d1) : crossW a0 a1 b0 b1 c0 c1 d0 d1 = true ↔ Geo.Crs (a0, a1) (b0, b1) (c0, c1) (d0, d1) := by
  unfold crossW Geo.Crs
  rw [Bool.and_eq_true, decide_eq_true_eq, decide_eq_true_eq]
  exact and_congr (sgn_mul (sideW_three _ _ _ _ _ _) (sideW_three _ _ _ _ _ _) (side_sign ha hb hc) (side_sign ha hb hd)) (sgn_mul (sideW_three _ _ _ _ _ _) (sideW_three _ _ _ _ _ _) (side_sign hc hd ha) (side_sign hc hd hb))
theorem touch_iff {a0 a1 b0 b1 c0 c1 d0 d1 : Int} (ha : inC a0 a1) (hb : inC b0 b1) (hc : inC c0 c1) (hd : inC d0 d1) : touchW a0 a1 b0 b1 c0 c1 d0 d1 = true ↔ Geo.Touch (a0, a1) (b0, b1) (c0, c1) (d0, d1) := by
  unfold touchW Geo.Touch
  rw [Bool.or_eq_true, Bool.or_eq_true, Bool.or_eq_true, Bool.or_eq_true, cross_iff ha hb hc hd, on_iff ha hb hc, on_iff ha hb hd, on_iff hc hd ha, on_iff hc hd hb]
/-- The corners of a valid polygon. -/
theorem ok_at {p : List S51} (h : (p.all fun s => okP s.f0 s.f1) = true) (i : Nat) (hi : i < p.length) : okP (p.getD i z51).f0 (p.getD i z51).f1 = true := by
  rw [List.getD_eq_getElem?_getD, List.getElem?_eq_getElem hi]
  exact List.all_eq_true.1 h _ (List.getElem_mem hi)
theorem ivalid_of {p : List S51} (hV : Valid p) : Geo.IValid (ptsOf p) := by
  obtain ⟨h3, hn, hall, hg, _⟩ := hV
  have m : ∀ i, i % p.length < p.length := fun i => Nat.mod_lt _ (by omega)
  have C : ∀ i, i < p.length → inC (p.getD i z51).f0 (p.getD i z51).f1 := fun i hi => inC_of_ok (ok_at hall i hi)
  refine ⟨by rw [ptsOf_length]; exact h3, fun q hq => ?_, fun i hi => ?_⟩
  · obtain ⟨s, hs, rfl⟩ := List.mem_map.1 hq
    obtain ⟨⟨a, b⟩, _⟩ := (okP_iff _ _).1 (List.all_eq_true.1 hall s hs)
    exact ⟨a, by show s.f0 < 100000; omega⟩
  · rw [ptsOf_length] at hi ⊢
    obtain ⟨g1, g2⟩ := hg i hi
    rw [pt_of p i hi, pt_of p _ (m (i + 1)), pt_of p _ (m (i + 2))]
    unfold badAt at g1
    dsimp only at g1
    rw [Bool.or_eq_false_iff, Bool.or_eq_false_iff] at g1
    obtain ⟨b1, b2, b3⟩ := g1
    refine ⟨⟨?_, ?_, ?_⟩, fun j h1 h2 h4 => ?_⟩
    · intro e
      unfold toPt at e
      have e1 := congrArg Prod.fst e
      have e2 := congrArg Prod.snd e
      simp only at e1 e2
      unfold same2 at b1
      rw [e1, e2] at b1
      simp at b1
    · intro e
      have := (on_iff (C i hi) (C _ (m (i + 1))) (C _ (m (i + 2)))).2 e
      rw [b2] at this; cases this
    · intro e
      have := (on_iff (C _ (m (i + 1))) (C _ (m (i + 2))) (C i hi)).2 e
      rw [b3] at this; cases this
    · rw [pt_of p j h2, pt_of p _ (m (j + 1))]
      intro e
      have := (touch_iff (C i hi) (C _ (m (i + 1))) (C j h2) (C _ (m (j + 1)))).2 e
      have g := g2 j h1 h2 h4
      unfold meets at g
      dsimp only at g
      rw [g] at this; cases this
theorem sa_take (p : List S51) (h0 : 0 < p.length) : ∀ i, i ≤ p.length → Geo.sa (Geo.pe ((ptsOf p ++ [Geo.pt (ptsOf p) 0]).take (i + 1))) = areaTo p i
  | 0, _ => by
    cases p with
    | nil => simp at h0
    | cons a p => rfl
  | i + 1, hi => by
    have ih := sa_take p h0 i (by omega)
    have hm := Nat.mod_lt (i + 1) h0
    have len : (ptsOf p ++ [Geo.pt (ptsOf p) 0]).length = p.length + 1 := by rw [List.length_append, ptsOf_length]; rfl
    have g1 : (ptsOf p ++ [Geo.pt (ptsOf p) 0])[i]? = some (Geo.pt (ptsOf p) i) := by
      rw [List.getElem?_append_left (by rw [ptsOf_length]; omega), List.getElem?_eq_getElem (by rw [ptsOf_length]; omega), Geo.pt_get _ _ (by rw [ptsOf_length]; omega)]
    have g2 : (ptsOf p ++ [Geo.pt (ptsOf p) 0])[i + 1]? = some (Geo.pt (ptsOf p) ((i + 1) % p.length)) := by
      by_cases c : i + 1 < p.length
      · rw [List.getElem?_append_left (by rw [ptsOf_length]; omega), List.getElem?_eq_getElem (by rw [ptsOf_length]; omega), Nat.mod_eq_of_lt c, Geo.pt_get _ _ (by rw [ptsOf_length]; omega)]
      · have : i + 1 = p.length := by omega
        rw [List.getElem?_append_right (by rw [ptsOf_length]; omega), ptsOf_length, this, Nat.sub_self, Nat.mod_self]
        rfl
    rw [List.take_add_one, List.take_add_one, g1, g2]
    rw [List.take_add_one, g1] at ih
    have e : ∀ (x : List Geo.Pt) (a b : Geo.Pt), x ++ (some a).toList ++ (some b).toList = x ++ a :: [b] := by intro x a b; simp
    rw [e, Geo.pe_split, Geo.sa_append]
    have e' : ∀ (x : List Geo.Pt) (a : Geo.Pt), x ++ (some a).toList = x ++ [a] := by intro x a; rfl
    rw [e'] at ih
    rw [ih, areaTo, pt_of p i (by omega), pt_of p _ hm]
    unfold crossT toPt
    simp [Geo.pe, Geo.sa]
theorem area_of (p : List S51) (h0 : 0 < p.length) : Geo.area (ptsOf p) = areaTo p p.length := by
  have := sa_take p h0 p.length (Nat.le_refl _)
  rw [List.take_of_length_le (by rw [List.length_append, ptsOf_length]; exact Nat.le_refl _)] at this
  rw [← this]
  cases p with
  | nil => simp at h0
  | cons a p => rfl
/-- A valid polygon is simple and goes to the left around. -/
theorem simple_valid {p : List S51} (hV : Valid p) : Geo.Simple (ptsOf p) ∧ Geo.LL (ptsOf p) = true := by
  have h := Geo.simple_of (ivalid_of hV)
  refine ⟨h, Geo.ll_of_area h ?_⟩
  rw [area_of p (by have := hV.1; omega)]
  exact hV.2.2.2.2

theorem turned_form (p : List S51) (t : Int) (h0 : 0 ≤ t) (h1 : t ≤ 7) (hok : (p.all fun s => okP s.f0 s.f1) = true) (h3 : 3 ≤ p.length) (hn : p.length ≤ 24) : ∃ b : Int × Int × Int × Int, (∀ k, p.length + 1 < k → impl_bounds.f k (turnL p t) = some b) ∧ ∀ k, 100 ≤ k → spec_l03Turned.f k p t = some (shiftL (turnL p t) (wrap64 (-b.1)) (wrap64 (-b.2.1))) ∧ impl_turnPoints.f k p t = some (shiftL (turnL p t) (wrap64 (-b.1)) (wrap64 (-b.2.1))) := by
  obtain ⟨b, hb⟩ := bounds_eq (turnL p t) (by rw [turnL_length]; omega) (by rw [turnL_length]; omega)
  rw [turnL_length] at hb
  refine ⟨b, fun k hk => (hb k hk).2, fun k hk => ⟨?_, ?_⟩⟩
  · unfold spec_l03Turned.f
    have := spec_turn_loop p t h0 h1 hok (by omega) 50 (by omega) (shiftL (turnL p t) (wrap64 (-b.1)) (wrap64 (-b.2.1))) (fun k hk => by
      rw [(hb k (by omega)).1, Option.bind_some, spec_shifted_eq _ _ _ (by rw [turnL_length]; omega) k (by rw [turnL_length]; omega)]
      rfl) p.length k 0 (by omega) (by omega) (by omega)
    rw [List.take_zero] at this
    exact this
  · unfold impl_turnPoints.f
    have hg : ∀ k, 50 ≤ k → impl_turnPoints.g k (turnL p t) = some (shiftL (turnL p t) (wrap64 (-b.1)) (wrap64 (-b.2.1))) := fun k hk => by
      unfold impl_turnPoints.g
      rw [(hb k (by omega)).2, Option.bind_some, impl_shifted_eq _ _ _ (by rw [turnL_length]; omega) k (by rw [turnL_length]; omega)]
      rfl
    have := impl_turn_loop p t h0 h1 hok (by omega) 50 (by omega) (shiftL (turnL p t) (wrap64 (-b.1)) (wrap64 (-b.2.1))) (fun k hk => by
      have hl := mapT_length p t
      have hgk := hg k hk
      unfold turnL at hgk ⊢
      by_cases c : t > 3
      · rw [if_pos c, if_pos (by omega), tail_eq (mapT p t) ((mapT p t).length - 1) (by omega) (by omega) k (by omega), Option.bind_some]
        rw [if_pos c] at hgk ⊢
        exact hgk
      · rw [if_neg c]
        rw [if_neg c] at hgk ⊢
        exact hgk) p.length k 0 (by omega) (by omega) (by omega)
    rw [List.take_zero] at this
    exact this
theorem impl_bounds_val (p : List S51) (hn : p.length ≤ 1000000000) : ∀ (d i : Nat) (a b c e : Int), p.length - i ≤ d → ∃ r : Int × Int × Int × Int, (∀ k, d < k → impl_bounds.l0 k p (p.length : Int) i a b c e = some r) ∧
    (r.1 ≤ a ∧ (∀ j, i ≤ j → j < p.length → r.1 ≤ (p.getD j z51).f0) ∧ (r.1 = a ∨ ∃ j, j < p.length ∧ r.1 = (p.getD j z51).f0)) ∧
    (r.2.1 ≤ b ∧ (∀ j, i ≤ j → j < p.length → r.2.1 ≤ (p.getD j z51).f1) ∧ (r.2.1 = b ∨ ∃ j, j < p.length ∧ r.2.1 = (p.getD j z51).f1)) := by
  intro d
  have fin : ∀ (i : Nat) (a b c e : Int), ¬ i < p.length → ∃ r : Int × Int × Int × Int, (∀ k, 0 < k → impl_bounds.l0 k p (p.length : Int) i a b c e = some r) ∧
    (r.1 ≤ a ∧ (∀ j, i ≤ j → j < p.length → r.1 ≤ (p.getD j z51).f0) ∧ (r.1 = a ∨ ∃ j, j < p.length ∧ r.1 = (p.getD j z51).f0)) ∧
    (r.2.1 ≤ b ∧ (∀ j, i ≤ j → j < p.length → r.2.1 ≤ (p.getD j z51).f1) ∧ (r.2.1 = b ∨ ∃ j, j < p.length ∧ r.2.1 = (p.getD j z51).f1)) := by
    intro i a b c e hi
    refine ⟨(a, b, c, e), fun k hk => ?_, ⟨Int.le_refl _, fun j h1 h2 => absurd h2 (by omega), .inl rfl⟩, ⟨Int.le_refl _, fun j h1 h2 => absurd h2 (by omega), .inl rfl⟩⟩
    obtain ⟨k, rfl⟩ : ∃ m, k = m + 1 := ⟨k - 1, by omega⟩
    simp only [impl_bounds.l0]
    rw [if_neg (by omega)]
  have hmn : ∀ x y : Int, mn x y ≤ x ∧ mn x y ≤ y ∧ (mn x y = x ∨ mn x y = y) := by
    intro x y; unfold mn; split <;> omega
  induction d with
  | zero =>
    intro i a b c e hi
    obtain ⟨r, h1, h2⟩ := fin i a b c e (by omega)
    exact ⟨r, fun k hk => h1 k hk, h2⟩
  | succ d ih =>
    intro i a b c e hi
    by_cases hlt : i < p.length
    · obtain ⟨r, hr, ⟨x1, x2, x3⟩, ⟨y1, y2, y3⟩⟩ := ih (i + 1) (mn a ((p.getD i z51).f0)) (mn b ((p.getD i z51).f1)) (mx c ((p.getD i z51).f0)) (mx e ((p.getD i z51).f1)) (by omega)
      have m1 := hmn a ((p.getD i z51).f0)
      have m2 := hmn b ((p.getD i z51).f1)
      refine ⟨r, fun k hk => ?_, ⟨by omega, fun j h1 h2 => ?_, ?_⟩, ⟨by omega, fun j h1 h2 => ?_, ?_⟩⟩
      · obtain ⟨k, rfl⟩ : ∃ m, k = m + 1 := ⟨k - 1, by omega⟩
        simp only [impl_bounds.l0]
        rw [if_pos (by omega), if_pos (by omega), if_pos (by omega), rdN, w1 (by omega)]
        exact hr k (by omega)
      · by_cases q : j = i
        · rw [q]; omega
        · exact x2 j (by omega) h2
      · rcases x3 with q | q
        · rcases m1.2.2 with w | w
          · exact .inl (q.trans w)
          · exact .inr ⟨i, hlt, q.trans w⟩
        · exact .inr q
      · by_cases q : j = i
        · rw [q]; omega
        · exact y2 j (by omega) h2
      · rcases y3 with q | q
        · rcases m2.2.2 with w | w
          · exact .inl (q.trans w)
          · exact .inr ⟨i, hlt, q.trans w⟩
        · exact .inr q
    · obtain ⟨r, h1, h2⟩ := fin i a b c e hlt
      exact ⟨r, fun k hk => h1 k (by omega), h2⟩
theorem bounds_low {p : List S51} {b : Int × Int × Int × Int} (h0 : 0 < p.length) (hn : p.length ≤ 1000000) (hb : ∀ k, p.length + 1 < k → impl_bounds.f k p = some b) :
    ((∀ j, j < p.length → b.1 ≤ (p.getD j z51).f0) ∧ ∃ j, j < p.length ∧ b.1 = (p.getD j z51).f0) ∧ ((∀ j, j < p.length → b.2.1 ≤ (p.getD j z51).f1) ∧ ∃ j, j < p.length ∧ b.2.1 = (p.getD j z51).f1) := by
  obtain ⟨r, hr, ⟨x1, x2, x3⟩, ⟨y1, y2, y3⟩⟩ := impl_bounds_val p (by omega) p.length 1 (p.getD 0 z51).f0 (p.getD 0 z51).f1 (p.getD 0 z51).f0 (p.getD 0 z51).f1 (by omega)
  have e := hb (p.length + 2) (by omega)
  rw [impl_bounds_one p h0] at e
  have e2 := hr (p.length + 1) (by omega)
  rw [Int.natCast_one] at e2
  rw [e2] at e
  injection e with e
  subst e
  refine ⟨⟨fun j hj => ?_, ?_⟩, ⟨fun j hj => ?_, ?_⟩⟩
  · by_cases q : j = 0
    · rw [q]; exact x1
    · exact x2 j (by omega) hj
  · rcases x3 with q | q
    · exact ⟨0, h0, q⟩
    · exact q
  · by_cases q : j = 0
    · rw [q]; exact y1
    · exact y2 j (by omega) hj
  · rcases y3 with q | q
    · exact ⟨0, h0, q⟩
    · exact q
/-- What a turn makes of a point. -/
theorem turn_aff (t : Int) (h0 : 0 ≤ t) (h1 : t ≤ 7) : ∃ a b c d : Int, Geo.Iso a b c d ∧ (a * d - b * c < 0 ↔ t > 3) ∧ ∀ x y, okP x y = true → turnD x y t = (a * x + b * y, c * x + d * y) := by
  have key : ∀ x y r, okP x y = true → impl_Turned.l0 7 (Int.tmod t 4) (if t > 3 then wrap64 (-x) else x) y = some r → turnD x y t = r := by
    intro x y r ho hr
    obtain ⟨hx, hy⟩ := (okP_iff x y).1 ho
    unfold turnD impl_Turned.f
    simp only [impl_within_eq, Option.bind_some]
    rw [decide_eq_true (show 0 ≤ t ∧ t ≤ 7 from ⟨h0, h1⟩), decide_eq_true (show -20000 ≤ x ∧ x ≤ 20000 by omega), decide_eq_true (show -20000 ≤ y ∧ y ≤ 20000 by omega), if_pos rfl, if_pos rfl]
    simp only [impl_Turned.j0, impl_Turned.j1, Bool.not_true, Bool.false_eq_true, if_false]
    by_cases h : t > 3
    · rw [if_pos h] at hr ⊢
      rw [hr]; rfl
    · rw [if_neg h] at hr ⊢
      rw [hr]; rfl
  have c3 : wrap64 (3 - 1) = 2 := by rw [w64 (by omega) (by omega)]; rfl
  have c2 : wrap64 (2 - 1) = 1 := by rw [w64 (by omega) (by omega)]; rfl
  have c1 : wrap64 (1 - 1) = 0 := by rw [w64 (by omega) (by omega)]; rfl
  have l0 : ∀ (k : Nat) (x y : Int), impl_Turned.l0 (k + 1) 0 x y = some (x, y) := fun k x y => by simp [impl_Turned.l0]
  have l1 : ∀ (k : Nat) (x y : Int), impl_Turned.l0 (k + 2) 1 x y = some (wrap64 (-y), x) := fun k x y => by
    rw [impl_Turned.l0, if_pos (by omega), c1, l0]
  have l2 : ∀ (k : Nat) (x y : Int), impl_Turned.l0 (k + 3) 2 x y = some (wrap64 (-x), wrap64 (-y)) := fun k x y => by
    rw [impl_Turned.l0, if_pos (by omega), c2, l1]
  have l3 : ∀ (k : Nat) (x y : Int), impl_Turned.l0 (k + 4) 3 x y = some (wrap64 (-wrap64 (-y)), wrap64 (-x)) := fun k x y => by
    rw [impl_Turned.l0, if_pos (by omega), c3, l2]
  have W : ∀ x : Int, -20000 ≤ x → x ≤ 20000 → wrap64 (-x) = -x := fun x a b => w64 (by omega) (by omega)
  have hc : t = 0 ∨ t = 1 ∨ t = 2 ∨ t = 3 ∨ t = 4 ∨ t = 5 ∨ t = 6 ∨ t = 7 := by omega
  rcases hc with rfl | rfl | rfl | rfl | rfl | rfl | rfl | rfl
  · refine ⟨1, 0, 0, 1, by unfold Geo.Iso; omega, by omega, fun x y ho => key x y _ ho ?_⟩
    obtain ⟨hx, hy⟩ := (okP_iff x y).1 ho
    rw [show Int.tmod 0 4 = 0 from rfl, if_neg (by omega), l0]
    exact congrArg some (Prod.ext (by simp only; omega) (by simp only; omega))
  · refine ⟨0, -1, 1, 0, by unfold Geo.Iso; omega, by omega, fun x y ho => key x y _ ho ?_⟩
    obtain ⟨hx, hy⟩ := (okP_iff x y).1 ho
    rw [show Int.tmod 1 4 = 1 from rfl, if_neg (by omega), l1, W y (by omega) (by omega)]
    exact congrArg some (Prod.ext (by simp only; omega) (by simp only; omega))
  · refine ⟨-1, 0, 0, -1, by unfold Geo.Iso; omega, by omega, fun x y ho => key x y _ ho ?_⟩
    obtain ⟨hx, hy⟩ := (okP_iff x y).1 ho
    rw [show Int.tmod 2 4 = 2 from rfl, if_neg (by omega), l2, W y (by omega) (by omega), W x (by omega) (by omega)]
    exact congrArg some (Prod.ext (by simp only; omega) (by simp only; omega))
  · refine ⟨0, 1, -1, 0, by unfold Geo.Iso; omega, by omega, fun x y ho => key x y _ ho ?_⟩
    obtain ⟨hx, hy⟩ := (okP_iff x y).1 ho
    rw [show Int.tmod 3 4 = 3 from rfl, if_neg (by omega), l3, W y (by omega) (by omega), W x (by omega) (by omega), W (-y) (by omega) (by omega)]
    exact congrArg some (Prod.ext (by simp only; omega) (by simp only; omega))
  · refine ⟨-1, 0, 0, 1, by unfold Geo.Iso; omega, by omega, fun x y ho => key x y _ ho ?_⟩
    obtain ⟨hx, hy⟩ := (okP_iff x y).1 ho
    rw [show Int.tmod 4 4 = 0 from rfl, if_pos (by omega), l0, W x (by omega) (by omega)]
    exact congrArg some (Prod.ext (by simp only; omega) (by simp only; omega))
  · refine ⟨0, -1, -1, 0, by unfold Geo.Iso; omega, by omega, fun x y ho => key x y _ ho ?_⟩
    obtain ⟨hx, hy⟩ := (okP_iff x y).1 ho
    rw [show Int.tmod 5 4 = 1 from rfl, if_pos (by omega), l1, W y (by omega) (by omega), W x (by omega) (by omega)]
    exact congrArg some (Prod.ext (by simp only; omega) (by simp only; omega))
  · refine ⟨1, 0, 0, -1, by unfold Geo.Iso; omega, by omega, fun x y ho => key x y _ ho ?_⟩
    obtain ⟨hx, hy⟩ := (okP_iff x y).1 ho
    rw [show Int.tmod 6 4 = 2 from rfl, if_pos (by omega), l2, W y (by omega) (by omega), W x (by omega) (by omega), W (-x) (by omega) (by omega)]
    exact congrArg some (Prod.ext (by simp only; omega) (by simp only; omega))
  · refine ⟨0, 1, 1, 0, by unfold Geo.Iso; omega, by omega, fun x y ho => key x y _ ho ?_⟩
    obtain ⟨hx, hy⟩ := (okP_iff x y).1 ho
    rw [show Int.tmod 7 4 = 3 from rfl, if_pos (by omega), l3, W y (by omega) (by omega), W x (by omega) (by omega), W (-y) (by omega) (by omega), W (-x) (by omega) (by omega)]
    exact congrArg some (Prod.ext (by simp only; omega) (by simp only; omega))
theorem iso_range {a b c d : Int} (h : Geo.Iso a b c d) {x y u v : Int} (h1 : okP x y = true) (h2 : okP u v = true) :
    ((-20000 ≤ a * x + b * y ∧ a * x + b * y ≤ 20000) ∧ (-20000 ≤ c * x + d * y ∧ c * x + d * y ≤ 20000)) ∧ (a * x + b * y) - (a * u + b * v) ≤ 20000 ∧ (c * x + d * y) - (c * u + d * v) ≤ 20000 := by
  obtain ⟨⟨a1, a2⟩, a3, a4⟩ := (okP_iff _ _).1 h1
  obtain ⟨⟨b1, b2⟩, b3, b4⟩ := (okP_iff _ _).1 h2
  rcases h with ⟨rfl, rfl, rfl | rfl, rfl | rfl⟩ | ⟨rfl, rfl, rfl | rfl, rfl | rfl⟩ <;> omega
theorem valid_of {r : List S51} (hv : Geo.IValid (ptsOf r)) (h24 : r.length ≤ 24) (hall : (r.all fun s => okP s.f0 s.f1) = true) (ha : 0 < areaTo r r.length) : Valid r := by
  obtain ⟨h3, _, hg⟩ := hv
  rw [ptsOf_length] at h3
  have m : ∀ i, i % r.length < r.length := fun i => Nat.mod_lt _ (by omega)
  have C : ∀ i, i < r.length → inC (r.getD i z51).f0 (r.getD i z51).f1 := fun i hi => inC_of_ok (ok_at hall i hi)
  refine ⟨h3, h24, hall, fun i hi => ?_, ha⟩
  have g := hg i (by rw [ptsOf_length]; exact hi)
  rw [ptsOf_length, pt_of r i hi, pt_of r _ (m (i + 1)), pt_of r _ (m (i + 2))] at g
  obtain ⟨⟨g1, g2, g3⟩, g4⟩ := g
  refine ⟨?_, fun j h1 h2 h4 => ?_⟩
  · unfold badAt
    dsimp only
    rw [Bool.or_eq_false_iff, Bool.or_eq_false_iff]
    refine ⟨Bool.eq_false_iff.2 fun e => g1 ?_, Bool.eq_false_iff.2 fun e => g2 ?_, Bool.eq_false_iff.2 fun e => g3 ?_⟩
    · unfold same2 at e
      rw [Bool.and_eq_true, beq_iff_eq, beq_iff_eq] at e
      exact Prod.ext e.1 e.2
    · exact (on_iff (C i hi) (C _ (m (i + 1))) (C _ (m (i + 2)))).1 e
    · exact (on_iff (C _ (m (i + 1))) (C _ (m (i + 2))) (C i hi)).1 e
  · have q := g4 j h1 h2 h4
    rw [pt_of r j h2, pt_of r _ (m (j + 1))] at q
    unfold meets
    dsimp only
    exact Bool.eq_false_iff.2 fun e => q ((touch_iff (C i hi) (C _ (m (i + 1))) (C j h2) (C _ (m (j + 1)))).1 e)
theorem shiftL_getD (p : List S51) (dx dy : Int) (i : Nat) (hi : i < p.length) : (shiftL p dx dy).getD i z51 = ⟨wrap64 ((p.getD i z51).f0 + dx), wrap64 ((p.getD i z51).f1 + dy)⟩ := by
  unfold shiftL
  rw [List.getD_eq_getElem?_getD, List.getElem?_map, List.getElem?_eq_getElem hi, List.getD_eq_getElem?_getD, List.getElem?_eq_getElem hi]
  rfl
theorem turnL_getD (p : List S51) (t : Int) (i : Nat) (hi : i < p.length) : (turnL p t).getD i z51 = tpt t (p.getD (if t > 3 then (p.length - i) % p.length else i) z51) := by
  unfold turnL
  by_cases c : t > 3
  · rw [if_pos c, if_pos c, backT_getD _ i (by rw [mapT_length]; exact hi), mapT_length, mapT_getD p t _ (Nat.mod_lt _ (by omega))]
  · rw [if_neg c, if_neg c, mapT_getD p t i hi]
/-- A valid polygon that is turned is valid. -/
theorem valid_turned {p : List S51} (hV : Valid p) (t : Int) (h0 : 0 ≤ t) (h1 : t ≤ 7) : ∃ r : List S51, Valid r ∧ ∀ k, 100 ≤ k → spec_l03Turned.f k p t = some r ∧ impl_turnPoints.f k p t = some r := by
  obtain ⟨h3, hn, hall, hg, harea⟩ := id hV
  obtain ⟨b, hb, hr⟩ := turned_form p t h0 h1 hall h3 hn
  refine ⟨_, ?_, hr⟩
  obtain ⟨A, B, C, D, hI, hdet, hT⟩ := turn_aff t h0 h1
  have hlen := turnL_length p t
  obtain ⟨⟨lx, jx, hjx, ejx⟩, ly, jy, hjy, ejy⟩ := bounds_low (p := turnL p t) (b := b) (by omega) (by omega) (by rw [hlen]; exact hb)
  rw [hlen] at lx ly hjx hjy
  have ix : ∀ i, i < p.length → (if t > 3 then (p.length - i) % p.length else i) < p.length := by
    intro i hi
    split
    · exact Nat.mod_lt _ (by omega)
    · exact hi
  have qx : ∀ i, i < p.length → ∃ s : S51, s = p.getD (if t > 3 then (p.length - i) % p.length else i) z51 ∧ okP s.f0 s.f1 = true ∧ ((turnL p t).getD i z51).f0 = A * s.f0 + B * s.f1 ∧ ((turnL p t).getD i z51).f1 = C * s.f0 + D * s.f1 := by
    intro i hi
    have ho := ok_at hall _ (ix i hi)
    refine ⟨_, rfl, ho, ?_, ?_⟩
    · rw [turnL_getD p t i hi]; unfold tpt; rw [hT _ _ ho]
    · rw [turnL_getD p t i hi]; unfold tpt; rw [hT _ _ ho]
  obtain ⟨sx, _, okx, ex0, _⟩ := qx jx hjx
  obtain ⟨sy, _, oky, _, ey1⟩ := qx jy hjy
  have rx := (iso_range hI okx okx).1.1
  have ry := (iso_range hI oky oky).1.2
  rw [ex0] at ejx
  rw [ey1] at ejy
  have wb1 : wrap64 (-b.1) = -b.1 := w64 (by omega) (by omega)
  have wb2 : wrap64 (-b.2.1) = -b.2.1 := w64 (by omega) (by omega)
  rw [wb1, wb2]
  have G : ∀ i, i < p.length → ∃ s : S51, s = p.getD (if t > 3 then (p.length - i) % p.length else i) z51 ∧ okP (A * s.f0 + B * s.f1 - b.1) (C * s.f0 + D * s.f1 - b.2.1) = true ∧
      (shiftL (turnL p t) (-b.1) (-b.2.1)).getD i z51 = ⟨A * s.f0 + B * s.f1 - b.1, C * s.f0 + D * s.f1 - b.2.1⟩ := by
    intro i hi
    obtain ⟨s, es, oks, e0, e1⟩ := qx i hi
    have a1 := iso_range hI oks okx
    have a2 := iso_range hI oks oky
    have b1 := lx i hi
    have b2 := ly i hi
    rw [e0] at b1
    rw [e1] at b2
    have u1 := a1.2.1
    have u2 := a2.2.2
    have v1 := a1.1.1
    have v2 := a1.1.2
    refine ⟨s, es, (okP_iff _ _).2 ⟨⟨by omega, by omega⟩, by omega, by omega⟩, ?_⟩
    rw [shiftL_getD _ _ _ i (by omega), e0, e1, w64 (by omega) (by omega), w64 (by omega) (by omega)]
    rfl
  have hok : ((shiftL (turnL p t) (-b.1) (-b.2.1)).all fun s => okP s.f0 s.f1) = true := by
    rw [List.all_eq_true]
    intro x hx
    obtain ⟨i, hi, rfl⟩ := List.getElem_of_mem hx
    rw [shiftL_length, hlen] at hi
    obtain ⟨s, _, ho, e⟩ := G i hi
    rw [List.getD_eq_getElem?_getD, List.getElem?_eq_getElem (by rw [shiftL_length, hlen]; exact hi)] at e
    have e : (shiftL (turnL p t) (-b.1) (-b.2.1))[i] = _ := e
    rw [e]
    exact ho
  have hL : (shiftL (turnL p t) (-b.1) (-b.2.1)).length = p.length := by rw [shiftL_length, hlen]
  have hM : ptsOf (shiftL (turnL p t) (-b.1) (-b.2.1)) = Geo.movedL A B C D (-b.1) (-b.2.1) (ptsOf p) := by
    refine Geo.ext_pt ?_ (fun i hi => ?_)
    · rw [ptsOf_length, hL]
      unfold Geo.movedL
      split
      · rw [Geo.back_length, List.length_map, ptsOf_length]
      · rw [List.length_map, ptsOf_length]
    · rw [ptsOf_length, hL] at hi
      rw [pt_of _ i (by omega)]
      obtain ⟨s, es, _, e⟩ := G i hi
      have mp : ∀ j, j < p.length → Geo.pt ((ptsOf p).map (Geo.aff A B C D (-b.1) (-b.2.1))) j = Geo.aff A B C D (-b.1) (-b.2.1) (toPt (p.getD j z51)) := by
        intro j hj
        rw [← pt_of p j hj]
        unfold Geo.pt
        rw [List.getD_eq_getElem?_getD, List.getElem?_map, List.getD_eq_getElem?_getD, List.getElem?_eq_getElem (by rw [ptsOf_length]; exact hj)]
        rfl
      have e' : Geo.pt (Geo.movedL A B C D (-b.1) (-b.2.1) (ptsOf p)) i = Geo.aff A B C D (-b.1) (-b.2.1) (toPt s) := by
        unfold Geo.movedL
        by_cases c : t > 3
        · rw [if_pos (hdet.2 c), Geo.back_get _ i (by rw [List.length_map, ptsOf_length]; exact hi), List.length_map, ptsOf_length, mp _ (Nat.mod_lt _ (by omega)), es, if_pos c]
        · rw [if_neg (fun q => c (hdet.1 q)), mp i hi, es, if_neg c]
      rw [e', e]
      unfold toPt Geo.aff
      exact Prod.ext (by simp only; omega) (by simp only; omega)
  have hS := (simple_valid hV).1
  have hin : ∀ q ∈ ptsOf p, Geo.inB (Geo.aff A B C D (-b.1) (-b.2.1) q) := by
    intro q hq
    obtain ⟨s, hs, rfl⟩ := List.mem_map.1 hq
    obtain ⟨i, hi, rfl⟩ := List.getElem_of_mem hs
    -- the corner that comes to be this one
    have oks := List.all_eq_true.1 hall _ (List.getElem_mem hi)
    have a1 := iso_range hI oks okx
    have u1 := a1.2.1
    have : ∃ j, j < p.length ∧ (if t > 3 then (p.length - j) % p.length else j) = i := by
      by_cases c : t > 3
      · by_cases z : i = 0
        · refine ⟨0, by omega, ?_⟩
          rw [if_pos c, Nat.sub_zero, Nat.mod_self, z]
        · refine ⟨p.length - i, by omega, ?_⟩
          rw [if_pos c, show p.length - (p.length - i) = i by omega, Nat.mod_eq_of_lt hi]
      · exact ⟨i, hi, by rw [if_neg c]⟩
    obtain ⟨j, hj, ej⟩ := this
    obtain ⟨s', es', oks', e0, _⟩ := qx j hj
    rw [ej] at es'
    have es2 : s' = p[i] := by
      rw [es', List.getD_eq_getElem?_getD, List.getElem?_eq_getElem hi]
      rfl
    have b1 := lx j hj
    rw [e0, es2] at b1
    unfold Geo.inB Geo.aff toPt
    simp only
    omega
  obtain ⟨mS, mA⟩ := Geo.moved (e := -b.1) (g := -b.2.1) hI hS hin
  rw [← hM] at mS mA
  refine valid_of (Geo.ivalid_of_simple mS) (by omega) hok ?_
  rw [← area_of _ (by omega), mA, area_of p (by omega)]
  exact harea

theorem onW_start (a0 a1 b0 b1 : Int) (ha : 0 ≤ a0 ∧ a0 ≤ 20000 ∧ 0 ≤ a1 ∧ a1 ≤ 20000) (hb : 0 ≤ b0 ∧ b0 ≤ 20000 ∧ 0 ≤ b1 ∧ b1 ≤ 20000) : onW a0 a1 b0 b1 a0 a1 = true := by
  have e : sideW a0 a1 b0 b1 a0 a1 = 0 := by
    unfold sideW
    rw [Int.sub_self, Int.sub_self, w64 (x := 0) (by omega) (by omega), Int.mul_zero, Int.mul_zero, w64 (x := 0) (by omega) (by omega), Int.sub_self, w64 (x := 0) (by omega) (by omega)]
    rfl
  unfold onW
  rw [e]
  have h1 : mn a0 b0 ≤ a0 ∧ a0 ≤ mx a0 b0 := by
    unfold mn mx
    constructor <;> split <;> omega
  have h2 : mn a1 b1 ≤ a1 ∧ a1 ≤ mx a1 b1 := by
    unfold mn mx
    constructor <;> split <;> omega
  rw [decide_eq_true h1, decide_eq_true h2]
  rfl
theorem same2_true {a0 a1 b0 b1 : Int} (h0 : a0 = b0) (h1 : a1 = b1) : same2 a0 a1 b0 b1 = true := by
  unfold same2
  rw [h0, h1]
  simp
/-- The corners of a valid polygon are different. -/
theorem corners_differ {p : List S51} (hV : Valid p) : ∀ i j, i < j → j < p.length → ¬ ((p.getD i z51).f0 = (p.getD j z51).f0 ∧ (p.getD i z51).f1 = (p.getD j z51).f1) := by
  intro i j hij hj ⟨h0, h1⟩
  obtain ⟨h3, hn, hall, hgood, _⟩ := hV
  have hr := inR_of_all hall
  by_cases e : j = i + 1
  · have hb := (hgood i (by omega)).1
    unfold badAt at hb
    dsimp only at hb
    rw [Nat.mod_eq_of_lt (show i + 1 < p.length by omega)] at hb
    subst e
    rw [same2_true h0 h1] at hb
    cases hb
  · by_cases e2 : (j + 1) % p.length = i
    · have hb := (hgood j hj).1
      unfold badAt at hb
      dsimp only at hb
      rw [e2, same2_true h0.symm h1.symm] at hb
      cases hb
    · have hm := (hgood i (by omega)).2 j (by omega) hj e2
      unfold meets touchW at hm
      dsimp only at hm
      obtain ⟨a1, a2, a3, a4⟩ := hr i
      obtain ⟨b1, b2, b3, b4⟩ := hr ((i + 1) % p.length)
      have ho := onW_start (p.getD i z51).f0 (p.getD i z51).f1 (p.getD ((i + 1) % p.length) z51).f0 (p.getD ((i + 1) % p.length) z51).f1 ⟨a1, a2, a3, a4⟩ ⟨b1, b2, b3, b4⟩
      rw [← h0, ← h1, ho] at hm
      simp at hm

def eqP (x y : S51) : Bool := (x.f0 == y.f0) && (x.f1 == y.f1)
theorem eqP_iff (x y : S51) : eqP x y = true ↔ x.f0 = y.f0 ∧ x.f1 = y.f1 := by
  unfold eqP
  rw [Bool.and_eq_true, beq_iff_eq, beq_iff_eq]
theorem neP_eq (x y : S51) : (!(x.f0 == y.f0) || (!(x.f1 == y.f1))) = !eqP x y := by
  unfold eqP
  cases x.f0 == y.f0 <;> cases x.f1 == y.f1 <;> rfl
theorem spec_equal_loop (a c : List S51) (hl : a.length = c.length) (hn : a.length ≤ 1000000000) : ∀ (d i : Nat), a.length - i ≤ d → ∃ b : Bool, (∀ k, d < k → spec_l03Equal.l0 k a c i = some b) ∧ (b = true ↔ ∀ j, i ≤ j → j < a.length → eqP (a.getD j z51) (c.getD j z51) = true) := by
  intro d
  induction d with
  | zero =>
    intro i hi
    refine ⟨true, fun k hk => ?_, ⟨fun _ j h1 h2 => absurd h2 (by omega), fun _ => rfl⟩⟩
    obtain ⟨k, rfl⟩ : ∃ m, k = m + 1 := ⟨k - 1, by omega⟩
    simp only [spec_l03Equal.l0]
    rw [if_neg (by omega)]
  | succ d ih =>
    intro i hi
    by_cases hlt : i < a.length
    · obtain ⟨b, h1, h2⟩ := ih (i + 1) (by omega)
      refine ⟨eqP (a.getD i z51) (c.getD i z51) && b, fun k hk => ?_, ?_⟩
      · obtain ⟨k, rfl⟩ : ∃ m, k = m + 1 := ⟨k - 1, by omega⟩
        simp only [spec_l03Equal.l0]
        rw [if_pos (by omega), if_pos (by omega), if_pos (by omega), rdN, rdN, neP_eq, w1 (by omega), h1 k (by omega)]
        cases eqP (a.getD i z51) (c.getD i z51) <;> rfl
      · rw [Bool.and_eq_true, h2]
        refine ⟨fun h j a1 a2 => ?_, fun h => ⟨h i (Nat.le_refl _) hlt, fun j a1 a2 => h j (by omega) a2⟩⟩
        by_cases e : j = i
        · rw [e]; exact h.1
        · exact h.2 j (by omega) a2
    · refine ⟨true, fun k hk => ?_, ⟨fun _ j h1 h2 => absurd h2 (by omega), fun _ => rfl⟩⟩
      obtain ⟨k, rfl⟩ : ∃ m, k = m + 1 := ⟨k - 1, by omega⟩
      simp only [spec_l03Equal.l0]
      rw [if_neg (by omega)]
/-- A list that begins with another one. -/
def rot (b : List S51) (t : Nat) : List S51 := b.drop t ++ b.take t
theorem rot_length (b : List S51) (t : Nat) (h : t ≤ b.length) : (rot b t).length = b.length := by
  unfold rot
  rw [List.length_append, List.length_drop, List.length_take]
  omega
theorem rot_get (b : List S51) (t i : Nat) (h : t < b.length) (hi : i < b.length) : (rot b t).getD i z51 = b.getD ((t + i) % b.length) z51 := by
  unfold rot
  rw [List.getD_eq_getElem?_getD, List.getD_eq_getElem?_getD]
  congr 1
  by_cases hc : i < b.length - t
  · rw [List.getElem?_append_left (by rw [List.length_drop]; exact hc), List.getElem?_drop, Nat.mod_eq_of_lt (by omega)]
  · rw [List.getElem?_append_right (by rw [List.length_drop]; omega), List.length_drop, List.getElem?_take_of_lt (by omega), show (t + i) % b.length = i - (b.length - t) by rw [Nat.mod_eq_sub_mod (by omega), Nat.mod_eq_of_lt (by omega)]; omega]
theorem spec_from_eq (b : List S51) (t : Nat) (h : t ≤ b.length) (hn : b.length ≤ 1000000000) : spec_l03From.f b t = some (rot b t) := by
  unfold spec_l03From.f rot
  simp only [Option.bind_some, List.nil_append, List.length_nil, Int.toNat_natCast]
  rw [if_pos (by omega), if_pos (by omega), if_pos (by rw [List.length_drop]; omega), if_pos (by rw [List.length_drop, List.length_take]; omega)]
/-- a is b, begun with its point t. -/
def IsRot (a b : List S51) (t : Nat) : Prop := a.length = b.length ∧ ∀ i, i < b.length → eqP (a.getD i z51) (b.getD ((t + i) % b.length) z51) = true
theorem spec_equal_rot (a b : List S51) (t : Nat) (h : t < b.length) (hn : b.length ≤ 1000000000) (ha : a.length ≤ 1000000000) : ∃ c : Bool, (∀ k, a.length < k → spec_l03Equal.f k a (rot b t) = some c) ∧ (c = true ↔ IsRot a b t) := by
  by_cases hl : a.length = b.length
  · obtain ⟨c, h1, h2⟩ := spec_equal_loop a (rot b t) (by rw [rot_length b t (by omega)]; exact hl) ha a.length 0 (by omega)
    refine ⟨c, fun k hk => ?_, h2.trans ⟨fun q => ⟨hl, fun i hi => ?_⟩, fun q j _ hj => ?_⟩⟩
    · unfold spec_l03Equal.f
      rw [rot_length b t (by omega), if_pos (by omega)]
      exact h1 k hk
    · rw [← rot_get b t i h hi]
      exact q i (by omega) (by omega)
    · rw [rot_get b t j h (by omega)]
      exact q.2 j (by omega)
  · refine ⟨false, fun k hk => ?_, ⟨fun q => (by cases q), fun q => absurd q.1 hl⟩⟩
    unfold spec_l03Equal.f
    rw [rot_length b t (by omega), if_neg (by omega)]
theorem spec_around_loop (a b : List S51) (hn : b.length ≤ 1000000000) (ha : a.length ≤ 1000000000) : ∀ (d t : Nat), b.length - t ≤ d → ∃ c : Bool, (∀ k, d + a.length + 1 < k → spec_l03Around.l0 k a b t = some c) ∧ (c = true ↔ ∃ s, t ≤ s ∧ s < b.length ∧ IsRot a b s) := by
  intro d
  induction d with
  | zero =>
    intro t ht
    refine ⟨false, fun k hk => ?_, ⟨fun q => (by cases q), fun ⟨s, h1, h2, _⟩ => absurd h2 (by omega)⟩⟩
    obtain ⟨k, rfl⟩ : ∃ m, k = m + 1 := ⟨k - 1, by omega⟩
    simp only [spec_l03Around.l0]
    rw [if_neg (by omega)]
  | succ d ih =>
    intro t ht
    by_cases hlt : t < b.length
    · obtain ⟨c, h1, h2⟩ := ih (t + 1) (by omega)
      obtain ⟨e, g1, g2⟩ := spec_equal_rot a b t hlt hn ha
      refine ⟨e || c, fun k hk => ?_, ?_⟩
      · obtain ⟨k, rfl⟩ : ∃ m, k = m + 1 := ⟨k - 1, by omega⟩
        simp only [spec_l03Around.l0]
        rw [if_pos (by omega), spec_from_eq b t (by omega) hn, Option.bind_some, g1 k (by omega), Option.bind_some, w1 (by omega), h1 k (by omega)]
        cases e <;> rfl
      · rw [Bool.or_eq_true, g2, h2]
        refine ⟨fun h => ?_, fun ⟨s, a1, a2, a3⟩ => ?_⟩
        · rcases h with h | ⟨s, a1, a2, a3⟩
          · exact ⟨t, Nat.le_refl _, hlt, h⟩
          · exact ⟨s, by omega, a2, a3⟩
        · by_cases q : s = t
          · rw [q] at a3; exact .inl a3
          · exact .inr ⟨s, by omega, a2, a3⟩
    · refine ⟨false, fun k hk => ?_, ⟨fun q => (by cases q), fun ⟨s, h1, h2, _⟩ => absurd h2 (by omega)⟩⟩
      obtain ⟨k, rfl⟩ : ∃ m, k = m + 1 := ⟨k - 1, by omega⟩
      simp only [spec_l03Around.l0]
      rw [if_neg (by omega)]
theorem spec_around_eq (a b : List S51) (hn : b.length ≤ 1000000000) (ha : a.length ≤ 1000000000) : ∃ c : Bool, (∀ k, b.length + a.length + 1 < k → spec_l03Around.f k a b = some c) ∧ (c = true ↔ ∃ s, s < b.length ∧ IsRot a b s) := by
  obtain ⟨c, h1, h2⟩ := spec_around_loop a b hn ha b.length 0 (by omega)
  exact ⟨c, h1, h2.trans ⟨fun ⟨s, _, h⟩ => ⟨s, h⟩, fun ⟨s, h⟩ => ⟨s, by omega, h⟩⟩⟩

theorem impl_index_loop (b : List S51) (hn : b.length ≤ 1000000000) (q0 q1 : Int) : ∀ (d i : Nat), b.length - i ≤ d → ∃ r : Int, (∀ k, d < k → impl_Point_71.l0 k b (b.length : Int) i q0 q1 = some r) ∧
    ((r = -1 ∧ ∀ j, i ≤ j → j < b.length → ¬ (q0 = (b.getD j z51).f0 ∧ q1 = (b.getD j z51).f1)) ∨ ∃ t : Nat, r = t ∧ t < b.length ∧ q0 = (b.getD t z51).f0 ∧ q1 = (b.getD t z51).f1) := by
  intro d
  have fin : ∀ i : Nat, ¬ i < b.length → ∃ r : Int, (∀ k, 0 < k → impl_Point_71.l0 k b (b.length : Int) i q0 q1 = some r) ∧
    ((r = -1 ∧ ∀ j, i ≤ j → j < b.length → ¬ (q0 = (b.getD j z51).f0 ∧ q1 = (b.getD j z51).f1)) ∨ ∃ t : Nat, r = t ∧ t < b.length ∧ q0 = (b.getD t z51).f0 ∧ q1 = (b.getD t z51).f1) := by
    intro i hi
    refine ⟨-1, fun k hk => ?_, .inl ⟨rfl, fun j h1 h2 => absurd h2 (by omega)⟩⟩
    obtain ⟨k, rfl⟩ : ∃ m, k = m + 1 := ⟨k - 1, by omega⟩
    simp only [impl_Point_71.l0]
    rw [if_neg (by omega)]
  induction d with
  | zero =>
    intro i hi
    obtain ⟨r, h1, h2⟩ := fin i (by omega)
    exact ⟨r, fun k hk => h1 k (by omega), h2⟩
  | succ d ih =>
    intro i hi
    by_cases hlt : i < b.length
    · obtain ⟨r, h1, h2⟩ := ih (i + 1) (by omega)
      by_cases hq : q0 = (b.getD i z51).f0 ∧ q1 = (b.getD i z51).f1
      · refine ⟨i, fun k hk => ?_, .inr ⟨i, rfl, hlt, hq⟩⟩
        obtain ⟨k, rfl⟩ : ∃ m, k = m + 1 := ⟨k - 1, by omega⟩
        simp only [impl_Point_71.l0]
        rw [if_pos (by omega), if_pos (by omega), if_pos (by omega), rdN, if_pos (by rw [hq.1, hq.2]; simp)]
      · refine ⟨r, fun k hk => ?_, ?_⟩
        · obtain ⟨k, rfl⟩ : ∃ m, k = m + 1 := ⟨k - 1, by omega⟩
          simp only [impl_Point_71.l0]
          rw [if_pos (by omega), if_pos (by omega), if_pos (by omega), rdN, if_neg (by rw [Bool.and_eq_true, beq_iff_eq, beq_iff_eq]; exact hq), w1 (by omega)]
          exact h1 k (by omega)
        · rcases h2 with ⟨e, h⟩ | h
          · refine .inl ⟨e, fun j a1 a2 => ?_⟩
            by_cases ej : j = i
            · rw [ej]; exact hq
            · exact h j (by omega) a2
          · exact .inr h
    · obtain ⟨r, h1, h2⟩ := fin i hlt
      exact ⟨r, fun k hk => h1 k (by omega), h2⟩
theorem impl_same_loop (a b : List S51) (hl : a.length = b.length) (hn : b.length ≤ 1000000000) (t : Nat) (ht : t < b.length) : ∀ (d i : Nat), a.length - i ≤ d → ∃ c : Bool, (∀ k, d < k → impl_SamePolygon.l0 k a b t (a.length : Int) i = some c) ∧ (c = true ↔ ∀ j, i ≤ j → j < a.length → eqP (a.getD j z51) (b.getD ((t + j) % b.length) z51) = true) := by
  intro d
  induction d with
  | zero =>
    intro i hi
    refine ⟨true, fun k hk => ?_, ⟨fun _ j h1 h2 => absurd h2 (by omega), fun _ => rfl⟩⟩
    obtain ⟨k, rfl⟩ : ∃ m, k = m + 1 := ⟨k - 1, by omega⟩
    simp only [impl_SamePolygon.l0]
    rw [if_neg (by omega)]
  | succ d ih =>
    intro i hi
    by_cases hlt : i < a.length
    · obtain ⟨c, h1, h2⟩ := ih (i + 1) (by omega)
      have hm := Nat.mod_lt (t + i) (show 0 < b.length by omega)
      have e : Int.tmod (wrap64 ((t : Int) + (i : Int))) (b.length : Int) = (((t + i) % b.length : Nat) : Int) := by
        rw [w64 (by omega) (by omega), Int.tmod_eq_emod_of_nonneg (by omega), Int.natCast_emod]
        rfl
      refine ⟨eqP (a.getD i z51) (b.getD ((t + i) % b.length) z51) && c, fun k hk => ?_, ?_⟩
      · obtain ⟨k, rfl⟩ : ∃ m, k = m + 1 := ⟨k - 1, by omega⟩
        simp only [impl_SamePolygon.l0]
        rw [e, if_pos (by omega), if_pos (by omega), if_pos (by omega), if_neg (by omega), if_pos (by omega), if_pos (by omega), rdN, rdN, neP_eq, w1 (by omega), h1 k (by omega)]
        cases eqP (a.getD i z51) (b.getD ((t + i) % b.length) z51) <;> rfl
      · rw [Bool.and_eq_true, h2]
        refine ⟨fun h j a1 a2 => ?_, fun h => ⟨h i (Nat.le_refl _) hlt, fun j a1 a2 => h j (by omega) a2⟩⟩
        by_cases e : j = i
        · rw [e]; exact h.1
        · exact h.2 j (by omega) a2
    · refine ⟨true, fun k hk => ?_, ⟨fun _ j h1 h2 => absurd h2 (by omega), fun _ => rfl⟩⟩
      obtain ⟨k, rfl⟩ : ∃ m, k = m + 1 := ⟨k - 1, by omega⟩
      simp only [impl_SamePolygon.l0]
      rw [if_neg (by omega)]
/-- The first point tells where to begin. -/
theorem impl_around_eq (a b : List S51) (ha : Valid a) (hb : Valid b) : ∃ c : Bool, (∀ k, 30 ≤ k → impl_SamePolygon.j0 (k + 1) a b ((a.length : Int) != (b.length : Int)) = some c) ∧ (c = true ↔ ∃ s, s < b.length ∧ IsRot a b s) := by
  have ha3 := ha.1
  have hb3 := hb.1
  have hbn := hb.2.1
  have han := ha.2.1
  by_cases hl : a.length = b.length
  · obtain ⟨r, h1, h2⟩ := impl_index_loop b (by omega) (a.getD 0 z51).f0 (a.getD 0 z51).f1 b.length 0 (by omega)
    have e0 : rd_T51 a 0 = a.getD 0 z51 := rdN a 0
    rcases h2 with ⟨rfl, h⟩ | ⟨t, rfl, ht, q0, q1⟩
    · refine ⟨false, fun k hk => ?_, ⟨fun q => (by cases q), fun ⟨s, s1, s2⟩ => ?_⟩⟩
      · simp only [impl_SamePolygon.j0]
        rw [hl, bne_self_eq_false, if_neg (by simp), if_pos (by omega), e0]
        unfold impl_startOf.f impl_Point_71.f
        have := h1 k (by omega)
        simp only [Int.natCast_zero] at this
        rw [this]
        rfl
      · have := (eqP_iff _ _).1 (s2.2 0 (by omega))
        rw [Nat.add_zero, Nat.mod_eq_of_lt s1] at this
        exact absurd this (h s (by omega) s1)
    · obtain ⟨c, g1, g2⟩ := impl_same_loop a b hl (by omega) t ht a.length 0 (by omega)
      refine ⟨c, fun k hk => ?_, g2.trans ⟨fun q => ⟨t, ht, hl, fun i hi => q i (by omega) (by omega)⟩, fun ⟨s, s1, s2⟩ => ?_⟩⟩
      · simp only [impl_SamePolygon.j0]
        rw [show ((a.length : Int) != (b.length : Int)) = false by rw [hl]; exact bne_self_eq_false _, if_neg (by simp), if_pos (by omega), e0]
        unfold impl_startOf.f impl_Point_71.f
        have := h1 k (by omega)
        simp only [Int.natCast_zero] at this
        rw [this]
        simp only [Option.bind_some]
        rw [if_neg (by omega)]
        exact g1 k (by omega)
      · -- the points of b differ: it is the same beginning
        have h0 := (eqP_iff _ _).1 (s2.2 0 (by omega))
        rw [Nat.add_zero, Nat.mod_eq_of_lt s1] at h0
        have e : s = t := by
          rcases Nat.lt_trichotomy s t with h | h | h
          · exact absurd ⟨h0.1.symm.trans q0, h0.2.symm.trans q1⟩ (corners_differ hb s t h ht)
          · exact h
          · exact absurd ⟨q0.symm.trans h0.1, q1.symm.trans h0.2⟩ (corners_differ hb t s h s1)
        subst e
        exact fun j _ hj => s2.2 j (by omega)
  · refine ⟨false, fun k hk => ?_, ⟨fun q => (by cases q), fun ⟨s, _, s2⟩ => absurd s2.1 hl⟩⟩
    have : ((a.length : Int) != (b.length : Int)) = true := by
      rw [bne_iff_ne]
      omega
    rw [this]
    simp only [impl_SamePolygon.j0, if_true]

theorem eqPoint_self (x y : Int) : laws_eqPoint.f x y x y = some true := by
  unfold laws_eqPoint.f
  rw [if_pos rfl, if_pos rfl]
theorem eqPointS_loop (l : List S51) (h : l.length ≤ 1000000000) : ∀ (d k i : Nat), l.length - i ≤ d → d < k → laws_eqPointS.l0 k l l i = some true
  | d, 0, i, _, h2 => absurd h2 (by omega)
  | d, k + 1, i, h1, h2 => by
    simp only [laws_eqPointS.l0]
    by_cases hi : i < l.length
    · rw [if_pos (by omega), if_pos (by omega), if_pos (by omega), eqPoint_self, Option.bind_some, if_pos rfl, w1 (by omega)]
      exact eqPointS_loop l h (d - 1) k (i + 1) (by omega) (by omega)
    · rw [if_neg (by omega)]
theorem eqPointS_self (l : List S51) (h : l.length ≤ 1000000000) (k : Nat) (hk : l.length < k) : laws_eqPointS.f k l l = some true := by
  unfold laws_eqPointS.f
  rw [if_pos rfl]
  exact eqPointS_loop l h l.length k 0 (by omega) hk

/-- The law's points as the program's. -/
def conv (l : List S53) : List S51 := l.map fun s => ⟨s.f0, s.f1⟩
theorem conv_length (l : List S53) : (conv l).length = l.length := by
  unfold conv
  rw [List.length_map]
theorem sz_small (l : List S53) (h : l.length ≤ 1048576) : laws_szPointS.f l 1048576 = some (1048576 - (l.length : Int)) := by
  unfold laws_szPointS.f
  rw [w64 (by omega) (by omega), if_neg (by omega)]
theorem sz_large (l : List S53) (hm : l.length ≤ 9223372036854775807) (h : 1048576 < l.length) : laws_szPointS.f l 1048576 = some (-1) := by
  unfold laws_szPointS.f
  rw [w64 (by omega) (by omega), if_pos (by omega)]
theorem rdLN (l : List S53) (j : Nat) : rd_T53 l (j : Int) = l.getD j z53 := by
  unfold rd_T53
  rw [Int.toNat_natCast]
theorem toPointS_loop (l : List S53) (h : l.length ≤ 1048576) : ∀ (d k i : Nat) (x : List S51), i ≤ l.length → l.length - i ≤ d → d < k → x.length = l.length → laws_toPointS.l0 k l x i = some (x.take i ++ (conv l).drop i)
  | d, 0, i, x, _, _, h2, _ => absurd h2 (by omega)
  | d, k + 1, i, x, h0, h1, h2, hx => by
    simp only [laws_toPointS.l0, laws_toPoint.f]
    by_cases hi : i < l.length
    · rw [if_pos (by omega), if_pos (by omega), Option.bind_some, if_pos (by omega), w1 (by omega), toPointS_loop l h (d - 1) k (i + 1) _ (by omega) (by omega) (by omega) (by rw [List.length_set, hx]), rdLN]
      have e : l.getD i z53 = l[i] := by
        rw [List.getD_eq_getElem?_getD, List.getElem?_eq_getElem hi]
        rfl
      rw [e, Int.toNat_natCast, List.take_succ_eq_append_getElem (by rw [List.length_set, hx]; exact hi), List.getElem_set_self, List.take_set_of_le (Nat.le_refl _), List.append_assoc]
      congr 2
      rw [List.drop_eq_getElem_cons (i := i) (by rw [conv_length]; exact hi)]
      unfold conv
      rw [List.getElem_map]
      rfl
    · rw [if_neg (by omega), List.take_of_length_le (by omega), List.drop_eq_nil_of_le (by rw [conv_length]; omega), List.append_nil]
theorem toPointS_eq (l : List S53) (h : l.length ≤ 1048576) (k : Nat) (hk : l.length < k) : laws_toPointS.f k l = some (conv l) := by
  unfold laws_toPointS.f
  rw [if_pos (by omega), if_pos (by omega)]
  have := toPointS_loop l h l.length k 0 (List.replicate ((l.length : Int) : Int).toNat z51) (by omega) (by omega) hk (by rw [List.length_replicate, Int.toNat_natCast])
  simp only [Int.natCast_zero] at this
  rw [this, List.take_zero, List.nil_append, List.drop_zero]

theorem back_eq (l : List S53) (h : l.length ≤ 1048576) (k : Nat) (hk : l.length < k) : ((laws_toPointS.f k l).bind fun t => (laws_eqPointS.f k (conv l) t).bind fun b => if b = true then some true else some false) = some true := by
  rw [toPointS_eq l h k hk, Option.bind_some, eqPointS_self (conv l) (by rw [conv_length]; omega) k (by rw [conv_length]; omega)]
  rfl

theorem p_ext {x y : S51} (h0 : x.f0 = y.f0) (h1 : x.f1 = y.f1) : x = y := by
  cases x
  cases y
  simp_all
theorem getD_set_self (x : List S51) (i : Nat) (v : S51) (h : i < x.length) : (x.set i v).getD i z51 = v := by
  rw [List.getD_eq_getElem?_getD, List.getElem?_set_self h]
  rfl
theorem getD_set_ne (x : List S51) (i j : Nat) (v : S51) (h : i ≠ j) : (x.set i v).getD j z51 = x.getD j z51 := by
  rw [List.getD_eq_getElem?_getD, List.getElem?_set_ne h, List.getD_eq_getElem?_getD]
theorem mark_loop (n : Nat) (hn : n ≤ 1000000000) : ∀ (d k i : Nat) (x : List S51), x.length = n → i ≤ n → n - i ≤ d → d < k → (∀ j, j < i → x.getD j z51 = ⟨1 + 2 * (j : Int), 1 + 2 * (j : Int) + 1⟩) →
    ∃ m : List S51, laws_markPointS.l0 k x (1 + 2 * (i : Int)) i = some (1 + 2 * (n : Int), m) ∧ m.length = n ∧ ∀ j, j < n → m.getD j z51 = ⟨1 + 2 * (j : Int), 1 + 2 * (j : Int) + 1⟩
  | d, 0, i, x, _, _, _, h, _ => absurd h (by omega)
  | d, k + 1, i, x, hx, hi, h1, h2, hm => by
    simp only [laws_markPointS.l0]
    by_cases hlt : i < n
    · rw [if_pos (by omega), if_pos (by omega), Option.bind_some, Int.toNat_natCast, rdN, rdN, getD_set_self x i _ (by omega), w1 (by omega), w64 (x := 1 + 2 * (i : Int) + 1) (by omega) (by omega), w64 (x := 1 + 2 * (i : Int) + 1 + 1) (by omega) (by omega)]
      have := mark_loop n hn (d - 1) k (i + 1) ((x.set i ⟨1 + 2 * (i : Int), (x.getD i z51).f1⟩).set i ⟨1 + 2 * (i : Int), 1 + 2 * (i : Int) + 1⟩) (by simp [hx]) (by omega) (by omega) (by omega) (fun j hj => by
        by_cases e : i = j
        · subst e
          rw [getD_set_self _ _ _ (by simp; omega)]
        · rw [getD_set_ne _ _ _ _ e, getD_set_ne _ _ _ _ e]
          exact hm j (by omega))
      rw [show (1 + 2 * (i : Int) + 1 + 1) = 1 + 2 * ((i + 1 : Nat) : Int) by omega]
      exact this
    · have e : i = n := by omega
      subst e
      exact ⟨x, by rw [if_neg (by omega)], hx, hm⟩
theorem marked (x : List S51) (hn : x.length ≤ 1000000000) : ∃ (n : Int) (m : List S51), 0 < n ∧ (∀ k, x.length < k → laws_markPointS.f k x 1 = some (n, m)) := by
  obtain ⟨m, h1, h2, h3⟩ := mark_loop x.length hn x.length (x.length + 1) 0 x rfl (by omega) (by omega) (by omega) (fun j hj => absurd hj (by omega))
  refine ⟨1 + 2 * (x.length : Int), m, by omega, fun k hk => ?_⟩
  unfold laws_markPointS.f
  exact at_rounds (fun k => laws_markPointS.mono_l k _ _ _) (show x.length + 1 ≤ k by omega) h1

theorem rd_nat (x : List Int) (j : Nat) : rd x (j : Int) = x.getD j 0 := by
  unfold rd
  rw [Int.toNat_natCast]
theorem w1' {i : Nat} (hi : i ≤ 4611686018427387904) : wrap64 ((i : Int) + 1) = ((i + 1 : Nat) : Int) := by
  rw [w64 (by omega) (by omega)]
  omega
theorem eqInt64S_loop (l : List Int) (h : l.length ≤ 1000000000) : ∀ (d k i : Nat), l.length - i ≤ d → d < k → laws_eqInt64S.l0 k l l i = some true
  | d, 0, i, _, h2 => absurd h2 (by omega)
  | d, k + 1, i, h1, h2 => by
    simp only [laws_eqInt64S.l0]
    by_cases hi : i < l.length
    · rw [if_pos (by omega), if_pos (by omega), if_pos (by omega), if_pos trivial, w1' (by omega)]
      exact eqInt64S_loop l h (d - 1) k (i + 1) (by omega) (by omega)
    · rw [if_neg (by omega)]
theorem eqInt64S_self (l : List Int) (h : l.length ≤ 1000000000) (k : Nat) (hk : l.length < k) : laws_eqInt64S.f k l l = some true := by
  unfold laws_eqInt64S.f
  rw [if_pos rfl]
  exact eqInt64S_loop l h l.length k 0 (by omega) hk

theorem getI_set_self (x : List Int) (i : Nat) (v : Int) (h : i < x.length) : (x.set i v).getD i 0 = v := by
  rw [List.getD_eq_getElem?_getD, List.getElem?_set_self h]
  rfl
theorem getI_set_ne (x : List Int) (i j : Nat) (v : Int) (h : i ≠ j) : (x.set i v).getD j 0 = x.getD j 0 := by
  rw [List.getD_eq_getElem?_getD, List.getElem?_set_ne h, List.getD_eq_getElem?_getD]
theorem imark_loop (n : Nat) (hn : n ≤ 1000000000) (a : Int) (ha : 0 ≤ a ∧ a ≤ 1000000000000) : ∀ (d k i : Nat) (x : List Int), x.length = n → i ≤ n → n - i ≤ d → d < k → (∀ j, j < i → x.getD j 0 = a + j) →
    ∃ m : List Int, laws_markInt64S.l0 k x (a + i) i = some (a + (n : Int), m) ∧ m.length = n ∧ ∀ j, j < n → m.getD j 0 = a + j
  | d, 0, i, x, _, _, _, h, _ => absurd h (by omega)
  | d, k + 1, i, x, hx, hi, h1, h2, hm => by
    simp only [laws_markInt64S.l0]
    by_cases hlt : i < n
    · rw [if_pos (by omega), if_pos (by omega), Int.toNat_natCast, w1' (by omega), w64 (x := a + (i : Int) + 1) (by omega) (by omega), show (a + (i : Int) + 1) = a + ((i + 1 : Nat) : Int) by omega]
      exact imark_loop n hn a ha (d - 1) k (i + 1) (x.set i (a + i)) (by simp [hx]) (by omega) (by omega) (by omega) (fun j hj => by
        by_cases e : i = j
        · subst e
          rw [getI_set_self _ _ _ (by omega)]
        · rw [getI_set_ne _ _ _ _ e]
          exact hm j (by omega))
    · have e : i = n := by omega
      subst e
      exact ⟨x, by rw [if_neg (by omega)], hx, hm⟩
theorem iheld_loop (n : Nat) (hn : n ≤ 1000000000) (a : Int) (ha : 0 ≤ a ∧ a ≤ 1000000000000) (m : List Int) (hl : m.length = n) (hm : ∀ j, j < n → m.getD j 0 = a + j) : ∀ (d k i : Nat), i ≤ n → n - i ≤ d → d < k → laws_heldInt64S.l0 k m (a + i) i = some (a + n)
  | d, 0, i, _, _, h => absurd h (by omega)
  | d, k + 1, i, hi, h1, h2 => by
    simp only [laws_heldInt64S.l0]
    by_cases hlt : i < n
    · rw [if_pos (by omega), if_pos (by omega), rd_nat, hm i hlt, if_pos rfl, w1' (by omega), w64 (x := a + (i : Int) + 1) (by omega) (by omega), show (a + (i : Int) + 1) = a + ((i + 1 : Nat) : Int) by omega]
      exact iheld_loop n hn a ha m hl hm (d - 1) k (i + 1) (by omega) (by omega) (by omega)
    · rw [if_neg (by omega), show i = n by omega]
/-- What is marked is held. -/
theorem imark_held_at (x : List Int) (hn : x.length ≤ 1000000000) (a : Int) (ha : 0 ≤ a ∧ a ≤ 1000000000000) : ∃ m : List Int, m.length = x.length ∧ (∀ k, x.length < k → laws_markInt64S.f k x a = some (a + x.length, m)) ∧ (∀ k, x.length < k → laws_heldInt64S.f k m a = some (a + x.length)) := by
  have h0 := fun k (hk : x.length < k) => imark_loop x.length hn a ha x.length k 0 x rfl (by omega) (by omega) hk (fun j hj => absurd hj (by omega))
  obtain ⟨m, h1, h2, h3⟩ := h0 (x.length + 1) (by omega)
  simp only [Int.natCast_zero, Int.add_zero] at h1
  refine ⟨m, h2, fun k hk => ?_, fun k hk => ?_⟩
  · unfold laws_markInt64S.f
    exact at_rounds (fun k => laws_markInt64S.mono_l k _ _ _) (show x.length + 1 ≤ k by omega) h1
  · unfold laws_heldInt64S.f
    have := iheld_loop x.length hn a ha m h2 h3 x.length k 0 (by omega) (by omega) hk
    simp only [Int.natCast_zero, Int.add_zero] at this
    exact this
theorem imark_held (x : List Int) (hn : x.length ≤ 1000000000) : ∃ (n : Int) (m : List Int), 0 < n ∧ (∀ k, x.length < k → laws_markInt64S.f k x 1 = some (n, m)) ∧ (∀ k, x.length < k → laws_heldInt64S.f k m 1 = some n) := by
  obtain ⟨m, _, h1, h2⟩ := imark_held_at x hn 1 (by omega)
  exact ⟨1 + x.length, m, by omega, h1, h2⟩

theorem isRot_symm {a b : List S51} {s : Nat} (hs : s < b.length) (h : IsRot a b s) : ∃ s', s' < a.length ∧ IsRot b a s' := by
  obtain ⟨hl, h⟩ := h
  refine ⟨(b.length - s) % b.length, by rw [hl]; exact Nat.mod_lt _ (by omega), hl.symm, fun i hi => ?_⟩
  rw [hl] at hi ⊢
  have e : (s + ((b.length - s) % b.length + i) % b.length) % b.length = i := by
    rw [Nat.add_mod_mod, show s + ((b.length - s) % b.length + i) = (b.length - s) % b.length + (s + i) by omega, Nat.mod_add_mod, show b.length - s + (s + i) = b.length + i by omega, Nat.add_mod_left, Nat.mod_eq_of_lt hi]
  have q := h (((b.length - s) % b.length + i) % b.length) (Nat.mod_lt _ (by omega))
  rw [e] at q
  have q := (eqP_iff _ _).1 q
  exact (eqP_iff _ _).2 ⟨q.1.symm, q.2.symm⟩
/-- Where both are valid, both ask the same. -/
theorem same_ask {a b : List S51} (va : Valid a) (vb : Valid b) : ∃ c : Bool, (∀ k, 1001 ≤ k → spec_l03Around.f k b a = some c) ∧ ∀ k, 1001 ≤ k → impl_SamePolygon.f k a b = some c := by
  have na := va.2.1
  have nb := vb.2.1
  obtain ⟨x, h1, h2, hx⟩ := spec_valid_eq a (by omega)
  obtain ⟨y, g1, g2, hy⟩ := spec_valid_eq b (by omega)
  have ex := hx.2 va
  have ey := hy.2 vb
  subst ex
  subst ey
  obtain ⟨c, c1, c2⟩ := spec_around_eq b a (by omega) (by omega)
  obtain ⟨e, e1, e2⟩ := impl_around_eq a b va vb
  have ce : c = e := by
    rw [Bool.eq_iff_iff, c2, e2]
    exact ⟨fun ⟨s, hs, h⟩ => isRot_symm hs h, fun ⟨s, hs, h⟩ => isRot_symm hs h⟩
  subst ce
  refine ⟨c, fun k hk => c1 k (by omega), fun k hk => ?_⟩
  obtain ⟨k, rfl⟩ : ∃ m, k = m + 1 := ⟨k - 1, by omega⟩
  unfold impl_SamePolygon.f
  rw [h2 _ (by omega), Option.bind_some, if_pos rfl, g2 _ (by omega), Option.bind_some, if_pos rfl, e1 k (by omega)]
theorem turns_loop {p t0 : List S51} (hV : Valid p) (v0 : Valid t0) : ∀ (d i : Nat) (acc : List Int), i ≤ 8 → 8 - i ≤ d → acc.length ≤ i → ∃ r : List Int, r.length ≤ 8 ∧ (∀ k, 1002 + d ≤ k → spec_TurnsOf.l0 k p t0 acc i = some (r, 0)) ∧ (∀ k, 1002 + d ≤ k → impl_TurnsOf.l0 k p t0 acc i = some (r, 0)) := by
  intro d
  induction d with
  | zero =>
    intro i acc h8 hi ha
    refine ⟨acc, by omega, fun k hk => ?_, fun k hk => ?_⟩
    · obtain ⟨k, rfl⟩ : ∃ m, k = m + 1 := ⟨k - 1, by omega⟩
      simp only [spec_TurnsOf.l0]
      rw [if_neg (by omega)]
    · obtain ⟨k, rfl⟩ : ∃ m, k = m + 1 := ⟨k - 1, by omega⟩
      simp only [impl_TurnsOf.l0]
      rw [if_neg (by omega)]
  | succ d ih =>
    intro i acc h8 hi ha
    by_cases hlt : i < 8
    · obtain ⟨q, vq, hq⟩ := valid_turned hV (i : Int) (by omega) (by omega)
      obtain ⟨c, c1, c2⟩ := same_ask vq v0
      obtain ⟨r, hr, r1, r2⟩ := ih (i + 1) (if c = true then acc ++ [(i : Int)] else acc) (by omega) (by omega) (by cases c <;> simp <;> omega)
      refine ⟨r, hr, fun k hk => ?_, fun k hk => ?_⟩
      · obtain ⟨k, rfl⟩ : ∃ m, k = m + 1 := ⟨k - 1, by omega⟩
        simp only [spec_TurnsOf.l0]
        rw [if_pos (by omega), (hq k (by omega)).1, Option.bind_some, c1 k (by omega), Option.bind_some, if_pos (show acc.length < 17592186044416 by omega), w1 (by omega), ← r1 k (by omega)]
        cases c <;> rfl
      · obtain ⟨k, rfl⟩ : ∃ m, k = m + 1 := ⟨k - 1, by omega⟩
        simp only [impl_TurnsOf.l0]
        rw [if_pos (by omega), (hq k (by omega)).2, Option.bind_some, c2 k (by omega), Option.bind_some, if_pos (show acc.length < 17592186044416 by omega), w1 (by omega), ← r2 k (by omega)]
        cases c <;> rfl
    · refine ⟨acc, by omega, fun k hk => ?_, fun k hk => ?_⟩
      · obtain ⟨k, rfl⟩ : ∃ m, k = m + 1 := ⟨k - 1, by omega⟩
        simp only [spec_TurnsOf.l0]
        rw [if_neg (by omega)]
      · obtain ⟨k, rfl⟩ : ∃ m, k = m + 1 := ⟨k - 1, by omega⟩
        simp only [impl_TurnsOf.l0]
        rw [if_neg (by omega)]
theorem turnsOf_eq (p : List S51) (hl : p.length ≤ 1048576) : ∃ r : List Int × Int, r.1.length ≤ 8 ∧ (∀ k, 1048577 ≤ k → spec_TurnsOf.f k p = some r) ∧ (∀ k, 1048577 ≤ k → impl_TurnsOf.f k p = some r) := by
  obtain ⟨b, h1, h2, hv⟩ := spec_valid_eq p hl
  cases b with
  | false =>
    refine ⟨([], 1), by simp, fun k hk => ?_, fun k hk => ?_⟩
    · unfold spec_TurnsOf.f
      rw [h1 _ (by omega)]
      rfl
    · unfold impl_TurnsOf.f
      rw [h2 _ (by omega)]
      rfl
  | true =>
    have hV := hv.1 rfl
    obtain ⟨t0, v0, ht⟩ := valid_turned hV 0 (by omega) (by omega)
    obtain ⟨r, hr, r1, r2⟩ := turns_loop hV v0 8 0 [] (by omega) (by omega) (by simp)
    refine ⟨(r, 0), hr, fun k hk => ?_, fun k hk => ?_⟩
    · unfold spec_TurnsOf.f
      rw [h1 _ (by omega), Option.bind_some, if_pos rfl, (ht k (by omega)).1, Option.bind_some]
      exact r1 k (by omega)
    · unfold impl_TurnsOf.f
      rw [h2 _ (by omega), Option.bind_some, if_pos rfl, (ht k (by omega)).2, Option.bind_some]
      exact r2 k (by omega)
theorem FnExactTurnsOf (l : List S53) (hl : l.length ≤ maxLen) (hg : ∀ x ∈ l, (Lit.int .i64 x.f0).wf = true ∧ (Lit.int .i64 x.f1).wf = true) : ∃ k, laws_FnExactTurnsOf.f k l = some true := by
  unfold maxLen at hl
  by_cases hs : l.length ≤ 1048576
  · obtain ⟨⟨g0, g1⟩, hr, h1, h2⟩ := turnsOf_eq (conv l) (by rw [conv_length]; exact hs)
    have hr : g0.length ≤ 8 := hr
    obtain ⟨n0, m0, hn0, a1⟩ := marked (conv l) (by rw [conv_length]; omega)
    obtain ⟨n1, m1, hn1, b1, b2⟩ := imark_held g0 (by omega)
    rw [conv_length] at a1
    have e1 := fun k (hk : l.length < k) => toPointS_eq l hs k hk
    have e2 := fun k (hk : l.length < k) => eqPointS_self (conv l) (by rw [conv_length]; omega) k (by rw [conv_length]; exact hk)
    have e3 := fun k (hk : 8 < k) => eqInt64S_self g0 (by omega) k (by omega)
    have b1' := fun k (hk : 8 < k) => b1 k (by omega)
    have b2' := fun k (hk : 8 < k) => b2 k (by omega)
    have q0 : ¬ n0 < 0 := by omega
    have q1 : ¬ n1 < 0 := by omega
    have q2 : ¬ (1048576 - (l.length : Int)) < 0 := by omega
    obtain ⟨B, hB⟩ : ∃ B : Nat, 1048578 ≤ B := ⟨_, Nat.le_refl _⟩
    refine ⟨B + 3, ?_⟩
    unfold laws_FnExactTurnsOf.f
    rw [sz_small l hs, Option.bind_some, if_neg q2, e1 (B + 3) (by omega), Option.bind_some]
    rw [h1 (B + 3) (by omega), Option.bind_some, Option.bind_some, h2 (B + 3) (by omega), Option.bind_some]
    try dsimp only
    rw [e3 (B + 3) (by omega), Option.bind_some, if_pos rfl]
    simp only [laws_FnExactTurnsOf.j0, bne_self_eq_false, Bool.false_eq_true, if_false]
    rw [e1 (B + 2) (by omega), Option.bind_some, e2 (B + 2) (by omega), Option.bind_some, if_pos rfl, a1 (B + 2) (by omega), Option.bind_some]
    try dsimp only
    rw [if_neg q0, e3 (B + 2) (by omega), Option.bind_some, if_pos rfl]
    simp only [laws_FnExactTurnsOf.j1, bne_self_eq_false, Bool.false_eq_true, if_false]
    rw [b1' (B + 1) (by omega), Option.bind_some]
    try dsimp only
    rw [b2' (B + 1) (by omega), Option.bind_some, if_neg q1, if_pos rfl, e1 (B + 1) (by omega), Option.bind_some, h2 (B + 1) (by omega), Option.bind_some]
    try dsimp only
    rw [e3 (B + 1) (by omega), Option.bind_some, if_pos rfl]
    simp only [laws_FnExactTurnsOf.j2, bne_self_eq_false, Bool.false_eq_true, if_false]
    rw [b2' B (by omega), Option.bind_some, if_neg q1, if_pos rfl]
  · refine ⟨0, ?_⟩
    unfold laws_FnExactTurnsOf.f
    rw [sz_large l hl (by omega)]
    rfl

end Go.Proofs.Ytfhgfdphdmlpbaa.Pure
