/- The plain law: what FnExactDiagonalsOf computes is true at every input. -/
import Derived.Test.YtnnchaggdnlfmaaLFnExactDiagonalsOfb
namespace Go.Proofs.Ytnnchaggdnlfmaa.Pure
open Go.RowKit Go.Proofs.Ytnnchaggdnlfmaa.PFnExactDiagonalsOf Go.Proofs.YtnnchaggdnlfmaaW.PrintWords Go.Proofs.YtnnchaggdnlfmaaW.PrintLast Go.Proofs.YtnnchaggdnlfmaaW.PrintMore Go.Proofs.Ytnnchaggdnlfmaa.MaGeoA Go.Proofs.Ytnnchaggdnlfmaa.MaGeoB Go.Proofs.Ytnnchaggdnlfmaa.MaGeoC Go.Proofs.Ytnnchaggdnlfmaa.MaGeoE
set_option linter.unusedVariables false
set_option linter.unusedSimpArgs false

theorem mul_self_nonneg' (a : Int) : 0 ≤ a * a := by
  rcases Int.le_total 0 a with h | h
  · exact Int.mul_nonneg h h
  · have := Int.mul_nonneg (show 0 ≤ -a by omega) (show 0 ≤ -a by omega)
    rwa [Int.neg_mul_neg] at this
theorem prod_in2 {a b M N : Int} (ha : -M ≤ a ∧ a ≤ M) (hb : -N ≤ b ∧ b ≤ N) (hM : 0 ≤ M) (hN : 0 ≤ N) : -(M * N) ≤ a * b ∧ a * b ≤ M * N := by
  rcases Int.le_total 0 a with h | h
  · have h1 : a * b ≤ a * N := Int.mul_le_mul_of_nonneg_left hb.2 h
    have h2 : a * (-N) ≤ a * b := Int.mul_le_mul_of_nonneg_left hb.1 h
    have h3 : a * N ≤ M * N := Int.mul_le_mul_of_nonneg_right ha.2 hN
    rw [Int.mul_neg] at h2
    omega
  · have h1 : (-a) * b ≤ (-a) * N := Int.mul_le_mul_of_nonneg_left hb.2 (by omega)
    have h2 : (-a) * (-N) ≤ (-a) * b := Int.mul_le_mul_of_nonneg_left hb.1 (by omega)
    have h3 : (-a) * N ≤ M * N := Int.mul_le_mul_of_nonneg_right (by omega) hN
    have e1 : (-a) * b = -(a * b) := Int.neg_mul a b
    have e2 : (-a) * N = -(a * N) := Int.neg_mul a N
    have e3 : (-a) * (-N) = a * N := Int.neg_mul_neg a N
    omega
theorem prod_in {a b M : Int} (ha : -M ≤ a ∧ a ≤ M) (hb : -M ≤ b ∧ b ≤ M) (hM : 0 ≤ M) : -(M * M) ≤ a * b ∧ a * b ≤ M * M := prod_in2 ha hb hM hM

/-- A point as the plain facts take it. -/
def toPt (s : S73) : Geo.Pt := (s.f0, s.f1)
def ptsOf (p : List S73) : List Geo.Pt := p.map toPt
theorem ptsOf_length (p : List S73) : (ptsOf p).length = p.length := List.length_map _
theorem pt_of (p : List S73) (i : Nat) (h : i < p.length) : Geo.pt (ptsOf p) i = toPt (p.getD i z73) := by
  unfold Geo.pt ptsOf
  rw [List.getD_eq_getElem?_getD, List.getElem?_map, List.getElem?_eq_getElem h, List.getD_eq_getElem?_getD, List.getElem?_eq_getElem h]
  rfl
/-- Coordinates that reckon without a wrap. -/
def inC (x y : Int) : Prop := (0 ≤ x ∧ x ≤ 40000) ∧ (0 ≤ y ∧ y ≤ 40000)
theorem inC_of_ok {x y : Int} (h : okP x y = true) : inC x y := by
  obtain ⟨⟨a, b⟩, c, d⟩ := (okP_iff _ _).1 h
  exact ⟨⟨a, by omega⟩, c, by omega⟩
theorem side_cr {a0 a1 b0 b1 c0 c1 : Int} (ha : inC a0 a1) (hb : inC b0 b1) (hc : inC c0 c1) :
    sideW a0 a1 b0 b1 c0 c1 = if Geo.cr (a0, a1) (b0, b1) (c0, c1) > 0 then 1 else if Geo.cr (a0, a1) (b0, b1) (c0, c1) < 0 then -1 else 0 := by
  obtain ⟨⟨A1, A2⟩, A3, A4⟩ := ha
  obtain ⟨⟨B1, B2⟩, B3, B4⟩ := hb
  obtain ⟨⟨C1, C2⟩, C3, C4⟩ := hc
  have h1 := prod_in (a := b0 - a0) (b := c1 - a1) (M := 40000) (by omega) (by omega) (by omega)
  have h2 := prod_in (a := b1 - a1) (b := c0 - a0) (M := 40000) (by omega) (by omega) (by omega)
  unfold sideW Geo.cr
  rw [w64 (x := b0 - a0) (by omega) (by omega), w64 (x := b1 - a1) (by omega) (by omega), w64 (x := c0 - a0) (by omega) (by omega), w64 (x := c1 - a1) (by omega) (by omega), w64 (x := (b0 - a0) * (c1 - a1)) (by omega) (by omega), w64 (x := (b1 - a1) * (c0 - a0)) (by omega) (by omega), w64 (by omega) (by omega)]
theorem side_sign {a0 a1 b0 b1 c0 c1 : Int} (ha : inC a0 a1) (hb : inC b0 b1) (hc : inC c0 c1) :
    (0 < sideW a0 a1 b0 b1 c0 c1 ↔ 0 < Geo.cr (a0, a1) (b0, b1) (c0, c1)) ∧ (sideW a0 a1 b0 b1 c0 c1 < 0 ↔ Geo.cr (a0, a1) (b0, b1) (c0, c1) < 0) := by
  rw [side_cr ha hb hc]
  generalize Geo.cr (a0, a1) (b0, b1) (c0, c1) = x
  by_cases h : x > 0
  · rw [if_pos h]; constructor <;> omega
  · rw [if_neg h]
    by_cases h2 : x < 0
    · rw [if_pos h2]; constructor <;> omega
    · rw [if_neg h2]; constructor <;> omega
theorem on_iff {a0 a1 b0 b1 c0 c1 : Int} (ha : inC a0 a1) (hb : inC b0 b1) (hc : inC c0 c1) : onW a0 a1 b0 b1 c0 c1 = true ↔ Geo.On (a0, a1) (b0, b1) (c0, c1) := by
  have s := side_sign ha hb hc
  unfold onW Geo.On Geo.Btw mn mx
  rw [Bool.and_eq_true, Bool.and_eq_true, decide_eq_true_eq, decide_eq_true_eq, decide_eq_true_eq]
  refine and_congr ⟨fun h => by omega, fun h => by omega⟩ (and_congr ?_ ?_)
  · constructor
    · intro h; split at h <;> split at h <;> (simp only; omega)
    · intro h; simp only at h; constructor <;> split <;> omega
  · constructor
    · intro h; split at h <;> split at h <;> (simp only; omega)
    · intro h; simp only at h; constructor <;> split <;> omega
theorem sgn_mul {s t x y : Int} (hs : s = 1 ∨ s = -1 ∨ s = 0) (ht : t = 1 ∨ t = -1 ∨ t = 0) (h1 : (0 < s ↔ 0 < x) ∧ (s < 0 ↔ x < 0)) (h2 : (0 < t ↔ 0 < y) ∧ (t < 0 ↔ y < 0)) : wrap64 (s * t) < 0 ↔ x * y < 0 := by
  have key : x * y < 0 ↔ (x < 0 ∧ 0 < y) ∨ (0 < x ∧ y < 0) := ⟨Geo.lt_zero_cases, Geo.mul_lt_zero⟩
  rw [key, ← h1.1, ← h1.2, ← h2.1, ← h2.2]
  rcases hs with rfl | rfl | rfl <;> rcases ht with rfl | rfl | rfl <;> (rw [w64 (by omega) (by omega)]; omega)
theorem cross_iff {a0 a1 b0 b1 c0 c1 d0 d1 : Int} (ha : inC a0 a1) (hb : inC b0 b1) (hc : inC c0 c1) (hd : inC d0 d1) : crossW a0 a1 b0 b1 c0 c1 d0 d1 = true ↔ Geo.Crs (a0, a1) (b0, b1) (c0, c1) (d0, d1) := by
  unfold crossW Geo.Crs
  rw [Bool.and_eq_true, decide_eq_true_eq, decide_eq_true_eq]
  exact and_congr (sgn_mul (sideW_three _ _ _ _ _ _) (sideW_three _ _ _ _ _ _) (side_sign ha hb hc) (side_sign ha hb hd)) (sgn_mul (sideW_three _ _ _ _ _ _) (sideW_three _ _ _ _ _ _) (side_sign hc hd ha) (side_sign hc hd hb))
theorem touch_iff {a0 a1 b0 b1 c0 c1 d0 d1 : Int} (ha : inC a0 a1) (hb : inC b0 b1) (hc : inC c0 c1) (hd : inC d0 d1) : touchW a0 a1 b0 b1 c0 c1 d0 d1 = true ↔ Geo.Touch (a0, a1) (b0, b1) (c0, c1) (d0, d1) := by
  unfold touchW Geo.Touch
  rw [Bool.or_eq_true, Bool.or_eq_true, Bool.or_eq_true, Bool.or_eq_true, cross_iff ha hb hc hd, on_iff ha hb hc, on_iff ha hb hd, on_iff hc hd ha, on_iff hc hd hb]
/-- The corners of a valid polygon. -/
theorem ok_at {p : List S73} (h : (p.all fun s => okP s.f0 s.f1) = true) (i : Nat) (hi : i < p.length) : okP (p.getD i z73).f0 (p.getD i z73).f1 = true := by
  rw [List.getD_eq_getElem?_getD, List.getElem?_eq_getElem hi]
  exact List.all_eq_true.1 h _ (List.getElem_mem hi)
theorem ivalid_of {p : List S73} (hV : Valid p) : Geo.IValid (ptsOf p) := by
  obtain ⟨h3, hn, hall, hg, _⟩ := hV
  have m : ∀ i, i % p.length < p.length := fun i => Nat.mod_lt _ (by omega)
  have C : ∀ i, i < p.length → inC (p.getD i z73).f0 (p.getD i z73).f1 := fun i hi => inC_of_ok (ok_at hall i hi)
  refine ⟨by rw [ptsOf_length]; exact h3, fun q hq => ?_, fun i hi => ?_⟩
  · obtain ⟨s, hs, rfl⟩ := List.mem_map.1 hq
    obtain ⟨⟨a, b⟩, _⟩ := (okP_iff _ _).1 (List.all_eq_true.1 hall s hs)
    exact ⟨a, by show s.f0 < 100000; omega⟩
  · rw [ptsOf_length] at hi ⊢
    obtain ⟨g1, g2⟩ := hg i hi
    rw [pt_of p i hi, pt_of p _ (m (i + 1)), pt_of p _ (m (i + 2))]
    unfold badAt at g1
    dsimp only at g1
    rw [Bool.or_eq_false_iff, Bool.or_eq_false_iff] at g1
    obtain ⟨b1, b2, b3⟩ := g1
    refine ⟨⟨?_, ?_, ?_⟩, fun j h1 h2 h4 => ?_⟩
    · intro e
      unfold toPt at e
      have e1 := congrArg Prod.fst e
      have e2 := congrArg Prod.snd e
      simp only at e1 e2
      unfold same2 at b1
      rw [e1, e2] at b1
      simp at b1
    · intro e
      have := (on_iff (C i hi) (C _ (m (i + 1))) (C _ (m (i + 2)))).2 e
      rw [b2] at this; cases this
    · intro e
      have := (on_iff (C _ (m (i + 1))) (C _ (m (i + 2))) (C i hi)).2 e
      rw [b3] at this; cases this
    · rw [pt_of p j h2, pt_of p _ (m (j + 1))]
      intro e
      have := (touch_iff (C i hi) (C _ (m (i + 1))) (C j h2) (C _ (m (j + 1)))).2 e
      have g := g2 j h1 h2 h4
      unfold meets at g
      dsimp only at g
      rw [g] at this; cases this
theorem sa_take (p : List S73) (h0 : 0 < p.length) : ∀ i, i ≤ p.length → Geo.sa (Geo.pe ((ptsOf p ++ [Geo.pt (ptsOf p) 0]).take (i + 1))) = areaTo p i
  | 0, _ => by
    cases p with
    | nil => simp at h0
    | cons a p => rfl
  | i + 1, hi => by
    have ih := sa_take p h0 i (by omega)
    have hm := Nat.mod_lt (i + 1) h0
    have len : (ptsOf p ++ [Geo.pt (ptsOf p) 0]).length = p.length + 1 := by rw [List.length_append, ptsOf_length]; rfl
    have g1 : (ptsOf p ++ [Geo.pt (ptsOf p) 0])[i]? = some (Geo.pt (ptsOf p) i) := by
      rw [List.getElem?_append_left (by rw [ptsOf_length]; omega), List.getElem?_eq_getElem (by rw [ptsOf_length]; omega), Geo.pt_get _ _ (by rw [ptsOf_length]; omega)]
    have g2 : (ptsOf p ++ [Geo.pt (ptsOf p) 0])[i + 1]? = some (Geo.pt (ptsOf p) ((i + 1) % p.length)) := by
      by_cases c : i + 1 < p.length
      · rw [List.getElem?_append_left (by rw [ptsOf_length]; omega), List.getElem?_eq_getElem (by rw [ptsOf_length]; omega), Nat.mod_eq_of_lt c, Geo.pt_get _ _ (by rw [ptsOf_length]; omega)]
      · have : i + 1 = p.length := by omega
        rw [List.getElem?_append_right (by rw [ptsOf_length]; omega), ptsOf_length, this, Nat.sub_self, Nat.mod_self]
        rfl
    rw [List.take_add_one, List.take_add_one, g1, g2]
    rw [List.take_add_one, g1] at ih
    have e : ∀ (x : List Geo.Pt) (a b : Geo.Pt), x ++ (some a).toList ++ (some b).toList = x ++ a :: [b] := by intro x a b; simp
    rw [e, Geo.pe_split, Geo.sa_append]
    have e' : ∀ (x : List Geo.Pt) (a : Geo.Pt), x ++ (some a).toList = x ++ [a] := by intro x a; rfl
    rw [e'] at ih
    rw [ih, areaTo, pt_of p i (by omega), pt_of p _ hm]
    unfold crossT toPt
    simp [Geo.pe, Geo.sa]
theorem area_of (p : List S73) (h0 : 0 < p.length) : Geo.area (ptsOf p) = areaTo p p.length := by
  have := sa_take p h0 p.length (Nat.le_refl _)
  rw [List.take_of_length_le (by rw [List.length_append, ptsOf_length]; exact Nat.le_refl _)] at this
  rw [← this]
  cases p with
  | nil => simp at h0
  | cons a p => rfl
/-- A valid polygon is simple and goes to the left around. -/
theorem simple_valid {p : List S73} (hV : Valid p) : Geo.Simple (ptsOf p) ∧ Geo.LL (ptsOf p) = true := by
  have h := Geo.simple_of (ivalid_of hV)
  refine ⟨h, Geo.ll_of_area h ?_⟩
  rw [area_of p (by have := hV.1; omega)]
  exact hV.2.2.2.2

/-- Whether an edge turns the answer. -/
def flip (a1 b1 q1 s : Int) : Bool := (decide (a1 ≤ q1) && (decide (q1 < b1) && decide (0 < s))) || (decide (b1 ≤ q1) && (decide (q1 < a1) && decide (s < 0)))
/-- One edge of a polygon at a point: on it, or whether it turns the answer. -/
def edgeOn (p : List S73) (q0 q1 : Int) (i : Nat) : Bool := onW (p.getD i z73).f0 (p.getD i z73).f1 (p.getD ((i + 1) % p.length) z73).f0 (p.getD ((i + 1) % p.length) z73).f1 q0 q1
def edgeFlip (p : List S73) (q0 q1 : Int) (i : Nat) : Bool := flip (p.getD i z73).f1 (p.getD ((i + 1) % p.length) z73).f1 q1 (sideW (p.getD i z73).f0 (p.getD i z73).f1 (p.getD ((i + 1) % p.length) z73).f0 (p.getD ((i + 1) % p.length) z73).f1 q0 q1)
theorem wneg1 : wrap64 (-1) = -1 := w64 (by omega) (by omega)
theorem wone : wrap64 1 = 1 := w64 (by omega) (by omega)
theorem wzero : wrap64 0 = 0 := w64 (by omega) (by omega)
theorem impl_inside_step (p : List S73) (hn : p.length ≤ 1000000000) (k i : Nat) (hi : i < p.length) (s q0 q1 : Int) : impl_inside.l0 (k + 1) p s p (p.length : Int) i q0 q1 =
    if edgeOn p q0 q1 i = true then some 0 else impl_inside.l0 k p (if edgeFlip p q0 q1 i = true then wrap64 (-s) else s) p (p.length : Int) ((i + 1 : Nat) : Int) q0 q1 := by
  have m1 := Nat.mod_lt (i + 1) (show 0 < p.length by omega)
  simp only [impl_inside.l0]
  rw [if_pos (by omega), if_pos (by omega), if_pos (by omega), if_neg (by omega), tm1 (by omega) hi, if_pos (by omega), if_pos (by omega), rdN, rdN]
  simp only [impl_on_eq, impl_side_eq, Option.bind_some, w1 (show i ≤ 4611686018427387904 by omega)]
  unfold edgeOn edgeFlip flip
  generalize onW (p.getD i z73).f0 (p.getD i z73).f1 (p.getD ((i + 1) % p.length) z73).f0 (p.getD ((i + 1) % p.length) z73).f1 q0 q1 = o
  have h3 := sideW_three (p.getD i z73).f0 (p.getD i z73).f1 (p.getD ((i + 1) % p.length) z73).f0 (p.getD ((i + 1) % p.length) z73).f1 q0 q1
  generalize sideW (p.getD i z73).f0 (p.getD i z73).f1 (p.getD ((i + 1) % p.length) z73).f0 (p.getD ((i + 1) % p.length) z73).f1 q0 q1 = sd at h3 ⊢
  generalize (p.getD i z73).f1 = a1
  generalize (p.getD ((i + 1) % p.length) z73).f1 = b1
  cases o with
  | true => rfl
  | false =>
    simp only [Bool.false_eq_true, if_false]
    by_cases ha : a1 ≤ q1
    · have ha' : ¬ a1 > q1 := by omega
      have ha2 : ¬ q1 < a1 := by omega
      by_cases hb : b1 ≤ q1
      · have hb' : ¬ b1 > q1 := by omega
        have hb2 : ¬ q1 < b1 := by omega
        simp [ha, ha', ha2, hb, hb', hb2]
      · have hb' : b1 > q1 := by omega
        have hb2 : q1 < b1 := by omega
        have hc : ¬ b1 < a1 := by omega
        rcases h3 with rfl | rfl | rfl <;> simp [ha, ha', ha2, hb, hb', hb2, hc]
    · have ha' : a1 > q1 := by omega
      have ha2 : q1 < a1 := by omega
      by_cases hb : b1 ≤ q1
      · have hb' : ¬ b1 > q1 := by omega
        have hb2 : ¬ q1 < b1 := by omega
        have hc : b1 < a1 := by omega
        rcases h3 with rfl | rfl | rfl <;> simp [ha, ha', ha2, hb, hb', hb2, hc, wneg1, wone, wzero]
      · have hb' : b1 > q1 := by omega
        have hb2 : q1 < b1 := by omega
        simp [ha, ha', ha2, hb, hb', hb2]
theorem impl_inside_ends (p : List S73) (hn : p.length ≤ 1000000000) (q0 q1 : Int) : ∀ (d i : Nat) (s : Int), p.length - i ≤ d → ∃ r, ∀ k, d < k → impl_inside.l0 k p s p (p.length : Int) i q0 q1 = some r := by
  intro d
  induction d with
  | zero =>
    intro i s hi
    refine ⟨s, fun k hk => ?_⟩
    obtain ⟨k, rfl⟩ : ∃ m, k = m + 1 := ⟨k - 1, by omega⟩
    simp only [impl_inside.l0]
    rw [if_neg (by omega)]
  | succ d ih =>
    intro i s hi
    by_cases hlt : i < p.length
    · obtain ⟨r, hr⟩ := ih (i + 1) (if edgeFlip p q0 q1 i = true then wrap64 (-s) else s) (by omega)
      refine ⟨if edgeOn p q0 q1 i = true then 0 else r, fun k hk => ?_⟩
      obtain ⟨k, rfl⟩ : ∃ m, k = m + 1 := ⟨k - 1, by omega⟩
      rw [impl_inside_step p hn k i hlt, hr k (by omega)]
      split <;> rfl
    · refine ⟨s, fun k hk => ?_⟩
      obtain ⟨k, rfl⟩ : ∃ m, k = m + 1 := ⟨k - 1, by omega⟩
      simp only [impl_inside.l0]
      rw [if_neg (by omega)]

theorem flip_fl {a b q : Geo.Pt} {s : Int} (hs : (0 < s ↔ 0 < Geo.cr a b q) ∧ (s < 0 ↔ Geo.cr a b q < 0)) : flip a.2 b.2 q.2 s = Geo.fl a b q := by
  unfold flip Geo.fl
  by_cases h1 : q.2 < a.2 <;> by_cases h2 : q.2 < b.2
  · rw [decide_eq_true h1, decide_eq_true h2, decide_eq_false (show ¬ a.2 ≤ q.2 by omega), decide_eq_false (show ¬ b.2 ≤ q.2 by omega)]; rfl
  · rw [decide_eq_true h1, decide_eq_false h2, decide_eq_false (show ¬ a.2 ≤ q.2 by omega), decide_eq_true (show b.2 ≤ q.2 by omega), if_neg (show ¬ a.2 < b.2 by omega), Geo.dec_eq hs.2]; simp
  · rw [decide_eq_false h1, decide_eq_true h2, decide_eq_true (show a.2 ≤ q.2 by omega), decide_eq_false (show ¬ b.2 ≤ q.2 by omega), if_pos (show a.2 < b.2 by omega), Geo.dec_eq hs.1]; simp
  · rw [decide_eq_false h1, decide_eq_false h2, decide_eq_true (show a.2 ≤ q.2 by omega), decide_eq_true (show b.2 ≤ q.2 by omega)]; rfl
/-- Off the border the walk around tells the parity. -/
theorem inside_par (p : List S73) (hn : p.length ≤ 1000000) (hc : ∀ i, i < p.length → inC (p.getD i z73).f0 (p.getD i z73).f1) (hb : ∀ q ∈ ptsOf p, Geo.inB q) (q0 q1 : Int) (hq : inC q0 q1) (ib : Geo.inB (q0, q1)) (h0 : 0 < p.length)
    (hoff : ∀ e ∈ Geo.Ed (ptsOf p), ¬ Geo.On e.1 e.2 (q0, q1)) :
    ∀ (d i k : Nat) (s : Int), i + d = p.length → d < k → s = 1 ∨ s = -1 → impl_inside.l0 k p s p (p.length : Int) i q0 q1 = some (if Geo.par (Geo.pe ((ptsOf p ++ [Geo.pt (ptsOf p) 0]).drop i)) (q0, q1) = true then -s else s)
  | d, i, 0, s, _, h, _ => absurd h (Nat.not_lt_zero _)
  | 0, i, k + 1, s, h, _, hs => by
    have : (ptsOf p ++ [Geo.pt (ptsOf p) 0]).drop i = [Geo.pt (ptsOf p) 0] := by
      rw [List.drop_append, List.drop_eq_nil_of_le (by rw [ptsOf_length]; omega), ptsOf_length, show i - p.length = 0 by omega]; rfl
    simp only [impl_inside.l0]
    rw [if_neg (by omega), this]
    rfl
  | d + 1, i, k + 1, s, h, hk, hs => by
    have hi : i < p.length := by omega
    have hm := Nat.mod_lt (i + 1) h0
    have he : (Geo.pt (ptsOf p) i, Geo.pt (ptsOf p) ((i + 1) % p.length)) ∈ Geo.Ed (ptsOf p) := by
      rw [Geo.ed_index _ (by rw [ptsOf_length]; exact h0)]
      exact ⟨i, by rw [ptsOf_length]; exact hi, by rw [ptsOf_length]⟩
    have hno := hoff _ he
    rw [pt_of p i hi, pt_of p _ hm] at hno
    have on0 : edgeOn p q0 q1 i = false := by
      rw [Bool.eq_false_iff]
      intro e
      unfold edgeOn at e
      exact hno ((on_iff (hc i hi) (hc _ hm) hq).1 e)
    have fl0 : edgeFlip p q0 q1 i = Geo.cu (toPt (p.getD i z73)) (toPt (p.getD ((i + 1) % p.length) z73)) (q0, q1) := by
      rw [← Geo.fl_cu (hb _ (by rw [← pt_of p i hi]; exact Geo.pt_mem _ _ (by rw [ptsOf_length]; exact hi))) (hb _ (by rw [← pt_of p _ hm]; exact Geo.pt_mem _ _ (by rw [ptsOf_length]; exact hm))) ib hno]
      exact flip_fl (a := toPt (p.getD i z73)) (b := toPt (p.getD ((i + 1) % p.length) z73)) (q := (q0, q1)) (side_sign (hc i hi) (hc _ hm) hq)
    have ws : wrap64 (-s) = -s := by rcases hs with rfl | rfl <;> rw [w64 (by omega) (by omega)]
    have g1 : (ptsOf p ++ [Geo.pt (ptsOf p) 0])[i]'(by rw [List.length_append, ptsOf_length]; omega) = toPt (p.getD i z73) := by
      rw [List.getElem_append_left (by rw [ptsOf_length]; omega), ← Geo.pt_get _ _ (by rw [ptsOf_length]; omega), pt_of p i hi]
    have g2 : (ptsOf p ++ [Geo.pt (ptsOf p) 0])[i + 1]'(by rw [List.length_append, ptsOf_length]; show i + 1 < p.length + 1; omega) = toPt (p.getD ((i + 1) % p.length) z73) := by
      by_cases c : i + 1 < p.length
      · rw [List.getElem_append_left (by rw [ptsOf_length]; omega), Nat.mod_eq_of_lt c, ← Geo.pt_get _ _ (by rw [ptsOf_length]; omega), pt_of p _ c]
      · have e : i + 1 = p.length := by omega
        rw [List.getElem_append_right (by rw [ptsOf_length]; omega)]
        simp only [ptsOf_length, e, Nat.sub_self, Nat.mod_self, List.getElem_cons_zero]
        exact pt_of p 0 h0
    rw [impl_inside_step p (by omega) k i hi, on0, if_neg (by decide), fl0, ws]
    rw [List.drop_eq_getElem_cons (i := i) (by rw [List.length_append, ptsOf_length]; show i < p.length + 1; omega), List.drop_eq_getElem_cons (i := i + 1) (by rw [List.length_append, ptsOf_length]; show i + 1 < p.length + 1; omega), Geo.pe_cons, ← List.drop_eq_getElem_cons, g1, g2, Geo.par]
    have ih := fun s hs => inside_par p hn hc hb q0 q1 hq ib h0 hoff d (i + 1) k s (by omega) (by omega) hs
    cases hcu : Geo.cu (toPt (p.getD i z73)) (toPt (p.getD ((i + 1) % p.length) z73)) (q0, q1) with
    | true =>
      rw [if_pos rfl, ih (-s) (by omega)]
      cases Geo.par (Geo.pe ((ptsOf p ++ [Geo.pt (ptsOf p) 0]).drop (i + 1))) (q0, q1) <;> simp
    | false =>
      rw [if_neg (by decide), ih s hs]
      cases Geo.par (Geo.pe ((ptsOf p ++ [Geo.pt (ptsOf p) 0]).drop (i + 1))) (q0, q1) <;> simp
theorem clean_iff {l : List Geo.Pt} {a b : Geo.Pt} (h : Geo.Simple l) (ha : a ∈ l) (hb : b ∈ l) :
    (∀ e ∈ Geo.Ed l, e.1 ≠ a → e.1 ≠ b → ¬ Geo.On a b e.1 ∧ (e.2 ≠ a → e.2 ≠ b → ¬ Geo.Touch a b e.1 e.2)) ↔ Geo.Clean l a b := by
  have start : ∀ q ∈ l, ∃ e ∈ Geo.Ed l, e.1 = q := by
    intro q hq
    obtain ⟨i, hi, rfl⟩ := List.mem_iff_getElem.1 hq
    exact ⟨_, (Geo.ed_index _ (by have := h.1; omega) _).2 ⟨i, hi, rfl⟩, Geo.pt_get _ i hi⟩
  have noEnd : ∀ e ∈ Geo.Ed l, ∀ q ∈ l, Geo.On e.1 e.2 q → q = e.1 ∨ q = e.2 := by
    intro e he q hq ho
    obtain ⟨f, hf, rfl⟩ := start q hq
    exact (h.2.2.2 e he f hf).2.1 ho
  constructor
  · intro H e he
    refine ⟨fun n1 n2 => (H e he n1 n2).1, fun hc => ?_⟩
    obtain ⟨k1, k2, k3, k4⟩ := Geo.crs_ends hc
    exact (H e he k1 k2).2 k3 k4 (.inl hc)
  · intro H e he n1 n2
    refine ⟨(H e he).1 n1 n2, fun m1 m2 ht => ?_⟩
    rcases ht with k | k | k | k | k
    · exact (H e he).2 k
    · exact (H e he).1 n1 n2 k
    · obtain ⟨f, hf, e2⟩ := start e.2 (Geo.ed_mem he).2
      exact (H f hf).1 (by rw [e2]; exact m1) (by rw [e2]; exact m2) (by rw [e2]; exact k)
    · rcases noEnd e he a ha k with q | q
      · exact n1 q.symm
      · exact m1 q.symm
    · rcases noEnd e he b hb k with q | q
      · exact n2 q.symm
      · exact m2 q.symm
section
variable (p : List S73) (i k : Nat)
def onA (m : Nat) : Bool := onW (p.getD i z73).f0 (p.getD i z73).f1 (p.getD k z73).f0 (p.getD k z73).f1 (p.getD m z73).f0 (p.getD m z73).f1
def touchA (m n : Nat) : Bool := touchW (p.getD i z73).f0 (p.getD i z73).f1 (p.getD k z73).f0 (p.getD k z73).f1 (p.getD m z73).f0 (p.getD m z73).f1 (p.getD n z73).f0 (p.getD n z73).f1
def crossA (m n : Nat) : Bool := crossW (p.getD i z73).f0 (p.getD i z73).f1 (p.getD k z73).f0 (p.getD k z73).f1 (p.getD m z73).f0 (p.getD m z73).f1 (p.getD n z73).f0 (p.getD n z73).f1
/-- What the program finds bad at the corner m. -/
def badI (m : Nat) : Prop := m ≠ i ∧ m ≠ k ∧ (onA p i k m = true ∨ ((m + 1) % p.length ≠ i ∧ (m + 1) % p.length ≠ k ∧ touchA p i k m ((m + 1) % p.length) = true))
/-- What the reference finds bad there. -/
def badS (m : Nat) : Prop := (m ≠ i ∧ m ≠ k ∧ onA p i k m = true) ∨ crossA p i k m ((m + 1) % p.length) = true
instance (m : Nat) : Decidable (badI p i k m) := by unfold badI; exact inferInstance
instance (m : Nat) : Decidable (badS p i k m) := by unfold badS; exact inferInstance
end
theorem impl_diag_step (p : List S73) (hn : p.length ≤ 24) (i k m r : Nat) (hm : m < p.length) :
    impl_diagonal.l0 (r + 2) p i k (p.length : Int) (p.length : Int) m (p.getD i z73).f0 (p.getD i z73).f1 (p.getD k z73).f0 (p.getD k z73).f1 =
      if badI p i k m then some false else impl_diagonal.l0 r p i k (p.length : Int) (p.length : Int) ((m + 1 : Nat) : Int) (p.getD i z73).f0 (p.getD i z73).f1 (p.getD k z73).f0 (p.getD k z73).f1 := by
  have hx := Nat.mod_lt (m + 1) (show 0 < p.length by omega)
  simp only [impl_diagonal.l0]
  rw [if_pos (by omega), if_neg (by omega), tm1 (by omega) hm]
  by_cases h1 : m = i
  · rw [if_pos (by omega)]
    simp only [impl_diagonal.j2]
    rw [w1 (show m ≤ 4611686018427387904 by omega)]
    rw [if_neg (by decide), if_pos (by omega), if_neg (show ¬ badI p i k m from fun h => h.1 h1)]
  · rw [if_neg (by omega)]
    by_cases h2 : m = k
    · rw [if_pos (by omega)]
      simp only [impl_diagonal.j2]
      rw [w1 (show m ≤ 4611686018427387904 by omega)]
      rw [if_neg (by decide), if_neg (by omega), if_pos (by omega), if_neg (show ¬ badI p i k m from fun h => h.2.1 h2)]
    · rw [if_neg (by omega), if_pos (by omega), if_pos (by omega), rdN, impl_on_eq, Option.bind_some]
      simp only [impl_diagonal.j2]
      rw [w1 (show m ≤ 4611686018427387904 by omega)]
      by_cases h3 : onA p i k m = true
      · have h3' := h3
        unfold onA at h3'
        rw [if_pos h3', if_pos (show badI p i k m from ⟨h1, h2, .inl h3⟩)]
      · have h3' := h3
        unfold onA at h3'
        rw [if_neg h3', if_neg (by omega), if_neg (by omega)]
        by_cases h4 : (m + 1) % p.length = i
        · rw [if_pos (by omega), if_neg (show ¬ badI p i k m from fun h => h.2.2.elim h3 (fun q => q.1 h4))]
        · rw [if_neg (by omega)]
          by_cases h5 : (m + 1) % p.length = k
          · rw [if_pos (by omega), if_neg (show ¬ badI p i k m from fun h => h.2.2.elim h3 (fun q => q.2.1 h5))]
          · rw [if_neg (by omega), if_pos (by omega), if_pos (by omega), if_pos (by omega), if_pos (by omega), rdN, rdN, impl_touching_eq, Option.bind_some]
            by_cases h6 : touchA p i k m ((m + 1) % p.length) = true
            · have h6' := h6
              unfold touchA at h6'
              rw [if_pos h6', if_pos (show badI p i k m from ⟨h1, h2, .inr ⟨h4, h5, h6⟩⟩)]
            · have h6' := h6
              unfold touchA at h6'
              rw [if_neg h6', if_neg (show ¬ badI p i k m from fun h => h.2.2.elim h3 (fun q => h6 q.2.2))]
theorem spec_diag_step (p : List S73) (hn : p.length ≤ 24) (i k m r : Nat) (hm : m < p.length) :
    spec_l04Diagonal.l0 (r + 2) p i k (p.length : Int) m (p.getD i z73).f0 (p.getD i z73).f1 (p.getD k z73).f0 (p.getD k z73).f1 =
      if badS p i k m then some false else spec_l04Diagonal.l0 r p i k (p.length : Int) ((m + 1 : Nat) : Int) (p.getD i z73).f0 (p.getD i z73).f1 (p.getD k z73).f0 (p.getD k z73).f1 := by
  have hx := Nat.mod_lt (m + 1) (show 0 < p.length by omega)
  have tail : ∀ c : Bool, (c = true → m ≠ i ∧ m ≠ k ∧ onA p i k m = true) → (c = false → ¬ (m ≠ i ∧ m ≠ k ∧ onA p i k m = true)) →
      spec_l04Diagonal.j1 (r + 1) p i k (p.length : Int) m c (p.getD i z73).f0 (p.getD i z73).f1 (p.getD k z73).f0 (p.getD k z73).f1 =
      if badS p i k m then some false else spec_l04Diagonal.l0 r p i k (p.length : Int) ((m + 1 : Nat) : Int) (p.getD i z73).f0 (p.getD i z73).f1 (p.getD k z73).f0 (p.getD k z73).f1 := by
    intro c hc1 hc2
    simp only [spec_l04Diagonal.j1]
    cases c with
    | true => rw [if_pos rfl, if_pos (show badS p i k m from .inl (hc1 rfl))]
    | false =>
      rw [if_neg (by decide), if_pos (by omega), if_pos (by omega), if_neg (by omega), tm1 (by omega) hm, if_pos (by omega), if_pos (by omega), rdN, rdN, spec_crosses_eq, Option.bind_some, w1 (by omega)]
      by_cases h : crossA p i k m ((m + 1) % p.length) = true
      · have h' := h
        unfold crossA at h'
        rw [if_pos h', if_pos (show badS p i k m from .inr h)]
      · have h' := h
        unfold crossA at h'
        rw [if_neg h', if_neg (show ¬ badS p i k m from fun q => q.elim (hc2 rfl) h)]
  have e : spec_l04Diagonal.l0 (r + 2) p i k (p.length : Int) m (p.getD i z73).f0 (p.getD i z73).f1 (p.getD k z73).f0 (p.getD k z73).f1 = spec_l04Diagonal.j1 (r + 1) p i k (p.length : Int) m (decide (m ≠ i ∧ m ≠ k) && onA p i k m) (p.getD i z73).f0 (p.getD i z73).f1 (p.getD k z73).f0 (p.getD k z73).f1 := by
    rw [spec_l04Diagonal.l0, if_pos (by omega)]
    by_cases h1 : m = i
    · rw [if_pos (by omega), decide_eq_false (by omega)]; rfl
    · rw [if_neg (by omega)]
      by_cases h2 : m = k
      · rw [if_pos (by omega), decide_eq_false (by omega)]; rfl
      · rw [if_neg (by omega), if_pos (by omega), if_pos (by omega), rdN, spec_on_eq, Option.bind_some, decide_eq_true (show m ≠ i ∧ m ≠ k from ⟨h1, h2⟩)]; rfl
  rw [e]
  refine tail _ (fun h => ?_) (fun h q => ?_)
  · rw [Bool.and_eq_true, decide_eq_true_eq] at h
    exact ⟨h.1.1, h.1.2, h.2⟩
  · rw [decide_eq_true (show m ≠ i ∧ m ≠ k from ⟨q.1, q.2.1⟩), q.2.2] at h
    cases h
theorem impl_diag_loop (p : List S73) (hn : p.length ≤ 24) (i k : Nat) (R : Bool) (K : Nat) (hR : ∀ r, K ≤ r → impl_diagonal.l1 r [] p (p.length : Int) 0 (p.getD i z73).f0 (p.getD i z73).f1 (p.getD k z73).f0 (p.getD k z73).f1 = some R) :
    ∀ (d m : Nat), m + d = p.length → ∃ c : Bool, (∀ r, K + 2 * d + 1 ≤ r → impl_diagonal.l0 r p i k (p.length : Int) (p.length : Int) m (p.getD i z73).f0 (p.getD i z73).f1 (p.getD k z73).f0 (p.getD k z73).f1 = some c) ∧ (c = true ↔ (∀ j, m ≤ j → j < p.length → ¬ badI p i k j) ∧ R = true)
  | 0, m, h => by
    refine ⟨R, fun r hr => ?_, ⟨fun q => ⟨fun j h1 h2 => absurd h2 (by omega), q⟩, fun q => q.2⟩⟩
    obtain ⟨r, rfl⟩ : ∃ s, r = s + 1 := ⟨r - 1, by omega⟩
    rw [impl_diagonal.l0, if_neg (by omega)]
    exact hR r (by omega)
  | d + 1, m, h => by
    obtain ⟨c, h1, h2⟩ := impl_diag_loop p hn i k R K hR d (m + 1) (by omega)
    by_cases hb : badI p i k m
    · refine ⟨false, fun r hr => ?_, ⟨fun q => (by cases q), fun q => absurd hb (q.1 m (Nat.le_refl _) (by omega))⟩⟩
      obtain ⟨r, rfl⟩ : ∃ s, r = s + 2 := ⟨r - 2, by omega⟩
      rw [impl_diag_step p hn i k m r (by omega), if_pos hb]
    · refine ⟨c, fun r hr => ?_, h2.trans ⟨fun q => ⟨fun j a b => ?_, q.2⟩, fun q => ⟨fun j a b => q.1 j (by omega) b, q.2⟩⟩⟩
      · obtain ⟨r, rfl⟩ : ∃ s, r = s + 2 := ⟨r - 2, by omega⟩
        rw [impl_diag_step p hn i k m r (by omega), if_neg hb]
        exact h1 r (by omega)
      · by_cases e : j = m
        · rw [e]; exact hb
        · exact q.1 j (by omega) b
theorem spec_diag_loop (p : List S73) (hn : p.length ≤ 24) (i k : Nat) (R : Bool) (K : Nat) (hR : ∀ r, K ≤ r → spec_l04Diagonal.l0 r p i k (p.length : Int) (p.length : Int) (p.getD i z73).f0 (p.getD i z73).f1 (p.getD k z73).f0 (p.getD k z73).f1 = some R) :
    ∀ (d m : Nat), m + d = p.length → ∃ c : Bool, (∀ r, K + 2 * d ≤ r → spec_l04Diagonal.l0 r p i k (p.length : Int) m (p.getD i z73).f0 (p.getD i z73).f1 (p.getD k z73).f0 (p.getD k z73).f1 = some c) ∧ (c = true ↔ (∀ j, m ≤ j → j < p.length → ¬ badS p i k j) ∧ R = true)
  | 0, m, h => by
    refine ⟨R, fun r hr => ?_, ⟨fun q => ⟨fun j h1 h2 => absurd h2 (by omega), q⟩, fun q => q.2⟩⟩
    rw [show m = p.length by omega]
    exact hR r (by omega)
  | d + 1, m, h => by
    obtain ⟨c, h1, h2⟩ := spec_diag_loop p hn i k R K hR d (m + 1) (by omega)
    by_cases hb : badS p i k m
    · refine ⟨false, fun r hr => ?_, ⟨fun q => (by cases q), fun q => absurd hb (q.1 m (Nat.le_refl _) (by omega))⟩⟩
      obtain ⟨r, rfl⟩ : ∃ s, r = s + 2 := ⟨r - 2, by omega⟩
      rw [spec_diag_step p hn i k m r (by omega), if_pos hb]
    · refine ⟨c, fun r hr => ?_, h2.trans ⟨fun q => ⟨fun j a b => ?_, q.2⟩, fun q => ⟨fun j a b => q.1 j (by omega) b, q.2⟩⟩⟩
      · obtain ⟨r, rfl⟩ : ∃ s, r = s + 2 := ⟨r - 2, by omega⟩
        rw [spec_diag_step p hn i k m r (by omega), if_neg hb]
        exact h1 r (by omega)
      · by_cases e : j = m
        · rw [e]; exact hb
        · exact q.1 j (by omega) b
/-- The corners doubled. -/
def twice (p : List S73) : List S73 := p.map fun s => ⟨wrap64 (2 * s.f0), wrap64 (2 * s.f1)⟩
theorem twice_length (p : List S73) : (twice p).length = p.length := List.length_map _
theorem twice_loop (p : List S73) (hn : p.length ≤ 24) (a0 a1 b0 b1 : Int) (t : Int) (K : Nat) (ht : ∀ r, K ≤ r → impl_inside.f r (twice p) (wrap64 (a0 + b0)) (wrap64 (a1 + b1)) = some t) :
    ∀ (d m r : Nat), m + d = p.length → K + d < r → impl_diagonal.l1 r ((twice p).take m) p (p.length : Int) m a0 a1 b0 b1 = some (decide (t > 0))
  | d, m, 0, _, h => absurd h (Nat.not_lt_zero _)
  | 0, m, r + 1, h, hr => by
    rw [impl_diagonal.l1, if_neg (by omega), List.take_of_length_le (by rw [twice_length]; omega), ht r (by omega)]
    rfl
  | d + 1, m, r + 1, h, hr => by
    have hm : m < p.length := by omega
    have e : (twice p).take m ++ [(⟨wrap64 (2 * (p.getD m z73).f0), wrap64 (2 * (p.getD m z73).f1)⟩ : S73)] = (twice p).take (m + 1) := by
      rw [List.take_add_one, List.getElem?_eq_getElem (by rw [twice_length]; exact hm)]
      unfold twice
      rw [List.getElem_map, List.getD_eq_getElem?_getD, List.getElem?_eq_getElem hm]
      rfl
    rw [impl_diagonal.l1, if_pos (by omega), if_pos (by omega), if_pos (by omega), if_pos (by rw [List.length_take, twice_length]; omega), rdN, w1 (by omega), e]
    exact twice_loop p hn a0 a1 b0 b1 t K ht d (m + 1) r (by omega) (by omega)
def coneB (s1 s2 s3 s4 s5 : Int) : Bool := if s1 ≥ 0 then (if s2 > 0 then decide (s3 > 0) else false) else (if s4 ≥ 0 then !(decide (s5 ≥ 0)) else !false)
/-- The same answer of both. -/
theorem diag_same {p : List S73} (hV : Valid p) (i k : Nat) (hi : i < p.length) (hk : k < p.length) : ∃ b : Bool, ∀ r, 500 ≤ r → impl_diagonal.f r p i k = some b ∧ spec_l04Diagonal.f r p i k = some b := by
  have h3 := hV.1
  have hn := hV.2.1
  have hall := hV.2.2.1
  obtain ⟨hS, hL⟩ := simple_valid hV
  have m1 := Nat.mod_lt (i + 1) (show 0 < p.length by omega)
  have m2 := Nat.mod_lt (k + 1) (show 0 < p.length by omega)
  have m3 := Nat.mod_lt (i + p.length - 1) (show 0 < p.length by omega)
  by_cases hik : i = k
  · refine ⟨false, fun r hr => ?_⟩
    obtain ⟨r, rfl⟩ : ∃ s, r = s + 1 := ⟨r - 1, by omega⟩
    unfold impl_diagonal.f spec_l04Diagonal.f
    rw [if_pos (by omega), if_pos (by omega)]
    exact ⟨by rw [impl_diagonal.j0, if_pos rfl], rfl⟩
  · -- the reference's end
    have C : ∀ j, j < p.length → inC (p.getD j z73).f0 (p.getD j z73).f1 := fun j hj => inC_of_ok (ok_at hall j hj)
    have specEnd : ∀ r, 3 ≤ r → spec_l04Diagonal.l0 r p i k (p.length : Int) (p.length : Int) (p.getD i z73).f0 (p.getD i z73).f1 (p.getD k z73).f0 (p.getD k z73).f1 =
        some (if (i + 1) % p.length = k ∨ (k + 1) % p.length = i then false else coneB (sideW (p.getD ((i + p.length - 1) % p.length) z73).f0 (p.getD ((i + p.length - 1) % p.length) z73).f1 (p.getD i z73).f0 (p.getD i z73).f1 (p.getD ((i + 1) % p.length) z73).f0 (p.getD ((i + 1) % p.length) z73).f1)
          (sideW (p.getD i z73).f0 (p.getD i z73).f1 (p.getD k z73).f0 (p.getD k z73).f1 (p.getD ((i + p.length - 1) % p.length) z73).f0 (p.getD ((i + p.length - 1) % p.length) z73).f1)
          (sideW (p.getD k z73).f0 (p.getD k z73).f1 (p.getD i z73).f0 (p.getD i z73).f1 (p.getD ((i + 1) % p.length) z73).f0 (p.getD ((i + 1) % p.length) z73).f1)
          (sideW (p.getD i z73).f0 (p.getD i z73).f1 (p.getD k z73).f0 (p.getD k z73).f1 (p.getD ((i + 1) % p.length) z73).f0 (p.getD ((i + 1) % p.length) z73).f1)
          (sideW (p.getD k z73).f0 (p.getD k z73).f1 (p.getD i z73).f0 (p.getD i z73).f1 (p.getD ((i + p.length - 1) % p.length) z73).f0 (p.getD ((i + p.length - 1) % p.length) z73).f1)) := by
      intro r hr
      obtain ⟨r, rfl⟩ : ∃ s, r = s + 2 := ⟨r - 2, by omega⟩
      rw [spec_l04Diagonal.l0, if_neg (by omega), if_neg (by omega), tm1 (by omega) hi, tm1 (by omega) hk]
      by_cases a : (i + 1) % p.length = k
      · rw [if_pos (by omega), if_pos (.inl a), spec_l04Diagonal.j2, if_pos rfl]
      · rw [if_neg (by omega)]
        by_cases b : (k + 1) % p.length = i
        · rw [if_pos (.inr b), show ((((k + 1) % p.length : Nat) : Int) == (i : Int)) = true by rw [b]; exact beq_self_eq_true _, spec_l04Diagonal.j2, if_pos rfl]
        · have hb : ((((k + 1) % p.length : Nat) : Int) == (i : Int)) = false := by rw [beq_eq_false_iff_ne]; omega
          rw [if_neg (show ¬ ((i + 1) % p.length = k ∨ (k + 1) % p.length = i) from fun q => q.elim a b), hb, spec_l04Diagonal.j2, if_neg (by decide), if_neg (by omega), show Int.tmod (wrap64 (wrap64 ((i : Int) + (p.length : Int)) - 1)) (p.length : Int) = (((i + p.length - 1) % p.length : Nat) : Int) by rw [w64 (x := (i : Int) + p.length) (by omega) (by omega), w64 (by omega) (by omega), Int.tmod_eq_emod_of_nonneg (by omega), Int.natCast_emod]; congr 1; omega, tm1 (by omega) hi, if_pos (by omega), if_pos (by omega), if_pos (by omega), if_pos (by omega)]
          simp only [spec_side_eq, Option.bind_some, rdN]
          unfold coneB
          split
          · split <;> rfl
          · split <;> rfl
    obtain ⟨c2, s1, s2⟩ := spec_diag_loop p hn i k _ 3 specEnd p.length 0 (by omega)
    have specF : ∀ r, 500 ≤ r → spec_l04Diagonal.f r p i k = some c2 := by
      intro r hr
      unfold spec_l04Diagonal.f
      rw [if_neg (by omega), if_pos (by omega), if_pos (by omega), if_pos (by omega), if_pos (by omega), rdN, rdN]
      exact s1 r (by omega)
    by_cases hadj : (i + 1) % p.length = k ∨ (k + 1) % p.length = i
    · have hc2 : c2 = false := by
        rw [Bool.eq_false_iff]
        intro q
        have := (s2.1 q).2
        rw [if_pos hadj] at this
        cases this
      refine ⟨false, fun r hr => ⟨?_, by rw [specF r hr, hc2]⟩⟩
      obtain ⟨r, rfl⟩ : ∃ s, r = s + 1 := ⟨r - 1, by omega⟩
      unfold impl_diagonal.f
      rw [if_neg (by omega), if_neg (by omega), tm1 (by omega) hi, tm1 (by omega) hk]
      by_cases a : (i + 1) % p.length = k
      · rw [if_pos (by omega), impl_diagonal.j0, if_pos rfl]
      · have b := hadj.resolve_left a
        rw [if_neg (by omega), show ((((k + 1) % p.length : Nat) : Int) == (i : Int)) = true by rw [b]; exact beq_self_eq_true _, impl_diagonal.j0, if_pos rfl]
    · rw [if_neg hadj] at s2
      -- the program's middle
      obtain ⟨t, ht⟩ := impl_inside_ends (twice p) (by rw [twice_length]; omega) (wrap64 ((p.getD i z73).f0 + (p.getD k z73).f0)) (wrap64 ((p.getD i z73).f1 + (p.getD k z73).f1)) (twice p).length 0 (-1) (by omega)
      have hR : ∀ r, 80 ≤ r → impl_diagonal.l1 r [] p (p.length : Int) 0 (p.getD i z73).f0 (p.getD i z73).f1 (p.getD k z73).f0 (p.getD k z73).f1 = some (decide (t > 0)) := fun r hr => by
        have := twice_loop p hn (p.getD i z73).f0 (p.getD i z73).f1 (p.getD k z73).f0 (p.getD k z73).f1 t 30 (fun r hr => ht r (by rw [twice_length]; omega)) p.length 0 r (by omega) (by omega)
        rw [List.take_zero] at this
        exact this
      obtain ⟨c1, g1, g2⟩ := impl_diag_loop p hn i k (decide (t > 0)) 80 hR p.length 0 (by omega)
      have implF : ∀ r, 500 ≤ r → impl_diagonal.f r p i k = some c1 := by
        intro r hr
        obtain ⟨r, rfl⟩ : ∃ s, r = s + 1 := ⟨r - 1, by omega⟩
        have hb : ((((k + 1) % p.length : Nat) : Int) == (i : Int)) = false := by rw [beq_eq_false_iff_ne]; intro q; exact hadj (.inr (by omega))
        unfold impl_diagonal.f
        rw [if_neg (by omega), if_neg (by omega), tm1 (by omega) hi, tm1 (by omega) hk, if_neg (by intro q; exact hadj (.inl (by omega))), hb, impl_diagonal.j0, if_neg (by decide), if_pos (by omega), if_pos (by omega), if_pos (by omega), if_pos (by omega), rdN, rdN]
        exact g1 r (by omega)
      refine ⟨c1, fun r hr => ⟨implF r hr, ?_⟩⟩
      rw [specF r hr]
      congr 1
      -- both say: a clean chord that begins in the corner
      have mem : ∀ j, j < p.length → toPt (p.getD j z73) ∈ ptsOf p := fun j hj => by rw [← pt_of p j hj]; exact Geo.pt_mem _ _ (by rw [ptsOf_length]; exact hj)
      have inj : ∀ j l, j < p.length → l < p.length → toPt (p.getD j z73) = toPt (p.getD l z73) → j = l := fun j l hj hl e => by
        rw [← pt_of p j hj, ← pt_of p l hl] at e
        exact Geo.pt_inj hS.2.1 (by rw [ptsOf_length]; exact hj) (by rw [ptsOf_length]; exact hl) e
      have edge : ∀ e ∈ Geo.Ed (ptsOf p), ∃ j, j < p.length ∧ e = (toPt (p.getD j z73), toPt (p.getD ((j + 1) % p.length) z73)) := fun e he => by
        obtain ⟨j, hj, rfl⟩ := (Geo.ed_index _ (by rw [ptsOf_length]; omega) _).1 he
        rw [ptsOf_length] at hj ⊢
        exact ⟨j, hj, by rw [pt_of p j hj, pt_of p _ (Nat.mod_lt _ (by omega))]⟩
      have edge' : ∀ j, j < p.length → (toPt (p.getD j z73), toPt (p.getD ((j + 1) % p.length) z73)) ∈ Geo.Ed (ptsOf p) := fun j hj => by
        rw [Geo.ed_index _ (by rw [ptsOf_length]; omega)]
        exact ⟨j, by rw [ptsOf_length]; exact hj, by rw [ptsOf_length, pt_of p j hj, pt_of p _ (Nat.mod_lt _ (by omega))]⟩
      have cl1 : (∀ j, 0 ≤ j → j < p.length → ¬ badI p i k j) ↔ Geo.Clean (ptsOf p) (toPt (p.getD i z73)) (toPt (p.getD k z73)) := by
        rw [← clean_iff hS (mem i hi) (mem k hk)]
        constructor
        · intro H e he n1 n2
          obtain ⟨j, hj, rfl⟩ := edge e he
          have hx := Nat.mod_lt (j + 1) (show 0 < p.length by omega)
          have a1 : j ≠ i := by rintro rfl; exact n1 rfl
          have a2 : j ≠ k := by rintro rfl; exact n2 rfl
          refine ⟨fun q => H j (Nat.zero_le _) hj ⟨a1, a2, .inl ((on_iff (C i hi) (C k hk) (C j hj)).2 q)⟩, fun n3 n4 q => H j (Nat.zero_le _) hj ⟨a1, a2, .inr ⟨?_, ?_, (touch_iff (C i hi) (C k hk) (C j hj) (C _ hx)).2 q⟩⟩⟩
          · intro e; exact n3 (by simp only; rw [e])
          · intro e; exact n4 (by simp only; rw [e])
        · intro H j _ hj hb
          have hx := Nat.mod_lt (j + 1) (show 0 < p.length by omega)
          obtain ⟨a1, a2, a3⟩ := hb
          have K := H _ (edge' j hj) (fun e => a1 (inj j i hj hi e)) (fun e => a2 (inj j k hj hk e))
          rcases a3 with a3 | ⟨b1, b2, b3⟩
          · exact K.1 ((on_iff (C i hi) (C k hk) (C j hj)).1 a3)
          · exact K.2 (fun e => b1 (inj _ i hx hi e)) (fun e => b2 (inj _ k hx hk e)) ((touch_iff (C i hi) (C k hk) (C j hj) (C _ hx)).1 b3)
      have cl2 : (∀ j, 0 ≤ j → j < p.length → ¬ badS p i k j) ↔ Geo.Clean (ptsOf p) (toPt (p.getD i z73)) (toPt (p.getD k z73)) := by
        constructor
        · intro H e he
          obtain ⟨j, hj, rfl⟩ := edge e he
          have hx := Nat.mod_lt (j + 1) (show 0 < p.length by omega)
          refine ⟨fun n1 n2 q => H j (Nat.zero_le _) hj (.inl ⟨by rintro rfl; exact n1 rfl, by rintro rfl; exact n2 rfl, (on_iff (C i hi) (C k hk) (C j hj)).2 q⟩), fun q => H j (Nat.zero_le _) hj (.inr ((cross_iff (C i hi) (C k hk) (C j hj) (C _ hx)).2 q))⟩
        · intro H j _ hj hb
          have hx := Nat.mod_lt (j + 1) (show 0 < p.length by omega)
          have K := H _ (edge' j hj)
          rcases hb with ⟨b1, b2, b3⟩ | b
          · exact K.1 (fun e => b1 (inj j i hj hi e)) (fun e => b2 (inj j k hj hk e)) ((on_iff (C i hi) (C k hk) (C j hj)).1 b3)
          · exact K.2 ((cross_iff (C i hi) (C k hk) (C j hj) (C _ hx)).1 b)
      rw [Bool.eq_iff_iff, s2, g2, cl1, cl2]
      refine and_congr_right fun hc => ?_
      -- the corner's cone against the middle's place
      have hH : ∀ q ∈ ptsOf p, Geo.inH q := by
        intro q hq
        obtain ⟨s, hs, rfl⟩ := List.mem_map.1 hq
        obtain ⟨⟨a, b⟩, _⟩ := (okP_iff _ _).1 (List.all_eq_true.1 hall s hs)
        exact ⟨a, by show s.f0 < 50000; omega⟩
      have hprev := edge' _ m3
      rw [Geo.next_prev hi] at hprev
      have K := Geo.mid_inside (u := toPt (p.getD ((i + p.length - 1) % p.length) z73)) (a := toPt (p.getD i z73)) (w := toPt (p.getD ((i + 1) % p.length) z73)) (b := toPt (p.getD k z73)) hS hH hL hprev (edge' i hi) (mem k hk) (fun e => hik (inj i k hi hk e))
        (fun e => hadj (.inr (by rw [← inj _ k m3 hk e]; exact Geo.next_prev hi))) (fun e => hadj (.inl (inj _ k m1 hk e))) hc
      -- the doubled corners
      have tw : ptsOf (twice p) = (ptsOf p).map Geo.sc := by
        unfold ptsOf twice
        rw [List.map_map, List.map_map]
        apply List.map_congr_left
        intro s hs
        obtain ⟨⟨a, b⟩, c, d⟩ := (okP_iff _ _).1 (List.all_eq_true.1 hall s hs)
        show (wrap64 (2 * s.f0), wrap64 (2 * s.f1)) = (2 * s.f0, 2 * s.f1)
        rw [w64 (by omega) (by omega), w64 (by omega) (by omega)]
      have twC : ∀ j, j < (twice p).length → inC ((twice p).getD j z73).f0 ((twice p).getD j z73).f1 := by
        intro j hj
        rw [twice_length] at hj
        obtain ⟨⟨a, b⟩, c, d⟩ := (okP_iff _ _).1 (ok_at hall j hj)
        have e : (twice p).getD j z73 = ⟨wrap64 (2 * (p.getD j z73).f0), wrap64 (2 * (p.getD j z73).f1)⟩ := by
          unfold twice
          rw [List.getD_eq_getElem?_getD, List.getElem?_map, List.getElem?_eq_getElem hj, List.getD_eq_getElem?_getD, List.getElem?_eq_getElem hj]
          rfl
        rw [e]
        show inC (wrap64 (2 * (p.getD j z73).f0)) (wrap64 (2 * (p.getD j z73).f1))
        rw [w64 (by omega) (by omega), w64 (by omega) (by omega)]
        exact ⟨⟨by omega, by omega⟩, by omega, by omega⟩
      obtain ⟨⟨A1, A2⟩, A3, A4⟩ := (okP_iff _ _).1 (ok_at hall i hi)
      obtain ⟨⟨B1, B2⟩, B3, B4⟩ := (okP_iff _ _).1 (ok_at hall k hk)
      rw [w64 (x := (p.getD i z73).f0 + (p.getD k z73).f0) (by omega) (by omega), w64 (x := (p.getD i z73).f1 + (p.getD k z73).f1) (by omega) (by omega)] at ht
      have hb2 : ∀ q ∈ ptsOf (twice p), Geo.inB q := by
        rw [tw]
        intro q hq
        obtain ⟨s, hs, rfl⟩ := List.mem_map.1 hq
        have := hH s hs
        unfold Geo.inH at this
        unfold Geo.inB Geo.sc
        simp only
        omega
      have mdE : Geo.md (toPt (p.getD i z73)) (toPt (p.getD k z73)) = ((p.getD i z73).f0 + (p.getD k z73).f0, (p.getD i z73).f1 + (p.getD k z73).f1) := rfl
      rw [mdE, ← tw] at K
      have P := inside_par (twice p) (by rw [twice_length]; omega) twC hb2 _ _ ⟨⟨by omega, by omega⟩, by omega, by omega⟩ ⟨by show 0 ≤ _ + _; omega, by show _ + _ < 100000; omega⟩ (by rw [twice_length]; omega) K.2 (twice p).length 0 (1000) (-1) (by omega) (by rw [twice_length]; omega) (.inr rfl)
      have q1 := ht 1000 (by rw [twice_length]; omega)
      rw [q1] at P
      have P := Option.some.inj P
      rw [List.drop_zero] at P
      have ePar : Geo.pe (ptsOf (twice p) ++ [Geo.pt (ptsOf (twice p)) 0]) = Geo.Ed (ptsOf (twice p)) := by
        have hne : 0 < (ptsOf (twice p)).length := by rw [ptsOf_length, twice_length]; omega
        cases h : ptsOf (twice p) with
        | nil => rw [h] at hne; simp at hne
        | cons a l => rfl
      rw [ePar, K.1] at P
      have hcone : Geo.Cone (toPt (p.getD ((i + p.length - 1) % p.length) z73)) (toPt (p.getD i z73)) (toPt (p.getD ((i + 1) % p.length) z73)) (toPt (p.getD k z73)) ↔ decide (t > 0) = true := by
        rw [P, decide_eq_true_eq]
        by_cases h : Geo.Cone (toPt (p.getD ((i + p.length - 1) % p.length) z73)) (toPt (p.getD i z73)) (toPt (p.getD ((i + 1) % p.length) z73)) (toPt (p.getD k z73))
        · rw [decide_eq_true h, if_pos rfl]; exact ⟨fun _ => by decide, fun _ => h⟩
        · rw [decide_eq_false h, if_neg (by decide)]; exact ⟨fun q => absurd q h, fun q => by omega⟩
      rw [← hcone]
      have s1 := side_sign (C _ m3) (C i hi) (C _ m1)
      have s2 := side_sign (C i hi) (C k hk) (C _ m3)
      have s3 := side_sign (C k hk) (C i hi) (C _ m1)
      have s4 := side_sign (C i hi) (C k hk) (C _ m1)
      have s5 := side_sign (C k hk) (C i hi) (C _ m3)
      unfold coneB Geo.Cone
      have e3 : Geo.cr (toPt (p.getD k z73)) (toPt (p.getD i z73)) (toPt (p.getD ((i + 1) % p.length) z73)) = Geo.cr (toPt (p.getD i z73)) (toPt (p.getD ((i + 1) % p.length) z73)) (toPt (p.getD k z73)) := Geo.cr_rot2 _ _ _
      have e5 : Geo.cr (toPt (p.getD k z73)) (toPt (p.getD i z73)) (toPt (p.getD ((i + p.length - 1) % p.length) z73)) = Geo.cr (toPt (p.getD i z73)) (toPt (p.getD ((i + p.length - 1) % p.length) z73)) (toPt (p.getD k z73)) := Geo.cr_rot2 _ _ _
      rw [← e3, ← e5]
      unfold toPt
      have g1 : sideW (p.getD ((i + p.length - 1) % p.length) z73).f0 (p.getD ((i + p.length - 1) % p.length) z73).f1 (p.getD i z73).f0 (p.getD i z73).f1 (p.getD ((i + 1) % p.length) z73).f0 (p.getD ((i + 1) % p.length) z73).f1 ≥ 0 ↔ 0 ≤ Geo.cr ((p.getD ((i + p.length - 1) % p.length) z73).f0, (p.getD ((i + p.length - 1) % p.length) z73).f1) ((p.getD i z73).f0, (p.getD i z73).f1) ((p.getD ((i + 1) % p.length) z73).f0, (p.getD ((i + 1) % p.length) z73).f1) := by omega
      by_cases q1 : sideW (p.getD ((i + p.length - 1) % p.length) z73).f0 (p.getD ((i + p.length - 1) % p.length) z73).f1 (p.getD i z73).f0 (p.getD i z73).f1 (p.getD ((i + 1) % p.length) z73).f0 (p.getD ((i + 1) % p.length) z73).f1 ≥ 0
      · rw [if_pos q1, if_pos (g1.1 q1)]
        by_cases q2 : sideW (p.getD i z73).f0 (p.getD i z73).f1 (p.getD k z73).f0 (p.getD k z73).f1 (p.getD ((i + p.length - 1) % p.length) z73).f0 (p.getD ((i + p.length - 1) % p.length) z73).f1 > 0
        · rw [if_pos q2, decide_eq_true_eq]
          exact ⟨fun q => ⟨s3.1.1 q, s2.1.1 q2⟩, fun q => s3.1.2 q.1⟩
        · rw [if_neg q2]
          exact ⟨fun q => (by cases q), fun q => absurd (s2.1.2 q.2) q2⟩
      · rw [if_neg q1, if_neg (fun h => q1 (g1.2 h))]
        by_cases q2 : sideW (p.getD i z73).f0 (p.getD i z73).f1 (p.getD k z73).f0 (p.getD k z73).f1 (p.getD ((i + 1) % p.length) z73).f0 (p.getD ((i + 1) % p.length) z73).f1 ≥ 0
        · rw [if_pos q2, Bool.not_eq_true', decide_eq_false_iff_not]
          exact ⟨fun q k => q (by omega), fun q k => q ⟨by omega, by omega⟩⟩
        · rw [if_neg q2]
          exact ⟨fun _ k => q2 (by omega), fun _ => rfl⟩

theorem eqPoint_self (x y : Int) : laws_eqPoint.f x y x y = some true := by
  unfold laws_eqPoint.f
  rw [if_pos rfl, if_pos rfl]
theorem eqPointS_loop (l : List S73) (h : l.length ≤ 1000000000) : ∀ (d k i : Nat), l.length - i ≤ d → d < k → laws_eqPointS.l0 k l l i = some true
  | d, 0, i, _, h2 => absurd h2 (by omega)
  | d, k + 1, i, h1, h2 => by
    simp only [laws_eqPointS.l0]
    by_cases hi : i < l.length
    · rw [if_pos (by omega), if_pos (by omega), if_pos (by omega), eqPoint_self, Option.bind_some, if_pos rfl, w1 (by omega)]
      exact eqPointS_loop l h (d - 1) k (i + 1) (by omega) (by omega)
    · rw [if_neg (by omega)]
theorem eqPointS_self (l : List S73) (h : l.length ≤ 1000000000) (k : Nat) (hk : l.length < k) : laws_eqPointS.f k l l = some true := by
  unfold laws_eqPointS.f
  rw [if_pos rfl]
  exact eqPointS_loop l h l.length k 0 (by omega) hk

/-- The law's points as the program's. -/
def conv (l : List S75) : List S73 := l.map fun s => ⟨s.f0, s.f1⟩
theorem conv_length (l : List S75) : (conv l).length = l.length := by
  unfold conv
  rw [List.length_map]
theorem sz_small (l : List S75) (h : l.length ≤ 1048576) : laws_szPointS.f l 1048576 = some (1048576 - (l.length : Int)) := by
  unfold laws_szPointS.f
  rw [w64 (by omega) (by omega), if_neg (by omega)]
theorem sz_large (l : List S75) (hm : l.length ≤ 9223372036854775807) (h : 1048576 < l.length) : laws_szPointS.f l 1048576 = some (-1) := by
  unfold laws_szPointS.f
  rw [w64 (by omega) (by omega), if_pos (by omega)]
theorem rdLN (l : List S75) (j : Nat) : rd_T75 l (j : Int) = l.getD j z75 := by
  unfold rd_T75
  rw [Int.toNat_natCast]
theorem toPointS_loop (l : List S75) (h : l.length ≤ 1048576) : ∀ (d k i : Nat) (x : List S73), i ≤ l.length → l.length - i ≤ d → d < k → x.length = l.length → laws_toPointS.l0 k l x i = some (x.take i ++ (conv l).drop i)
  | d, 0, i, x, _, _, h2, _ => absurd h2 (by omega)
  | d, k + 1, i, x, h0, h1, h2, hx => by
    simp only [laws_toPointS.l0, laws_toPoint.f]
    by_cases hi : i < l.length
    · rw [if_pos (by omega), if_pos (by omega), Option.bind_some, if_pos (by omega), w1 (by omega), toPointS_loop l h (d - 1) k (i + 1) _ (by omega) (by omega) (by omega) (by rw [List.length_set, hx]), rdLN]
      have e : l.getD i z75 = l[i] := by
        rw [List.getD_eq_getElem?_getD, List.getElem?_eq_getElem hi]
        rfl
      rw [e, Int.toNat_natCast, List.take_succ_eq_append_getElem (by rw [List.length_set, hx]; exact hi), List.getElem_set_self, List.take_set_of_le (Nat.le_refl _), List.append_assoc]
      congr 2
      rw [List.drop_eq_getElem_cons (i := i) (by rw [conv_length]; exact hi)]
      unfold conv
      rw [List.getElem_map]
      rfl
    · rw [if_neg (by omega), List.take_of_length_le (by omega), List.drop_eq_nil_of_le (by rw [conv_length]; omega), List.append_nil]
theorem toPointS_eq (l : List S75) (h : l.length ≤ 1048576) (k : Nat) (hk : l.length < k) : laws_toPointS.f k l = some (conv l) := by
  unfold laws_toPointS.f
  rw [if_pos (by omega), if_pos (by omega)]
  have := toPointS_loop l h l.length k 0 (List.replicate ((l.length : Int) : Int).toNat z73) (by omega) (by omega) hk (by rw [List.length_replicate, Int.toNat_natCast])
  simp only [Int.natCast_zero] at this
  rw [this, List.take_zero, List.nil_append, List.drop_zero]

theorem back_eq (l : List S75) (h : l.length ≤ 1048576) (k : Nat) (hk : l.length < k) : ((laws_toPointS.f k l).bind fun t => (laws_eqPointS.f k (conv l) t).bind fun b => if b = true then some true else some false) = some true := by
  rw [toPointS_eq l h k hk, Option.bind_some, eqPointS_self (conv l) (by rw [conv_length]; omega) k (by rw [conv_length]; omega)]
  rfl

theorem p_ext {x y : S73} (h0 : x.f0 = y.f0) (h1 : x.f1 = y.f1) : x = y := by
  cases x
  cases y
  simp_all
theorem getD_set_self (x : List S73) (i : Nat) (v : S73) (h : i < x.length) : (x.set i v).getD i z73 = v := by
  rw [List.getD_eq_getElem?_getD, List.getElem?_set_self h]
  rfl
theorem getD_set_ne (x : List S73) (i j : Nat) (v : S73) (h : i ≠ j) : (x.set i v).getD j z73 = x.getD j z73 := by
  rw [List.getD_eq_getElem?_getD, List.getElem?_set_ne h, List.getD_eq_getElem?_getD]
theorem mark_loop (n : Nat) (hn : n ≤ 1000000000) : ∀ (d k i : Nat) (x : List S73), x.length = n → i ≤ n → n - i ≤ d → d < k → (∀ j, j < i → x.getD j z73 = ⟨1 + 2 * (j : Int), 1 + 2 * (j : Int) + 1⟩) →
    ∃ m : List S73, laws_markPointS.l0 k x (1 + 2 * (i : Int)) i = some (1 + 2 * (n : Int), m) ∧ m.length = n ∧ ∀ j, j < n → m.getD j z73 = ⟨1 + 2 * (j : Int), 1 + 2 * (j : Int) + 1⟩
  | d, 0, i, x, _, _, _, h, _ => absurd h (by omega)
  | d, k + 1, i, x, hx, hi, h1, h2, hm => by
    simp only [laws_markPointS.l0]
    by_cases hlt : i < n
    · rw [if_pos (by omega), if_pos (by omega), Option.bind_some, Int.toNat_natCast, rdN, rdN, getD_set_self x i _ (by omega), w1 (by omega), w64 (x := 1 + 2 * (i : Int) + 1) (by omega) (by omega), w64 (x := 1 + 2 * (i : Int) + 1 + 1) (by omega) (by omega)]
      have := mark_loop n hn (d - 1) k (i + 1) ((x.set i ⟨1 + 2 * (i : Int), (x.getD i z73).f1⟩).set i ⟨1 + 2 * (i : Int), 1 + 2 * (i : Int) + 1⟩) (by simp [hx]) (by omega) (by omega) (by omega) (fun j hj => by
        by_cases e : i = j
        · subst e
          rw [getD_set_self _ _ _ (by simp; omega)]
        · rw [getD_set_ne _ _ _ _ e, getD_set_ne _ _ _ _ e]
          exact hm j (by omega))
      rw [show (1 + 2 * (i : Int) + 1 + 1) = 1 + 2 * ((i + 1 : Nat) : Int) by omega]
      exact this
    · have e : i = n := by omega
      subst e
      exact ⟨x, by rw [if_neg (by omega)], hx, hm⟩
theorem marked (x : List S73) (hn : x.length ≤ 1000000000) : ∃ (n : Int) (m : List S73), 0 < n ∧ (∀ k, x.length < k → laws_markPointS.f k x 1 = some (n, m)) := by
  obtain ⟨m, h1, h2, h3⟩ := mark_loop x.length hn x.length (x.length + 1) 0 x rfl (by omega) (by omega) (by omega) (fun j hj => absurd hj (by omega))
  refine ⟨1 + 2 * (x.length : Int), m, by omega, fun k hk => ?_⟩
  unfold laws_markPointS.f
  exact at_rounds (fun k => laws_markPointS.mono_l k _ _ _) (show x.length + 1 ≤ k by omega) h1

theorem rd_nat (x : List Int) (j : Nat) : rd x (j : Int) = x.getD j 0 := by
  unfold rd
  rw [Int.toNat_natCast]
theorem w1' {i : Nat} (hi : i ≤ 4611686018427387904) : wrap64 ((i : Int) + 1) = ((i + 1 : Nat) : Int) := by
  rw [w64 (by omega) (by omega)]
  omega
theorem eqInt64S_loop (l : List Int) (h : l.length ≤ 1000000000) : ∀ (d k i : Nat), l.length - i ≤ d → d < k → laws_eqInt64S.l0 k l l i = some true
  | d, 0, i, _, h2 => absurd h2 (by omega)
  | d, k + 1, i, h1, h2 => by
    simp only [laws_eqInt64S.l0]
    by_cases hi : i < l.length
    · rw [if_pos (by omega), if_pos (by omega), if_pos (by omega), if_pos trivial, w1' (by omega)]
      exact eqInt64S_loop l h (d - 1) k (i + 1) (by omega) (by omega)
    · rw [if_neg (by omega)]
theorem eqInt64S_self (l : List Int) (h : l.length ≤ 1000000000) (k : Nat) (hk : l.length < k) : laws_eqInt64S.f k l l = some true := by
  unfold laws_eqInt64S.f
  rw [if_pos rfl]
  exact eqInt64S_loop l h l.length k 0 (by omega) hk

theorem getI_set_self (x : List Int) (i : Nat) (v : Int) (h : i < x.length) : (x.set i v).getD i 0 = v := by
  rw [List.getD_eq_getElem?_getD, List.getElem?_set_self h]
  rfl
theorem getI_set_ne (x : List Int) (i j : Nat) (v : Int) (h : i ≠ j) : (x.set i v).getD j 0 = x.getD j 0 := by
  rw [List.getD_eq_getElem?_getD, List.getElem?_set_ne h, List.getD_eq_getElem?_getD]
theorem imark_loop (n : Nat) (hn : n ≤ 1000000000) (a : Int) (ha : 0 ≤ a ∧ a ≤ 1000000000000) : ∀ (d k i : Nat) (x : List Int), x.length = n → i ≤ n → n - i ≤ d → d < k → (∀ j, j < i → x.getD j 0 = a + j) →
    ∃ m : List Int, laws_markInt64S.l0 k x (a + i) i = some (a + (n : Int), m) ∧ m.length = n ∧ ∀ j, j < n → m.getD j 0 = a + j
  | d, 0, i, x, _, _, _, h, _ => absurd h (by omega)
  | d, k + 1, i, x, hx, hi, h1, h2, hm => by
    simp only [laws_markInt64S.l0]
    by_cases hlt : i < n
    · rw [if_pos (by omega), if_pos (by omega), Int.toNat_natCast, w1' (by omega), w64 (x := a + (i : Int) + 1) (by omega) (by omega), show (a + (i : Int) + 1) = a + ((i + 1 : Nat) : Int) by omega]
      exact imark_loop n hn a ha (d - 1) k (i + 1) (x.set i (a + i)) (by simp [hx]) (by omega) (by omega) (by omega) (fun j hj => by
        by_cases e : i = j
        · subst e
          rw [getI_set_self _ _ _ (by omega)]
        · rw [getI_set_ne _ _ _ _ e]
          exact hm j (by omega))
    · have e : i = n := by omega
      subst e
      exact ⟨x, by rw [if_neg (by omega)], hx, hm⟩
theorem iheld_loop (n : Nat) (hn : n ≤ 1000000000) (a : Int) (ha : 0 ≤ a ∧ a ≤ 1000000000000) (m : List Int) (hl : m.length = n) (hm : ∀ j, j < n → m.getD j 0 = a + j) : ∀ (d k i : Nat), i ≤ n → n - i ≤ d → d < k → laws_heldInt64S.l0 k m (a + i) i = some (a + n)
  | d, 0, i, _, _, h => absurd h (by omega)
  | d, k + 1, i, hi, h1, h2 => by
    simp only [laws_heldInt64S.l0]
    by_cases hlt : i < n
    · rw [if_pos (by omega), if_pos (by omega), rd_nat, hm i hlt, if_pos rfl, w1' (by omega), w64 (x := a + (i : Int) + 1) (by omega) (by omega), show (a + (i : Int) + 1) = a + ((i + 1 : Nat) : Int) by omega]
      exact iheld_loop n hn a ha m hl hm (d - 1) k (i + 1) (by omega) (by omega) (by omega)
    · rw [if_neg (by omega), show i = n by omega]
/-- What is marked is held. -/
theorem imark_held_at (x : List Int) (hn : x.length ≤ 1000000000) (a : Int) (ha : 0 ≤ a ∧ a ≤ 1000000000000) : ∃ m : List Int, m.length = x.length ∧ (∀ k, x.length < k → laws_markInt64S.f k x a = some (a + x.length, m)) ∧ (∀ k, x.length < k → laws_heldInt64S.f k m a = some (a + x.length)) := by
  have h0 := fun k (hk : x.length < k) => imark_loop x.length hn a ha x.length k 0 x rfl (by omega) (by omega) hk (fun j hj => absurd hj (by omega))
  obtain ⟨m, h1, h2, h3⟩ := h0 (x.length + 1) (by omega)
  simp only [Int.natCast_zero, Int.add_zero] at h1
  refine ⟨m, h2, fun k hk => ?_, fun k hk => ?_⟩
  · unfold laws_markInt64S.f
    exact at_rounds (fun k => laws_markInt64S.mono_l k _ _ _) (show x.length + 1 ≤ k by omega) h1
  · unfold laws_heldInt64S.f
    have := iheld_loop x.length hn a ha m h2 h3 x.length k 0 (by omega) (by omega) hk
    simp only [Int.natCast_zero, Int.add_zero] at this
    exact this
theorem imark_held (x : List Int) (hn : x.length ≤ 1000000000) : ∃ (n : Int) (m : List Int), 0 < n ∧ (∀ k, x.length < k → laws_markInt64S.f k x 1 = some (n, m)) ∧ (∀ k, x.length < k → laws_heldInt64S.f k m 1 = some n) := by
  obtain ⟨m, _, h1, h2⟩ := imark_held_at x hn 1 (by omega)
  exact ⟨1 + x.length, m, by omega, h1, h2⟩

theorem rdL_nat (x : List (List Int)) (j : Nat) : rd_L3 x (j : Int) = x.getD j [] := by
  unfold rd_L3
  rw [Int.toNat_natCast]
theorem getN_set_self (x : List (List Int)) (i : Nat) (v : List Int) (h : i < x.length) : (x.set i v).getD i [] = v := by
  rw [List.getD_eq_getElem?_getD, List.getElem?_set_self h]
  rfl
theorem getN_set_ne (x : List (List Int)) (i j : Nat) (v : List Int) (h : i ≠ j) : (x.set i v).getD j [] = x.getD j [] := by
  rw [List.getD_eq_getElem?_getD, List.getElem?_set_ne h, List.getD_eq_getElem?_getD]
/-- All rows are short. -/
def ShortN (x : List (List Int)) : Prop := ∀ i, i < x.length → (x.getD i []).length ≤ 1000
theorem eqInt64SS_loop (x : List (List Int)) (hn : x.length ≤ 1000000) (hs : ShortN x) : ∀ (d k i : Nat), x.length - i ≤ d → d + 1001 < k → laws_eqInt64SS.l0 k x x i = some true
  | d, 0, i, _, h => absurd h (by omega)
  | 0, k + 1, i, hi, _ => by
    simp only [laws_eqInt64SS.l0]
    rw [if_neg (by omega)]
  | d + 1, k + 1, i, hi, h => by
    simp only [laws_eqInt64SS.l0]
    by_cases c : i < x.length
    · rw [if_pos (by omega), if_pos (by omega), if_pos (by omega), rdL_nat, eqInt64S_self _ (by have := hs i c; omega) k (by have := hs i c; omega), Option.bind_some, if_pos rfl, w1' (by omega)]
      exact eqInt64SS_loop x hn hs d k (i + 1) (by omega) (by omega)
    · rw [if_neg (by omega)]
theorem eqInt64SS_self (x : List (List Int)) (hn : x.length ≤ 1000000) (hs : ShortN x) (k : Nat) (hk : x.length + 1001 < k) : laws_eqInt64SS.f k x x = some true := by
  unfold laws_eqInt64SS.f
  rw [if_pos rfl]
  exact eqInt64SS_loop x hn hs x.length k 0 (by omega) hk
theorem nmark_loop (N : Nat) (hN : N ≤ 1000000) : ∀ (d i : Nat) (x : List (List Int)) (a : Int), x.length = N → i ≤ N → N - i ≤ d → ShortN x → 0 ≤ a → a ≤ 1000 * i + 1 → ∃ (n : Int) (m : List (List Int)), m.length = N ∧ (∀ j, j < i → m.getD j [] = x.getD j []) ∧ a ≤ n ∧
    (∀ k, d + 1001 < k → laws_markInt64SS.l0 k x a i = some (n, m)) ∧ (∀ k, d + 1001 < k → laws_heldInt64SS.l0 k m a i = some n) := by
  intro d
  induction d with
  | zero =>
    intro i x a hx hi hd hs h0 h1
    refine ⟨a, x, hx, fun _ _ => rfl, Int.le_refl _, fun k hk => ?_, fun k hk => ?_⟩
    · obtain ⟨k, rfl⟩ : ∃ q, k = q + 1 := ⟨k - 1, by omega⟩
      simp only [laws_markInt64SS.l0]
      rw [if_neg (by omega)]
    · obtain ⟨k, rfl⟩ : ∃ q, k = q + 1 := ⟨k - 1, by omega⟩
      simp only [laws_heldInt64SS.l0]
      rw [if_neg (by omega)]
  | succ d ih =>
    intro i x a hx hi hd hs h0 h1
    by_cases c : i < N
    · have hl := hs i (by omega)
      obtain ⟨mi, e0, e1, e2⟩ := imark_held_at (x.getD i []) (by omega) a (by omega)
      have hs' : ShortN (x.set i mi) := by
        intro j hj
        rw [List.length_set] at hj
        by_cases q : i = j
        · subst q
          rw [getN_set_self _ _ _ hj]
          omega
        · rw [getN_set_ne _ _ _ _ q]
          exact hs j hj
      obtain ⟨n, m, g1, g2, g3, g4, g5⟩ := ih (i + 1) (x.set i mi) (a + (x.getD i []).length) (by rw [List.length_set]; exact hx) (by omega) (by omega) hs' (by omega) (by omega)
      have gi : m.getD i [] = mi := by rw [g2 i (by omega), getN_set_self _ _ _ (by omega)]
      refine ⟨n, m, g1, fun j hj => ?_, by omega, fun k hk => ?_, fun k hk => ?_⟩
      · rw [g2 j (by omega), getN_set_ne _ _ _ _ (by omega)]
      · obtain ⟨k, rfl⟩ : ∃ q, k = q + 1 := ⟨k - 1, by omega⟩
        simp only [laws_markInt64SS.l0]
        rw [if_pos (by omega), if_pos (by omega), Int.toNat_natCast, e1 k (by omega), Option.bind_some, w1' (by omega)]
        exact g4 k (by omega)
      · obtain ⟨k, rfl⟩ : ∃ q, k = q + 1 := ⟨k - 1, by omega⟩
        simp only [laws_heldInt64SS.l0]
        rw [if_pos (by omega), if_pos (by omega), rdL_nat, gi, e2 k (by omega), Option.bind_some, if_neg (by omega), w1' (by omega)]
        exact g5 k (by omega)
    · refine ⟨a, x, hx, fun _ _ => rfl, Int.le_refl _, fun k hk => ?_, fun k hk => ?_⟩
      · obtain ⟨k, rfl⟩ : ∃ q, k = q + 1 := ⟨k - 1, by omega⟩
        simp only [laws_markInt64SS.l0]
        rw [if_neg (by omega)]
      · obtain ⟨k, rfl⟩ : ∃ q, k = q + 1 := ⟨k - 1, by omega⟩
        simp only [laws_heldInt64SS.l0]
        rw [if_neg (by omega)]
theorem nmark_held (x : List (List Int)) (hn : x.length ≤ 1000000) (hs : ShortN x) : ∃ (n : Int) (m : List (List Int)), 0 < n ∧ (∀ k, x.length + 1001 < k → laws_markInt64SS.f k x 1 = some (n, m)) ∧ (∀ k, x.length + 1001 < k → laws_heldInt64SS.f k m 1 = some n) := by
  obtain ⟨n, m, g1, _, g3, g4, g5⟩ := nmark_loop x.length hn x.length 0 x 1 rfl (by omega) (by omega) hs (by omega) (by omega)
  refine ⟨n, m, by omega, fun k hk => ?_, fun k hk => ?_⟩
  · unfold laws_markInt64SS.f
    exact g4 k hk
  · unfold laws_heldInt64SS.f
    exact g5 k hk

/-- The inner round: one row of corners. -/
theorem diags_row {p : List S73} (hV : Valid p) (i : Nat) (hi : i < p.length) (n i2 : Int) : ∀ (e j : Nat) (acc : List (List Int)), p.length - j = e → acc.length + e ≤ 10000 → ShortN acc → ∃ acc' : List (List Int), acc'.length ≤ acc.length + e ∧ ShortN acc' ∧ ∀ k, 501 + e ≤ k →
    spec_DiagonalsOf.l1 k p acc i j = spec_DiagonalsOf.l0 (k - e - 1) p acc' (wrap64 ((i : Int) + 1)) ∧ impl_DiagonalsOf.l1 k p acc i j n i2 = impl_DiagonalsOf.l0 (k - e - 1) p acc' n (wrap64 (i2 + 1)) := by
  have hn := hV.2.1
  intro e
  induction e with
  | zero =>
    intro j acc he ha hs
    refine ⟨acc, by omega, hs, fun k hk => ?_⟩
    obtain ⟨k, rfl⟩ : ∃ q, k = q + 1 := ⟨k - 1, by omega⟩
    rw [spec_DiagonalsOf.l1, impl_DiagonalsOf.l1, if_neg (by omega), if_neg (by omega), show k + 1 - 0 - 1 = k by omega]
    exact ⟨rfl, rfl⟩
  | succ e ih =>
    intro j acc he ha hs
    have hj : j < p.length := by omega
    obtain ⟨b, hb⟩ := diag_same hV i j hi hj
    cases b with
    | false =>
      obtain ⟨acc', g1, g2, g3⟩ := ih (j + 1) acc (by omega) (by omega) hs
      refine ⟨acc', by omega, g2, fun k hk => ?_⟩
      obtain ⟨k, rfl⟩ : ∃ q, k = q + 1 := ⟨k - 1, by omega⟩
      rw [spec_DiagonalsOf.l1, impl_DiagonalsOf.l1, if_pos (show ((j : Nat) : Int) < (p.length : Int) by omega), if_pos (show ((j : Nat) : Int) < (p.length : Int) by omega), (hb k (by omega)).1, (hb k (by omega)).2, Option.bind_some, Option.bind_some, if_neg (show ¬ (false = true) by decide), if_neg (show ¬ (false = true) by decide), w1 (by omega), show k + 1 - (e + 1) - 1 = k - e - 1 by omega]
      exact g3 k (by omega)
    | true =>
      have hs2 : ShortN (acc ++ [([(i : Int), (j : Int)] : List Int)]) := by
        intro t ht
        rw [List.length_append, List.length_singleton] at ht
        by_cases q : t < acc.length
        · rw [List.getD_eq_getElem?_getD, List.getElem?_append_left q, ← List.getD_eq_getElem?_getD]
          exact hs t q
        · have : t = acc.length := by omega
          subst this
          rw [List.getD_eq_getElem?_getD, List.getElem?_append_right (Nat.le_refl _), Nat.sub_self]
          show 2 ≤ 1000
          omega
      obtain ⟨acc', g1, g2, g3⟩ := ih (j + 1) (acc ++ [([(i : Int), (j : Int)] : List Int)]) (by omega) (by rw [List.length_append, List.length_singleton]; omega) hs2
      rw [List.length_append, List.length_singleton] at g1
      refine ⟨acc', by omega, g2, fun k hk => ?_⟩
      obtain ⟨k, rfl⟩ : ∃ q, k = q + 1 := ⟨k - 1, by omega⟩
      rw [spec_DiagonalsOf.l1, impl_DiagonalsOf.l1, if_pos (show ((j : Nat) : Int) < (p.length : Int) by omega), if_pos (show ((j : Nat) : Int) < (p.length : Int) by omega), (hb k (by omega)).1, (hb k (by omega)).2, Option.bind_some, Option.bind_some, if_pos (rfl : true = true), if_pos (rfl : true = true), if_pos (show acc.length < 5864062014805 by omega), if_pos (show acc.length < 5864062014805 by omega), w1 (by omega), show k + 1 - (e + 1) - 1 = k - e - 1 by omega]
      exact g3 k (by omega)
theorem diags_loop {p : List S73} (hV : Valid p) : ∀ (d i : Nat) (acc : List (List Int)), p.length - i = d → acc.length ≤ 25 * i → ShortN acc → i ≤ p.length → ∃ r : List (List Int), r.length ≤ 25 * p.length ∧ ShortN r ∧ ∀ k, 600 + 60 * d ≤ k →
    spec_DiagonalsOf.l0 k p acc i = some (r, 0) ∧ impl_DiagonalsOf.l0 k p acc (p.length : Int) i = some (r, 0) := by
  have hn := hV.2.1
  intro d
  induction d with
  | zero =>
    intro i acc he ha hs hi
    refine ⟨acc, by omega, hs, fun k hk => ?_⟩
    obtain ⟨k, rfl⟩ : ∃ q, k = q + 1 := ⟨k - 1, by omega⟩
    rw [spec_DiagonalsOf.l0, impl_DiagonalsOf.l0, if_neg (by omega), if_neg (by omega)]
    exact ⟨rfl, rfl⟩
  | succ d ih =>
    intro i acc he ha hs _
    have hi : i < p.length := by omega
    obtain ⟨acc', g1, g2, g3⟩ := diags_row hV i hi (p.length : Int) (i : Int) (p.length - (i + 1)) (i + 1) acc rfl (by omega) hs
    obtain ⟨r, r1, r2, r3⟩ := ih (i + 1) acc' (by omega) (by omega) g2 (by omega)
    refine ⟨r, r1, r2, fun k hk => ?_⟩
    obtain ⟨k, rfl⟩ : ∃ q, k = q + 1 := ⟨k - 1, by omega⟩
    rw [spec_DiagonalsOf.l0, impl_DiagonalsOf.l0, if_pos (by omega), if_pos (by omega), w1 (by omega), (g3 k (by omega)).1, (g3 k (by omega)).2, w1 (by omega)]
    exact r3 _ (by omega)
theorem diagsOf_eq (p : List S73) (hl : p.length ≤ 1048576) : ∃ r : List (List Int) × Int, r.1.length ≤ 600 ∧ ShortN r.1 ∧ (∀ k, 1048577 ≤ k → spec_DiagonalsOf.f k p = some r) ∧ (∀ k, 1048577 ≤ k → impl_DiagonalsOf.f k p = some r) := by
  obtain ⟨b, h1, h2, hv⟩ := spec_valid_eq p hl
  cases b with
  | false =>
    refine ⟨([], 1), by simp, fun i hi => absurd hi (by simp), fun k hk => ?_, fun k hk => ?_⟩
    · unfold spec_DiagonalsOf.f
      rw [h1 _ (by omega)]
      rfl
    · unfold impl_DiagonalsOf.f
      rw [h2 _ (by omega)]
      rfl
  | true =>
    have hV := hv.1 rfl
    have hn := hV.2.1
    obtain ⟨r, r1, r2, r3⟩ := diags_loop hV p.length 0 [] (by omega) (by simp) (fun i hi => absurd hi (by simp)) (by omega)
    refine ⟨(r, 0), by show r.length ≤ 600; omega, r2, fun k hk => ?_, fun k hk => ?_⟩
    · unfold spec_DiagonalsOf.f
      rw [h1 _ (by omega), Option.bind_some, if_pos rfl]
      exact (r3 k (by omega)).1
    · unfold impl_DiagonalsOf.f
      rw [h2 _ (by omega), Option.bind_some, if_pos rfl]
      exact (r3 k (by omega)).2
theorem FnExactDiagonalsOf (l : List S75) (hl : l.length ≤ maxLen) (hg : ∀ x ∈ l, (Lit.int .i64 x.f0).wf = true ∧ (Lit.int .i64 x.f1).wf = true) : ∃ k, laws_FnExactDiagonalsOf.f k l = some true := by
  unfold maxLen at hl
  by_cases hs : l.length ≤ 1048576
  · obtain ⟨⟨g0, g1⟩, hr, hsn, h1, h2⟩ := diagsOf_eq (conv l) (by rw [conv_length]; exact hs)
    have hr : g0.length ≤ 600 := hr
    have hsn : ShortN g0 := hsn
    obtain ⟨n0, m0, hn0, a1⟩ := marked (conv l) (by rw [conv_length]; omega)
    obtain ⟨n1, m1, hn1, b1, b2⟩ := nmark_held g0 (by omega) hsn
    rw [conv_length] at a1
    have e1 := fun k (hk : l.length < k) => toPointS_eq l hs k hk
    have e2 := fun k (hk : l.length < k) => eqPointS_self (conv l) (by rw [conv_length]; omega) k (by rw [conv_length]; exact hk)
    have e3 := fun k (hk : 2000 < k) => eqInt64SS_self g0 (by omega) hsn k (by omega)
    have b1' := fun k (hk : 2000 < k) => b1 k (by omega)
    have b2' := fun k (hk : 2000 < k) => b2 k (by omega)
    have q0 : ¬ n0 < 0 := by omega
    have q1 : ¬ n1 < 0 := by omega
    have q2 : ¬ (1048576 - (l.length : Int)) < 0 := by omega
    obtain ⟨B, hB⟩ : ∃ B : Nat, 1048578 ≤ B := ⟨_, Nat.le_refl _⟩
    refine ⟨B + 3, ?_⟩
    unfold laws_FnExactDiagonalsOf.f
    rw [sz_small l hs, Option.bind_some, if_neg q2, e1 (B + 3) (by omega), Option.bind_some]
    rw [h1 (B + 3) (by omega), Option.bind_some, Option.bind_some, h2 (B + 3) (by omega), Option.bind_some]
    try dsimp only
    rw [e3 (B + 3) (by omega), Option.bind_some, if_pos rfl]
    simp only [laws_FnExactDiagonalsOf.j0, bne_self_eq_false, Bool.false_eq_true, if_false]
    rw [e1 (B + 2) (by omega), Option.bind_some, e2 (B + 2) (by omega), Option.bind_some, if_pos rfl, a1 (B + 2) (by omega), Option.bind_some]
    try dsimp only
    rw [if_neg q0, e3 (B + 2) (by omega), Option.bind_some, if_pos rfl]
    simp only [laws_FnExactDiagonalsOf.j1, bne_self_eq_false, Bool.false_eq_true, if_false]
    rw [b1' (B + 1) (by omega), Option.bind_some]
    try dsimp only
    rw [b2' (B + 1) (by omega), Option.bind_some, if_neg q1, if_pos rfl, e1 (B + 1) (by omega), Option.bind_some, h2 (B + 1) (by omega), Option.bind_some]
    try dsimp only
    rw [e3 (B + 1) (by omega), Option.bind_some, if_pos rfl]
    simp only [laws_FnExactDiagonalsOf.j2, bne_self_eq_false, Bool.false_eq_true, if_false]
    rw [b2' B (by omega), Option.bind_some, if_neg q1, if_pos rfl]
  · refine ⟨0, ?_⟩
    unfold laws_FnExactDiagonalsOf.f
    rw [sz_large l hl (by omega)]
    rfl

end Go.Proofs.Ytnnchaggdnlfmaa.Pure
