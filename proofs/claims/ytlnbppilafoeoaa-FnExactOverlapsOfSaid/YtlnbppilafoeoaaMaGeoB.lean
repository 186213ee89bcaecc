/- Plain facts that the proofs of this seat use. -/
import Derived.Test.YtlnbppilafoeoaaMaGeoA
/-! Triangles and segments; parting and cutting polygons. -/
namespace Go.Proofs.Ytlnbppilafoeoaa.Geo
set_option linter.unusedVariables false
set_option linter.unusedSimpArgs false
def InT (a b c p : Pt) : Prop := 0 ≤ cr a b p ∧ 0 ≤ cr b c p ∧ 0 ≤ cr c a p
theorem bary_sum (a b c p : Pt) : cr a b p + cr b c p + cr c a p = cr a b c := by unfold cr; grind
theorem bary_ht (u v w z : Pt) : cr u v z * (ht w - ht z) + cr v w z * (ht u - ht z) + cr w u z * (ht v - ht z) = 0 := by unfold cr ht; grind
theorem mul_pp {a b : Int} (ha : 0 ≤ a) (hb : 0 ≤ b) : 0 ≤ a * b := Int.mul_nonneg ha hb
theorem mul_nn {a b : Int} (ha : a ≤ 0) (hb : b ≤ 0) : 0 ≤ a * b := by
 have := Int.mul_nonneg (show 0 ≤ -a by omega) (show 0 ≤ -b by omega);rwa [Int.neg_mul_neg] at this
theorem mul_pn {a b : Int} (ha : 0 ≤ a) (hb : b ≤ 0) : a * b ≤ 0 := by
 have := Int.mul_nonneg ha (show 0 ≤ -b by omega);rw [Int.mul_neg] at this; omega
theorem mul_np {a b : Int} (ha : a ≤ 0) (hb : 0 ≤ b) : a * b ≤ 0 := by rw [Int.mul_comm]; exact mul_pn hb ha
theorem pos_of_mul {h c : Int} (hh : 0 < h) (h1 : 0 < c * h) : 0 < c := (pos_iff_mul hh).1.1 h1
theorem neg_of_mul {h c : Int} (hh : 0 < h) (h1 : c * h < 0) : c < 0 := (pos_iff_mul hh).2.1 h1
/-- One corner apart from the two others. -/
theorem tri_one {u v w z : Pt} (hT : 0 < cr u v w) (hz : ¬ InT u v w z) (h : (ht z < ht v ∧ ht u < ht z ∧ ht w < ht z) ∨ (ht v < ht z ∧ ht z < ht u ∧ ht z < ht w)) :
    (cu u v z != (cu v w z != cu w u z)) = false := by
 have S := bary_sum u v w z;have B := bary_ht u v w z;unfold InT at hz;obtain ⟨c1, e1⟩ : ∃ c, c = cr u v z := ⟨_, rfl⟩;obtain ⟨c2, e2⟩ : ∃ c, c = cr v w z := ⟨_, rfl⟩;obtain ⟨c3, e3⟩ : ∃ c, c = cr w u z := ⟨_, rfl⟩;rcases h with ⟨h1, h2, h3⟩ | ⟨h1, h2, h3⟩;(·rw [cu_pos (u := u) (v := v) (by omega) h2 h1, cu_neg (u := v) (v := w) (by omega) h3 h1, cu_high (u := w) (v := u) (by omega) (by omega)];rw [← e1, ← e2];rw [← e1, ← e2, ← e3] at S B hz;clear e1 e2 e3;(have : decide (0 < c1) = decide (c2 < 0) := by apply dec_eq;constructor;(·intro p;apply Decidable.byContradiction;intro q;have p1 := Int.mul_pos p (show 0 < ht z - ht w by omega);have p2 := mul_pp (show 0 ≤ c2 by omega) (show 0 ≤ ht z - ht u by omega);have : 0 < c3 := pos_of_mul (h := ht v - ht z) (by omega) (by grind);omega);(·intro p;apply Decidable.byContradiction;intro q;have p1 := mul_np (show c1 ≤ 0 by omega) (show 0 ≤ ht z - ht w by omega);have p2 := Int.mul_pos (show 0 < -c2 by omega) (show 0 < ht z - ht u by omega);have : c3 < 0 := neg_of_mul (h := ht v - ht z) (by omega) (by grind);omega));rw [this]; cases decide (c2 < 0) <;> rfl);(·rw [cu_neg (u := u) (v := v) (by omega) h1 h2, cu_pos (u := v) (v := w) (by omega) h1 h3, cu_low (u := w) (v := u) h3 h2];rw [← e1, ← e2];rw [← e1, ← e2, ← e3] at S B hz;clear e1 e2 e3;(have : decide (c1 < 0) = decide (0 < c2) := by apply dec_eq;constructor;(·intro p;apply Decidable.byContradiction;intro q;have p1 := Int.mul_pos (show 0 < -c1 by omega) (show 0 < ht w - ht z by omega);have p2 := mul_np (show c2 ≤ 0 by omega) (show 0 ≤ ht u - ht z by omega);have : c3 < 0 := neg_of_mul (h := ht z - ht v) (by omega) (by grind);omega);(·intro p;apply Decidable.byContradiction;intro q;have p1 := mul_pp (show 0 ≤ c1 by omega) (show 0 ≤ ht w - ht z by omega);have p2 := Int.mul_pos p (show 0 < ht u - ht z by omega);have : 0 < c3 := pos_of_mul (h := ht z - ht v) (by omega) (by grind);omega));rw [this]; cases decide (0 < c2) <;> rfl)
theorem int_rot {a b c p : Pt} : InT b c a p ↔ InT a b c p := ⟨fun h => ⟨h.2.2, h.1, h.2.1⟩, fun h => ⟨h.2.1, h.2.2, h.1⟩⟩
/-- A point outside of a triangle: its ray crosses the border an even number of times. -/
theorem tri_even {u v w z : Pt} (hT : 0 < cr u v w) (hz : ¬ InT u v w z) (h1 : ht z ≠ ht u) (h2 : ht z ≠ ht v) (h3 : ht z ≠ ht w) :
    (cu u v z != (cu v w z != cu w u z)) = false := by
 by_cases a : ht z < ht u <;> by_cases b : ht z < ht v <;> by_cases c : ht z < ht w;(·rw [cu_low a b, cu_low b c, cu_low c a]; rfl);(·have := tri_one (u := v) (v := w) (w := u) (z := z) (by rw [cr_rot]; exact hT) (fun h => hz (int_rot.1 h)) (.inr ⟨by omega, b, a⟩);revert this; cases cu u v z <;> cases cu v w z <;> cases cu w u z <;> decide);(·exact tri_one hT hz (.inr ⟨by omega, a, c⟩));(·have := tri_one (u := w) (v := u) (w := v) (z := z) (by rw [← cr_rot]; exact hT) (fun h => hz (int_rot.1 (int_rot.1 h))) (.inl ⟨a, by omega, by omega⟩);revert this; cases cu u v z <;> cases cu v w z <;> cases cu w u z <;> decide);(·have := tri_one (u := w) (v := u) (w := v) (z := z) (by rw [← cr_rot]; exact hT) (fun h => hz (int_rot.1 (int_rot.1 h))) (.inr ⟨by omega, c, b⟩);revert this; cases cu u v z <;> cases cu v w z <;> cases cu w u z <;> decide);(·exact tri_one hT hz (.inl ⟨b, by omega, by omega⟩));(·have := tri_one (u := v) (v := w) (w := u) (z := z) (by rw [cr_rot]; exact hT) (fun h => hz (int_rot.1 h)) (.inl ⟨c, by omega, by omega⟩);revert this; cases cu u v z <;> cases cu v w z <;> cases cu w u z <;> decide);(·rw [cu_high (by omega) (by omega), cu_high (u := v) (v := w) (by omega) (by omega), cu_high (u := w) (v := u) (by omega) (by omega)]; rfl)
/-! ### A segment and a triangle -/
theorem bary_line (a b c x y : Pt) : cr a b c * cr x y a = cr c a x * cr a b y - cr a b x * cr c a y := by unfold cr; grind
theorem cross_pt (b t x y p q : Pt) : cr b t y * cr p q x - cr b t x * cr p q y = cr x y b * cr p q t - cr x y t * cr p q b := by unfold cr; grind
theorem cross_sum (b t x y : Pt) : cr b t y - cr b t x = cr x y b - cr x y t := by unfold cr; grind
theorem bary_at (a b c t x y : Pt) : cr a b c * cr x y t = cr b c t * cr x y a + cr c a t * cr x y b + cr a b t * cr x y c := by unfold cr; grind
/-- Numbers behind 'what cuts the segment from b to a point of the triangle leaves by a side at b'. -/
theorem tb_int {T xa xb xc ya yb yc ta tb tc La Lb Lc Lt X Y : Int} (hT : 0 < T) (ia : T * La = xb * yc - xc * yb) (ib : T * Lb = xc * ya - xa * yc) (ic : T * Lc = xa * yb - xb * ya)
    (it : T * Lt = ta * La + tb * Lb + tc * Lc) (pa : Y * xa - X * ya = Lb * ta) (pb : Y * xb - X * yb = Lb * tb - Lt * T) (pc : Y * xc - X * yc = Lb * tc) (ps : Y - X = Lb - Lt)
    (h1 : 0 < ta) (h2 : 0 ≤ tb) (h3 : 0 < tc) (hL : Lb < 0 ∧ 0 < Lt) (hX : X * Y < 0) (wx : xb ≤ 0 ∨ xa < 0 ∨ xc < 0) (wy : yb ≤ 0 ∨ ya < 0 ∨ yc < 0) :
    (La * Lb < 0 ∧ xc * yc < 0) ∨ (Lb * Lc < 0 ∧ xa * ya < 0) := by
  have hXY : 0 < X ∧ Y < 0 := by
    rcases lt_zero_cases hX with h | h
    · omega
    · exact h
  -- the point that is cut lies within
  have qa : ¬ (xa ≤ 0 ∧ ya ≤ 0) := by
    rintro ⟨u, v⟩
    have := mul_nn (show Y ≤ 0 by omega) u
    have := mul_pn (show 0 ≤ X by omega) v
    have := Int.mul_pos (show 0 < -Lb by omega) h1
    grind
  have qc : ¬ (xc ≤ 0 ∧ yc ≤ 0) := by
    rintro ⟨u, v⟩
    have := mul_nn (show Y ≤ 0 by omega) u
    have := mul_pn (show 0 ≤ X by omega) v
    have := Int.mul_pos (show 0 < -Lb by omega) h3
    grind
  have qb : ¬ (xb ≤ 0 ∧ yb ≤ 0) := by
    rintro ⟨u, v⟩
    have := mul_nn (show Y ≤ 0 by omega) u
    have := mul_pn (show 0 ≤ X by omega) v
    have := mul_np (show Lb ≤ 0 by omega) h2
    have := Int.mul_pos hL.2 hT
    grind
  clear pa pb pc ps
  have pt : 0 < T * Lt := Int.mul_pos hT hL.2
  have mb : tb * Lb ≤ 0 := mul_pn h2 (by omega)
  have La_or : La ≤ 0 → 0 < Lc := by
    intro h
    have := mul_pn (show 0 ≤ ta by omega) h
    exact pos_of_mul h3 (by rw [Int.mul_comm]; omega)
  have Lc_or : Lc ≤ 0 → 0 < La := by
    intro h
    have := mul_pn (show 0 ≤ tc by omega) h
    exact pos_of_mul h1 (by rw [Int.mul_comm]; omega)
  have nb : T * Lb < 0 := mul_lt_zero (.inr ⟨hT, hL.1⟩)
  have caseC : xc * yc < 0 → (La * Lb < 0 ∧ xc * yc < 0) ∨ (Lb * Lc < 0 ∧ xa * ya < 0) := by
    intro hc
    by_cases hLa : 0 < La
    · exact .inl ⟨mul_lt_zero (.inr ⟨hLa, hL.1⟩), hc⟩
    · have hLc := La_or (by omega)
      by_cases ha : xa * ya < 0
      · exact .inr ⟨mul_lt_zero (.inl ⟨hL.1, hLc⟩), ha⟩
      · exfalso
        have na : 0 ≤ xa ∧ 0 ≤ ya := by
          constructor
          · apply Decidable.byContradiction; intro h
            exact ha (mul_lt_zero (.inl ⟨by omega, by omega⟩))
          · apply Decidable.byContradiction; intro h
            exact ha (mul_lt_zero (.inr ⟨by omega, by omega⟩))
        rcases lt_zero_cases hc with ⟨p, q⟩ | ⟨p, q⟩
        · have hyb : yb ≤ 0 := by omega
          have hxb : 0 < xb := by omega
          have := mul_pn na.1 hyb
          have := mul_pp (show 0 ≤ xb by omega) na.2
          have := Int.mul_pos hT hLc
          omega
        · have := mul_pp (show 0 ≤ xc by omega) na.2
          have := mul_pn na.1 (show yc ≤ 0 by omega)
          omega
  have caseA : xa * ya < 0 → (La * Lb < 0 ∧ xc * yc < 0) ∨ (Lb * Lc < 0 ∧ xa * ya < 0) := by
    intro ha
    by_cases hLc : 0 < Lc
    · exact .inr ⟨mul_lt_zero (.inl ⟨hL.1, hLc⟩), ha⟩
    · have hLa := Lc_or (by omega)
      by_cases hc : xc * yc < 0
      · exact .inl ⟨mul_lt_zero (.inr ⟨hLa, hL.1⟩), hc⟩
      · exfalso
        have nc : 0 ≤ xc ∧ 0 ≤ yc := by
          constructor
          · apply Decidable.byContradiction; intro h
            exact hc (mul_lt_zero (.inl ⟨by omega, by omega⟩))
          · apply Decidable.byContradiction; intro h
            exact hc (mul_lt_zero (.inr ⟨by omega, by omega⟩))
        rcases lt_zero_cases ha with ⟨p, q⟩ | ⟨p, q⟩
        · have := mul_pp nc.1 (show 0 ≤ ya by omega)
          have := mul_np (show xa ≤ 0 by omega) nc.2
          omega
        · have hxb : xb ≤ 0 := by omega
          have hyb : 0 < yb := by omega
          have := mul_np hxb nc.2
          have := mul_pp nc.1 (show 0 ≤ yb by omega)
          have := Int.mul_pos hT hLa
          omega
  by_cases hxb : xb ≤ 0
  · have hyb : 0 < yb := by omega
    rcases wy with h | h | h
    · omega
    · exact caseA (mul_lt_zero (.inr ⟨by omega, h⟩))
    · exact caseC (mul_lt_zero (.inr ⟨by omega, h⟩))
  · rcases wx with h | h | h
    · omega
    · exact caseA (mul_lt_zero (.inl ⟨h, by omega⟩))
    · exact caseC (mul_lt_zero (.inl ⟨h, by omega⟩))
/-- Not in the closed triangle but for the side from c to a. -/
def Off (a b c p : Pt) : Prop := cr c a p ≤ 0 ∨ cr b c p < 0 ∨ cr a b p < 0
theorem tb {a b c t x y : Pt} (hT : 0 < cr a b c) (h1 : 0 < cr b c t) (h2 : 0 ≤ cr c a t) (h3 : 0 < cr a b t) (hc : Crs b t x y) (wx : Off a b c x) (wy : Off a b c y) : Crs x y a b ∨ Crs x y b c := by
 (have key : ∀ x y : Pt, cr x y b < 0 → 0 < cr x y t → cr b t x * cr b t y < 0 → Off a b c x → Off a b c y → Crs x y a b ∨ Crs x y b c := by intro x y l1 l2 hX wx wy;have ia := bary_line a b c x y;have ib := bary_line b c a x y;have ic := bary_line c a b x y;rw [cr_rot a b c] at ib;rw [cr_rot b c a, cr_rot a b c] at ic;have it := bary_at a b c t x y;have pa := cross_pt b t x y b c;have pb := cross_pt b t x y c a;have pc := cross_pt b t x y a b;rw [cr_self2, Int.mul_zero, Int.sub_zero] at pa;rw [cr_rot b c a, cr_rot a b c] at pb;rw [cr_self3, Int.mul_zero, Int.sub_zero] at pc;rcases tb_int hT ia ib ic it pa pb pc (cross_sum b t x y) h1 h2 h3 ⟨l1, l2⟩ hX wx wy with ⟨p, q⟩ | ⟨p, q⟩;(·exact .inl ⟨p, q⟩);(·exact .inr ⟨p, q⟩));rcases lt_zero_cases hc.2 with ⟨l1, l2⟩ | ⟨l1, l2⟩;(·exact key x y l1 l2 hc.1 wx wy);(·have := key y x (by rw [cr_swap]; omega) (by rw [cr_swap]; omega) (by rw [Int.mul_comm]; exact hc.1) wy wx;rcases this with h | h;(·exact .inl (crs_swap1 h));(·exact .inr (crs_swap1 h)))
theorem xt_int {T xa xb xc ya yb yc La Lb Lc : Int} (hT : 0 < T) (sx : xa + xb + xc = T) (sy : ya + yb + yc = T) (ia : T * La = xb * yc - xc * yb) (ib : T * Lb = xc * ya - xa * yc) (ic : T * Lc = xa * yb - xb * ya)
    (hxa : 0 < xa) (hya : ya < 0) (hL : Lb * Lc < 0) : (Lb < 0 ∧ 0 < Lc) ∧ (xc < 0 → 0 < yc ∧ (0 ≤ xb → 0 ≤ La)) ∧ (xb < 0 → 0 < yb ∧ (0 ≤ xc → La ≤ 0)) := by
  have o : Lb < 0 ∧ 0 < Lc := by
    rcases lt_zero_cases hL with h | ⟨p, q⟩
    · exact h
    · exfalso
      have p1 := Int.mul_pos hT p
      have p2 := Int.mul_pos hT (show 0 < -Lc by omega)
      have p3 := Int.mul_pos hT hxa
      have p4 := Int.mul_pos hT (show 0 < -ya by omega)
      have e1 : xb = T - xa - xc := by omega
      have e2 : yb = T - ya - yc := by omega
      subst e1 e2
      grind
  have n1 : T * Lb < 0 := mul_lt_zero (.inr ⟨hT, o.1⟩)
  have n2 : 0 < T * Lc := Int.mul_pos hT o.2
  refine ⟨o, fun h => ?_, fun h => ?_⟩
  · have hyc : 0 < yc := by
      apply Decidable.byContradiction
      intro q
      have := mul_nn (show xc ≤ 0 by omega) (show ya ≤ 0 by omega)
      have := mul_pn (show 0 ≤ xa by omega) (show yc ≤ 0 by omega)
      omega
    refine ⟨hyc, fun hb => ?_⟩
    apply Decidable.byContradiction
    intro hLa
    have n3 : T * La < 0 := mul_lt_zero (.inr ⟨hT, by omega⟩)
    have hyb : yb < 0 := by
      apply Decidable.byContradiction
      intro q
      have := mul_pp hb (show 0 ≤ yc by omega)
      have := mul_np (show xc ≤ 0 by omega) (show 0 ≤ yb by omega)
      omega
    -- the products against one another
    have a1 : 0 ≤ xb * yc := mul_pp hb (by omega)
    have a2 : 0 < -xc * -yb := Int.mul_pos (by omega) (by omega)
    have a3 : 0 < -xc * -ya := Int.mul_pos (by omega) (by omega)
    have a4 : 0 < xa * yc := Int.mul_pos hxa hyc
    have a5 : 0 < xa * -yb := Int.mul_pos hxa (by omega)
    have a6 : 0 ≤ xb * -ya := mul_pp hb (by omega)
    -- xa yc > (-xc)(-ya), xb (-ya) > xa (-yb), (-xc)(-yb) > xb yc
    have b1 : -xc * -ya < xa * yc := by grind
    have b2 : xa * -yb < xb * -ya := by grind
    have b3 : xb * yc < -xc * -yb := by grind
    have c1 : (-xc * -ya) * (xa * -yb) < (xa * yc) * (xb * -ya) := by
      have d1 := Int.mul_lt_mul_of_pos_right b1 a5
      have d2 := Int.mul_lt_mul_of_pos_left b2 a4
      omega
    have c2 : (xb * yc) * (xa * -ya) < (-xc * -yb) * (xa * -ya) := Int.mul_lt_mul_of_pos_right b3 (Int.mul_pos hxa (by omega))
    grind
  · have hyb : 0 < yb := by
      apply Decidable.byContradiction
      intro q
      have := mul_nn (show xb ≤ 0 by omega) (show ya ≤ 0 by omega)
      have := mul_pn (show 0 ≤ xa by omega) (show yb ≤ 0 by omega)
      omega
    refine ⟨hyb, fun hc => ?_⟩
    apply Decidable.byContradiction
    intro hLa
    have n3 : 0 < T * La := Int.mul_pos hT (by omega)
    have hyc : yc < 0 := by
      apply Decidable.byContradiction
      intro q
      have := mul_np (show xb ≤ 0 by omega) (show 0 ≤ yc by omega)
      have := mul_pp hc (show 0 ≤ yb by omega)
      omega
    have a4 : 0 < xa * yb := Int.mul_pos hxa hyb
    have a5 : 0 < xa * -yc := Int.mul_pos hxa (by omega)
    have b1 : -xb * -ya < xa * yb := by grind
    have b2 : xa * -yc < xc * -ya := by grind
    have b3 : xc * yb < -xb * -yc := by grind
    have c1 : (-xb * -ya) * (xa * -yc) < (xa * yb) * (xc * -ya) := by
      have d1 := Int.mul_lt_mul_of_pos_right b1 a5
      have d2 := Int.mul_lt_mul_of_pos_left b2 a4
      omega
    have c2 : (xc * yb) * (xa * -ya) < (-xb * -yc) * (xa * -ya) := Int.mul_lt_mul_of_pos_right b3 (Int.mul_pos hxa (by omega))
    grind
/-- A point on the line of x and y, these on two sides of a line through it. -/
theorem on_opp {x y b c : Pt} (h : cr x y b = 0) (h2 : cr b c x * cr b c y < 0) : On x y b := by
 (have e1 : cr b c y * (x.1 - b.1) = cr b c x * (y.1 - b.1) := by unfold cr at h ⊢; grind);(have e2 : cr b c y * (x.2 - b.2) = cr b c x * (y.2 - b.2) := by unfold cr at h ⊢; grind);(have side : ∀ {m n p q : Int}, m * n < 0 → n * p = m * q → (p ≤ 0 ∧ 0 ≤ q) ∨ (0 ≤ p ∧ q ≤ 0) := by intro m n p q hmn e;apply Decidable.byContradiction;intro hn;(have : (0 < p ∧ 0 < q) ∨ (p < 0 ∧ q < 0) := by omega);rcases lt_zero_cases hmn with ⟨a, b⟩ | ⟨a, b⟩ <;> rcases this with ⟨c, d⟩ | ⟨c, d⟩;(·have := Int.mul_pos b c;have := mul_lt_zero (.inl ⟨a, d⟩);omega);(·have := mul_lt_zero (.inr ⟨b, c⟩);have := mul_nn (show m ≤ 0 by omega) (show q ≤ 0 by omega);omega);(·have := mul_lt_zero (.inl ⟨b, c⟩);have := Int.mul_pos a d;omega);(·have := mul_nn (show n ≤ 0 by omega) (show p ≤ 0 by omega);have := mul_lt_zero (.inr ⟨a, d⟩);omega));have s1 := side h2 e1;have s2 := side h2 e2;exact ⟨h, by unfold Btw; omega, by unfold Btw; omega⟩
/-- The three ways out of a triangle, of a segment that cuts the side from B to C, its end x beyond. -/
theorem xt_core {A B C x y : Pt} (hT : 0 < cr A B C) (hc : cr x y B * cr x y C < 0) (hx : 0 < cr B C x) (hy : cr B C y < 0) :
    (cr x y B < 0 ∧ 0 < cr x y C) ∧ (cr A B x < 0 → 0 < cr A B y ∧ (0 ≤ cr C A x → 0 ≤ cr x y A)) ∧ (cr C A x < 0 → 0 < cr C A y ∧ (0 ≤ cr A B x → cr x y A ≤ 0)) := by
 have ia := bary_line A B C x y;have ib := bary_line B C A x y;have ic := bary_line C A B x y;rw [cr_rot A B C] at ib;rw [cr_rot B C A, cr_rot A B C] at ic;have sx := bary_sum A B C x;have sy := bary_sum A B C y;exact xt_int hT (by omega) (by omega) ia ib ic hx hy hc
theorem xt_half {a b c x y : Pt} (hT : 0 < cr a b c) (hl : cr x y a * cr x y c < 0) (hxb : 0 < cr c a x) (hyb : cr c a y < 0) (hx : ¬ InT a b c x) : Crs x y a b ∨ Crs x y b c ∨ On x y b := by
  have K := xt_core (A := b) (B := c) (C := a) (x := x) (y := y) (by rw [cr_rot]; exact hT) (by rw [Int.mul_comm]; exact hl) hxb hyb
  obtain ⟨⟨k1, k2⟩, k3, k4⟩ := K
  have out : cr a b x < 0 ∨ cr b c x < 0 := by
    unfold InT at hx
    omega
  rcases Int.lt_trichotomy (cr x y b) 0 with e | e | e
  · -- a and b on two sides
    by_cases h : cr a b x < 0
    · have := (k3 · |>.1)
      have q := k4
      -- cr a b is C A here
      exact .inl ⟨mul_lt_zero (.inr ⟨k2, e⟩), mul_lt_zero (.inl ⟨h, (k4 h).1⟩)⟩
    · have hb : cr b c x < 0 := by omega
      have := (k3 hb).2 (by omega)
      omega
  · rcases out with h | h
    · exact .inr (.inr (on_opp (c := a) e (by rw [cr_swap, cr_swap a b y]; have := mul_lt_zero (.inl ⟨h, (k4 h).1⟩); grind)))
    · exact .inr (.inr (on_opp (c := c) e (mul_lt_zero (.inl ⟨h, (k3 h).1⟩))))
  · by_cases h : cr b c x < 0
    · exact .inr (.inl ⟨mul_lt_zero (.inr ⟨e, k1⟩), mul_lt_zero (.inl ⟨h, (k3 h).1⟩)⟩)
    · have hb : cr a b x < 0 := by omega
      have := (k4 hb).2 (by omega)
      omega
/-- A segment whose ends lie outside of a triangle and that cuts one side touches the others. -/
theorem xt {a b c x y : Pt} (hT : 0 < cr a b c) (hc : Crs x y a c) (hx : ¬ InT a b c x) (hy : ¬ InT a b c y) : Crs x y a b ∨ Crs x y b c ∨ On x y b := by
 have h2 := hc.2;rw [cr_swap c a x, cr_swap c a y, Int.neg_mul_neg] at h2;rcases lt_zero_cases h2 with ⟨p, q⟩ | ⟨p, q⟩;(·have := xt_half hT (x := y) (y := x) (by rw [cr_swap x y a, cr_swap x y c, Int.neg_mul_neg]; exact hc.1) q p hy;rcases this with h | h | h;(·exact .inl (crs_swap1 h));(·exact .inr (.inl (crs_swap1 h)));(·exact .inr (.inr (on_swap h))));(·exact xt_half hT hc.1 p q hx)
/-- On a segment: between, for each line. -/
theorem on_btw {a b p : Pt} (s t : Pt) (h : On a b p) : Btw (cr s t a) (cr s t b) (cr s t p) ∧ (cr s t p = cr s t b → cr s t a ≠ cr s t b → p = b) := by
 obtain ⟨h0, h1, h2⟩ := h;(have e1 : (b.1 - a.1) * (cr s t p - cr s t a) = (p.1 - a.1) * (cr s t b - cr s t a) := by unfold cr at h0 ⊢; grind);(have e2 : (b.2 - a.2) * (cr s t p - cr s t a) = (p.2 - a.2) * (cr s t b - cr s t a) := by unfold cr at h0 ⊢; grind);refine ⟨?_, fun q r => ?_⟩;(·(have one : ∀ {A B P F G : Int}, Btw A B P → A ≠ B → (B - A) * F = (P - A) * G → (0 ≤ F ∧ F ≤ G) ∨ (G ≤ F ∧ F ≤ 0) := by intro A B P F G hb hne e;rcases Int.lt_or_gt_of_ne hne with c | c;(·refine btw_of_mul (H := B - A) (P := P - A) (by omega) ?_ ?_ e;(·unfold Btw at hb; omega);(·unfold Btw at hb; omega));(·refine btw_of_mul (H := A - B) (P := A - P) (by omega) ?_ ?_ (by grind);(·unfold Btw at hb; omega);(·unfold Btw at hb; omega)));by_cases c1 : a.1 = b.1;(·by_cases c2 : a.2 = b.2;(·have hab : a = b := Prod.ext c1 c2;(have hpa : p = a := by apply Prod.ext;(·unfold Btw at h1; omega);(·unfold Btw at h2; omega));rw [hpa, ← hab]; unfold Btw; omega);(·have := one h2 c2 e2;unfold Btw; omega));(·have := one h1 c1 e1;unfold Btw; omega));(·rw [q] at e1 e2;(have r' : cr s t b - cr s t a ≠ 0 := by omega);have f1 := Int.eq_of_mul_eq_mul_right r' e1;have f2 := Int.eq_of_mul_eq_mul_right r' e2;apply Prod.ext <;> omega)
theorem lev_aff (a b c p s t : Pt) : cr a b c * cr s t p = cr b c p * cr s t a + cr c a p * cr s t b + cr a b p * cr s t c := by unfold cr; grind
theorem cross_pos {v z x y : Pt} (h : Crs v z x y) : (cr v z y - cr v z x = cr x y v - cr x y z) := cross_sum v z x y
/-- One end of what cuts v z lies higher than z, seen from w u. -/
theorem higher {u v w z x y : Pt} (hl : cr w u z < cr w u v) (h : Crs v z x y) : cr w u z < cr w u x ∨ cr w u z < cr w u y := by
 have e := cross_pt v z x y w u;have s := cross_sum v z x y;obtain ⟨h1, h2⟩ := h;apply Decidable.byContradiction;intro hn;obtain ⟨f, hf⟩ : ∃ f, f = cr w u x := ⟨_, rfl⟩;obtain ⟨g, hg⟩ : ∃ g, g = cr w u y := ⟨_, rfl⟩;obtain ⟨l, hl'⟩ : ∃ l, l = cr w u z := ⟨_, rfl⟩;obtain ⟨T, hT⟩ : ∃ T, T = cr w u v := ⟨_, rfl⟩;obtain ⟨X, hX⟩ : ∃ X, X = cr v z x := ⟨_, rfl⟩;obtain ⟨Y, hY⟩ : ∃ Y, Y = cr v z y := ⟨_, rfl⟩;obtain ⟨P, hP⟩ : ∃ P, P = cr x y v := ⟨_, rfl⟩;obtain ⟨Q, hQ⟩ : ∃ Q, Q = cr x y z := ⟨_, rfl⟩;rw [← hf, ← hg, ← hl'] at hn;rw [← hl', ← hT] at hl;rw [← hX, ← hY, ← hP, ← hQ, ← hf, ← hg, ← hl', ← hT] at e;rw [← hX, ← hY, ← hP, ← hQ] at s;rw [← hX, ← hY] at h1;rw [← hP, ← hQ] at h2;clear hf hg hl' hT hX hY hP hQ;(have hf : f ≤ l := by omega);(have hg : g ≤ l := by omega);rcases lt_zero_cases h1 with ⟨a, b⟩ | ⟨a, b⟩ <;> rcases lt_zero_cases h2 with ⟨c, d⟩ | ⟨c, d⟩;(·omega);(·have p1 := mul_pp (show 0 ≤ Y by omega) (show 0 ≤ l - f by omega);have p2 := mul_pp (show 0 ≤ -X by omega) (show 0 ≤ l - g by omega);have p3 := Int.mul_pos (show 0 < -Q by omega) (show 0 < T - l by omega);(have e3 : (Y - X) * l = (P - Q) * l := by rw [s]);grind);(·have p1 := mul_pp (show 0 ≤ -Y by omega) (show 0 ≤ l - f by omega);have p2 := mul_pp (show 0 ≤ X by omega) (show 0 ≤ l - g by omega);have p3 := Int.mul_pos (show 0 < Q by omega) (show 0 < T - l by omega);(have e3 : (Y - X) * l = (P - Q) * l := by rw [s]);grind);(·omega)
theorem nn_of_mul {h c : Int} (hh : 0 < h) (h1 : 0 ≤ h * c) : 0 ≤ c := by
 apply Decidable.byContradiction;intro q;have := mul_lt_zero (.inr ⟨hh, show c < 0 by omega⟩);omega
/-- What cuts the segment from the corner v to the highest point z leaves by an edge at v. -/
theorem chord_half {u v w z x y : Pt} (hT : 0 < cr u v w) (h1 : 0 < cr u v z) (h2 : 0 < cr v w z) (h3 : 0 ≤ cr w u z) (hc : Crs v z x y) (hx : cr w u z < cr w u x) (ho : ¬ InT u v w x) :
    (Crs x y u v ∨ (On x y u ∧ x ≠ u ∧ y ≠ u)) ∨ (Crs x y v w ∨ (On x y w ∧ x ≠ w ∧ y ≠ w)) := by
  have S := bary_sum u v w z
  obtain ⟨hX, hL⟩ := hc
  rcases lt_zero_cases hX with ⟨p, q⟩ | ⟨p, q⟩
  · -- x on the side of w: the triangle w z v
    right
    have T2 : 0 < cr w z v := by rw [← cr_rot, ← cr_rot] at *; first | exact h2 | (rw [cr_rot]; exact h2) | (rw [cr_rot, cr_rot]; exact h2)
    have A := lev_aff w z v x w u
    have hxA : 0 < cr z v x := by rw [cr_swap]; omega
    have hyA : cr z v y < 0 := by rw [cr_swap]; omega
    have bs := bary_sum w z v x
    have e0 : cr w u w = 0 := cr_self2 _ _
    have e1 : cr w u v = cr u v w := by rw [← cr_rot, ← cr_rot, cr_rot]
    rw [e0, e1] at A
    have hC : 0 < cr w z x := by
      have m1 := Int.mul_pos T2 (show 0 < cr w u x - cr w u z by omega)
      have m2 := mul_pp (show 0 ≤ cr z v x by omega) h3
      have e : cr w z v * cr w u z = (cr w z x + cr z v x + cr v w x) * cr w u z := by rw [bs]
      exact pos_of_mul (h := cr u v w - cr w u z) (by omega) (by grind)
    have hB : cr v w x < 0 := by
      apply Decidable.byContradiction
      intro hb
      refine ho ⟨?_, by omega, by omega⟩
      -- x lies in the triangle w z v, which lies in the great one
      have B := lev_aff w z v x u v
      have f0 : cr u v v = 0 := cr_self3 _ _
      have f1 : cr u v w = cr u v w := rfl
      rw [f0] at B
      have m1 := mul_pp (show 0 ≤ cr z v x by omega) (show 0 ≤ cr u v w by omega)
      have m2 := mul_pp (show 0 ≤ cr v w x by omega) (show 0 ≤ cr u v z by omega)
      exact nn_of_mul T2 (by omega)
    have K := xt_core (A := w) (B := z) (C := v) (x := x) (y := y) T2 (by rw [Int.mul_comm]; exact hL) hxA hyA
    obtain ⟨⟨k1, k2⟩, _, k4⟩ := K
    obtain ⟨k5, k6⟩ := k4 hB
    have k6 := k6 (by omega)
    rcases Int.lt_or_eq_of_le k6 with e | e
    · exact .inl ⟨mul_lt_zero (.inr ⟨k2, e⟩), mul_lt_zero (.inl ⟨hB, k5⟩)⟩
    · refine .inr ⟨on_opp (c := v) e (by rw [cr_swap, cr_swap v w y]; have := mul_lt_zero (.inl ⟨hB, k5⟩); grind), ?_, ?_⟩
      · rintro rfl; rw [cr_self2] at hx; omega
      · rintro rfl; rw [cr_self3] at k5; omega
  · left
    have T1 : 0 < cr u v z := h1
    have A := lev_aff u v z x w u
    have hxA : 0 < cr v z x := p
    have hyA : cr v z y < 0 := q
    have bs := bary_sum u v z x
    have e0 : cr w u u = 0 := cr_self3 _ _
    have e1 : cr w u v = cr u v w := by rw [← cr_rot, ← cr_rot, cr_rot]
    rw [e0, e1] at A
    have hB : 0 < cr z u x := by
      have m1 := Int.mul_pos T1 (show 0 < cr w u x - cr w u z by omega)
      have m2 := mul_pp (show 0 ≤ cr v z x by omega) h3
      have e : cr u v z * cr w u z = (cr u v x + cr v z x + cr z u x) * cr w u z := by rw [bs]
      exact pos_of_mul (h := cr u v w - cr w u z) (by omega) (by grind)
    have hC : cr u v x < 0 := by
      apply Decidable.byContradiction
      intro hb
      refine ho ⟨by omega, ?_, by omega⟩
      have B := lev_aff u v z x v w
      have f0 : cr v w v = 0 := cr_self2 _ _
      have f1 : cr v w u = cr u v w := cr_rot _ _ _
      rw [f0, f1] at B
      have m1 := mul_pp (show 0 ≤ cr v z x by omega) (show 0 ≤ cr u v w by omega)
      have m2 := mul_pp (show 0 ≤ cr u v x by omega) (show 0 ≤ cr v w z by omega)
      exact nn_of_mul T1 (by omega)
    have K := xt_core (A := u) (B := v) (C := z) (x := x) (y := y) T1 hL hxA hyA
    obtain ⟨⟨k1, k2⟩, k3, _⟩ := K
    obtain ⟨k5, k6⟩ := k3 hC
    have k6 := k6 (by omega)
    rcases Int.lt_or_eq_of_le k6 with e | e
    · exact .inl ⟨mul_lt_zero (.inr ⟨e, k1⟩), mul_lt_zero (.inl ⟨hC, k5⟩)⟩
    · refine .inr ⟨on_opp (c := v) e.symm (mul_lt_zero (.inl ⟨hC, k5⟩)), ?_, ?_⟩
      · rintro rfl; rw [cr_self3] at hx; omega
      · rintro rfl; rw [cr_self2] at k5; omega
theorem comp_crs {a b c d : Pt} (h : Comp a b c d) : ¬ Crs a b c d := h.1
theorem crs_ends {a b c d : Pt} (h : Crs a b c d) : c ≠ a ∧ c ≠ b ∧ d ≠ a ∧ d ≠ b := by
 refine ⟨?_, ?_, ?_, ?_⟩;(·rintro rfl; have := h.1; rw [cr_self2] at this; omega);(·rintro rfl; have := h.1; rw [cr_self3] at this; omega);(·rintro rfl; have := h.1; rw [cr_self2] at this; omega);(·rintro rfl; have := h.1; rw [cr_self3] at this; omega)
/-- The chord from the corner v to the highest point in its triangle goes with an edge x y that goes with those at v. -/
theorem chord_crs {u v w z x y : Pt} (hT : 0 < cr u v w) (h1 : 0 < cr u v z) (h2 : 0 < cr v w z) (h3 : 0 ≤ cr w u z) (c1 : Comp x y u v) (c2 : Comp x y v w)
    (hx : x ≠ v → InT u v w x → cr w u x ≤ cr w u z) (hy : y ≠ v → InT u v w y → cr w u y ≤ cr w u z) : ¬ Crs v z x y := by
 intro hc;have S := bary_sum u v w z;(have e1 : cr w u v = cr u v w := by rw [← cr_rot, ← cr_rot, cr_rot]);obtain ⟨n1, _, n3, _⟩ := crs_ends hc;(have bad : ∀ x y : Pt, Comp x y u v → Comp x y v w → Crs v z x y → cr w u z < cr w u x → ¬ InT u v w x → False := by intro x y c1 c2 hc hx ho;rcases chord_half hT h1 h2 h3 hc hx ho with (h | ⟨h, a, b⟩) | (h | ⟨h, a, b⟩);(·exact c1.1 h);(·rcases c1.2.1 h with e | e;(·exact a e.symm);(·exact b e.symm));(·exact c2.1 h);(·rcases c2.2.2.1 h with e | e;(·exact a e.symm);(·exact b e.symm)));(have flip : ∀ {x y c d : Pt}, Comp x y c d → Comp y x c d := by intro x y c d h;exact ⟨fun k => h.1 (crs_swap1 k), fun k => (h.2.1 (on_swap k)).symm, fun k => (h.2.2.1 (on_swap k)).symm, h.2.2.2.2, h.2.2.2.1⟩);rcases higher (u := u) (w := w) (by omega) hc with h | h;(·exact bad x y c1 c2 hc h (fun k => by have := hx n1 k; omega));(·exact bad y x (flip c1) (flip c2) (crs_swap2 hc) h (fun k => by have := hy n3 k; omega))
/-- No other point of the triangle lies on that chord. -/
theorem chord_on {u v w z x : Pt} (hT : 0 < cr u v w) (hz : InT u v w z) (h1 : 0 < cr u v z) (h2 : 0 < cr v w z) (hx : x ≠ v → InT u v w x → cr w u x ≤ cr w u z) (h : On v z x) : x = v ∨ x = z := by
 have S := bary_sum u v w z;(have e1 : cr w u v = cr u v w := by rw [← cr_rot, ← cr_rot, cr_rot]);by_cases hxv : x = v;(·exact .inl hxv);(·right;have a1 := (on_btw u v h).1;have a2 := (on_btw v w h).1;have a3 := on_btw w u h;rw [cr_self3] at a1;rw [cr_self2] at a2;unfold InT at hz;(have i1 : 0 ≤ cr u v x := by unfold Btw at a1; omega);(have i2 : 0 ≤ cr v w x := by unfold Btw at a2; omega);(have i3 : cr w u z ≤ cr w u x := by have := a3.1; unfold Btw at this; omega);have := hx hxv ⟨i1, i2, by omega⟩;exact a3.2 (by omega) (by omega))
theorem cr_rot2 (a b c : Pt) : cr c a b = cr a b c := by rw [← cr_rot a b c, ← cr_rot b c a]
/-- A point of the triangle that is on the line of a side is on the side. -/
theorem side_on {u v w z : Pt} (hT : 0 < cr u v w) (hz : InT u v w z) (h : cr u v z = 0) : On u v z := by
  obtain ⟨_, a, b⟩ := hz
  have S := bary_sum u v w z
  by_cases hw : cr v w z = 0
  · -- then z is v
    have e := lev_aff u v w z
    have hb : cr w u z = cr u v w := by omega
    have : z = v := by
      have q1 : cr u v w * (z.1 - v.1) = 0 := by unfold cr at h hw hb ⊢; grind
      have q2 : cr u v w * (z.2 - v.2) = 0 := by unfold cr at h hw hb ⊢; grind
      have r1 := (Int.mul_eq_zero.1 q1).resolve_left (by omega)
      have r2 := (Int.mul_eq_zero.1 q2).resolve_left (by omega)
      apply Prod.ext <;> omega
    rw [this]
    exact on_self2 u v
  · by_cases hu : cr w u z = 0
    · have hb : cr v w z = cr u v w := by omega
      have : z = u := by
        have q1 : cr u v w * (z.1 - u.1) = 0 := by unfold cr at h hu hb ⊢; grind
        have q2 : cr u v w * (z.2 - u.2) = 0 := by unfold cr at h hu hb ⊢; grind
        have r1 := (Int.mul_eq_zero.1 q1).resolve_left (by omega)
        have r2 := (Int.mul_eq_zero.1 q2).resolve_left (by omega)
        apply Prod.ext <;> omega
      rw [this]
      exact on_self1 u v
    · -- u and v on two sides of the line from w to z
      refine on_opp (c := w) h ?_
      have i1 : cr z w u = - cr w z u := cr_swap _ _ _
      have f1 : cr z w u = cr w u z := by rw [← cr_rot z w u]
      have f2 : cr z w v = - cr v w z := by rw [cr_flip, cr_rot2]
      rw [f1, f2]
      have := Int.mul_pos (show 0 < cr w u z by omega) (show 0 < cr v w z by omega)
      grind
theorem pe_split (z : Pt) (r : List Pt) : ∀ (s : List Pt), pe (s ++ z :: r) = pe (s ++ [z]) ++ pe (z :: r)
  | [] => rfl
  | [a] => rfl
  | a :: b :: s => by
    rw [List.cons_append, List.cons_append, pe_cons, ← List.cons_append, pe_split z r (b :: s)]
    rfl
theorem ed_cons (v : Pt) (c : List Pt) : Ed (v :: c) = pe (v :: (c ++ [v])) := rfl
theorem ed_split (v z : Pt) (c1 c2 : List Pt) : Ed (v :: (c1 ++ z :: c2)) = pe (v :: (c1 ++ [z])) ++ pe (z :: (c2 ++ [v])) := by
 rw [ed_cons, List.append_assoc, List.cons_append, ← List.cons_append, pe_split];rfl
theorem ed_one (v z : Pt) (c1 : List Pt) : Ed (v :: (c1 ++ [z])) = pe (v :: (c1 ++ [z])) ++ [(z, v)] := by
 rw [ed_split];rfl
theorem ed_two (v z : Pt) (c2 : List Pt) : Ed (v :: z :: c2) = (v, z) :: pe (z :: (c2 ++ [v])) := rfl
theorem comp_self (a b : Pt) : Comp a b a b := by
 refine ⟨fun h => ?_, fun _ => .inl rfl, fun _ => .inr rfl, fun _ => .inl rfl, fun _ => .inr rfl⟩;have := h.1;rw [cr_self2] at this;omega
theorem comp_swap1 {x y c d : Pt} (h : Comp x y c d) : Comp y x c d :=
  ⟨fun k => h.1 (crs_swap1 k), fun k => (h.2.1 (on_swap k)).symm, fun k => (h.2.2.1 (on_swap k)).symm, h.2.2.2.2, h.2.2.2.1⟩
theorem comp_swap2 {x y c d : Pt} (h : Comp x y c d) : Comp x y d c := comp_sym (comp_swap1 (comp_sym h))
/-- Two polygons out of one, along a chord. -/
theorem simple_split {v z : Pt} {c1 c2 : List Pt} (h : Simple (v :: (c1 ++ z :: c2))) (n1 : c1 ≠ []) (n2 : c2 ≠ []) (hc : ∀ e ∈ Ed (v :: (c1 ++ z :: c2)), Comp v z e.1 e.2) :
    Simple (v :: (c1 ++ [z])) ∧ Simple (v :: z :: c2) := by
 obtain ⟨_, h2, h3, h4⟩ := h;have l1 : 0 < c1.length := List.length_pos_iff.2 n1;have l2 : 0 < c2.length := List.length_pos_iff.2 n2;(have d1 : (v :: (c1 ++ [z])).Nodup := by refine List.Sublist.nodup ?_ h2;exact List.Sublist.cons_cons v (List.Sublist.append (List.Sublist.refl _) (List.Sublist.cons_cons z (List.nil_sublist _))));(have d2 : (v :: z :: c2).Nodup := by refine List.Sublist.nodup ?_ h2;exact List.Sublist.cons_cons v (List.sublist_append_right c1 (z :: c2)));rw [ed_split] at h4 hc;constructor;(·refine ⟨by simp; omega, d1, fun p hp => h3 p (by simp at hp ⊢; grind), fun e he f hf => ?_⟩;rw [ed_one] at he hf;simp only [List.mem_append, List.mem_cons, List.not_mem_nil, or_false] at he hf;rcases he with he | rfl <;> rcases hf with hf | rfl;(·exact h4 e (List.mem_append_left _ he) f (List.mem_append_left _ hf));(·exact comp_sym (comp_swap1 (hc e (List.mem_append_left _ he))));(·exact comp_swap1 (hc f (List.mem_append_left _ hf)));(·exact comp_self _ _));(·refine ⟨by simp; omega, d2, fun p hp => h3 p (by simp at hp ⊢; grind), fun e he f hf => ?_⟩;rw [ed_two] at he hf;simp only [List.mem_cons] at he hf;rcases he with rfl | he <;> rcases hf with rfl | hf;(·exact comp_self _ _);(·exact hc f (List.mem_append_right _ hf));(·exact comp_sym (hc e (List.mem_append_right _ he)));(·exact h4 e (List.mem_append_right _ he) f (List.mem_append_right _ hf)))
/-! ### The area -/
def sa : List (Pt × Pt) → Int
  | [] => 0
  | e :: E => (e.1.1 * e.2.2 - e.1.2 * e.2.1) + sa E
theorem sa_append (E F : List (Pt × Pt)) : sa (E ++ F) = sa E + sa F := by
 (induction E with |nil => (simp [sa]) |cons e E ih => (rw [List.cons_append, sa, sa, ih]; omega))
def area (l : List Pt) : Int := sa (Ed l)
theorem area_rot (a : Pt) : ∀ l : List Pt, area (l ++ [a]) = area (a :: l)
  | [] => rfl
  | w :: t => by
    unfold area
    rw [ed_eq, List.cons_append, Ed, pe_snoc, pe_snoc, lastOf_snoc]
    simp only [sa, sa_append]
    omega
theorem area_split (v z : Pt) (c1 c2 : List Pt) : area (v :: (c1 ++ z :: c2)) = area (v :: (c1 ++ [z])) + area (v :: z :: c2) := by
 unfold area;rw [ed_split, ed_one, ed_two, sa_append, sa_append, sa, sa, sa];simp only;(have e : z.1 * v.2 - z.2 * v.1 = -(v.1 * z.2 - v.2 * z.1) := by rw [Int.mul_comm z.1, Int.mul_comm z.2]; omega);omega
theorem area_cut (v w : Pt) (t : List Pt) : area (v :: w :: t) = area (w :: t) + cr (lastOf w t) v w := by
 unfold area;rw [ed_eq, ed_cons, pe_snoc, sa, sa_append, sa_append, sa, sa, sa, sa];unfold cr;simp only;grind
/-! ### Cutting a corner -/
theorem simple_cut {v w : Pt} {t : List Pt} (h : Simple (v :: w :: t)) (hl : 2 ≤ t.length) (hT : 0 < cr (lastOf w t) v w) (hn : ∀ p ∈ t, p ≠ lastOf w t → ¬ InT (lastOf w t) v w p) : Simple (w :: t) := by
 obtain ⟨vw, vu, wu, iv, iw, iu, n1⟩ := corner_of h;obtain ⟨h1, h2, h3, h4⟩ := h;rw [ed_eq] at h4;have hd := h2;rw [List.nodup_cons] at hd;(have euv : (lastOf w t, v) ∈ (v, w) :: (pe (w :: t) ++ [(lastOf w t, v)]) := by simp);(have evw : (v, w) ∈ (v, w) :: (pe (w :: t) ++ [(lastOf w t, v)]) := by simp);(have out : ∀ p ∈ w :: t, p ≠ lastOf w t → p ≠ w → ¬ InT (lastOf w t) v w p := by intro p hp a b;rcases List.mem_cons.1 hp with e | e;(·exact absurd e b);(·exact hn p e a));(have key : ∀ e ∈ pe (w :: t), Comp (lastOf w t) w e.1 e.2 := by intro e he;have hm := pe_mem _ e he;(have hE : e ∈ (v, w) :: (pe (w :: t) ++ [(lastOf w t, v)]) := by simp [he]);have c1 := h4 _ hE _ euv;have c2 := h4 _ hE _ evw;(have v1 : v ≠ e.1 := by rintro e'; exact hd.1 (by rw [e']; exact hm.1));(have v2 : v ≠ e.2 := by rintro e'; exact hd.1 (by rw [e']; exact hm.2));(have inT_side : ∀ p, On (lastOf w t) w p → p ∈ w :: t → p = lastOf w t ∨ p = w := by intro p hp hm;apply Decidable.byContradiction;intro hne;have a : p ≠ lastOf w t := fun e => hne (.inl e);have b : p ≠ w := fun e => hne (.inr e);refine out p hm a b ⟨?_, ?_, ?_⟩;(·have := (on_btw (lastOf w t) v hp).1;rw [cr_self2] at this;unfold Btw at this; omega);(·have := (on_btw v w hp).1;rw [cr_self3, cr_rot] at this;unfold Btw at this; omega);(·have := hp.1;rw [cr_swap, this]; decide));refine ⟨fun hc => ?_, fun ho => inT_side _ ho hm.1, fun ho => inT_side _ ho hm.2, fun ho => ?_, fun ho => ?_⟩;(·obtain ⟨k1, k2, k3, k4⟩ := crs_ends hc;rcases xt hT (crs_sym hc) (out _ hm.1 k1 k2) (out _ hm.2 k3 k4) with x | x | x;(·exact c1.1 x);(·exact c2.1 x);(·rcases c1.2.2.1 x with e' | e';(·exact v1 e');(·exact v2 e')));(·exact c1.2.1 ho);(·exact c2.2.2.1 ho));refine ⟨by simp; omega, hd.2, fun p hp => h3 p (List.mem_cons_of_mem _ hp), fun e he f hf => ?_⟩;rw [ed_cons, pe_snoc] at he hf;simp only [List.mem_append, List.mem_cons, List.not_mem_nil, or_false] at he hf;rcases he with he | rfl <;> rcases hf with hf | rfl;(·exact h4 e (by simp [he]) f (by simp [hf]));(·exact comp_sym (key e he));(·exact key f hf);(·exact comp_self _ _)
theorem lastOf_app (s : List Pt) (u : Pt) : ∀ d : Pt, lastOf d (s ++ [u]) = u := lastOf_snoc u s
/-- Cutting a corner leaves the way round. -/
theorem ll_cut {v w d u : Pt} {s : List Pt} (h : Simple (v :: w :: d :: (s ++ [u]))) (h' : Simple (w :: d :: (s ++ [u]))) (hT : 0 < cr u v w) (hd : ¬ InT u v w d) : LL (w :: d :: (s ++ [u])) = LL (v :: w :: d :: (s ++ [u])) := by
  have r1 : LL ((d :: (s ++ [u])) ++ [v, w]) = LL ([v, w] ++ (d :: (s ++ [u]))) := ll_turn (s := [v, w]) (t := d :: (s ++ [u])) h
  have r2 : LL ((d :: (s ++ [u])) ++ [w]) = LL ([w] ++ (d :: (s ++ [u]))) := ll_turn (s := [w]) (t := d :: (s ++ [u])) h'
  have e1 : [v, w] ++ (d :: (s ++ [u])) = v :: w :: d :: (s ++ [u]) := rfl
  have e2 : [w] ++ (d :: (s ++ [u])) = w :: d :: (s ++ [u]) := rfl
  rw [e1] at r1
  rw [e2] at r2
  rw [← r1, ← r2]
  obtain ⟨h1, h2, h3, h4⟩ := h
  have hnd := h2
  rw [List.nodup_cons, List.nodup_cons, List.nodup_cons] at hnd
  obtain ⟨q1, q2, q3, q4⟩ := hnd
  have iv := h3 v (by simp)
  have iw := h3 w (by simp)
  have idd := h3 d (by simp)
  have iu := h3 u (by simp)
  have du : d ≠ u := by rintro rfl; exact q3 (by simp)
  have dv : d ≠ v := by rintro rfl; exact q1 (by simp)
  have dw : d ≠ w := by rintro rfl; exact q2 (by simp)
  have te := tri_even hT hd (ht_ne idd iu du) (ht_ne idd iv dv) (ht_ne idd iw dw)
  -- both begin with d and the same neighbour, and end in w
  have par1 : par (pe (s ++ [u] ++ [v, w])) d = (par (pe (s ++ [u])) d != (cu u v d != cu v w d)) := by
    have : s ++ [u] ++ [v, w] = s ++ u :: [v, w] := by simp
    rw [this, pe_split, par_append]
    simp [pe, par]
  have par2 : par (pe (s ++ [u] ++ [w])) d = (par (pe (s ++ [u])) d != cu u w d) := by
    have : s ++ [u] ++ [w] = s ++ u :: [w] := by simp
    rw [this, pe_split, par_append]
    simp [pe, par]
  have L : ∀ (x : Pt) (t r : List Pt), (x :: t) ++ r = x :: (t ++ r) := fun _ _ _ => rfl
  have fin : ∀ (x : Pt) (t : List Pt), s ++ [u] = x :: t → LL (d :: (s ++ [u] ++ [w])) = LL (d :: (s ++ [u] ++ [v, w])) := by
    intro x t e
    have f1 : LL (d :: (x :: t ++ [w])) = ((par (pe (x :: t ++ [w])) d != gg d (lastOf x (t ++ [w])) x) != decide (ht d < ht x)) := rfl
    have f2 : LL (d :: (x :: t ++ [v, w])) = ((par (pe (x :: t ++ [v, w])) d != gg d (lastOf x (t ++ [v, w])) x) != decide (ht d < ht x)) := rfl
    have g1 : lastOf x (t ++ [w]) = w := lastOf_snoc w t x
    have g2 : lastOf x (t ++ [v, w]) = w := by
      have : t ++ [v, w] = (t ++ [v]) ++ [w] := by simp
      rw [this, lastOf_snoc]
    rw [e] at par1 par2 ⊢
    rw [f1, f2, g1, g2, par1, par2, cu_swap w u d]
    revert te
    generalize cu u v d = b1
    generalize cu v w d = b2
    generalize cu w u d = b3
    generalize par (pe (x :: t)) d = b4
    generalize gg d w x = b5
    generalize decide (ht d < ht x) = b6
    cases b1 <;> cases b2 <;> cases b3 <;> cases b4 <;> cases b5 <;> cases b6 <;> decide
  cases hs : s with
  | nil => rw [hs] at fin; exact fin u [] rfl
  | cons x t => rw [hs] at fin; exact fin x (t ++ [u]) rfl
end Go.Proofs.Ytlnbppilafoeoaa.Geo
namespace Go.Proofs.Ytlnbppilafoeoaa.MaGeoB
theorem here : True := trivial
end Go.Proofs.Ytlnbppilafoeoaa.MaGeoB
