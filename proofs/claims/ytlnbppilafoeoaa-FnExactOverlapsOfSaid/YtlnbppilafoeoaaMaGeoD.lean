/- Plain facts that the proofs of this seat use. -/
import Derived.Test.YtlnbppilafoeoaaMaGeoC
/-! Two triangles on two sides of a line are parted by an edge of one. -/
namespace Go.Proofs.Ytlnbppilafoeoaa.Geo
set_option linter.unusedVariables false
set_option linter.unusedSimpArgs false
def vx (a b : Pt) : Int := a.1 * b.2 - a.2 * b.1
theorem vx_pl (a b c d : Pt) : vx a b * vx c d = vx a c * vx b d - vx a d * vx b c := by unfold vx; grind
theorem vx_sw (a b : Pt) : vx b a = - vx a b := by unfold vx; grind
theorem one_of {k g x y p q : Int} (hk : 0 < k) (hg : 0 ≤ g) (hx : 0 ≤ x) (hy : 0 ≤ y) (hxy : 0 < x ∨ 0 < y) (e : k * g = x * p + y * q) : (0 < x ∧ 0 ≤ p) ∨ (0 < y ∧ 0 ≤ q) := by
 apply Decidable.byContradiction;intro hn;have h0 := mul_pp (show 0 ≤ k by omega) hg;rcases hxy with h | h;(·(have hp : p < 0 := by omega);have m1 := mul_lt_zero (.inr ⟨h, hp⟩);by_cases c : 0 < y;(·have m2 := mul_lt_zero (.inr ⟨c, show q < 0 by omega⟩);omega);(·(have : y = 0 := by omega);rw [this, Int.zero_mul] at e;omega));(·(have hq : q < 0 := by omega);have m1 := mul_lt_zero (.inr ⟨h, hq⟩);by_cases c : 0 < x;(·have m2 := mul_lt_zero (.inr ⟨c, show p < 0 by omega⟩);omega);(·(have : x = 0 := by omega);rw [this, Int.zero_mul] at e;omega))
/-- Two cones with a direction in common: a side of one lies in both, and reaches as far. -/
theorem cones {A B P Q D W : Pt} (hT : 0 < vx B A) (hU : 0 < vx Q P) (x1 : 0 ≤ vx B D) (x2 : 0 ≤ vx D A) (y1 : 0 ≤ vx Q D) (y2 : 0 ≤ vx D P) (hD : D ≠ (0, 0)) (hg : 0 ≤ vx W D) :
    (0 ≤ vx Q A ∧ 0 ≤ vx A P ∧ 0 ≤ vx W A) ∨ (0 ≤ vx Q B ∧ 0 ≤ vx B P ∧ 0 ≤ vx W B) ∨ (0 ≤ vx B P ∧ 0 ≤ vx P A ∧ 0 ≤ vx W P) ∨ (0 ≤ vx B Q ∧ 0 ≤ vx Q A ∧ 0 ≤ vx W Q) := by
  -- what D is made of
  have mk : ∀ X Y Z : Pt, vx X Y * vx Z D = vx D Y * vx Z X + vx X D * vx Z Y := by intro X Y Z; unfold vx; grind
  have mk' : ∀ X Y Z : Pt, vx X Y * vx D Z = vx D Y * vx X Z + vx X D * vx Y Z := by intro X Y Z; unfold vx; grind
  have nz : ∀ X Y : Pt, 0 < vx X Y → 0 ≤ vx X D → 0 ≤ vx D Y → 0 < vx X D ∨ 0 < vx D Y := by
    intro X Y h a b
    apply Decidable.byContradiction
    intro hn
    have e1 : vx X D = 0 := by omega
    have e2 : vx D Y = 0 := by omega
    apply hD
    have q1 : vx X Y * D.1 = 0 := by unfold vx at e1 e2 ⊢; grind
    have q2 : vx X Y * D.2 = 0 := by unfold vx at e1 e2 ⊢; grind
    have r1 := (Int.mul_eq_zero.1 q1).resolve_left (by omega)
    have r2 := (Int.mul_eq_zero.1 q2).resolve_left (by omega)
    exact Prod.ext r1 r2
  have nT := nz B A hT x1 x2
  have nU := nz Q P hU y1 y2
  have nn : ∀ {k c : Int}, 0 < k → 0 ≤ k * c → 0 ≤ c := fun h1 h2 => nn_of_mul h1 h2
  by_cases cx1 : vx B D = 0
  · -- D along B
    right; left
    have hx2 : 0 < vx D A := by omega
    have e1 := mk B A Q
    have e2 := mk' B A P
    have e3 := mk B A W
    rw [cx1, Int.zero_mul, Int.add_zero] at e1 e2 e3
    exact ⟨nn hx2 (by rw [← e1]; exact mul_pp (by omega) y1), nn hx2 (by rw [← e2]; exact mul_pp (by omega) y2), nn hx2 (by rw [← e3]; exact mul_pp (by omega) hg)⟩
  · by_cases cx2 : vx D A = 0
    · left
      have hx1 : 0 < vx B D := by omega
      have e1 := mk B A Q
      have e2 := mk' B A P
      have e3 := mk B A W
      rw [cx2, Int.zero_mul, Int.zero_add] at e1 e2 e3
      exact ⟨nn hx1 (by rw [← e1]; exact mul_pp (by omega) y1), nn hx1 (by rw [← e2]; exact mul_pp (by omega) y2), nn hx1 (by rw [← e3]; exact mul_pp (by omega) hg)⟩
    · by_cases cy1 : vx Q D = 0
      · right; right; right
        have hy2 : 0 < vx D P := by omega
        have e1 := mk Q P B
        have e2 := mk' Q P A
        have e3 := mk Q P W
        rw [cy1, Int.zero_mul, Int.add_zero] at e1 e2 e3
        exact ⟨nn hy2 (by rw [← e1]; exact mul_pp (by omega) x1), nn hy2 (by rw [← e2]; exact mul_pp (by omega) x2), nn hy2 (by rw [← e3]; exact mul_pp (by omega) hg)⟩
      · by_cases cy2 : vx D P = 0
        · right; right; left
          have hy1 : 0 < vx Q D := by omega
          have e1 := mk Q P B
          have e2 := mk' Q P A
          have e3 := mk Q P W
          rw [cy2, Int.zero_mul, Int.zero_add] at e1 e2 e3
          exact ⟨nn hy1 (by rw [← e1]; exact mul_pp (by omega) x1), nn hy1 (by rw [← e2]; exact mul_pp (by omega) x2), nn hy1 (by rw [← e3]; exact mul_pp (by omega) hg)⟩
        · have X1 : 0 < vx B D := by omega
          have X2 : 0 < vx D A := by omega
          have Y1 : 0 < vx Q D := by omega
          have Y2 : 0 < vx D P := by omega
          -- the four products
          have qa := mk B A Q      -- BA * QD = DA * QB + BD * QA
          have bp := mk' B A P     -- BA * DP = DA * BP + BD * AP
          have qa' := mk' Q P A    -- QP * DA = DP * QA + QD * PA
          have bp' := mk Q P B     -- QP * BD = DP * BQ + QD * BP
          have sQB := vx_sw B Q
          have sPA := vx_sw A P
          have m1 := Int.mul_pos hT Y1
          have m2 := Int.mul_pos hT Y2
          have m3 := Int.mul_pos hU X1
          have m4 := Int.mul_pos hU X2
          by_cases c1 : 0 ≤ vx B Q
          · have hQA : 0 < vx Q A := by
              have := mul_pn (show 0 ≤ vx D A by omega) (show vx Q B ≤ 0 by omega)
              exact pos_of_mul X1 (by rw [Int.mul_comm]; omega)
            by_cases c2 : 0 ≤ vx P A
            · have hBP : 0 < vx B P := by
                have := mul_pn (show 0 ≤ vx B D by omega) (show vx A P ≤ 0 by omega)
                exact pos_of_mul X2 (by rw [Int.mul_comm]; omega)
              rcases one_of hU hg y2 y1 (.inl Y2) (mk Q P W) with ⟨_, h⟩ | ⟨_, h⟩
              · exact .inr (.inr (.inr ⟨c1, by omega, h⟩))
              · exact .inr (.inr (.inl ⟨by omega, c2, h⟩))
            · have hAP : 0 < vx A P := by omega
              rcases one_of hQA hg x2 y1 (.inl X2) (mk Q A W) with ⟨_, h⟩ | ⟨_, h⟩
              · exact .inr (.inr (.inr ⟨c1, by omega, h⟩))
              · exact .inl ⟨by omega, by omega, h⟩
          · have hQB : 0 < vx Q B := by omega
            have hBP : 0 < vx B P := by
              have := mul_pn (show 0 ≤ vx D P by omega) (show vx B Q ≤ 0 by omega)
              exact pos_of_mul Y1 (by rw [Int.mul_comm]; omega)
            by_cases c2 : 0 ≤ vx P A
            · rcases one_of hBP hg y2 x1 (.inl Y2) (mk B P W) with ⟨_, h⟩ | ⟨_, h⟩
              · exact .inr (.inl ⟨by omega, by omega, h⟩)
              · exact .inr (.inr (.inl ⟨by omega, c2, h⟩))
            · have hAP : 0 < vx A P := by omega
              have hQA : 0 < vx Q A := by
                have := mul_pn (show 0 ≤ vx Q D by omega) (show vx P A ≤ 0 by omega)
                exact pos_of_mul Y2 (by rw [Int.mul_comm]; omega)
              rcases one_of hT hg x2 x1 (.inl X2) (mk B A W) with ⟨_, h⟩ | ⟨_, h⟩
              · exact .inr (.inl ⟨by omega, by omega, h⟩)
              · exact .inl ⟨by omega, by omega, h⟩
/-- All of a triangle to the right of a line. -/
def Rt (p q a b c : Pt) : Prop := cr p q a ≤ 0 ∧ cr p q b ≤ 0 ∧ cr p q c ≤ 0
def Prt (a b c x y z : Pt) : Prop := Rt a b x y z ∨ Rt b c x y z ∨ Rt c a x y z
def fD (D p : Pt) : Int := vx p D
/-- The corner t of the one that reaches farthest, the corner u of the other that reaches least. -/
theorem sat_at {t t1 t2 u u1 u2 D : Pt} (hT : 0 < cr t t1 t2) (hU : 0 < cr u u1 u2) (hD : D ≠ (0, 0)) (a1 : fD D t1 ≤ fD D t) (a2 : fD D t2 ≤ fD D t) (b1 : fD D u ≤ fD D u1) (b2 : fD D u ≤ fD D u2) (hg : fD D t ≤ fD D u) :
    Prt t t1 t2 u u1 u2 ∨ Prt u u1 u2 t t1 t2 := by
  unfold fD at *
  have K := cones (A := (t1.1 - t.1, t1.2 - t.2)) (B := (t.1 - t2.1, t.2 - t2.2)) (P := (u.1 - u1.1, u.2 - u1.2)) (Q := (u2.1 - u.1, u2.2 - u.2)) (D := D) (W := (u.1 - t.1, u.2 - t.2))
    (by unfold cr at hT; unfold vx; simp only; grind) (by unfold cr at hU; unfold vx; simp only; grind) (by unfold vx at *; simp only; grind) (by unfold vx at *; simp only; grind) (by unfold vx at *; simp only; grind) (by unfold vx at *; simp only; grind) hD (by unfold vx at *; simp only; grind)
  have id1 : cr t t1 u = - vx (u.1 - t.1, u.2 - t.2) (t1.1 - t.1, t1.2 - t.2) := by unfold cr vx; simp only; grind
  have id2 : cr t t1 u1 = - vx (u.1 - t.1, u.2 - t.2) (t1.1 - t.1, t1.2 - t.2) - vx (t1.1 - t.1, t1.2 - t.2) (u.1 - u1.1, u.2 - u1.2) := by unfold cr vx; simp only; grind
  have id3 : cr t t1 u2 = - vx (u.1 - t.1, u.2 - t.2) (t1.1 - t.1, t1.2 - t.2) - vx (u2.1 - u.1, u2.2 - u.2) (t1.1 - t.1, t1.2 - t.2) := by unfold cr vx; simp only; grind
  have id4 : cr t2 t u = - vx (u.1 - t.1, u.2 - t.2) (t.1 - t2.1, t.2 - t2.2) := by unfold cr vx; simp only; grind
  have id5 : cr t2 t u1 = - vx (u.1 - t.1, u.2 - t.2) (t.1 - t2.1, t.2 - t2.2) - vx (t.1 - t2.1, t.2 - t2.2) (u.1 - u1.1, u.2 - u1.2) := by unfold cr vx; simp only; grind
  have id6 : cr t2 t u2 = - vx (u.1 - t.1, u.2 - t.2) (t.1 - t2.1, t.2 - t2.2) - vx (u2.1 - u.1, u2.2 - u.2) (t.1 - t2.1, t.2 - t2.2) := by unfold cr vx; simp only; grind
  have id7 : cr u u1 t = - vx (u.1 - t.1, u.2 - t.2) (u.1 - u1.1, u.2 - u1.2) := by unfold cr vx; simp only; grind
  have id8 : cr u u1 t1 = - vx (u.1 - t.1, u.2 - t.2) (u.1 - u1.1, u.2 - u1.2) - vx (u.1 - u1.1, u.2 - u1.2) (t1.1 - t.1, t1.2 - t.2) := by unfold cr vx; simp only; grind
  have id9 : cr u u1 t2 = - vx (u.1 - t.1, u.2 - t.2) (u.1 - u1.1, u.2 - u1.2) - vx (t.1 - t2.1, t.2 - t2.2) (u.1 - u1.1, u.2 - u1.2) := by unfold cr vx; simp only; grind
  have id10 : cr u2 u t = - vx (u.1 - t.1, u.2 - t.2) (u2.1 - u.1, u2.2 - u.2) := by unfold cr vx; simp only; grind
  have id11 : cr u2 u t1 = - vx (u.1 - t.1, u.2 - t.2) (u2.1 - u.1, u2.2 - u.2) - vx (u2.1 - u.1, u2.2 - u.2) (t1.1 - t.1, t1.2 - t.2) := by unfold cr vx; simp only; grind
  have id12 : cr u2 u t2 = - vx (u.1 - t.1, u.2 - t.2) (u2.1 - u.1, u2.2 - u.2) - vx (t.1 - t2.1, t.2 - t2.2) (u2.1 - u.1, u2.2 - u.2) := by unfold cr vx; simp only; grind
  rcases K with ⟨k1, k2, k3⟩ | ⟨k1, k2, k3⟩ | ⟨k1, k2, k3⟩ | ⟨k1, k2, k3⟩
  · exact .inl (.inl ⟨by omega, by omega, by omega⟩)
  · exact .inl (.inr (.inr ⟨by omega, by omega, by omega⟩))
  · exact .inr (.inl ⟨by omega, by omega, by omega⟩)
  · exact .inr (.inr (.inr ⟨by omega, by omega, by omega⟩))
theorem prt_rot1 {a b c x y z : Pt} (h : Prt b c a x y z) : Prt a b c x y z := by
 rcases h with h | h | h;(·exact .inr (.inl h));(·exact .inr (.inr h));(·exact .inl h)
theorem prt_rot2 {a b c x y z : Pt} (h : Prt a b c y z x) : Prt a b c x y z := by
 rcases h with ⟨h1, h2, h3⟩ | ⟨h1, h2, h3⟩ | ⟨h1, h2, h3⟩;(·exact .inl ⟨h3, h1, h2⟩);(·exact .inr (.inl ⟨h3, h1, h2⟩));(·exact .inr (.inr ⟨h3, h1, h2⟩))
/-- Two triangles on two sides of a line: an edge of one parts them. -/
theorem sat {a b c x y z D : Pt} (hT : 0 < cr a b c) (hU : 0 < cr x y z) (hD : D ≠ (0, 0)) (h : ∀ p q : Pt, p = a ∨ p = b ∨ p = c → q = x ∨ q = y ∨ q = z → fD D p ≤ fD D q) : Prt a b c x y z ∨ Prt x y z a b c := by
  have hT1 : 0 < cr b c a := by rw [cr_rot]; exact hT
  have hT2 : 0 < cr c a b := by rw [cr_rot2]; exact hT
  have hU1 : 0 < cr y z x := by rw [cr_rot]; exact hU
  have hU2 : 0 < cr z x y := by rw [cr_rot2]; exact hU
  -- the farthest corner of the first
  have step : ∀ {a b c : Pt}, 0 < cr a b c → fD D b ≤ fD D a → fD D c ≤ fD D a → (∀ p q : Pt, p = a ∨ p = b ∨ p = c → q = x ∨ q = y ∨ q = z → fD D p ≤ fD D q) → Prt a b c x y z ∨ Prt x y z a b c := by
    intro a b c hT h1 h2 h
    have hx := h a x (.inl rfl) (.inl rfl)
    have hy := h a y (.inl rfl) (.inr (.inl rfl))
    have hz := h a z (.inl rfl) (.inr (.inr rfl))
    by_cases c1 : fD D x ≤ fD D y ∧ fD D x ≤ fD D z
    · exact sat_at hT hU hD h1 h2 c1.1 c1.2 hx
    · by_cases c2 : fD D y ≤ fD D z ∧ fD D y ≤ fD D x
      · rcases sat_at hT hU1 hD h1 h2 c2.1 c2.2 hy with k | k
        · exact .inl (prt_rot2 k)
        · exact .inr (prt_rot1 k)
      · rcases sat_at hT hU2 hD h1 h2 (by omega) (by omega) hz with k | k
        · exact .inl (prt_rot2 (prt_rot2 k))
        · exact .inr (prt_rot1 (prt_rot1 k))
  by_cases c1 : fD D b ≤ fD D a ∧ fD D c ≤ fD D a
  · exact step hT c1.1 c1.2 h
  · by_cases c2 : fD D c ≤ fD D b ∧ fD D a ≤ fD D b
    · rcases step hT1 c2.1 c2.2 (fun p q hp hq => h p q (by rcases hp with k | k | k; exact .inr (.inl k); exact .inr (.inr k); exact .inl k) hq) with k | k
      · exact .inl (prt_rot1 k)
      · exact .inr (prt_rot2 k)
    · rcases step hT2 (by omega) (by omega) (fun p q hp hq => h p q (by rcases hp with k | k | k; exact .inr (.inr k); exact .inl k; exact .inr (.inl k)) hq) with k | k
      · exact .inl (prt_rot1 (prt_rot1 k))
      · exact .inr (prt_rot2 (prt_rot2 k))
end Go.Proofs.Ytlnbppilafoeoaa.Geo
namespace Go.Proofs.Ytlnbppilafoeoaa.MaGeoD
theorem here : True := trivial
end Go.Proofs.Ytlnbppilafoeoaa.MaGeoD
