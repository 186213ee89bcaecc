/- Plain facts that the proofs of this seat use. -/
namespace Go.Proofs.Ytkobmkdjmpnojaa.MaHull
theorem sq0 (a : Int) : 0 ≤ a * a := by
  rcases Int.le_total 0 a with h | h
  · exact Int.mul_nonneg h h
  · have := Int.mul_nonneg (show 0 ≤ -a by omega) (show 0 ≤ -a by omega)
    rwa [Int.neg_mul_neg] at this
theorem sqp {a : Int} (h : a ≠ 0) : 0 < a * a := by
  rcases Int.lt_or_gt_of_ne h with h | h
  · have := Int.mul_pos (show 0 < -a by omega) (show 0 < -a by omega)
    rwa [Int.neg_mul_neg] at this
  · exact Int.mul_pos h h
theorem nonneg_of {a b : Int} (ha : 0 < a) (h : 0 ≤ a * b) : 0 ≤ b := by
  by_cases hb : 0 ≤ b
  · exact hb
  · have := Int.mul_neg_of_pos_of_neg ha (show b < 0 by omega)
    omega
theorem pos_of {a b : Int} (ha : 0 < a) (h : 0 < a * b) : 0 < b := by
  by_cases hb : 0 < b
  · exact hb
  · have := Int.mul_nonpos_of_nonneg_of_nonpos (show 0 ≤ a by omega) (show b ≤ 0 by omega)
    omega
/-- A vector of the half plane: above the line, or on its right half. -/
def Up (s t : Int) : Prop := 0 ≤ s ∧ (s = 0 → 0 < t)
theorem tr_nn {su tu sv tv sw tw : Int} (hu : Up su tu) (hv : Up sv tv) (hw : Up sw tw) (h1 : 0 ≤ tu * sv - su * tv) (h2 : 0 ≤ tv * sw - sv * tw) : 0 ≤ tu * sw - su * tw := by
  have id3 : sw * (tu * sv - su * tv) + su * (tv * sw - sv * tw) = sv * (tu * sw - su * tw) := by grind
  by_cases hz : sv = 0
  · have htv := hv.2 hz
    subst hz
    have e : 0 ≤ tv * (-su) := by grind
    have : 0 ≤ -su := nonneg_of htv e
    have hsu : su = 0 := by have := hu.1; omega
    have htu := hu.2 hsu
    subst hsu
    have := Int.mul_nonneg (show 0 ≤ tu by omega) hw.1
    grind
  · have hp : 0 < sv := by have := hv.1; omega
    refine nonneg_of hp ?_
    rw [← id3]
    have a1 := Int.mul_nonneg hw.1 h1
    have a2 := Int.mul_nonneg hu.1 h2
    omega
theorem tr_pn {su tu sv tv sw tw : Int} (hu : Up su tu) (hv : Up sv tv) (hw : Up sw tw) (h1 : 0 < tu * sv - su * tv) (h2 : 0 ≤ tv * sw - sv * tw) : 0 < tu * sw - su * tw := by
  have id3 : sw * (tu * sv - su * tv) + su * (tv * sw - sv * tw) = sv * (tu * sw - su * tw) := by grind
  by_cases hz : sv = 0
  · have htv := hv.2 hz
    subst hz
    exfalso
    have a1 := Int.mul_nonneg hu.1 (show 0 ≤ tv by omega)
    have : tu * 0 = 0 := Int.mul_zero _
    omega
  · have hp : 0 < sv := by have := hv.1; omega
    by_cases hw0 : sw = 0
    · have htw := hw.2 hw0
      subst hw0
      exfalso
      have a1 := Int.mul_pos hp htw
      have : tv * 0 = 0 := Int.mul_zero _
      omega
    · have hwp : 0 < sw := by have := hw.1; omega
      refine pos_of hp ?_
      rw [← id3]
      have a1 := Int.mul_pos hwp h1
      have a2 := Int.mul_nonneg hu.1 h2
      omega
theorem tr_np {su tu sv tv sw tw : Int} (hu : Up su tu) (hv : Up sv tv) (hw : Up sw tw) (h1 : 0 ≤ tu * sv - su * tv) (h2 : 0 < tv * sw - sv * tw) : 0 < tu * sw - su * tw := by
  have id3 : sw * (tu * sv - su * tv) + su * (tv * sw - sv * tw) = sv * (tu * sw - su * tw) := by grind
  by_cases hz : sv = 0
  · have htv := hv.2 hz
    subst hz
    have e : 0 ≤ tv * (-su) := by grind
    have : 0 ≤ -su := nonneg_of htv e
    have hsu : su = 0 := by have := hu.1; omega
    have htu := hu.2 hsu
    subst hsu
    have h3 : 0 < tv * sw := by grind
    have := Int.mul_pos htu (pos_of htv h3)
    grind
  · have hp : 0 < sv := by have := hv.1; omega
    have hswp : 0 < sw := by
      by_cases hw0 : sw = 0
      · have htw := hw.2 hw0
        subst hw0
        exfalso
        have a1 := Int.mul_pos hp htw
        have : tv * 0 = 0 := Int.mul_zero _
        omega
      · have := hw.1; omega
    by_cases hu0 : su = 0
    · have htu := hu.2 hu0
      subst hu0
      have := Int.mul_pos htu hswp
      grind
    · have hup : 0 < su := by have := hu.1; omega
      refine pos_of hp ?_
      rw [← id3]
      have a1 := Int.mul_nonneg hw.1 h1
      have a2 := Int.mul_pos hup h2
      omega
/-- A cone of vectors without opposite ones: by a direction and a sign. -/
def Cone (dx dy e ux uy : Int) : Prop := Up (dx * uy - dy * ux) (e * (dx * ux + dy * uy))
def cr (ux uy vx vy : Int) : Int := ux * vy - uy * vx
section
variable {dx dy e ux uy vx vy wx wy : Int}
theorem cr_g (he : e = 1 ∨ e = -1) : (dx * dx + dy * dy) * cr ux uy vx vy = e * ((e * (dx * ux + dy * uy)) * (dx * vy - dy * vx) - (dx * uy - dy * ux) * (e * (dx * vx + dy * vy))) := by
  unfold cr
  rcases he with rfl | rfl <;> grind
theorem c_nn (he : e = 1 ∨ e = -1) (hd : 0 < dx * dx + dy * dy) (hu : Cone dx dy e ux uy) (hv : Cone dx dy e vx vy) (hw : Cone dx dy e wx wy) (h1 : 0 ≤ cr ux uy vx vy) (h2 : 0 ≤ cr vx vy wx wy) : 0 ≤ cr ux uy wx wy := by
  have g1 := cr_g (dx := dx) (dy := dy) (e := e) (ux := ux) (uy := uy) (vx := vx) (vy := vy) he
  have g2 := cr_g (dx := dx) (dy := dy) (e := e) (ux := vx) (uy := vy) (vx := wx) (vy := wy) he
  have g3 := cr_g (dx := dx) (dy := dy) (e := e) (ux := ux) (uy := uy) (vx := wx) (vy := wy) he
  have p1 := Int.mul_nonneg (Int.le_of_lt hd) h1
  have p2 := Int.mul_nonneg (Int.le_of_lt hd) h2
  refine nonneg_of hd ?_
  rw [g1] at p1
  rw [g2] at p2
  rw [g3]
  unfold Cone at hu hv hw
  generalize dx * uy - dy * ux = su at *
  generalize e * (dx * ux + dy * uy) = tu at *
  generalize dx * vy - dy * vx = sv at *
  generalize e * (dx * vx + dy * vy) = tv at *
  generalize dx * wy - dy * wx = sw at *
  generalize e * (dx * wx + dy * wy) = tw at *
  rcases he with rfl | rfl
  · have := tr_nn hu hv hw (by omega) (by omega)
    omega
  · have e1 : tw * sv - sw * tv = -(tv * sw - sv * tw) := by grind
    have e2 : tv * su - sv * tu = -(tu * sv - su * tv) := by grind
    have e3 : tw * su - sw * tu = -(tu * sw - su * tw) := by grind
    have := tr_nn hw hv hu (by omega) (by omega)
    omega
theorem c_pn (he : e = 1 ∨ e = -1) (hd : 0 < dx * dx + dy * dy) (hu : Cone dx dy e ux uy) (hv : Cone dx dy e vx vy) (hw : Cone dx dy e wx wy) (h1 : 0 < cr ux uy vx vy) (h2 : 0 ≤ cr vx vy wx wy) : 0 < cr ux uy wx wy := by
  have g1 := cr_g (dx := dx) (dy := dy) (e := e) (ux := ux) (uy := uy) (vx := vx) (vy := vy) he
  have g2 := cr_g (dx := dx) (dy := dy) (e := e) (ux := vx) (uy := vy) (vx := wx) (vy := wy) he
  have g3 := cr_g (dx := dx) (dy := dy) (e := e) (ux := ux) (uy := uy) (vx := wx) (vy := wy) he
  have p1 := Int.mul_pos hd h1
  have p2 := Int.mul_nonneg (Int.le_of_lt hd) h2
  refine pos_of hd ?_
  rw [g1] at p1
  rw [g2] at p2
  rw [g3]
  unfold Cone at hu hv hw
  generalize dx * uy - dy * ux = su at *
  generalize e * (dx * ux + dy * uy) = tu at *
  generalize dx * vy - dy * vx = sv at *
  generalize e * (dx * vx + dy * vy) = tv at *
  generalize dx * wy - dy * wx = sw at *
  generalize e * (dx * wx + dy * wy) = tw at *
  rcases he with rfl | rfl
  · have := tr_pn hu hv hw (by omega) (by omega)
    omega
  · have e1 : tw * sv - sw * tv = -(tv * sw - sv * tw) := by grind
    have e2 : tv * su - sv * tu = -(tu * sv - su * tv) := by grind
    have e3 : tw * su - sw * tu = -(tu * sw - su * tw) := by grind
    have := tr_np hw hv hu (by omega) (by omega)
    omega
theorem c_np (he : e = 1 ∨ e = -1) (hd : 0 < dx * dx + dy * dy) (hu : Cone dx dy e ux uy) (hv : Cone dx dy e vx vy) (hw : Cone dx dy e wx wy) (h1 : 0 ≤ cr ux uy vx vy) (h2 : 0 < cr vx vy wx wy) : 0 < cr ux uy wx wy := by
  have g1 := cr_g (dx := dx) (dy := dy) (e := e) (ux := ux) (uy := uy) (vx := vx) (vy := vy) he
  have g2 := cr_g (dx := dx) (dy := dy) (e := e) (ux := vx) (uy := vy) (vx := wx) (vy := wy) he
  have g3 := cr_g (dx := dx) (dy := dy) (e := e) (ux := ux) (uy := uy) (vx := wx) (vy := wy) he
  have p1 := Int.mul_nonneg (Int.le_of_lt hd) h1
  have p2 := Int.mul_pos hd h2
  refine pos_of hd ?_
  rw [g1] at p1
  rw [g2] at p2
  rw [g3]
  unfold Cone at hu hv hw
  generalize dx * uy - dy * ux = su at *
  generalize e * (dx * ux + dy * uy) = tu at *
  generalize dx * vy - dy * vx = sv at *
  generalize e * (dx * vx + dy * vy) = tv at *
  generalize dx * wy - dy * wx = sw at *
  generalize e * (dx * wx + dy * wy) = tw at *
  rcases he with rfl | rfl
  · have := tr_np hu hv hw (by omega) (by omega)
    omega
  · have e1 : tw * sv - sw * tv = -(tv * sw - sv * tw) := by grind
    have e2 : tv * su - sv * tu = -(tu * sv - su * tv) := by grind
    have e3 : tw * su - sw * tu = -(tu * sw - su * tw) := by grind
    have := tr_pn hw hv hu (by omega) (by omega)
    omega
/-- Vectors of a cone on one line have one direction. -/
theorem c_dot (he : e = 1 ∨ e = -1) (hd : 0 < dx * dx + dy * dy) (hu : Cone dx dy e ux uy) (hv : Cone dx dy e vx vy) (h : cr ux uy vx vy = 0) : 0 < ux * vx + uy * vy := by
  have g1 := cr_g (dx := dx) (dy := dy) (e := e) (ux := ux) (uy := uy) (vx := vx) (vy := vy) he
  have g2 : (dx * dx + dy * dy) * (ux * vx + uy * vy) = (e * (dx * ux + dy * uy)) * (e * (dx * vx + dy * vy)) + (dx * uy - dy * ux) * (dx * vy - dy * vx) := by
    rcases he with rfl | rfl <;> grind
  rw [h, Int.mul_zero] at g1
  refine pos_of hd ?_
  rw [g2]
  unfold Cone at hu hv
  generalize dx * uy - dy * ux = su at *
  generalize e * (dx * ux + dy * uy) = tu at *
  generalize dx * vy - dy * vx = sv at *
  generalize e * (dx * vx + dy * vy) = tv at *
  have g3 : tu * sv - su * tv = 0 := by
    rcases he with rfl | rfl <;> omega
  by_cases h0 : su = 0
  · have htu := hu.2 h0
    subst h0
    have : tu * sv = 0 := by grind
    have hsv : sv = 0 := by
      rcases Int.mul_eq_zero.1 this with h | h
      · omega
      · exact h
    have htv := hv.2 hsv
    subst hsv
    have := Int.mul_pos htu htv
    omega
  · have hsu : 0 < su := by have := hu.1; omega
    by_cases h1 : sv = 0
    · have htv := hv.2 h1
      subst h1
      exfalso
      have := Int.mul_pos hsu htv
      have : tu * 0 = 0 := Int.mul_zero _
      omega
    · have hsv : 0 < sv := by have := hv.1; omega
      have a1 := Int.mul_pos hsu hsv
      have a2 : 0 ≤ tu * tv := by
        refine nonneg_of hsv ?_
        have : sv * (tu * tv) = su * (tv * tv) := by grind
        rw [this]
        exact Int.mul_nonneg (by omega) (sq0 tv)
      omega
end
/-- Two vertices with one successor: a, b, c. (u = b - a, v = c - a) -/
theorem one_before (ux uy vx vy : Int) (hc : cr vx vy ux uy = 0) (h1 : 0 < ux * vx + uy * vy) (h2 : 0 < (-ux) * (vx - ux) + (-uy) * (vy - uy)) (h3 : ux * ux + uy * uy ≤ vx * vx + vy * vy) (hu : 0 < ux * ux + uy * uy) : False := by
  unfold cr at hc
  have lag : (ux * vx + uy * vy) * (ux * vx + uy * vy) = (ux * ux + uy * uy) * (vx * vx + vy * vy) - (vx * uy - vy * ux) * (vx * uy - vy * ux) := by grind
  rw [hc, Int.mul_zero, Int.sub_zero] at lag
  have h2' : ux * vx + uy * vy < ux * ux + uy * uy := by grind
  generalize ux * vx + uy * vy = d at *
  generalize ux * ux + uy * uy = p at *
  generalize vx * vx + vy * vy = q at *
  have a1 : d * d < p * p := by
    have b1 : d * d ≤ d * p := Int.mul_le_mul_of_nonneg_left (by omega) (by omega)
    have b2 : d * p < p * p := Int.mul_lt_mul_of_pos_right h2' hu
    omega
  have a2 : p * p ≤ p * q := Int.mul_le_mul_of_nonneg_left h3 (by omega)
  omega
end Go.Proofs.Ytkobmkdjmpnojaa.MaHull
