/- Plain facts that the proofs of this seat use. -/
/-! Heights, rays, sectors: how often a ray crosses a row of edges. -/
namespace Go.Proofs.Ytlnbppilafoeoaa.Geo
set_option linter.unusedVariables false
set_option linter.unusedSimpArgs false
abbrev Pt := Int × Int
@[irreducible] def cr (a b c : Pt) : Int := (b.1 - a.1) * (c.2 - a.2) - (b.2 - a.2) * (c.1 - a.1)
@[irreducible] def ht (p : Pt) : Int := 100000 * p.2 - p.1
def Btw (a b p : Int) : Prop := (a ≤ p ∧ p ≤ b) ∨ (b ≤ p ∧ p ≤ a)
def On (a b p : Pt) : Prop := cr a b p = 0 ∧ Btw a.1 b.1 p.1 ∧ Btw a.2 b.2 p.2
def Crs (a b c d : Pt) : Prop := cr a b c * cr a b d < 0 ∧ cr c d a * cr c d b < 0
def Touch (a b c d : Pt) : Prop := Crs a b c d ∨ On a b c ∨ On a b d ∨ On c d a ∨ On c d b
theorem btw_of_mul {H P X Y : Int} (h0 : 0 < H) (h1 : 0 ≤ P) (h2 : P ≤ H) (e : H * X = P * Y) : (0 ≤ X ∧ X ≤ Y) ∨ (Y ≤ X ∧ X ≤ 0) := by
 rcases Int.le_total 0 Y with hy | hy;(·left;have a1 : 0 ≤ P * Y := Int.mul_nonneg h1 hy;have a2 : P * Y ≤ H * Y := Int.mul_le_mul_of_nonneg_right h2 hy;exact ⟨Int.le_of_mul_le_mul_left (by omega) h0, Int.le_of_mul_le_mul_left (by omega) h0⟩);(·right;have a1 : P * Y ≤ P * 0 := Int.mul_le_mul_of_nonneg_left hy h1;have a2 : H * Y ≤ P * Y := Int.mul_le_mul_of_nonpos_right h2 hy;exact ⟨Int.le_of_mul_le_mul_left (by omega) h0, Int.le_of_mul_le_mul_left (by omega) h0⟩)
theorem on_of_ht {a b p : Pt} (h : cr a b p = 0) (h1 : ht a ≤ ht p) (h2 : ht p ≤ ht b) (h3 : ht a < ht b) : On a b p := by
 (have e1 : (ht b - ht a) * (p.1 - a.1) = (ht p - ht a) * (b.1 - a.1) := by unfold ht; unfold cr at h; grind);(have e2 : (ht b - ht a) * (p.2 - a.2) = (ht p - ht a) * (b.2 - a.2) := by unfold ht; unfold cr at h; grind);have q1 := btw_of_mul (by omega) (by omega) (by omega) e1;have q2 := btw_of_mul (by omega) (by omega) (by omega) e2;refine ⟨h, ?_, ?_⟩;(·unfold Btw; omega);(·unfold Btw; omega)
theorem cr_swap (a b c : Pt) : cr b a c = - cr a b c := by unfold cr; grind
theorem cr_rot (a b c : Pt) : cr b c a = cr a b c := by unfold cr; grind
theorem cr_flip (a b c : Pt) : cr a c b = - cr a b c := by unfold cr; grind
theorem cr_self1 (a c : Pt) : cr a a c = 0 := by unfold cr; grind
theorem cr_self2 (a c : Pt) : cr a c a = 0 := by unfold cr; grind
theorem cr_self3 (a c : Pt) : cr a c c = 0 := by unfold cr; grind
theorem btw_swap {a b p : Int} (h : Btw a b p) : Btw b a p := by unfold Btw at *; omega
theorem on_swap {a b p : Pt} (h : On a b p) : On b a p := ⟨by rw [cr_swap, h.1]; rfl, btw_swap h.2.1, btw_swap h.2.2⟩
theorem on_swap_iff {a b p : Pt} : On a b p ↔ On b a p := ⟨on_swap, on_swap⟩
theorem crs_swap1 {a b c d : Pt} (h : Crs a b c d) : Crs b a c d := by
 unfold Crs at *; rw [cr_swap a b c, cr_swap a b d]; constructor <;> grind
theorem crs_sym {a b c d : Pt} (h : Crs a b c d) : Crs c d a b := ⟨h.2, h.1⟩
theorem crs_swap2 {a b c d : Pt} (h : Crs a b c d) : Crs a b d c := crs_sym (crs_swap1 (crs_sym h))
theorem touch_sym {a b c d : Pt} (h : Touch a b c d) : Touch c d a b := by
 rcases h with h | h | h | h | h;(·exact .inl (crs_sym h));(·exact .inr (.inr (.inr (.inl h))));(·exact .inr (.inr (.inr (.inr h))));(·exact .inr (.inl h));(·exact .inr (.inr (.inl h)))
theorem touch_swap1 {a b c d : Pt} (h : Touch a b c d) : Touch b a c d := by
 rcases h with h | h | h | h | h;(·exact .inl (crs_swap1 h));(·exact .inr (.inl (on_swap h)));(·exact .inr (.inr (.inl (on_swap h))));(·exact .inr (.inr (.inr (.inr h))));(·exact .inr (.inr (.inr (.inl h))))
theorem touch_swap2 {a b c d : Pt} (h : Touch a b c d) : Touch a b d c := touch_sym (touch_swap1 (touch_sym h))
/-- The ray from q crosses the edge u v. -/
def cu (u v q : Pt) : Bool := (decide (ht q < ht u) != decide (ht q < ht v)) && (if ht u < ht v then decide (0 < cr u v q) else decide (cr u v q < 0))
/-- The ray the other way from u crosses the segment q r. -/
def cl (q r u : Pt) : Bool := (decide (ht q < ht u) != decide (ht r < ht u)) && (if ht q < ht r then decide (cr q r u < 0) else decide (0 < cr q r u))
theorem cu_swap (u v q : Pt) : cu v u q = cu u v q := by
 unfold cu;rw [cr_swap u v q];by_cases h1 : ht u < ht v;(·rw [if_pos h1, if_neg (by omega)];(have e : decide (-cr u v q < 0) = decide (0 < cr u v q) := by apply decide_eq_decide.2; omega);rw [e];congr 1;cases decide (ht q < ht u) <;> cases decide (ht q < ht v) <;> rfl);(·by_cases h2 : ht v < ht u;(·rw [if_neg h1, if_pos h2];(have e : decide (0 < -cr u v q) = decide (cr u v q < 0) := by apply decide_eq_decide.2; omega);rw [e];congr 1;cases decide (ht q < ht u) <;> cases decide (ht q < ht v) <;> rfl);(·(have e : ht u = ht v := by omega);rw [e];simp))
theorem cl_swap (q r u : Pt) : cl r q u = cl q r u := by
 unfold cl;rw [cr_swap q r u];by_cases h1 : ht q < ht r;(·rw [if_pos h1, if_neg (by omega)];(have e : decide (0 < -cr q r u) = decide (cr q r u < 0) := by apply decide_eq_decide.2; omega);rw [e];congr 1;cases decide (ht q < ht u) <;> cases decide (ht r < ht u) <;> rfl);(·by_cases h2 : ht r < ht q;(·rw [if_neg h1, if_pos h2];(have e : decide (-cr q r u < 0) = decide (0 < cr q r u) := by apply decide_eq_decide.2; omega);rw [e];congr 1;cases decide (ht q < ht u) <;> cases decide (ht r < ht u) <;> rfl);(·(have e : ht q = ht r := by omega);rw [e];simp))
/-- The one line behind the shift: a number that is linear in the height. -/
theorem lin (q r u v : Pt) : cr q r u * (ht v - ht u) + cr u v q * (ht r - ht q) = (cr q r v - cr q r u) * (ht u - ht q) := by
 unfold cr ht; grind
theorem cu_pos {u v q : Pt} (h : ht u < ht v) (h1 : ht u < ht q) (h2 : ht q < ht v) : cu u v q = decide (0 < cr u v q) := by
 unfold cu; rw [if_pos h, decide_eq_false (by omega), decide_eq_true h2]; simp
theorem cu_low {u v q : Pt} (h1 : ht q < ht u) (h2 : ht q < ht v) : cu u v q = false := by
 unfold cu; rw [decide_eq_true h1, decide_eq_true h2]; simp
theorem cu_high {u v q : Pt} (h1 : ht u ≤ ht q) (h2 : ht v ≤ ht q) : cu u v q = false := by
 unfold cu; rw [decide_eq_false (by omega), decide_eq_false (by omega)]; simp
theorem cl_pos {q r u : Pt} (h : ht q < ht r) (h1 : ht q < ht u) (h2 : ht u < ht r) : cl q r u = decide (cr q r u < 0) := by
 unfold cl; rw [if_pos h, decide_eq_true h1, decide_eq_false (by omega)]; simp
theorem cl_low {q r u : Pt} (h1 : ht u ≤ ht q) (h2 : ht u ≤ ht r) : cl q r u = false := by
 unfold cl; rw [decide_eq_false (by omega), decide_eq_false (by omega)]; simp
theorem cl_high {q r u : Pt} (h1 : ht q < ht u) (h2 : ht r < ht u) : cl q r u = false := by
 unfold cl; rw [decide_eq_true h1, decide_eq_true h2]; simp
theorem mid {e k x0 x1 x2 x3 t0 t1 t2 t3 : Int} (h01 : t0 < t1) (h12 : t1 < t2) (h23 : t2 < t3) (e0 : x0 = e + k * t0) (e1 : x1 = e + k * t1) (e2 : x2 = e + k * t2) (e3 : x3 = e + k * t3) (n1 : x1 ≠ 0) (n2 : x2 ≠ 0) :
    ((0 < x1 ∧ 0 < x2) ∨ (x1 < 0 ∧ x2 < 0)) ∨ (x0 < 0 ∧ x1 < 0 ∧ 0 < x2 ∧ 0 < x3) ∨ (0 < x0 ∧ 0 < x1 ∧ x2 < 0 ∧ x3 < 0) := by
 (have d01 : x1 - x0 = k * (t1 - t0) := by rw [e0, e1, Int.mul_sub]; omega);(have d12 : x2 - x1 = k * (t2 - t1) := by rw [e1, e2, Int.mul_sub]; omega);(have d23 : x3 - x2 = k * (t3 - t2) := by rw [e2, e3, Int.mul_sub]; omega);clear e0 e1 e2 e3;rcases Int.lt_trichotomy k 0 with hk | hk | hk;(·have p0 := Int.mul_pos (show 0 < -k by omega) (show 0 < t1 - t0 by omega);have p1 := Int.mul_pos (show 0 < -k by omega) (show 0 < t2 - t1 by omega);have p2 := Int.mul_pos (show 0 < -k by omega) (show 0 < t3 - t2 by omega);rw [Int.neg_mul] at p0 p1 p2;omega);(·subst hk;rw [Int.zero_mul] at d01 d12 d23;omega);(·have p0 := Int.mul_pos hk (show 0 < t1 - t0 by omega);have p1 := Int.mul_pos hk (show 0 < t2 - t1 by omega);have p2 := Int.mul_pos hk (show 0 < t3 - t2 by omega);omega)
theorem mul_lt_zero {a b : Int} (h : (a < 0 ∧ 0 < b) ∨ (0 < a ∧ b < 0)) : a * b < 0 := by
 rcases h with ⟨h1, h2⟩ | ⟨h1, h2⟩;(·have := Int.mul_pos (show 0 < -a by omega) h2;grind);(·have := Int.mul_pos h1 (show 0 < -b by omega);grind)
theorem lt_zero_cases {a b : Int} (h : a * b < 0) : (a < 0 ∧ 0 < b) ∨ (0 < a ∧ b < 0) := by
 apply Decidable.byContradiction;intro hn;(have : (0 ≤ a ∧ 0 ≤ b) ∨ (a ≤ 0 ∧ b ≤ 0) := by omega);rcases this with ⟨h1, h2⟩ | ⟨h1, h2⟩;(·have := Int.mul_nonneg h1 h2;omega);(·have := Int.mul_nonneg (show 0 ≤ -a by omega) (show 0 ≤ -b by omega);grind)
theorem pos_iff_mul {a b : Int} (hb : 0 < b) : (0 < a * b ↔ 0 < a) ∧ (a * b < 0 ↔ a < 0) := by
 rcases Int.lt_trichotomy a 0 with h | h | h;(·have := Int.mul_pos (show 0 < -a by omega) hb;constructor <;> grind);(·subst h; simp);(·have := Int.mul_pos h hb;constructor <;> omega)
theorem neg_pos_iff {a b x : Int} (hb : 0 < b) (h : x = -(a * b)) : (0 < x ↔ a < 0) ∧ (x < 0 ↔ 0 < a) ∧ (x = 0 ↔ a = 0) := by
 have := pos_iff_mul (a := a) hb;rcases Int.lt_trichotomy a 0 with c | c | c;(·have := this.2.2 c; omega);(·subst c; rw [Int.zero_mul] at h; omega);(·have := this.1.2 c; omega)
theorem pos_iff' {a b x : Int} (hb : 0 < b) (h : x = a * b) : (0 < x ↔ 0 < a) ∧ (x < 0 ↔ a < 0) ∧ (x = 0 ↔ a = 0) := by
 have := pos_iff_mul (a := a) hb;rcases Int.lt_trichotomy a 0 with c | c | c;(·have := this.2.2 c; omega);(·subst c; rw [Int.zero_mul] at h; omega);(·have := this.1.2 c; omega)
/-- Four numbers, linear in the height, whose signs are those of the four sides. -/
theorem four {q r u v : Pt} (hq : ht q < ht r) (hu : ht u < ht v) : ∃ e k xq xr xu xv : Int, xq = e + k * ht q ∧ xr = e + k * ht r ∧ xu = e + k * ht u ∧ xv = e + k * ht v ∧
    ((0 < xu ↔ cr q r u < 0) ∧ (xu < 0 ↔ 0 < cr q r u) ∧ (xu = 0 ↔ cr q r u = 0)) ∧ ((0 < xv ↔ cr q r v < 0) ∧ (xv < 0 ↔ 0 < cr q r v) ∧ (xv = 0 ↔ cr q r v = 0)) ∧
    ((0 < xq ↔ 0 < cr u v q) ∧ (xq < 0 ↔ cr u v q < 0) ∧ (xq = 0 ↔ cr u v q = 0)) ∧ ((0 < xr ↔ 0 < cr u v r) ∧ (xr < 0 ↔ cr u v r < 0) ∧ (xr = 0 ↔ cr u v r = 0)) := by
 refine ⟨-(cr q r u * (ht v - ht u)) - (cr q r u - cr q r v) * ht u, cr q r u - cr q r v, cr u v q * (ht r - ht q), cr u v r * (ht r - ht q), -(cr q r u * (ht v - ht u)), -(cr q r v * (ht v - ht u)), ?_, ?_, ?_, ?_, neg_pos_iff (by omega) rfl, neg_pos_iff (by omega) rfl, pos_iff' (by omega) rfl, pos_iff' (by omega) rfl⟩;(·unfold cr ht; grind);(·unfold cr ht; grind);(·grind);(·grind)
theorem same_iff {x1 x2 : Int} {p r : Prop} (h1 : 0 < x1 ↔ p) (h2 : 0 < x2 ↔ r) (S : (0 < x1 ∧ 0 < x2) ∨ (x1 < 0 ∧ x2 < 0)) : p ↔ r := by
 rcases S with ⟨a, b⟩ | ⟨a, b⟩;(·exact ⟨fun _ => h2.1 b, fun _ => h1.1 a⟩);(·exact ⟨fun hp => absurd (h1.2 hp) (by omega), fun hr => absurd (h2.2 hr) (by omega)⟩)
theorem dec_eq {a b : Prop} [Decidable a] [Decidable b] (h : a ↔ b) : decide a = decide b := decide_eq_decide.2 h
theorem ord1 {q r u v : Pt} (hq : ht q < ht r) (hu : ht u < ht v) (o0 : ht u < ht q) (o1 : ht q < ht v) (o2 : ht v < ht r) (hn : ¬ Crs q r u v) (a1 : cr u v q ≠ 0) (a2 : cr q r v ≠ 0) : (0 < cr u v q ↔ cr q r v < 0) := by
 obtain ⟨e, k, xq, xr, xu, xv, eq, er, eu, ev, su, sv, sq, sr⟩ := four hq hu;rcases mid o0 o1 o2 eu eq ev er (fun h => a1 (sq.2.2.1 h)) (fun h => a2 (sv.2.2.1 h)) with S | ⟨S0, S1, S2, S3⟩ | ⟨S0, S1, S2, S3⟩;(·exact same_iff sq.1 sv.1 S);(·exact (hn ⟨mul_lt_zero (.inr ⟨su.2.1.1 S0, sv.1.1 S2⟩), mul_lt_zero (.inl ⟨sq.2.1.1 S1, sr.1.1 S3⟩)⟩).elim);(·exact (hn ⟨mul_lt_zero (.inl ⟨su.1.1 S0, sv.2.1.1 S2⟩), mul_lt_zero (.inr ⟨sq.1.1 S1, sr.2.1.1 S3⟩)⟩).elim)
theorem ord2 {q r u v : Pt} (hq : ht q < ht r) (hu : ht u < ht v) (o0 : ht u < ht q) (o1 : ht q < ht r) (o2 : ht r < ht v) (hn : ¬ Crs q r u v) (a1 : cr u v q ≠ 0) (a2 : cr u v r ≠ 0) : (0 < cr u v q ↔ 0 < cr u v r) := by
 obtain ⟨e, k, xq, xr, xu, xv, eq, er, eu, ev, su, sv, sq, sr⟩ := four hq hu;rcases mid o0 o1 o2 eu eq er ev (fun h => a1 (sq.2.2.1 h)) (fun h => a2 (sr.2.2.1 h)) with S | ⟨S0, S1, S2, S3⟩ | ⟨S0, S1, S2, S3⟩;(·exact same_iff sq.1 sr.1 S);(·exact (hn ⟨mul_lt_zero (.inr ⟨su.2.1.1 S0, sv.1.1 S3⟩), mul_lt_zero (.inl ⟨sq.2.1.1 S1, sr.1.1 S2⟩)⟩).elim);(·exact (hn ⟨mul_lt_zero (.inl ⟨su.1.1 S0, sv.2.1.1 S3⟩), mul_lt_zero (.inr ⟨sq.1.1 S1, sr.2.1.1 S2⟩)⟩).elim)
theorem ord3 {q r u v : Pt} (hq : ht q < ht r) (hu : ht u < ht v) (o0 : ht q < ht u) (o1 : ht u < ht v) (o2 : ht v < ht r) (hn : ¬ Crs q r u v) (a1 : cr q r u ≠ 0) (a2 : cr q r v ≠ 0) : (cr q r u < 0 ↔ cr q r v < 0) := by
 obtain ⟨e, k, xq, xr, xu, xv, eq, er, eu, ev, su, sv, sq, sr⟩ := four hq hu;rcases mid o0 o1 o2 eq eu ev er (fun h => a1 (su.2.2.1 h)) (fun h => a2 (sv.2.2.1 h)) with S | ⟨S0, S1, S2, S3⟩ | ⟨S0, S1, S2, S3⟩;(·exact same_iff su.1 sv.1 S);(·exact (hn ⟨mul_lt_zero (.inr ⟨su.2.1.1 S1, sv.1.1 S2⟩), mul_lt_zero (.inl ⟨sq.2.1.1 S0, sr.1.1 S3⟩)⟩).elim);(·exact (hn ⟨mul_lt_zero (.inl ⟨su.1.1 S1, sv.2.1.1 S2⟩), mul_lt_zero (.inr ⟨sq.1.1 S0, sr.2.1.1 S3⟩)⟩).elim)
theorem ord4 {q r u v : Pt} (hq : ht q < ht r) (hu : ht u < ht v) (o0 : ht q < ht u) (o1 : ht u < ht r) (o2 : ht r < ht v) (hn : ¬ Crs q r u v) (a1 : cr q r u ≠ 0) (a2 : cr u v r ≠ 0) : (cr q r u < 0 ↔ 0 < cr u v r) := by
 obtain ⟨e, k, xq, xr, xu, xv, eq, er, eu, ev, su, sv, sq, sr⟩ := four hq hu;rcases mid o0 o1 o2 eq eu er ev (fun h => a1 (su.2.2.1 h)) (fun h => a2 (sr.2.2.1 h)) with S | ⟨S0, S1, S2, S3⟩ | ⟨S0, S1, S2, S3⟩;(·exact same_iff su.1 sr.1 S);(·exact (hn ⟨mul_lt_zero (.inr ⟨su.2.1.1 S1, sv.1.1 S3⟩), mul_lt_zero (.inl ⟨sq.2.1.1 S0, sr.1.1 S2⟩)⟩).elim);(·exact (hn ⟨mul_lt_zero (.inl ⟨su.1.1 S1, sv.2.1.1 S3⟩), mul_lt_zero (.inr ⟨sq.1.1 S0, sr.2.1.1 S2⟩)⟩).elim)
/-- Two segments, both upwards, that do not touch. -/
theorem shift_up {q r u v : Pt} (hq : ht q < ht r) (hu : ht u < ht v) (h1 : ht q ≠ ht u) (h2 : ht q ≠ ht v) (h3 : ht r ≠ ht u) (h4 : ht r ≠ ht v) (hn : ¬ Touch q r u v) :
    (cu u v q != cu u v r) = (cl q r u != cl q r v) := by
 have nc : ¬ Crs q r u v := fun h => hn (.inl h);have n1 : ¬ On q r u := fun h => hn (.inr (.inl h));have n2 : ¬ On q r v := fun h => hn (.inr (.inr (.inl h)));have n3 : ¬ On u v q := fun h => hn (.inr (.inr (.inr (.inl h))));have n4 : ¬ On u v r := fun h => hn (.inr (.inr (.inr (.inr h))));by_cases c1 : ht u < ht q;(·by_cases c2 : ht v < ht q;(·rw [cu_high (by omega) (by omega), cu_high (by omega) (by omega), cl_low (by omega) (by omega), cl_low (by omega) (by omega)]);(·have a1 : cr u v q ≠ 0 := fun e => n3 (on_of_ht e (by omega) (by omega) hu);by_cases c3 : ht v < ht r;(·have a2 : cr q r v ≠ 0 := fun e => n2 (on_of_ht e (by omega) (by omega) hq);rw [cu_pos hu c1 (by omega), cu_high (u := u) (v := v) (q := r) (by omega) (by omega), cl_low (by omega) (by omega), cl_pos hq (by omega) c3];rw [dec_eq (ord1 hq hu c1 (by omega) c3 nc a1 a2)]; cases decide (cr q r v < 0) <;> rfl);(·have a2 : cr u v r ≠ 0 := fun e => n4 (on_of_ht e (by omega) (by omega) hu);rw [cu_pos hu c1 (by omega), cu_pos (u := u) (v := v) (q := r) hu (by omega) (by omega), cl_low (by omega) (by omega), cl_high (by omega) (by omega)];rw [dec_eq (ord2 hq hu c1 hq (by omega) nc a1 a2)]; cases decide (0 < cr u v r) <;> rfl)));(·by_cases c2 : ht r < ht u;(·rw [cu_low (by omega) (by omega), cu_low (by omega) (by omega), cl_high (by omega) (by omega), cl_high (by omega) (by omega)]);(·have a1 : cr q r u ≠ 0 := fun e => n1 (on_of_ht e (by omega) (by omega) hq);by_cases c3 : ht v < ht r;(·have a2 : cr q r v ≠ 0 := fun e => n2 (on_of_ht e (by omega) (by omega) hq);rw [cu_low (u := u) (v := v) (q := q) (by omega) (by omega), cu_high (u := u) (v := v) (q := r) (by omega) (by omega), cl_pos hq (by omega) (by omega), cl_pos hq (by omega) (by omega)];rw [dec_eq (ord3 hq hu (by omega) hu c3 nc a1 a2)]; cases decide (cr q r v < 0) <;> rfl);(·have a2 : cr u v r ≠ 0 := fun e => n4 (on_of_ht e (by omega) (by omega) hu);rw [cu_low (u := u) (v := v) (q := q) (by omega) (by omega), cu_pos (u := u) (v := v) (q := r) hu (by omega) (by omega), cl_pos hq (by omega) (by omega), cl_high (by omega) (by omega)];rw [dec_eq (ord4 hq hu (by omega) (by omega) (by omega) nc a1 a2)]; cases decide (0 < cr u v r) <;> rfl)))
/-- Two segments that do not touch: how often the ray of q and that of r cross the one is told by its ends. -/
theorem shift {q r u v : Pt} (hq : ht q ≠ ht r) (hu : ht u ≠ ht v) (h1 : ht q ≠ ht u) (h2 : ht q ≠ ht v) (h3 : ht r ≠ ht u) (h4 : ht r ≠ ht v) (hn : ¬ Touch q r u v) :
    (cu u v q != cu u v r) = (cl q r u != cl q r v) := by
 rcases Int.lt_or_gt_of_ne hq with a | a <;> rcases Int.lt_or_gt_of_ne hu with b | b;(·exact shift_up a b h1 h2 h3 h4 hn);(·have := shift_up a b h2 h1 h4 h3 (fun h => hn (touch_swap2 h));rw [cu_swap, cu_swap u v r] at this;rw [this];cases cl q r u <;> cases cl q r v <;> rfl);(·have := shift_up a b h3 h4 h1 h2 (fun h => hn (touch_swap1 h));rw [cl_swap, cl_swap q r v] at this;rw [← this];cases cu u v q <;> cases cu u v r <;> rfl);(·have := shift_up a b h4 h3 h2 h1 (fun h => hn (touch_swap1 (touch_swap2 h)));rw [cu_swap, cu_swap u v q, cl_swap, cl_swap q r u] at this;revert this;cases cl q r u <;> cases cl q r v <;> cases cu u v q <;> cases cu u v r <;> simp)
theorem cl_between {a x w : Pt} : cl a x w = ((decide (ht a < ht w) != decide (ht x < ht w)) && (if ht a < ht x then decide (cr a x w < 0) else decide (0 < cr a x w))) := rfl
/-- How the two rays about a count. -/
def gg (a w x : Pt) : Bool := cu a w x != cl a x w
def G (h1 h2 c : Int) : Bool := (decide (0 < h1) && (decide (0 < h2) && decide (0 < c))) || (decide (h1 < 0) && (decide (h2 < 0) && decide (c < 0)))
theorem cu_neg {u v q : Pt} (h : ht v < ht u) (h1 : ht v < ht q) (h2 : ht q < ht u) : cu u v q = decide (cr u v q < 0) := by
 unfold cu; rw [if_neg (by omega), decide_eq_true h2, decide_eq_false (by omega)]; simp
theorem cl_neg {q r u : Pt} (h : ht r < ht q) (h1 : ht r < ht u) (h2 : ht u < ht q) : cl q r u = decide (0 < cr q r u) := by
 unfold cl; rw [if_neg (by omega), decide_eq_false (by omega), decide_eq_true h1]; simp
theorem G_pos {h1 h2 c : Int} (a : 0 < h1) (b : 0 < h2) : G h1 h2 c = decide (0 < c) := by
 unfold G; rw [decide_eq_true a, decide_eq_true b, decide_eq_false (show ¬ h1 < 0 by omega)]; simp
theorem G_neg {h1 h2 c : Int} (a : h1 < 0) (b : h2 < 0) : G h1 h2 c = decide (c < 0) := by
 unfold G; rw [decide_eq_true a, decide_eq_true b, decide_eq_false (show ¬ 0 < h1 by omega)]; simp
theorem G_mix1 {h1 h2 c : Int} (a : 0 < h1) (b : h2 < 0) : G h1 h2 c = false := by
 unfold G; rw [decide_eq_false (show ¬ 0 < h2 by omega), decide_eq_false (show ¬ h1 < 0 by omega)]; simp
theorem G_mix2 {h1 h2 c : Int} (a : h1 < 0) (b : 0 < h2) : G h1 h2 c = false := by
 unfold G; rw [decide_eq_false (show ¬ 0 < h1 by omega), decide_eq_false (show ¬ h2 < 0 by omega)]; simp
theorem gg_eq {a w x : Pt} (h1 : ht a ≠ ht w) (h2 : ht a ≠ ht x) (h3 : ht w ≠ ht x) : gg a w x = G (ht w - ht a) (ht x - ht a) (cr a w x) := by
 unfold gg;have e := cr_flip a w x;by_cases c1 : ht a < ht w;(·by_cases c2 : ht a < ht x;(·rw [G_pos (by omega) (by omega)];by_cases c3 : ht w < ht x;(·rw [cu_high (by omega) (by omega), cl_pos c2 c1 c3, e];have : decide (- cr a w x < 0) = decide (0 < cr a w x) := decide_eq_decide.2 (by omega);rw [this]; simp);(·rw [cu_pos c1 c2 (by omega), cl_high (by omega) (by omega)]; simp));(·rw [G_mix1 (by omega) (by omega), cu_low (by omega) (by omega), cl_high (by omega) (by omega)]; simp));(·by_cases c2 : ht a < ht x;(·rw [G_mix2 (by omega) (by omega), cu_high (by omega) (by omega), cl_low (by omega) (by omega)]; simp);(·rw [G_neg (by omega) (by omega)];by_cases c3 : ht w < ht x;(·rw [cu_neg (by omega) c3 (by omega), cl_low (by omega) (by omega)]; simp);(·rw [cu_low (by omega) (by omega), cl_neg (by omega) (by omega) (by omega), e];have : decide (0 < - cr a w x) = decide (cr a w x < 0) := decide_eq_decide.2 (by omega);rw [this]; simp)))
/-- The cone at a corner: behind the edge to w, ahead of the edge to u, to the left around. -/
def Cone (u a w x : Pt) : Prop := if 0 ≤ cr u a w then (0 < cr a w x ∧ 0 < cr a x u) else ¬ (0 ≤ cr a x w ∧ 0 ≤ cr a u x)
instance (u a w x : Pt) : Decidable (Cone u a w x) := by unfold Cone; exact inferInstance
def ConeI (wu wx ux : Int) : Prop := if 0 ≤ wu then (0 < wx ∧ ux < 0) else ¬ (wx ≤ 0 ∧ 0 ≤ ux)
instance (wu wx ux : Int) : Decidable (ConeI wu wx ux) := by unfold ConeI; exact inferInstance
theorem cone_iff (u a w x : Pt) : Cone u a w x ↔ ConeI (cr a w u) (cr a w x) (cr a u x) := by
 unfold Cone ConeI;rw [← cr_rot u a w, cr_flip a u x, cr_flip a w x];by_cases h : 0 ≤ cr a w u;(·rw [if_pos h, if_pos h]; omega);(·rw [if_neg h, if_neg h]; omega)
theorem mul_sign {h c p : Int} (e : p = h * c) : (0 < h → (0 < p ↔ 0 < c) ∧ (p < 0 ↔ c < 0)) ∧ (h < 0 → (0 < p ↔ c < 0) ∧ (p < 0 ↔ 0 < c)) := by
 refine ⟨fun hh => ?_, fun hh => ?_⟩;(·have := pos_iff_mul (a := c) hh;rw [Int.mul_comm] at this;rw [e]; exact this);(·have := pos_iff_mul (a := c) (show 0 < -h by omega);rw [Int.mul_comm, Int.neg_mul, ← e] at this;omega)
theorem sector_int {hw hu hx wu wx ux : Int} (h0 : hw ≠ 0) (h1 : hu ≠ 0) (h2 : hx ≠ 0) (id : hw * ux - hu * wx + hx * wu = 0)
    (n1 : wu = 0 → (0 < hw ↔ ¬ 0 < hu)) (n2 : wx = 0 → (0 < hw ↔ ¬ 0 < hx)) (n3 : ux = 0 → (0 < hu ↔ ¬ 0 < hx)) :
    (((G hw hx wx != G hu hx ux) != G hu hw (-wu)) != decide (0 < hw)) = !decide (ConeI wu wx ux) := by
  obtain ⟨p, hp⟩ : ∃ p, p = hw * ux := ⟨_, rfl⟩
  obtain ⟨q, hq⟩ : ∃ q, q = hu * wx := ⟨_, rfl⟩
  obtain ⟨r, hr⟩ : ∃ r, r = hx * wu := ⟨_, rfl⟩
  rw [← hp, ← hq, ← hr] at id
  have sp := mul_sign hp
  have sq := mul_sign hq
  have sr := mul_sign hr
  clear hp hq hr
  unfold ConeI
  rcases Int.lt_or_gt_of_ne h0 with a | a <;> rcases Int.lt_or_gt_of_ne h1 with b | b <;> rcases Int.lt_or_gt_of_ne h2 with c | c
  all_goals
    first
    | rw [G_pos a c] | rw [G_neg a c] | rw [G_mix1 a c] | rw [G_mix2 a c]
  all_goals
    first
    | rw [G_pos b c] | rw [G_neg b c] | rw [G_mix1 b c] | rw [G_mix2 b c]
  all_goals
    first
    | rw [G_pos b a] | rw [G_neg b a] | rw [G_mix1 b a] | rw [G_mix2 b a]
  all_goals
    first
    | rw [decide_eq_true a] | rw [decide_eq_false (show ¬ 0 < hw by omega)]
  all_goals
    first
    | replace sp := sp.1 a | replace sp := sp.2 a
  all_goals
    first
    | replace sq := sq.1 b | replace sq := sq.2 b
  all_goals
    first
    | replace sr := sr.1 c | replace sr := sr.2 c
  all_goals
    rcases Int.lt_trichotomy wu 0 with d | d | d <;> rcases Int.lt_trichotomy wx 0 with e | e | e <;> rcases Int.lt_trichotomy ux 0 with f | f | f <;>
    first
    | (exfalso; omega)
    | ((first | have y0 : (0 < wu) = True := eq_true (by omega) | have y0 : (0 < wu) = False := eq_false (by omega))
       (first | have y1 : (wu < 0) = True := eq_true (by omega) | have y1 : (wu < 0) = False := eq_false (by omega))
       (first | have y2 : (0 ≤ wu) = True := eq_true (by omega) | have y2 : (0 ≤ wu) = False := eq_false (by omega))
       (first | have y3 : (0 < -wu) = True := eq_true (by omega) | have y3 : (0 < -wu) = False := eq_false (by omega))
       (first | have y4 : (-wu < 0) = True := eq_true (by omega) | have y4 : (-wu < 0) = False := eq_false (by omega))
       (first | have y5 : (0 < wx) = True := eq_true (by omega) | have y5 : (0 < wx) = False := eq_false (by omega))
       (first | have y6 : (wx < 0) = True := eq_true (by omega) | have y6 : (wx < 0) = False := eq_false (by omega))
       (first | have y7 : (wx ≤ 0) = True := eq_true (by omega) | have y7 : (wx ≤ 0) = False := eq_false (by omega))
       (first | have y8 : (0 < ux) = True := eq_true (by omega) | have y8 : (0 < ux) = False := eq_false (by omega))
       (first | have y9 : (ux < 0) = True := eq_true (by omega) | have y9 : (ux < 0) = False := eq_false (by omega))
       (first | have y10 : (0 ≤ ux) = True := eq_true (by omega) | have y10 : (0 ≤ ux) = False := eq_false (by omega))
       clear id n1 n2 n3 sp sq sr
       simp only [y0, y1, y2, y3, y4, y5, y6, y7, y8, y9, y10]
       decide)
def inB (p : Pt) : Prop := 0 ≤ p.1 ∧ p.1 < 100000
theorem ht_ne {p q : Pt} (hp : inB p) (hq : inB q) (h : p ≠ q) : ht p ≠ ht q := by
 intro e;unfold ht at e;obtain ⟨p1, p2⟩ := p;obtain ⟨q1, q2⟩ := q;unfold inB at hp hq;simp only at e hp hq;(have e2 : p2 = q2 := by omega);(have e1 : p1 = q1 := by omega);exact h (by rw [e1, e2])
def NO (a w x : Pt) : Prop := ¬ On a w x ∧ ¬ On a x w
theorem no_sign {a w x : Pt} (ha : inB a) (hw : inB w) (hx : inB x) (h1 : a ≠ w) (h2 : a ≠ x) (hn : NO a w x) (h : cr a w x = 0) : (0 < ht w - ht a ↔ ¬ 0 < ht x - ht a) := by
 have n1 := ht_ne ha hw h1;have n2 := ht_ne ha hx h2;(have e1 : cr a x w = 0 := by rw [cr_flip, h]; try rfl);constructor;(·intro p q;rcases Int.le_total (ht x) (ht w) with c | c;(·exact hn.1 (on_of_ht h (by omega) c (by omega)));(·exact hn.2 (on_of_ht e1 (by omega) c (by omega))));(·intro q;apply Decidable.byContradiction;intro p;rcases Int.le_total (ht x) (ht w) with c | c;(·exact hn.2 (on_swap (on_of_ht (by rw [cr_swap, e1]; rfl) c (by omega) (by omega))));(·exact hn.1 (on_swap (on_of_ht (by rw [cr_swap, h]; rfl) c (by omega) (by omega)))))
theorem jacobi (a w u x : Pt) : (ht w - ht a) * cr a u x - (ht u - ht a) * cr a w x + (ht x - ht a) * cr a w u = 0 := by
 unfold cr ht; grind
theorem sector {u a w x : Pt} (ha : inB a) (hw : inB w) (hu : inB u) (hx : inB x) (aw : a ≠ w) (au : a ≠ u) (ax : a ≠ x) (wu : w ≠ u) (wx : w ≠ x) (ux : u ≠ x) (n1 : NO a w u) (n2 : NO a w x) (n3 : NO a u x) :
    (((gg a w x != gg a u x) != gg a u w) != decide (ht a < ht w)) = !decide (ConeI (cr a w u) (cr a w x) (cr a u x)) := by
 have haw := ht_ne ha hw aw;have hau := ht_ne ha hu au;have hax := ht_ne ha hx ax;rw [gg_eq haw hax (ht_ne hw hx wx), gg_eq hau hax (ht_ne hu hx ux), gg_eq hau haw (ht_ne hu hw (Ne.symm wu)), cr_flip a w u];have e : decide (ht a < ht w) = decide (0 < ht w - ht a) := decide_eq_decide.2 (by omega);rw [e];exact sector_int (by omega) (by omega) (by omega) (jacobi a w u x) (no_sign ha hw hu aw au n1) (no_sign ha hw hx aw ax n2) (no_sign ha hu hx au ax n3)
/-- At one corner: in and out. -/
theorem corner {a w v : Pt} (ha : inB a) (hw : inB w) (hv : inB v) (wa : w ≠ a) (wv : w ≠ v) (av : a ≠ v) (n : NO w v a) :
    (gg w v a != gg w a v) = (decide (ht a < ht w) != decide (ht w < ht v)) := by
 have h1 := ht_ne hw hv wv;have h2 := ht_ne hw ha wa;have h3 := no_sign hw hv ha wv wa n;rw [gg_eq h1 h2 (ht_ne hv ha (Ne.symm av)), gg_eq h2 h1 (ht_ne ha hv av), cr_flip w v a];rcases Int.lt_or_gt_of_ne h1 with c | c <;> rcases Int.lt_or_gt_of_ne h2 with d | d;(·(have hc : cr w v a ≠ 0 := fun e => by have := h3 e; omega);rw [G_pos (by omega) (by omega), G_pos (by omega) (by omega), decide_eq_false (show ¬ ht a < ht w by omega), decide_eq_true c];rcases Int.lt_or_gt_of_ne hc with e | e;(·rw [decide_eq_false (show ¬ 0 < cr w v a by omega), decide_eq_true (show 0 < - cr w v a by omega)]; try rfl);(·rw [decide_eq_true (show 0 < cr w v a by omega), decide_eq_false (show ¬ 0 < - cr w v a by omega)]; try rfl));(·rw [G_mix1 (by omega) (by omega), G_mix2 (by omega) (by omega), decide_eq_true (show ht a < ht w by omega), decide_eq_true c]; try rfl);(·rw [G_mix2 (by omega) (by omega), G_mix1 (by omega) (by omega), decide_eq_false (show ¬ ht a < ht w by omega), decide_eq_false (show ¬ ht w < ht v by omega)]; try rfl);(·(have hc : cr w v a ≠ 0 := fun e => by have := h3 e; omega);rw [G_neg (by omega) (by omega), G_neg (by omega) (by omega), decide_eq_true (show ht a < ht w by omega), decide_eq_false (show ¬ ht w < ht v by omega)];rcases Int.lt_or_gt_of_ne hc with e | e;(·rw [decide_eq_true (show cr w v a < 0 by omega), decide_eq_false (show ¬ - cr w v a < 0 by omega)]; try rfl);(·rw [decide_eq_false (show ¬ cr w v a < 0 by omega), decide_eq_true (show - cr w v a < 0 by omega)]; try rfl))
/-! ### Rows of edges -/
def par : List (Pt × Pt) → Pt → Bool
  | [], _ => false
  | e :: E, q => cu e.1 e.2 q != par E q
def pe : List Pt → List (Pt × Pt)
  | a :: b :: t => (a, b) :: pe (b :: t)
  | _ => []
def Ed : List Pt → List (Pt × Pt)
  | [] => []
  | a :: t => pe (a :: (t ++ [a]))
def lastOf : Pt → List Pt → Pt
  | w, [] => w
  | _, b :: t => lastOf b t
theorem pe_cons (a b : Pt) (t : List Pt) : pe (a :: b :: t) = (a, b) :: pe (b :: t) := rfl
theorem pe_snoc (a : Pt) : ∀ (t : List Pt) (w : Pt), pe (w :: (t ++ [a])) = pe (w :: t) ++ [(lastOf w t, a)]
  | [], w => rfl
  | b :: t, w => by
    rw [List.cons_append, pe_cons, pe_snoc a t b, pe_cons]
    rfl
theorem par_append (E F : List (Pt × Pt)) (q : Pt) : par (E ++ F) q = (par E q != par F q) := by
 (induction E with |nil => (simp [par]) |cons e E ih => (rw [List.cons_append, par, ih, par]; cases cu e.1 e.2 q <;> cases par E q <;> cases par F q <;> rfl))
theorem lastOf_mem : ∀ (t : List Pt) (w : Pt), lastOf w t ∈ w :: t
  | [], w => by simp [lastOf]
  | b :: t, w => List.mem_cons_of_mem _ (lastOf_mem t b)
theorem lastOf_snoc (a : Pt) : ∀ (t : List Pt) (w : Pt), lastOf w (t ++ [a]) = a
  | [], _ => rfl
  | b :: t, _ => lastOf_snoc a t b
theorem pe_mem : ∀ (l : List Pt) (e : Pt × Pt), e ∈ pe l → e.1 ∈ l ∧ e.2 ∈ l
  | [], _, h => by cases h
  | [_], _, h => by cases h
  | a :: b :: t, e, h => by
    rw [pe_cons] at h
    rcases List.mem_cons.1 h with rfl | h
    · exact ⟨by simp, by simp⟩
    · have := pe_mem (b :: t) e h
      exact ⟨List.mem_cons_of_mem _ this.1, List.mem_cons_of_mem _ this.2⟩
theorem on_self1 (a b : Pt) : On a b a := ⟨cr_self2 a b, by unfold Btw; omega, by unfold Btw; omega⟩
theorem on_self2 (a b : Pt) : On a b b := ⟨cr_self3 a b, by unfold Btw; omega, by unfold Btw; omega⟩
theorem notouch_ne {a x u v : Pt} (h : ¬ Touch a x u v) : a ≠ u ∧ a ≠ v ∧ x ≠ u ∧ x ≠ v := by
 refine ⟨?_, ?_, ?_, ?_⟩;(·rintro rfl; exact h (.inr (.inl (on_self1 _ _))));(·rintro rfl; exact h (.inr (.inr (.inl (on_self1 _ _)))));(·rintro rfl; exact h (.inr (.inl (on_self2 _ _))));(·rintro rfl; exact h (.inr (.inr (.inl (on_self2 _ _)))))
/-- A walk that the segment a x does not touch. -/
theorem walk {a x : Pt} (ha : inB a) (hx : inB x) (hax : a ≠ x) : ∀ (t : List Pt) (w : Pt), (∀ p ∈ w :: t, inB p) → (∀ e ∈ pe (w :: t), e.1 ≠ e.2 ∧ ¬ Touch a x e.1 e.2) →
    (par (pe (w :: t)) a != par (pe (w :: t)) x) = (cl a x w != cl a x (lastOf w t))
  | [], w, _, _ => by simp [pe, par, lastOf]
  | b :: t, w, hb, he => by
    have ih := walk ha hx hax t b (fun p hp => hb p (List.mem_cons_of_mem _ hp)) (fun e h => he e (by rw [pe_cons]; exact List.mem_cons_of_mem _ h))
    obtain ⟨h1, h2⟩ := he (w, b) (by rw [pe_cons]; simp)
    obtain ⟨n1, n2, n3, n4⟩ := notouch_ne h2
    have iw := hb w (by simp)
    have ib := hb b (by simp)
    have s := shift (ht_ne ha hx hax) (ht_ne iw ib h1) (ht_ne ha iw n1) (ht_ne ha ib n2) (ht_ne hx iw n3) (ht_ne hx ib n4) h2
    rw [pe_cons, par, par, lastOf]
    simp only at s ⊢
    revert ih s
    generalize par (pe (b :: t)) a = p1
    generalize par (pe (b :: t)) x = p2
    generalize cu w b a = p3
    generalize cu w b x = p4
    generalize cl a x w = p5
    generalize cl a x b = p6
    generalize cl a x (lastOf b t) = p7
    cases p1 <;> cases p2 <;> cases p3 <;> cases p4 <;> cases p5 <;> cases p6 <;> cases p7 <;> decide
/-! ### Simple polygons -/
def Comp (a b c d : Pt) : Prop := ¬ Crs a b c d ∧ (On a b c → c = a ∨ c = b) ∧ (On a b d → d = a ∨ d = b) ∧ (On c d a → a = c ∨ a = d) ∧ (On c d b → b = c ∨ b = d)
theorem comp_notouch {a b c d : Pt} (h : Comp a b c d) (h1 : a ≠ c) (h2 : a ≠ d) (h3 : b ≠ c) (h4 : b ≠ d) : ¬ Touch a b c d := by
 obtain ⟨k0, k1, k2, k3, k4⟩ := h;rintro (h | h | h | h | h);(·exact k0 h);(·rcases k1 h with e | e;(·exact h1 e.symm);(·exact h3 e.symm));(·rcases k2 h with e | e;(·exact h2 e.symm);(·exact h4 e.symm));(·rcases k3 h with e | e;(·exact h1 e);(·exact h2 e));(·rcases k4 h with e | e;(·exact h3 e);(·exact h4 e))
theorem comp_sym {a b c d : Pt} (h : Comp a b c d) : Comp c d a b := ⟨fun x => h.1 (crs_sym x), h.2.2.2.1, h.2.2.2.2, h.2.1, h.2.2.1⟩
/-- Two edges at a corner lie over one another nowhere. -/
theorem comp_no {a w v : Pt} (h : Comp a w w v) (h1 : a ≠ w) (h2 : w ≠ v) (h3 : a ≠ v) : NO w v a := by
 obtain ⟨_, _, k2, k3, _⟩ := h;refine ⟨fun x => ?_, fun x => ?_⟩;(·rcases k3 x with e | e;(·exact h1 e);(·exact h3 e));(·rcases k2 (on_swap x) with e | e;(·exact h3 e.symm);(·exact h2 e.symm))
def Simple (l : List Pt) : Prop := 3 ≤ l.length ∧ l.Nodup ∧ (∀ p ∈ l, inB p) ∧ ∀ e ∈ Ed l, ∀ f ∈ Ed l, Comp e.1 e.2 f.1 f.2
theorem ed_eq (a w : Pt) (t : List Pt) : Ed (a :: w :: t) = (a, w) :: (pe (w :: t) ++ [(lastOf w t, a)]) := by
 rw [Ed, List.cons_append, pe_cons, pe_snoc]
theorem ed_rot (a : Pt) : ∀ (l : List Pt) (e : Pt × Pt), e ∈ Ed (l ++ [a]) ↔ e ∈ Ed (a :: l)
  | [], e => Iff.rfl
  | w :: t, e => by
    rw [ed_eq, List.cons_append, Ed, pe_snoc, pe_snoc, lastOf_snoc]
    simp only [List.mem_append, List.mem_cons, List.not_mem_nil, or_false]
    constructor
    · rintro ((h | h) | h)
      · exact .inr (.inl h)
      · exact .inr (.inr h)
      · exact .inl h
    · rintro (h | h | h)
      · exact .inr h
      · exact .inl (.inl h)
      · exact .inl (.inr h)
theorem simple_rot {a : Pt} {l : List Pt} (h : Simple (a :: l)) : Simple (l ++ [a]) := by
 obtain ⟨h1, h2, h3, h4⟩ := h;refine ⟨by simpa using h1, ?_, fun p hp => h3 p (by simp at hp ⊢; exact hp.symm), fun e he f hf => h4 e ((ed_rot a l e).1 he) f ((ed_rot a l f).1 hf)⟩;rw [List.nodup_append];rw [List.nodup_cons] at h2;exact ⟨h2.2, by simp, fun x hx y hy => by simp at hy; subst hy; rintro rfl; exact h2.1 hx⟩
theorem pe_ne : ∀ (l : List Pt), l.Nodup → ∀ e ∈ pe l, e.1 ≠ e.2
  | [], _, _, h => by cases h
  | [_], _, _, h => by cases h
  | a :: b :: t, hd, e, h => by
    rw [pe_cons] at h
    rw [List.nodup_cons] at hd
    rcases List.mem_cons.1 h with rfl | h
    · rintro e'
      exact hd.1 (by rw [show a = b from e']; simp)
    · exact pe_ne (b :: t) hd.2 e h
/-- Left of an edge. -/
def LL : List Pt → Bool
  | a :: w :: t => (par (pe (w :: t)) a != gg a (lastOf w t) w) != decide (ht a < ht w)
  | _ => false
theorem gg_def (a w x : Pt) : gg a w x = (cu a w x != cl a x w) := rfl
theorem ll_rot {a : Pt} {l : List Pt} (h : Simple (a :: l)) : LL (l ++ [a]) = LL (a :: l) := by
  obtain ⟨h1, h2, h3, h4⟩ := h
  match l with
  | [] => simp at h1
  | [w] => simp at h1
  | w :: v :: t =>
    have hd := h2
    rw [List.nodup_cons, List.nodup_cons] at hd
    obtain ⟨na, nw, nt⟩ := hd
    have aw : a ≠ w := by rintro rfl; exact na (by simp)
    have av : a ≠ v := by rintro rfl; exact na (by simp)
    have wv : w ≠ v := by rintro rfl; exact nw (by simp)
    have ia := h3 a (by simp)
    have iw := h3 w (by simp)
    have iv := h3 v (by simp)
    have eaw : (a, w) ∈ Ed (a :: w :: v :: t) := by rw [ed_eq]; simp
    have ewv : (w, v) ∈ Ed (a :: w :: v :: t) := by rw [ed_eq, pe_cons]; simp
    -- the walk from v on does not touch a w
    have key := walk ia iw aw t v (fun p hp => h3 p (List.mem_cons_of_mem _ (List.mem_cons_of_mem _ hp))) (fun e he => by
      have hm := pe_mem _ e he
      have hE : e ∈ Ed (a :: w :: v :: t) := by
        rw [ed_eq, pe_cons]
        exact List.mem_cons_of_mem _ (List.mem_append_left _ (List.mem_cons_of_mem _ he))
      refine ⟨pe_ne _ nt e he, comp_notouch (h4 _ eaw _ hE) ?_ ?_ ?_ ?_⟩
      · intro e'; exact na (List.mem_cons_of_mem _ (by rw [show a = e.1 from e']; exact hm.1))
      · intro e'; exact na (List.mem_cons_of_mem _ (by rw [show a = e.2 from e']; exact hm.2))
      · intro e'; exact nw (by rw [show w = e.1 from e']; exact hm.1)
      · intro e'; exact nw (by rw [show w = e.2 from e']; exact hm.2))
    have c := corner ia iw iv (Ne.symm aw) wv av (comp_no (h4 _ eaw _ ewv) aw wv av)
    have e1 : LL (w :: v :: t ++ [a]) = ((par (pe (v :: (t ++ [a]))) w != gg w (lastOf v (t ++ [a])) v) != decide (ht w < ht v)) := rfl
    have e2 : LL (a :: w :: v :: t) = ((par (pe (w :: v :: t)) a != gg a (lastOf w (v :: t)) w) != decide (ht a < ht w)) := rfl
    rw [e1, e2, pe_snoc, par_append, par, par, lastOf_snoc, pe_cons, par, lastOf]
    rw [gg_def w v a, cl_swap a w v] at c
    rw [gg_def a, cu_swap a]
    simp only at key ⊢
    revert key c
    generalize par (pe (v :: t)) a = p1
    generalize par (pe (v :: t)) w = p2
    generalize cl a w v = p3
    generalize cl a w (lastOf v t) = p4
    generalize cu w v a = p5
    generalize cu a (lastOf v t) w = p6
    generalize gg w a v = p7
    generalize decide (ht a < ht w) = p8
    generalize decide (ht w < ht v) = p9
    cases p1 <;> cases p2 <;> cases p3 <;> cases p4 <;> cases p5 <;> cases p6 <;> cases p7 <;> cases p8 <;> cases p9 <;> decide
theorem rot_ind {Pr : List Pt → Prop} (h : ∀ a l, Pr (a :: l) → Pr (l ++ [a])) : ∀ (s t : List Pt), Pr (s ++ t) → Pr (t ++ s)
  | [], t, hp => by simpa using hp
  | a :: s, t, hp => by
    have := h a (s ++ t) hp
    rw [List.append_assoc] at this
    have := rot_ind h s (t ++ [a]) this
    rwa [List.append_assoc] at this
theorem simple_turn {s t : List Pt} (h : Simple (s ++ t)) : Simple (t ++ s) := rot_ind (fun _ _ => simple_rot) s t h
theorem ll_turn {s t : List Pt} (h : Simple (s ++ t)) : LL (t ++ s) = LL (s ++ t) :=
  (rot_ind (Pr := fun l => Simple l ∧ LL l = LL (s ++ t)) (fun _ _ hp => ⟨simple_rot hp.1, (ll_rot hp.1).trans hp.2⟩) s t ⟨h, rfl⟩).2
/-- What a corner of a simple polygon gives. -/
theorem corner_of {a w : Pt} {t : List Pt} (h : Simple (a :: w :: t)) : a ≠ w ∧ a ≠ lastOf w t ∧ w ≠ lastOf w t ∧ inB a ∧ inB w ∧ inB (lastOf w t) ∧ NO a w (lastOf w t) := by
 obtain ⟨h1, h2, h3, h4⟩ := h;have hd := h2;rw [List.nodup_cons] at hd;(have aw : a ≠ w := by rintro rfl; exact hd.1 (by simp));have au : a ≠ lastOf w t := fun e => hd.1 (by rw [e]; exact lastOf_mem t w);(have wu : w ≠ lastOf w t := by (match t with |[] => (simp at h1) |b :: t => (have := hd.2;rw [List.nodup_cons] at this;intro e;exact this.1 (by rw [e]; exact lastOf_mem t b))));(have e1 : (a, w) ∈ Ed (a :: w :: t) := by rw [ed_eq]; simp);(have e2 : (lastOf w t, a) ∈ Ed (a :: w :: t) := by rw [ed_eq]; simp);have := comp_no (h4 _ e2 _ e1) (Ne.symm au) aw (Ne.symm wu);exact ⟨aw, au, wu, h3 a (by simp), h3 w (by simp), h3 _ (List.mem_cons_of_mem _ (lastOf_mem t w)), this⟩
/-- A point that is seen from a corner: whether it lies inside. -/
theorem cone {a w x : Pt} {t : List Pt} (h : Simple (a :: w :: t)) (hx : inB x) (ax : a ≠ x) (hs : ∀ e ∈ pe (w :: t), ¬ Touch a x e.1 e.2) (n2 : NO a w x) (n3 : NO a (lastOf w t) x) :
    par (Ed (a :: w :: t)) x = (LL (a :: w :: t) != !decide (Cone (lastOf w t) a w x)) := by
 obtain ⟨aw, au, wu, ia, iw, iu, n1⟩ := corner_of h;obtain ⟨h1, h2, h3, h4⟩ := h;have hd := h2;rw [List.nodup_cons] at hd;(have wx : w ≠ x := by rintro rfl; exact n2.1 (on_self2 _ _));(have ux : lastOf w t ≠ x := by intro e; rw [e] at n3; exact n3.1 (on_self2 _ _));have key := walk ia hx ax t w (fun p hp => h3 p (List.mem_cons_of_mem _ hp)) (fun e he => ⟨pe_ne _ hd.2 e he, hs e he⟩);have S := sector ia iw iu hx aw au ax wu wx ux n1 n2 n3;have e1 : decide (Cone (lastOf w t) a w x) = decide (ConeI (cr a w (lastOf w t)) (cr a w x) (cr a (lastOf w t) x)) := decide_eq_decide.2 (cone_iff _ _ _ _);rw [e1, ← S, ed_eq, par, par_append, par, par, LL, gg_def a w x, gg_def a (lastOf w t) x, cu_swap a (lastOf w t) x];simp only at key ⊢;revert key;generalize par (pe (w :: t)) a = p1;generalize par (pe (w :: t)) x = p2;generalize cl a x w = p3;generalize cl a x (lastOf w t) = p4;generalize cu a w x = p5;generalize cu a (lastOf w t) x = p6;generalize gg a (lastOf w t) w = p7;generalize decide (ht a < ht w) = p8;cases p1 <;> cases p2 <;> cases p3 <;> cases p4 <;> cases p5 <;> cases p6 <;> cases p7 <;> cases p8 <;> decide
theorem par_top (a : Pt) : ∀ E : List (Pt × Pt), (∀ e ∈ E, ht e.1 ≤ ht a ∧ ht e.2 ≤ ht a) → par E a = false
  | [], _ => rfl
  | e :: E, h => by
    have h1 := h e (by simp)
    rw [par, cu_high h1.1 h1.2, par_top a E (fun f hf => h f (List.mem_cons_of_mem _ hf))]
    rfl
/-- The highest corner tells which way round. -/
theorem ll_top {a w : Pt} {t : List Pt} (h : Simple (a :: w :: t)) (hm : ∀ p ∈ w :: t, ht p ≤ ht a) : LL (a :: w :: t) = decide (0 < cr (lastOf w t) a w) := by
 obtain ⟨aw, au, wu, ia, iw, iu, n1⟩ := corner_of h;obtain ⟨h1, h2, h3, h4⟩ := h;have haw := ht_ne ia iw aw;have hau := ht_ne ia iu au;have m1 := hm w (by simp);have m2 := hm _ (lastOf_mem t w);rw [LL, par_top a _ (fun e he => ⟨hm _ (pe_mem _ e he).1, hm _ (pe_mem _ e he).2⟩), gg_eq hau haw (ht_ne iu iw (Ne.symm wu)), G_neg (by omega) (by omega), decide_eq_false (show ¬ ht a < ht w by omega)];have e : decide (cr a (lastOf w t) w < 0) = decide (0 < cr (lastOf w t) a w) := decide_eq_decide.2 (by rw [cr_swap a]; omega);rw [e];cases decide (0 < cr (lastOf w t) a w) <;> rfl
end Go.Proofs.Ytlnbppilafoeoaa.Geo
namespace Go.Proofs.Ytlnbppilafoeoaa.MaGeoA
theorem here : True := trivial
end Go.Proofs.Ytlnbppilafoeoaa.MaGeoA
