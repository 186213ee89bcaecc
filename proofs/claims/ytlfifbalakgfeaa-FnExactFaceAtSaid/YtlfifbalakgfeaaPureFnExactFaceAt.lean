/- The plain law: what FnExactFaceAt computes is true at every input. -/
import Derived.Test.YtlfifbalakgfeaaLFnExactFaceAtc
namespace Go.Proofs.Ytlfifbalakgfeaa.Pure
open Go.RowKit Go.Proofs.Ytlfifbalakgfeaa.PFnExactFaceAt Go.Proofs.YtlfifbalakgfeaaW.PrintWords Go.Proofs.YtlfifbalakgfeaaW.PrintLast Go.Proofs.YtlfifbalakgfeaaW.PrintMore
set_option linter.unusedVariables false
set_option linter.unusedSimpArgs false

theorem law_tail (w h : Int) (pts : List S46) (fs : List S92) (hp : pts.length ≤ 1048576) (hl : fs.length ≤ 1048576) (hs : ShortF fs) (k : Nat) (hk : 3000001 ≤ k) : laws_FnExactFaceAt.j0 k false w h pts fs w h (conv pts) (convF fs) = some true := by
  obtain ⟨k, rfl⟩ : ∃ m, k = m + 1 := ⟨k - 1, by omega⟩
  simp only [laws_FnExactFaceAt.j0]
  rw [if_neg (by decide), toDrawing_eq w h pts fs hp hl hs k (by omega)]
  simp only [Option.bind_some]
  rw [eqDrawing_self w h pts fs hp hl hs k (by omega)]
  rfl

theorem facesFrom_all (pts : List S48) (fs : List S67) : ∀ (d i : Nat), facesFrom pts fs d i = true → ∀ j, i ≤ j → j < i + d → faceGood pts fs j = true
  | 0, i, _, j, h1, h2 => absurd h2 (by omega)
  | d + 1, i, h, j, h1, h2 => by
    rw [facesFrom_succ, Bool.and_eq_true] at h
    by_cases e : j = i
    · rw [e]
      exact h.1
    · exact facesFrom_all pts fs d (i + 1) h.2 j (by omega) (by omega)
theorem drawB_face {w h : Int} {pts : List S48} {fs : List S67} (hd : drawB w h pts fs = true) (i : Nat) (hi : i < fs.length) : ringOk pts (fs.getD i z67).f1 = true ∧ validB (ringP pts (fs.getD i z67).f1) = true := by
  unfold drawB at hd
  simp only [Bool.and_eq_true] at hd
  have := facesFrom_all pts fs fs.length 0 hd.2.2 i (by omega) (by omega)
  rw [faceGood_eq] at this
  simp only [Bool.and_eq_true] at this
  exact this.2.2
theorem drawB_valid {w h : Int} {pts : List S48} {fs : List S67} (hd : drawB w h pts fs = true) (hs : ShortP fs) (i : Nat) (hi : i < fs.length) : Valid (ringP pts (fs.getD i z67).f1) :=
  ((validB_eq (ringP pts (fs.getD i z67).f1) (by rw [ringP_length]; exact (hs i hi).2) 1000 (Nat.le_refl _)).2.2).1 (drawB_face hd i hi).2
theorem spec_polygon_eq {w h : Int} {pts : List S48} {fs : List S67} (hd : drawB w h pts fs = true) (hp : pts.length ≤ 1048576) (hs : ShortP fs) (i : Nat) (hi : i < fs.length) (k : Nat) (hk : 1048577 ≤ k) : spec_l05Polygon.f k w h pts fs i = some (ringP pts (fs.getD i z67).f1, w, h) := by
  have h2 := (hs i hi).2
  unfold spec_l05Polygon.f
  rw [if_pos (by omega), if_pos (by omega), rdF_nat, spec_ring_eq pts fs w h hp _ h2 k (by omega), if_pos (drawB_face hd i hi).1]
  rfl
theorem impl_polygon_eq {w h : Int} {pts : List S48} {fs : List S67} (hd : drawB w h pts fs = true) (hp : pts.length ≤ 1048576) (hs : ShortP fs) (i : Nat) (hi : i < fs.length) (k : Nat) (hk : 1048577 ≤ k) : impl_facePolygon.f k w h pts fs i = some (ringP pts (fs.getD i z67).f1) := by
  have h2 := (hs i hi).2
  unfold impl_facePolygon.f
  rw [if_pos (by omega), if_pos (by omega), rdF_nat, impl_ring_eq pts hp _ h2 k (by omega), if_pos (drawB_face hd i hi).1]
  rfl

/-- Whether an edge turns the answer. -/
def flip (a1 b1 q1 s : Int) : Bool := (decide (a1 ≤ q1) && (decide (q1 < b1) && decide (0 < s))) || (decide (b1 ≤ q1) && (decide (q1 < a1) && decide (s < 0)))
/-- One edge of a polygon at a point: on it, or whether it turns the answer. -/
def edgeOn (p : List S48) (q0 q1 : Int) (i : Nat) : Bool := onW (p.getD i z48).f0 (p.getD i z48).f1 (p.getD ((i + 1) % p.length) z48).f0 (p.getD ((i + 1) % p.length) z48).f1 q0 q1
def edgeFlip (p : List S48) (q0 q1 : Int) (i : Nat) : Bool := flip (p.getD i z48).f1 (p.getD ((i + 1) % p.length) z48).f1 q1 (sideW (p.getD i z48).f0 (p.getD i z48).f1 (p.getD ((i + 1) % p.length) z48).f0 (p.getD ((i + 1) % p.length) z48).f1 q0 q1)
theorem wneg1 : wrap64 (-1) = -1 := w64 (by omega) (by omega)
theorem wone : wrap64 1 = 1 := w64 (by omega) (by omega)
theorem wzero : wrap64 0 = 0 := w64 (by omega) (by omega)
theorem impl_inside_step (p : List S48) (hn : p.length ≤ 1000000000) (k i : Nat) (hi : i < p.length) (s q0 q1 : Int) : impl_inside.l0 (k + 1) p s p (p.length : Int) i q0 q1 =
    if edgeOn p q0 q1 i = true then some 0 else impl_inside.l0 k p (if edgeFlip p q0 q1 i = true then wrap64 (-s) else s) p (p.length : Int) ((i + 1 : Nat) : Int) q0 q1 := by
  have m1 := Nat.mod_lt (i + 1) (show 0 < p.length by omega)
  simp only [impl_inside.l0]
  rw [if_pos (by omega), if_pos (by omega), if_pos (by omega), if_neg (by omega), tm1 (by omega) hi, if_pos (by omega), if_pos (by omega), rdN, rdN]
  simp only [impl_on_eq, impl_side_eq, Option.bind_some, w1 (show i ≤ 4611686018427387904 by omega)]
  unfold edgeOn edgeFlip flip
  generalize onW (p.getD i z48).f0 (p.getD i z48).f1 (p.getD ((i + 1) % p.length) z48).f0 (p.getD ((i + 1) % p.length) z48).f1 q0 q1 = o
  have h3 := sideW_three (p.getD i z48).f0 (p.getD i z48).f1 (p.getD ((i + 1) % p.length) z48).f0 (p.getD ((i + 1) % p.length) z48).f1 q0 q1
  generalize sideW (p.getD i z48).f0 (p.getD i z48).f1 (p.getD ((i + 1) % p.length) z48).f0 (p.getD ((i + 1) % p.length) z48).f1 q0 q1 = sd at h3 ⊢
  generalize (p.getD i z48).f1 = a1
  generalize (p.getD ((i + 1) % p.length) z48).f1 = b1
  cases o with
  | true => rfl
  | false =>
    simp only [Bool.false_eq_true, if_false]
    by_cases ha : a1 ≤ q1
    · have ha' : ¬ a1 > q1 := by omega
      have ha2 : ¬ q1 < a1 := by omega
      by_cases hb : b1 ≤ q1
      · have hb' : ¬ b1 > q1 := by omega
        have hb2 : ¬ q1 < b1 := by omega
        simp [ha, ha', ha2, hb, hb', hb2]
      · have hb' : b1 > q1 := by omega
        have hb2 : q1 < b1 := by omega
        have hc : ¬ b1 < a1 := by omega
        rcases h3 with rfl | rfl | rfl <;> simp [ha, ha', ha2, hb, hb', hb2, hc]
    · have ha' : a1 > q1 := by omega
      have ha2 : q1 < a1 := by omega
      by_cases hb : b1 ≤ q1
      · have hb' : ¬ b1 > q1 := by omega
        have hb2 : ¬ q1 < b1 := by omega
        have hc : b1 < a1 := by omega
        rcases h3 with rfl | rfl | rfl <;> simp [ha, ha', ha2, hb, hb', hb2, hc, wneg1, wone, wzero]
      · have hb' : b1 > q1 := by omega
        have hb2 : q1 < b1 := by omega
        simp [ha, ha', ha2, hb, hb', hb2]
theorem impl_inside_ends (p : List S48) (hn : p.length ≤ 1000000000) (q0 q1 : Int) : ∀ (d i : Nat) (s : Int), p.length - i ≤ d → ∃ r, ∀ k, d < k → impl_inside.l0 k p s p (p.length : Int) i q0 q1 = some r := by
  intro d
  induction d with
  | zero =>
    intro i s hi
    refine ⟨s, fun k hk => ?_⟩
    obtain ⟨k, rfl⟩ : ∃ m, k = m + 1 := ⟨k - 1, by omega⟩
    simp only [impl_inside.l0]
    rw [if_neg (by omega)]
  | succ d ih =>
    intro i s hi
    by_cases hlt : i < p.length
    · obtain ⟨r, hr⟩ := ih (i + 1) (if edgeFlip p q0 q1 i = true then wrap64 (-s) else s) (by omega)
      refine ⟨if edgeOn p q0 q1 i = true then 0 else r, fun k hk => ?_⟩
      obtain ⟨k, rfl⟩ : ∃ m, k = m + 1 := ⟨k - 1, by omega⟩
      rw [impl_inside_step p hn k i hlt, hr k (by omega)]
      split <;> rfl
    · refine ⟨s, fun k hk => ?_⟩
      obtain ⟨k, rfl⟩ : ∃ m, k = m + 1 := ⟨k - 1, by omega⟩
      simp only [impl_inside.l0]
      rw [if_neg (by omega)]

theorem spec_inside_step (p : List S48) (hn : p.length ≤ 1000000000) (k i : Nat) (hi : i < p.length) (s q0 q1 : Int) : spec_l03Inside.l0 (k + 1) p s i q0 q1 =
    if edgeOn p q0 q1 i = true then some 0 else spec_l03Inside.l0 k p (if edgeFlip p q0 q1 i = true then wrap64 (-s) else s) ((i + 1 : Nat) : Int) q0 q1 := by
  have m1 := Nat.mod_lt (i + 1) (show 0 < p.length by omega)
  simp only [spec_l03Inside.l0]
  rw [if_pos (by omega), if_pos (by omega), if_neg (by omega), tm1 (by omega) hi, if_pos (by omega), if_pos (by omega), rdN, rdN]
  simp only [spec_on_eq, spec_side_eq, Option.bind_some, w1 (show i ≤ 4611686018427387904 by omega)]
  unfold edgeOn edgeFlip flip
  generalize onW (p.getD i z48).f0 (p.getD i z48).f1 (p.getD ((i + 1) % p.length) z48).f0 (p.getD ((i + 1) % p.length) z48).f1 q0 q1 = o
  have h3 := sideW_three (p.getD i z48).f0 (p.getD i z48).f1 (p.getD ((i + 1) % p.length) z48).f0 (p.getD ((i + 1) % p.length) z48).f1 q0 q1
  generalize sideW (p.getD i z48).f0 (p.getD i z48).f1 (p.getD ((i + 1) % p.length) z48).f0 (p.getD ((i + 1) % p.length) z48).f1 q0 q1 = sd at h3 ⊢
  generalize (p.getD i z48).f1 = a1
  generalize (p.getD ((i + 1) % p.length) z48).f1 = b1
  cases o with
  | true => rfl
  | false =>
    simp only [Bool.false_eq_true, if_false]
    by_cases ha : a1 ≤ q1
    · have ha' : ¬ a1 > q1 := by omega
      have ha2 : ¬ q1 < a1 := by omega
      by_cases hb : b1 ≤ q1
      · have hb' : ¬ b1 > q1 := by omega
        have hb2 : ¬ q1 < b1 := by omega
        simp [ha, ha', ha2, hb, hb', hb2]
      · have hb' : b1 > q1 := by omega
        have hb2 : q1 < b1 := by omega
        rcases h3 with rfl | rfl | rfl <;> simp [ha, ha', ha2, hb, hb', hb2]
    · have ha' : a1 > q1 := by omega
      have ha2 : q1 < a1 := by omega
      by_cases hb : b1 ≤ q1
      · have hb' : ¬ b1 > q1 := by omega
        have hb2 : ¬ q1 < b1 := by omega
        rcases h3 with rfl | rfl | rfl <;> simp [ha, ha', ha2, hb, hb', hb2]
      · have hb' : b1 > q1 := by omega
        have hb2 : q1 < b1 := by omega
        simp [ha, ha', ha2, hb, hb', hb2]
theorem inside_lock (p : List S48) (hn : p.length ≤ 1000000000) (q0 q1 : Int) : ∀ (k i : Nat) (s : Int), spec_l03Inside.l0 k p s i q0 q1 = impl_inside.l0 k p s p (p.length : Int) i q0 q1
  | 0, _, _ => rfl
  | k + 1, i, s => by
    by_cases hi : i < p.length
    · rw [spec_inside_step p hn k i hi, impl_inside_step p hn k i hi, inside_lock p hn q0 q1 k]
    · simp only [spec_l03Inside.l0, impl_inside.l0]
      rw [if_neg (by omega), if_neg (by omega)]
theorem inside_eq (p : List S48) (hn : p.length ≤ 1000000000) (q0 q1 : Int) : ∃ r, ∀ k, p.length < k → spec_l03Inside.f k p q0 q1 = some r ∧ impl_inside.f k p q0 q1 = some r := by
  obtain ⟨r, hr⟩ := impl_inside_ends p hn q0 q1 p.length 0 (-1) (by omega)
  refine ⟨r, fun k hk => ⟨?_, hr k hk⟩⟩
  unfold spec_l03Inside.f
  have := inside_lock p hn q0 q1 k 0 (-1)
  simp only [Int.natCast_zero] at this
  rw [this]
  exact hr k hk

theorem at_loop (w h : Int) (pts : List S48) (fs : List S67) (hp : pts.length ≤ 1048576) (hf : fs.length ≤ 1048576) (hs : ShortP fs) (hd : drawB w h pts fs = true) (q0 q1 : Int) : ∀ (d k i : Nat), fs.length - i ≤ d → d + 1050000 ≤ k →
    ∃ r, spec_FaceAt.l0 k i w h pts fs q0 q1 = some r ∧ impl_FaceAt.l0 k (fs.length : Int) i w h pts fs q0 q1 = some r
  | d, 0, i, _, h2 => absurd h2 (by omega)
  | d, k + 1, i, h1, h2 => by
    simp only [spec_FaceAt.l0, impl_FaceAt.l0]
    by_cases hi : i < fs.length
    · have a1 : (i : Int) < fs.length := by omega
      have hd0 : d ≠ 0 := by omega
      have hl := (drawB_valid hd hs i hi).2.1
      simp only [if_pos a1, w1 (show i ≤ 4611686018427387904 by omega)]
      rw [spec_polygon_eq hd hp hs i hi k (by omega), impl_polygon_eq hd hp hs i hi k (by omega)]
      simp only [Option.bind_some]
      obtain ⟨s, hr⟩ := inside_eq (ringP pts (fs.getD i z67).f1) (by omega) q0 q1
      rw [(hr k (by omega)).1, (hr k (by omega)).2]
      simp only [Option.bind_some]
      by_cases c : s ≥ 0
      · simp only [if_pos c]
        exact ⟨_, rfl, rfl⟩
      · simp only [if_neg c]
        exact at_loop w h pts fs hp hf hs hd q0 q1 (d - 1) k (i + 1) (by omega) (by omega)
    · have a1 : ¬ (i : Int) < fs.length := by omega
      simp only [if_neg a1]
      exact ⟨_, rfl, rfl⟩
theorem at_eq (w h : Int) (pts : List S48) (fs : List S67) (q0 q1 : Int) (hp : pts.length ≤ 1048576) (hf : fs.length ≤ 1048576) (hs : ShortP fs) (k : Nat) (hk : 3150001 ≤ k) :
    ∃ r, spec_FaceAt.f k w h pts fs q0 q1 = some r ∧ impl_FaceAt.f k w h pts fs q0 q1 = some r := by
  obtain ⟨k, rfl⟩ : ∃ m, k = m + 1 := ⟨k - 1, by omega⟩
  unfold spec_FaceAt.f impl_FaceAt.f
  rw [spec_draw_eq w h pts fs hp hf hs (k + 1) (by omega), impl_draw_eq w h pts fs hp hf hs (k + 1) (by omega), spec_l02Ok_eq, impl_ValidPoint_eq]
  simp only [Option.bind_some, spec_FaceAt.j0, impl_FaceAt.j0]
  cases hd : drawB w h pts fs with
  | false => exact ⟨(0, 1), rfl, rfl⟩
  | true =>
    obtain ⟨q, e1, e2⟩ := at_loop w h pts fs hp hf hs hd q0 q1 fs.length k 0 (by omega) (by omega)
    simp only [Int.natCast_zero] at e1 e2
    simp only [if_true]
    rw [e1, e2]
    cases okP q0 q1 with
    | false => exact ⟨(0, 1), rfl, rfl⟩
    | true => exact ⟨q, rfl, rfl⟩
theorem FnExactFaceAt (w h : Int) (pts : List S46) (fs : List S92) (q0 q1 : Int) (_ : (Lit.int .i64 w).wf = true) (_ : (Lit.int .i64 h).wf = true) (hp : pts.length ≤ maxLen) (hpg : ∀ x ∈ pts, (Lit.int .i64 x.f0).wf = true ∧ (Lit.int .i64 x.f1).wf = true) (hf : fs.length ≤ maxLen) (hg : ∀ x ∈ fs, x.f0.size ≤ maxLen ∧ (x.f1.length ≤ maxLen ∧ ∀ y ∈ x.f1, (Lit.int .i64 y).wf = true)) (_ : (Lit.int .i64 q0).wf = true) (_ : (Lit.int .i64 q1).wf = true) : ∃ k, laws_FnExactFaceAt.f k w h pts fs q0 q1 = some true := by
  obtain ⟨k, hk⟩ : ∃ k : Nat, fs.length + 3150001 ≤ k := ⟨_, Nat.le_refl _⟩
  refine ⟨k, ?_⟩
  unfold laws_FnExactFaceAt.f laws_toPoint.f
  obtain ⟨r, e1, e2⟩ := szDrawing_eq w h pts fs hp hf hg k (by omega)
  rw [e1, Option.bind_some]
  by_cases c : r < 0
  · rw [if_pos c]
  · rw [if_neg c]
    obtain ⟨h1, h2, h3⟩ := e2 (by omega)
    rw [toDrawing_eq w h pts fs h1 h2 h3 k (by omega)]
    simp only [Option.bind_some]
    obtain ⟨r, e3, e4⟩ := at_eq w h (conv pts) (convF fs) q0 q1 (by rw [conv_length]; exact h1) (by rw [convF_length]; exact h2) (ShortP_conv fs h3) k (by omega)
    rw [e3, e4]
    simp only [Option.bind_some, bne_self_eq_false, if_true]
    exact law_tail w h pts fs h1 h2 h3 k (by omega)

end Go.Proofs.Ytlfifbalakgfeaa.Pure
