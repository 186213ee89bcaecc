/- The plain law: what FnExactUncoveredArea computes is true at every input. -/
import Derived.Test.YtlfifbalakgfeaaLFnExactUncoveredAreac
namespace Go.Proofs.Ytlfifbalakgfeaa.Pure
open Go.RowKit Go.Proofs.Ytlfifbalakgfeaa.PFnExactUncoveredArea Go.Proofs.YtlfifbalakgfeaaW.PrintWords Go.Proofs.YtlfifbalakgfeaaW.PrintLast Go.Proofs.YtlfifbalakgfeaaW.PrintMore
set_option linter.unusedVariables false
set_option linter.unusedSimpArgs false

theorem law_tail (w h : Int) (pts : List S46) (fs : List S92) (hp : pts.length ≤ 1048576) (hl : fs.length ≤ 1048576) (hs : ShortF fs) (k : Nat) (hk : 3000001 ≤ k) : laws_FnExactUncoveredArea.j0 k false w h pts fs w h (conv pts) (convF fs) = some true := by
  obtain ⟨k, rfl⟩ : ∃ m, k = m + 1 := ⟨k - 1, by omega⟩
  simp only [laws_FnExactUncoveredArea.j0]
  rw [if_neg (by decide), toDrawing_eq w h pts fs hp hl hs k (by omega)]
  simp only [Option.bind_some]
  rw [eqDrawing_self w h pts fs hp hl hs k (by omega)]
  rfl

theorem facesFrom_all (pts : List S48) (fs : List S67) : ∀ (d i : Nat), facesFrom pts fs d i = true → ∀ j, i ≤ j → j < i + d → faceGood pts fs j = true
  | 0, i, _, j, h1, h2 => absurd h2 (by omega)
  | d + 1, i, h, j, h1, h2 => by
    rw [facesFrom_succ, Bool.and_eq_true] at h
    by_cases e : j = i
    · rw [e]
      exact h.1
    · exact facesFrom_all pts fs d (i + 1) h.2 j (by omega) (by omega)
theorem drawB_face {w h : Int} {pts : List S48} {fs : List S67} (hd : drawB w h pts fs = true) (i : Nat) (hi : i < fs.length) : ringOk pts (fs.getD i z67).f1 = true ∧ validB (ringP pts (fs.getD i z67).f1) = true := by
  unfold drawB at hd
  simp only [Bool.and_eq_true] at hd
  have := facesFrom_all pts fs fs.length 0 hd.2.2 i (by omega) (by omega)
  rw [faceGood_eq] at this
  simp only [Bool.and_eq_true] at this
  exact this.2.2
theorem drawB_valid {w h : Int} {pts : List S48} {fs : List S67} (hd : drawB w h pts fs = true) (hs : ShortP fs) (i : Nat) (hi : i < fs.length) : Valid (ringP pts (fs.getD i z67).f1) :=
  ((validB_eq (ringP pts (fs.getD i z67).f1) (by rw [ringP_length]; exact (hs i hi).2) 1000 (Nat.le_refl _)).2.2).1 (drawB_face hd i hi).2
theorem spec_polygon_eq {w h : Int} {pts : List S48} {fs : List S67} (hd : drawB w h pts fs = true) (hp : pts.length ≤ 1048576) (hs : ShortP fs) (i : Nat) (hi : i < fs.length) (k : Nat) (hk : 1048577 ≤ k) : spec_l05Polygon.f k w h pts fs i = some (ringP pts (fs.getD i z67).f1, w, h) := by
  have h2 := (hs i hi).2
  unfold spec_l05Polygon.f
  rw [if_pos (by omega), if_pos (by omega), rdF_nat, spec_ring_eq pts fs w h hp _ h2 k (by omega), if_pos (drawB_face hd i hi).1]
  rfl
theorem impl_polygon_eq {w h : Int} {pts : List S48} {fs : List S67} (hd : drawB w h pts fs = true) (hp : pts.length ≤ 1048576) (hs : ShortP fs) (i : Nat) (hi : i < fs.length) (k : Nat) (hk : 1048577 ≤ k) : impl_facePolygon.f k w h pts fs i = some (ringP pts (fs.getD i z67).f1) := by
  have h2 := (hs i hi).2
  unfold impl_facePolygon.f
  rw [if_pos (by omega), if_pos (by omega), rdF_nat, impl_ring_eq pts hp _ h2 k (by omega), if_pos (drawB_face hd i hi).1]
  rfl

theorem spec_area_loop {p : List S48} (h : InR p) (hn : p.length ≤ 1000000000) : ∀ (d k i : Nat), i ≤ p.length → p.length - i ≤ d → d < k → spec_l03Area.l0 k p (areaTo p i) i = some (areaTo p p.length)
  | d, 0, i, _, _, h3 => absurd h3 (by omega)
  | d, k + 1, i, h1, h2, h3 => by
    simp only [spec_l03Area.l0]
    by_cases hi : i < p.length
    · have hm := Nat.mod_lt (i + 1) (show 0 < p.length by omega)
      rw [tm1 (by omega) hi, if_pos (by omega), if_neg (by omega), if_pos (by omega), if_pos (by omega), if_pos (by omega), rdN, rdN, crossT_w h, w1 (by omega)]
      have b1 := areaTo_in h i
      have b2 := crossT_in h i
      rw [w64 (x := areaTo p i + crossT p i) (by omega) (by omega)]
      exact spec_area_loop h hn (d - 1) k (i + 1) (by omega) (by omega) (by omega)
    · rw [if_neg (by omega), show i = p.length by omega]
theorem spec_area_eq {p : List S48} (h : InR p) (hn : p.length ≤ 1000000000) (k : Nat) (hk : p.length < k) : spec_l03Area.f k p = some (areaTo p p.length) := by
  unfold spec_l03Area.f
  exact spec_area_loop h hn p.length k 0 (by omega) (by omega) hk

theorem rest_loop (w h : Int) (pts : List S48) (fs : List S67) (hp : pts.length ≤ 1048576) (hf : fs.length ≤ 1048576) (hs : ShortP fs) (hd : drawB w h pts fs = true) : ∀ (d k i : Nat) (a : Int), fs.length - i ≤ d → d + 1050000 ≤ k →
    ∃ q, spec_l05Rest.l0 k a i w h pts fs = some (q, w, h) ∧ impl_uncovered.l0 k a (fs.length : Int) i w h pts fs = some q
  | d, 0, i, a, _, h2 => absurd h2 (by omega)
  | d, k + 1, i, a, h1, h2 => by
    simp only [spec_l05Rest.l0, impl_uncovered.l0]
    by_cases hi : i < fs.length
    · have a1 : (i : Int) < fs.length := by omega
      have hd0 : d ≠ 0 := by omega
      have hv := drawB_valid hd hs i hi
      have hr := inR_of_all hv.2.2.1
      have hl := hv.2.1
      simp only [if_pos a1, w1 (show i ≤ 4611686018427387904 by omega)]
      rw [spec_polygon_eq hd hp hs i hi k (by omega), impl_polygon_eq hd hp hs i hi k (by omega)]
      simp only [Option.bind_some]
      rw [spec_area_eq hr (by omega) k (by omega), impl_doubled_eq hr (by omega) k (by omega)]
      simp only [Option.bind_some]
      exact rest_loop w h pts fs hp hf hs hd (d - 1) k (i + 1) _ (by omega) (by omega)
    · have a1 : ¬ (i : Int) < fs.length := by omega
      simp only [if_neg a1]
      exact ⟨_, rfl, rfl⟩
theorem rest_eq (w h : Int) (pts : List S48) (fs : List S67) (hp : pts.length ≤ 1048576) (hf : fs.length ≤ 1048576) (hs : ShortP fs) (k : Nat) (hk : 3150000 ≤ k) :
    ∃ r, spec_UncoveredArea.f k w h pts fs = some r ∧ impl_UncoveredArea.f k w h pts fs = some r := by
  unfold spec_UncoveredArea.f impl_UncoveredArea.f spec_l05Rest.f impl_uncovered.f
  rw [spec_draw_eq w h pts fs hp hf hs k hk, impl_draw_eq w h pts fs hp hf hs k hk]
  simp only [Option.bind_some]
  cases hd : drawB w h pts fs with
  | false => exact ⟨(0, 1), rfl, rfl⟩
  | true =>
    obtain ⟨q, e1, e2⟩ := rest_loop w h pts fs hp hf hs hd fs.length k 0 (wrap64 (wrap64 (2 * w) * h)) (by omega) (by omega)
    simp only [Int.natCast_zero] at e1 e2
    simp only [if_true]
    rw [e1, e2]
    exact ⟨(q, 0), rfl, rfl⟩
theorem FnExactUncoveredArea (w h : Int) (pts : List S46) (fs : List S92) (_ : (Lit.int .i64 w).wf = true) (_ : (Lit.int .i64 h).wf = true) (hp : pts.length ≤ maxLen) (hpg : ∀ x ∈ pts, (Lit.int .i64 x.f0).wf = true ∧ (Lit.int .i64 x.f1).wf = true) (hf : fs.length ≤ maxLen) (hg : ∀ x ∈ fs, x.f0.size ≤ maxLen ∧ (x.f1.length ≤ maxLen ∧ ∀ y ∈ x.f1, (Lit.int .i64 y).wf = true)) : ∃ k, laws_FnExactUncoveredArea.f k w h pts fs = some true := by
  obtain ⟨k, hk⟩ : ∃ k : Nat, fs.length + 3150001 ≤ k := ⟨_, Nat.le_refl _⟩
  refine ⟨k, ?_⟩
  unfold laws_FnExactUncoveredArea.f
  obtain ⟨r, e1, e2⟩ := szDrawing_eq w h pts fs hp hf hg k (by omega)
  rw [e1, Option.bind_some]
  by_cases c : r < 0
  · rw [if_pos c]
  · rw [if_neg c]
    obtain ⟨h1, h2, h3⟩ := e2 (by omega)
    rw [toDrawing_eq w h pts fs h1 h2 h3 k (by omega)]
    simp only [Option.bind_some]
    obtain ⟨r, e3, e4⟩ := rest_eq w h (conv pts) (convF fs) (by rw [conv_length]; exact h1) (by rw [convF_length]; exact h2) (ShortP_conv fs h3) k (by omega)
    rw [e3, e4]
    simp only [Option.bind_some, bne_self_eq_false, if_true]
    exact law_tail w h pts fs h1 h2 h3 k (by omega)

end Go.Proofs.Ytlfifbalakgfeaa.Pure
