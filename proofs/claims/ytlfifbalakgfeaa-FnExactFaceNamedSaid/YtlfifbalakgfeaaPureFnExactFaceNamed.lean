/- The plain law: what FnExactFaceNamed computes is true at every input. -/
import Derived.Test.YtlfifbalakgfeaaLFnExactFaceNamedc
namespace Go.Proofs.Ytlfifbalakgfeaa.Pure
open Go.RowKit Go.Proofs.Ytlfifbalakgfeaa.PFnExactFaceNamed Go.Proofs.YtlfifbalakgfeaaW.PrintWords Go.Proofs.YtlfifbalakgfeaaW.PrintLast Go.Proofs.YtlfifbalakgfeaaW.PrintMore
set_option linter.unusedVariables false
set_option linter.unusedSimpArgs false

theorem law_tail (w h : Int) (pts : List S46) (fs : List S92) (hp : pts.length ≤ 1048576) (hl : fs.length ≤ 1048576) (hs : ShortF fs) (k : Nat) (hk : 3000001 ≤ k) : laws_FnExactFaceNamed.j0 k false w h pts fs w h (conv pts) (convF fs) = some true := by
  obtain ⟨k, rfl⟩ : ∃ m, k = m + 1 := ⟨k - 1, by omega⟩
  simp only [laws_FnExactFaceNamed.j0]
  rw [if_neg (by decide), toDrawing_eq w h pts fs hp hl hs k (by omega)]
  simp only [Option.bind_some]
  rw [eqDrawing_self w h pts fs hp hl hs k (by omega)]
  rfl

theorem find_loop (w h : Int) (pts : List S48) (fs : List S67) (s : ByteArray) (hf : fs.length ≤ 1048576) : ∀ (d k i : Nat), fs.length - i ≤ d → d < k →
    ∃ q, spec_l05Find.l0 k s i w h pts fs = some (q, w, h) ∧ impl_FaceNamed.l0 k s fs (fs.length : Int) i = some (if q < 0 then (0, 3) else (q, 0))
  | d, 0, i, _, h2 => absurd h2 (by omega)
  | d, k + 1, i, h1, h2 => by
    simp only [spec_l05Find.l0, impl_FaceNamed.l0]
    by_cases hi : i < fs.length
    · have a1 : (i : Int) < fs.length := by omega
      have a2 : (0 : Int) ≤ i := by omega
      simp only [if_pos a1, if_pos a2, rdF_nat, w1 (show i ≤ 4611686018427387904 by omega)]
      by_cases e : (fs.getD i z67).f0.toList = s.toList
      · simp only [if_pos e]
        exact ⟨i, rfl, by rw [if_neg (by omega)]⟩
      · simp only [if_neg e]
        exact find_loop w h pts fs s hf (d - 1) k (i + 1) (by omega) (by omega)
    · have a1 : ¬ (i : Int) < fs.length := by omega
      simp only [if_neg a1]
      exact ⟨-1, rfl, rfl⟩
theorem named_eq (w h : Int) (pts : List S48) (fs : List S67) (s : ByteArray) (hp : pts.length ≤ 1048576) (hf : fs.length ≤ 1048576) (hs : ShortP fs) (k : Nat) (hk : 3150000 ≤ k) :
    ∃ r, spec_FaceNamed.f k w h pts fs s = some r ∧ impl_FaceNamed.f k w h pts fs s = some r := by
  obtain ⟨q, e1, e2⟩ := find_loop w h pts fs s hf fs.length k 0 (by omega) (by omega)
  simp only [Int.natCast_zero] at e1 e2
  unfold spec_FaceNamed.f impl_FaceNamed.f spec_l05Find.f
  rw [spec_draw_eq w h pts fs hp hf hs k hk, impl_draw_eq w h pts fs hp hf hs k hk]
  simp only [Option.bind_some]
  cases drawB w h pts fs with
  | false => exact ⟨(0, 1), rfl, rfl⟩
  | true =>
    simp only [if_true]
    rw [e1, e2]
    refine ⟨_, ?_, rfl⟩
    by_cases c : q < 0
    · simp [c]
    · simp [c]
theorem FnExactFaceNamed (w h : Int) (pts : List S46) (fs : List S92) (s : ByteArray) (_ : (Lit.int .i64 w).wf = true) (_ : (Lit.int .i64 h).wf = true) (hp : pts.length ≤ maxLen) (hpg : ∀ x ∈ pts, (Lit.int .i64 x.f0).wf = true ∧ (Lit.int .i64 x.f1).wf = true) (hf : fs.length ≤ maxLen) (hg : ∀ x ∈ fs, x.f0.size ≤ maxLen ∧ (x.f1.length ≤ maxLen ∧ ∀ y ∈ x.f1, (Lit.int .i64 y).wf = true)) (hz : s.size ≤ 140737488351232) : ∃ k, laws_FnExactFaceNamed.f k w h pts fs s = some true := by
  obtain ⟨k, hk⟩ : ∃ k : Nat, fs.length + 3150001 ≤ k := ⟨_, Nat.le_refl _⟩
  refine ⟨k, ?_⟩
  unfold laws_FnExactFaceNamed.f
  by_cases hs1 : (s.size : Int) > 1048576
  · rw [if_pos hs1]
  · rw [if_neg hs1]
    obtain ⟨r, e1, e2⟩ := szDrawing_eq w h pts fs hp hf hg k (by omega)
    rw [e1, Option.bind_some]
    by_cases c : r < 0
    · rw [if_pos c]
    · rw [if_neg c]
      obtain ⟨h1, h2, h3⟩ := e2 (by omega)
      rw [toDrawing_eq w h pts fs h1 h2 h3 k (by omega)]
      simp only [Option.bind_some]
      obtain ⟨r, e3, e4⟩ := named_eq w h (conv pts) (convF fs) s (by rw [conv_length]; exact h1) (by rw [convF_length]; exact h2) (ShortP_conv fs h3) k (by omega)
      rw [e3, e4]
      simp only [Option.bind_some, bne_self_eq_false, if_true]
      exact law_tail w h pts fs h1 h2 h3 k (by omega)

end Go.Proofs.Ytlfifbalakgfeaa.Pure
