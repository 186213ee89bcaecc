/- The plain law: what FnExactValidDrawing computes is true at every input. -/
import Derived.Test.YtlfifbalakgfeaaLFnExactValidDrawingc
namespace Go.Proofs.Ytlfifbalakgfeaa.Pure
open Go.RowKit Go.Proofs.Ytlfifbalakgfeaa.PFnExactValidDrawing Go.Proofs.YtlfifbalakgfeaaW.PrintWords Go.Proofs.YtlfifbalakgfeaaW.PrintLast Go.Proofs.YtlfifbalakgfeaaW.PrintMore
set_option linter.unusedVariables false
set_option linter.unusedSimpArgs false

theorem FnExactValidDrawing (w h : Int) (pts : List S46) (fs : List S92) (_ : (Lit.int .i64 w).wf = true) (_ : (Lit.int .i64 h).wf = true) (hp : pts.length ≤ maxLen) (hpg : ∀ x ∈ pts, (Lit.int .i64 x.f0).wf = true ∧ (Lit.int .i64 x.f1).wf = true) (hf : fs.length ≤ maxLen) (hg : ∀ x ∈ fs, x.f0.size ≤ maxLen ∧ (x.f1.length ≤ maxLen ∧ ∀ y ∈ x.f1, (Lit.int .i64 y).wf = true)) : ∃ k, laws_FnExactValidDrawing.f k w h pts fs = some true := by
  obtain ⟨k, hk⟩ : ∃ k : Nat, fs.length + 3150000 ≤ k := ⟨_, Nat.le_refl _⟩
  refine ⟨k, ?_⟩
  unfold laws_FnExactValidDrawing.f spec_ValidDrawing.f
  obtain ⟨r, e1, e2⟩ := szDrawing_eq w h pts fs hp hf hg k (by omega)
  rw [e1, Option.bind_some]
  by_cases c : r < 0
  · rw [if_pos c]
  · rw [if_neg c]
    obtain ⟨h1, h2, h3⟩ := e2 (by omega)
    have hs := ShortP_conv fs h3
    rw [toDrawing_eq w h pts fs h1 h2 h3 k (by omega)]
    simp only [Option.bind_some]
    rw [spec_draw_eq w h (conv pts) (convF fs) (by rw [conv_length]; exact h1) (by rw [convF_length]; exact h2) hs k (by omega), impl_draw_eq w h (conv pts) (convF fs) (by rw [conv_length]; exact h1) (by rw [convF_length]; exact h2) hs k (by omega)]
    simp only [Option.bind_some, bne_self_eq_false, Bool.false_eq_true, if_false]
    rw [eqDrawing_self w h pts fs h1 h2 h3 k (by omega)]
    rfl

end Go.Proofs.Ytlfifbalakgfeaa.Pure
