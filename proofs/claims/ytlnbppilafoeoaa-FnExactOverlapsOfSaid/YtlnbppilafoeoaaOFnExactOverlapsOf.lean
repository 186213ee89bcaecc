/- How the arguments of a row are read. -/
import Derived.Test.YtlnbppilafoeoaaVFnExactOverlapsOf
import Derived.ChangeArms
import Derived.WideShapes
import Derived.ChangeSame
import Derived.Deep.Slices
import Derived.Lib.SmallJoins
namespace Go.Proofs.Ytlnbppilafoeoaa.MaOpen
open Go.RowKit Go.ChangeShapes Go.WideShapes Go.Deep Go.Proofs.YtlnbppilafoeoaaW.PrintWords Go.Proofs.YtlnbppilafoeoaaW.PrintLast
set_option linter.unusedVariables false
section
variable {H : Type} {enc : TypeId × Value → H} {P : Program} {w : World}
/-- What is read at the type t is a value of the kind d, of which 'good' holds. -/
def Opens (enc : TypeId × Value → H) (P : Program) (w : World) (t : TypeId) {α : Type} (d : Kd α) (good : α → Prop) : Prop :=
  ∀ (fuel : Nat) (cs : List Value) (x : DataW H × List MemPlace), DataW.trod enc P w 0 (fun _ => true) true fuel t cs = some x → ∃ v, d.K w v cs ∧ good v
theorem opens_int {t : TypeId} {k : IntKind} (ht : P.underlying t = some (.int k)) : Opens enc P w t (Kd.int k) (fun n => (Lit.int k n).wf = true) := by
  intro fuel cs x h
  obtain ⟨n, rfl, _, hw⟩ := DataW.trod_int ht h
  exact ⟨n, rfl, hw⟩
theorem opens_string {t : TypeId} (ht : P.underlying t = some .string) : Opens enc P w t Kd.string (fun s => s.size ≤ maxLen) := by
  intro fuel cs x h
  obtain ⟨s, rfl, _, hw⟩ := DataW.trod_string ht h
  exact ⟨s, rfl, hw⟩
theorem opens_slice_of {t e : TypeId} {α : Type} {d : Kd α} {good : α → Prop} (z : α) (ht : P.underlying t = some (.slice e)) (he : Opens enc P w e d good) {fuel : Nat} {cs : List Value} {x : DataW H × List MemPlace} (hs : d.sz = P.cellsOf e)
    (h : DataW.trod enc P w 0 (fun _ => true) true fuel t cs = some x) : ∃ (A : Option Addr) (c : Nat) (l : List α), cs = [.slice A l.length c] ∧ l.length ≤ c ∧ c ≤ maxLen ∧ d.C w A l.length l ∧ ∀ y ∈ l, good y := by
  rcases open_slice ht h with ⟨rfl, _⟩ | ⟨a, len, cap, m, n, D, Pl, rfl, _, hl, hm, hmm, _, hi⟩
  · exact ⟨none, 0, [], rfl, Nat.le_refl _, by unfold maxLen; omega, ⟨rfl, by simp, fun h => absurd h (by simp)⟩, fun y hy => by simp at hy⟩
  · have key : ∀ i, i < len → ∃ v c, c.length = d.sz ∧ d.K w v c ∧ (∀ j u, c[j]? = some u → w.cell? (a.add (i * d.sz + j)) = some u) ∧ good v := by
      intro i hlt
      obtain ⟨cs', hc, ht'⟩ := hi i (by rw [hmm]; simp; omega)
      obtain ⟨v, hk, hg⟩ := he _ _ _ ht'
      obtain ⟨_, hcl, hat⟩ := World.cells?_some hc
      refine ⟨v, cs', d.K_len hk, hk, fun j u hj => ?_, hg⟩
      obtain ⟨hjl, _⟩ := List.getElem?_eq_some_iff.1 hj
      rw [hs, ← Go.Deep.add_add, hat j (by omega), hj]
    classical
    let f : Nat → α := fun i => if hlt : i < len then (key i hlt).choose else z
    have hf : ∀ i (hlt : i < len), ∃ c, c.length = d.sz ∧ d.K w (f i) c ∧ (∀ j u, c[j]? = some u → w.cell? (a.add (i * d.sz + j)) = some u) ∧ good (f i) := by
      intro i hlt
      have := (key i hlt).choose_spec
      simp only [f, dif_pos hlt]
      exact this
    have hlen : ((List.range len).map f).length = len := by simp
    refine ⟨some a, cap, (List.range len).map f, by rw [hlen], by rw [hlen]; exact hl, hm, ⟨rfl, by rw [hlen]; unfold maxLen at hm; omega, fun _ => ⟨a, rfl, fun j p hj => ?_⟩⟩, fun y hy => ?_⟩
    · obtain ⟨hjl, hp⟩ := List.getElem?_eq_some_iff.1 hj
      rw [hlen] at hjl
      obtain ⟨c, h1, h2, h3, _⟩ := hf j hjl
      simp at hp
      exact ⟨c, h1, by rw [← hp]; exact h2, h3⟩
    · obtain ⟨i, hi', rfl⟩ := List.mem_map.1 hy
      obtain ⟨c, _, _, _, h4⟩ := hf i (by simpa using hi')
      exact h4
theorem opens_slice {t e : TypeId} {α : Type} {d : Kd α} {good : α → Prop} (z : α) (e' : Nat) (ht : P.underlying t = some (.slice e)) (he : Opens enc P w e d good) (hs : d.sz = P.cellsOf e) :
    Opens enc P w t (Kd.slice e' d) (fun l => l.length ≤ maxLen ∧ ∀ y ∈ l, good y) := by
  intro fuel cs x h
  obtain ⟨A, c, l, rfl, hl, hc, hC, hg⟩ := opens_slice_of z ht he hs h
  exact ⟨l, ⟨A, c, rfl, hl, hC⟩, by omega, hg⟩
theorem opens_struct2 {t : TypeId} {α β γ : Type} {f0 f1 : Field} {d0 : Kd α} {d1 : Kd β} {g0 : α → Prop} {g1 : β → Prop} (f : γ → α × β) (g : α × β → γ) (hfg : ∀ p, f (g p) = p) (ht : P.underlying t = some (.struct #[f0, f1])) (h0 : Opens enc P w f0.type d0 g0) (h1 : Opens enc P w f1.type d1 g1)
    (s0 : P.cellsOf f0.type = d0.sz) (s1 : P.cellsOf f1.type = d1.sz) (o0 : f0.offset = 0) (o1 : f1.offset = d0.sz) (hC : P.cellsOf t = d0.sz + d1.sz) : Opens enc P w t (Kd.iso (Kd.pair d0 d1) f) (fun x => g0 (f x).1 ∧ g1 (f x).2) := by
  intro fuel cs x h
  obtain ⟨y0, y1, n, _, hl, e0, e1⟩ := trod_struct2 ht h
  obtain ⟨v0, k0, q0⟩ := h0 _ _ _ e0
  obtain ⟨v1, k1, q1⟩ := h1 _ _ _ e1
  refine ⟨g (v0, v1), ?_, ?_⟩
  · show (Kd.pair d0 d1).K w (f (g (v0, v1))) cs
    rw [hfg]
    refine ⟨_, _, ?_, k0, k1⟩
    rw [o0, s0, o1, s1, List.drop_zero, List.take_of_length_le (l := cs.drop d0.sz) (by rw [List.length_drop]; omega), List.take_append_drop]
  · show g0 (f (g (v0, v1))).1 ∧ g1 (f (g (v0, v1))).2
    rw [hfg]
    exact ⟨q0, q1⟩
theorem opens_struct4 {t : TypeId} {α β γ δ ε : Type} {f0 f1 f2 f3 : Field} {d0 : Kd α} {d1 : Kd β} {d2 : Kd γ} {d3 : Kd δ} {g0 : α → Prop} {g1 : β → Prop} {g2 : γ → Prop} {g3 : δ → Prop} (f : ε → α × β × γ × δ) (g : α × β × γ × δ → ε) (hfg : ∀ p, f (g p) = p)
    (ht : P.underlying t = some (.struct #[f0, f1, f2, f3])) (h0 : Opens enc P w f0.type d0 g0) (h1 : Opens enc P w f1.type d1 g1) (h2 : Opens enc P w f2.type d2 g2) (h3 : Opens enc P w f3.type d3 g3)
    (s0 : P.cellsOf f0.type = d0.sz) (s1 : P.cellsOf f1.type = d1.sz) (s2 : P.cellsOf f2.type = d2.sz) (s3 : P.cellsOf f3.type = d3.sz) (o0 : f0.offset = 0) (o1 : f1.offset = d0.sz) (o2 : f2.offset = d0.sz + d1.sz) (o3 : f3.offset = d0.sz + d1.sz + d2.sz) (hC : P.cellsOf t = d0.sz + d1.sz + d2.sz + d3.sz) :
    Opens enc P w t (Kd.iso (Kd.pair d0 (Kd.pair d1 (Kd.pair d2 d3))) f) (fun x => g0 (f x).1 ∧ g1 (f x).2.1 ∧ g2 (f x).2.2.1 ∧ g3 (f x).2.2.2) := by
  intro fuel cs x h
  obtain ⟨y0, y1, y2, y3, n, _, hl, e0, e1, e2, e3⟩ := Go.Joins.trod_struct4 ht h
  obtain ⟨v0, k0, q0⟩ := h0 _ _ _ e0
  obtain ⟨v1, k1, q1⟩ := h1 _ _ _ e1
  obtain ⟨v2, k2, q2⟩ := h2 _ _ _ e2
  obtain ⟨v3, k3, q3⟩ := h3 _ _ _ e3
  refine ⟨g (v0, v1, v2, v3), ?_, ?_⟩
  · show (Kd.pair d0 (Kd.pair d1 (Kd.pair d2 d3))).K w (f (g (v0, v1, v2, v3))) cs
    rw [hfg]
    refine ⟨_, _, ?_, k0, _, _, rfl, k1, _, _, rfl, k2, k3⟩
    rw [o0, s0, o1, s1, o2, s2, o3, s3, List.drop_zero, List.take_of_length_le (l := cs.drop (d0.sz + d1.sz + d2.sz)) (by rw [List.length_drop]; omega)]
    rw [show cs.drop (d0.sz + d1.sz + d2.sz) = ((cs.drop d0.sz).drop d1.sz).drop d2.sz by simp [Nat.add_assoc], show cs.drop (d0.sz + d1.sz) = (cs.drop d0.sz).drop d1.sz by simp, List.take_append_drop, List.take_append_drop, List.take_append_drop]
  · show g0 (f (g (v0, v1, v2, v3))).1 ∧ g1 (f (g (v0, v1, v2, v3))).2.1 ∧ g2 (f (g (v0, v1, v2, v3))).2.2.1 ∧ g3 (f (g (v0, v1, v2, v3))).2.2.2
    rw [hfg]
    exact ⟨q0, q1, q2, q3⟩
/-- A struct by value: its cells. -/
theorem open_agg {t : TypeId} {fs : Array Field} {α : Type} {d : Kd α} {good : α → Prop} {r : Reach} {base : Nat} {v : Value} {x : DataW H} {p : List MemPlace} (ht : P.underlying t = some (.struct fs)) (hd : Opens enc P w t d good)
    (hv : Value.okWide P w r base t v) (h : DataW.Trod enc P w 0 (fun _ => true) true t v x p) : ∃ (cs : List Value) (y : α), v = .agg ⟨cs⟩ ∧ d.K w y cs ∧ good y := by
  obtain ⟨cs, rfl, _⟩ := okWide_struct ht hv
  obtain ⟨fuel, hf⟩ := h
  obtain ⟨y, hk, hg⟩ := hd _ _ _ hf
  obtain ⟨cs⟩ := cs
  exact ⟨cs, y, rfl, hk, hg⟩
/-- A slice by value. -/
theorem open_row {t e : TypeId} {α : Type} {d : Kd α} {good : α → Prop} (z : α) {r : Reach} {base : Nat} {v : Value} {x : DataW H} {p : List MemPlace} (ht : P.underlying t = some (.slice e)) (he : Opens enc P w e d good) (hs : d.sz = P.cellsOf e)
    (hv : Value.okWide P w r base t v) (h : DataW.Trod enc P w 0 (fun _ => true) true t v x p) : ∃ (A : Option Addr) (c : Nat) (l : List α), v = .slice A l.length c ∧ l.length ≤ c ∧ c ≤ maxLen ∧ d.C w A l.length l ∧ ∀ y ∈ l, good y := by
  obtain ⟨a, n, c, rfl⟩ := okWide_slice ht hv
  obtain ⟨fuel, hf⟩ := h
  obtain ⟨A, c', l, hcs, h1, h2, h3, h4⟩ := opens_slice_of z ht he hs hf
  simp [Value.cells] at hcs
  obtain ⟨rfl, rfl, rfl⟩ := hcs
  exact ⟨_, _, l, rfl, h1, h2, h3, h4⟩
theorem lt_of_trod {spare : Nat → Bool} {t : TypeId} {v : Value} {x : DataW H} {p : List MemPlace} (h : DataW.Trod enc P w 0 spare true t v x p) : ∀ y ∈ p, y.block < w.heap.size := by
  obtain ⟨m, hm⟩ := h
  exact DataW.trod_lt m _ _ _ hm
end
end Go.Proofs.Ytlnbppilafoeoaa.MaOpen
