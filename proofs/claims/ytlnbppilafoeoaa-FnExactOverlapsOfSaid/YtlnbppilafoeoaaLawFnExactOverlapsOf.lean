/- The row of FnExactOverlapsOf: the call returns true at every input, and its arguments read as before. -/
import Derived.Test.YtlnbppilafoeoaaRows
import Derived.Test.YtlnbppilafoeoaaPureFnExactOverlapsOf
import Derived.Test.YtlnbppilafoeoaaOFnExactOverlapsOf
import Derived.ProofKit
import Derived.OpenShut
import Derived.ShutString
import Derived.ChangeOld
import Derived.Carry
namespace Go.Proofs.Ytlnbppilafoeoaa.fnExactOverlapsOf
open Go.ChangeShapes Go.WideShapes Go.ChangeAt Go.RowKit Go.Proofs.Ytlnbppilafoeoaa.MaOpen Go.Proofs.Ytlnbppilafoeoaa.PFnExactOverlapsOf Go.Proofs.YtlnbppilafoeoaaW.PrintWords
open Go.ChangeMaps (open_string shut_string)
set_option linter.unusedVariables false
theorem own : ownKnob Try.prog.godebug = none := by kernel_rfl
theorem laidOut : laidOutB Try.prog = true := by kernel_rfl
theorem opens_point {H : Type} (enc : TypeId × Value → H) (W : World) : Opens enc Try.prog W 69 k69 (fun x : S69 => (Lit.int .i64 x.f0).wf = true ∧ (Lit.int .i64 x.f1).wf = true) :=
  opens_struct2 (fun x : S69 => (x.f0, x.f1)) (fun p => ⟨p.1, p.2⟩) (fun _ => rfl) Try.underlying69 (opens_int Try.underlying2) (opens_int Try.underlying2) (by kernel_rfl) (by kernel_rfl) rfl rfl (by kernel_rfl)
theorem opens_face {H : Type} (enc : TypeId × Value → H) (W : World) : Opens enc Try.prog W 58 k58 (fun x : S58 => x.f0.size ≤ maxLen ∧ (x.f1.length ≤ maxLen ∧ ∀ y ∈ x.f1, (Lit.int .i64 y).wf = true)) :=
  opens_struct2 (fun x : S58 => (x.f0, x.f1)) (fun p => ⟨p.1, p.2⟩) (fun _ => rfl) Try.underlying58 (opens_string Try.underlying9) (opens_slice 0 2 Try.underlying50 (opens_int Try.underlying2) (by kernel_rfl)) (by kernel_rfl) (by kernel_rfl) rfl rfl (by kernel_rfl)
theorem opens_drawing {H : Type} (enc : TypeId × Value → H) (W : World) : Opens enc Try.prog W 25 (Kd.iso (Kd.pair (Kd.int .i64) (Kd.pair (Kd.int .i64) (Kd.pair (Kd.slice 69 k69) (Kd.slice 58 k58)))) (fun x : Int × Int × List S69 × List S58 => x)) (fun x => (Lit.int .i64 x.1).wf = true ∧ (Lit.int .i64 x.2.1).wf = true ∧ (x.2.2.1.length ≤ maxLen ∧ ∀ y ∈ x.2.2.1, (Lit.int .i64 y.f0).wf = true ∧ (Lit.int .i64 y.f1).wf = true) ∧ (x.2.2.2.length ≤ maxLen ∧ ∀ y ∈ x.2.2.2, y.f0.size ≤ maxLen ∧ (y.f1.length ≤ maxLen ∧ ∀ z ∈ y.f1, (Lit.int .i64 z).wf = true))) :=
  opens_struct4 (fun x => x) (fun x => x) (fun _ => rfl) Try.underlying25 (opens_int Try.underlying2) (opens_int Try.underlying2) (opens_slice z69 69 Try.underlying22 (opens_point enc W) (by kernel_rfl)) (opens_slice z58 58 Try.underlying23 (opens_face enc W) (by kernel_rfl)) (by kernel_rfl) (by kernel_rfl) (by kernel_rfl) (by kernel_rfl) rfl rfl rfl rfl (by kernel_rfl)
set_option maxRecDepth 100000 in
theorem lifted (os : Os) (started : os.Started) (H : Type) (enc : TypeId × Value → H) :
    ReturnsInHanded {} Try.checked os 3 .any (Rows.fnExactOverlapsOfSpec.pre6 enc Try.prog Try.f3 Rows.fnExactOverlapsOfRow.domain false) (Rows.fnExactOverlapsOfSpec.post enc Try.prog Try.f3 false true false false) := by
  refine returnsInHanded_of_change_sized (C := Try.checked) own started (by kernel_rfl) Try.func3
    (ChangeSpec.witness6 (enc := enc) (C := Try.checked) false ⟨#[], #[.agg #[.int .i64 0, .int .i64 0, .slice none 0 0, .slice none 0 0]], []⟩ 8 (by kernel_rfl) (by kernel_rfl) (by kernel_rfl) (by kernel_rfl)) ?_
  intro W base args ds gs before hval0 hW hcnd hsz0 _
  have hsz : (DataW.weightsEach Try.prog (Try.f3.params.toList ++ Rows.fnExactOverlapsOfSpec.plain.varTypes Try.prog) (ds ++ gs)).all (· ≤ reachBytes) = true := hsz0
  have hval : ∀ (j : Nat) t v, Try.f3.params[j]? = some t → args[j]? = some v → Value.okWide Try.prog W .any base t v := hval0
  have hW' := hW
  obtain ⟨p, q, hA0, hV, rfl, hfz, hnd⟩ := hW
  have hA : DataW.TrodAll enc Try.prog W 0 (fun _ => true) true Try.f3.params.toList args.toList ds p := hA0
  rw [Try.params3] at hA hval hsz
  obtain ⟨v0, vs0, d0, ds0, p0, q0, hargs, rfl, rfl, h0, r0⟩ := trodAll_cons hA
  obtain ⟨rfl, rfl, rfl⟩ := trodAll_nil r0
  obtain rfl : args = #[v0] := by cases args; simp_all
  obtain ⟨rfl, rfl⟩ := trodVars_none hV
  have k0 := h0
  have lt0 := lt_of_trod h0
  obtain ⟨cs0, ⟨a0_0, a0_1, a0_2, a0_3⟩, rfl, ⟨_, _, rfl, rfl, _, _, rfl, rfl, _, _, rfl, ⟨A0_2, c0_2, rfl, hl0_2, hC0_2⟩, ⟨A0_3, c0_3, rfl, hl0_3, hC0_3⟩⟩, w0_0, w0_1, w0_2, w0_3⟩ := open_agg Try.underlying25 (opens_drawing enc W) (hval 0 25 v0 rfl rfl) h0
  clear hA0 hval0 hsz0 hsz
  obtain ⟨k, hk⟩ := Pure.FnExactOverlapsOf a0_0 a0_1 a0_2 a0_3 w0_0 w0_1 w0_2.1 w0_2.2 w0_3.1 w0_3.2
  refine (PFnExactOverlapsOf.laws_FnExactOverlapsOf.calls k a0_0 a0_1 A0_2 c0_2 a0_2 A0_3 c0_3 a0_3 W hC0_2 hl0_2 hC0_3 hl0_3 hk).mono fun e W' ⟨he, bel⟩ => ?_
  subst he
  exact ⟨_, rfl, _, _, _, [], _, [], hW', trodAll_mk1 (shut_bool Try.underlying4 _), (trodAll_cons_mk (Below.trod laidOut (by kernel_rfl) (of_decide_eq_true (by kernel_rfl)) k0 bel lt0) trodAll_mk0), rfl, bel.frame _, fun h => by cases h⟩
theorem over : Rows.fnExactOverlapsOfRow.holds Try.pinned (OpenSpec.ofChange Rows.fnExactOverlapsOfSpec) :=
  OpenClaim.holds_of_wide 3 Try.f3 rfl rfl rfl rfl rfl rfl rfl ⟨rfl, rfl, rfl, rfl, rfl⟩ rfl rfl rfl rfl rfl (by kernel_rfl) Try.func3 (by kernel_rfl)
    (of_decide_eq_true (by kernel_rfl)) (by unfold Func.isWrapper; first | (rw [if_pos (by decide +kernel)]; kernel_rfl) | (rw [if_neg (by decide +kernel)]; exact ⟨rfl, rfl⟩))
    (fun os started H enc _ => lifted os started H enc)
theorem proved : Rows.FnExactOverlapsOfSaid := over
#print axioms proved
end Go.Proofs.Ytlnbppilafoeoaa.fnExactOverlapsOf
namespace Go.Proofs.Ytlnbppilafoeoaa
/-- The row, under a short name, for the claim. -/
theorem fnExactOverlapsOf_holds : Rows.FnExactOverlapsOfSaid := fnExactOverlapsOf.proved
end Go.Proofs.Ytlnbppilafoeoaa
