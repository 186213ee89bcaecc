/- The row of FnExactJoinPolygons: the call returns true at every input, and its arguments read as before. -/
import Derived.Test.YtlcfdfphldjolaaRows
import Derived.Test.YtlcfdfphldjolaaPureFnExactJoinPolygons
import Derived.Test.YtlcfdfphldjolaaOFnExactJoinPolygons
import Derived.ProofKit
import Derived.OpenShut
import Derived.ShutString
import Derived.ChangeOld
import Derived.Carry
namespace Go.Proofs.Ytlcfdfphldjolaa.fnExactJoinPolygons
open Go.ChangeShapes Go.WideShapes Go.ChangeAt Go.RowKit Go.Proofs.Ytlcfdfphldjolaa.MaOpen Go.Proofs.Ytlcfdfphldjolaa.PFnExactJoinPolygons Go.Proofs.YtlcfdfphldjolaaW.PrintWords
open Go.ChangeMaps (open_string shut_string)
set_option linter.unusedVariables false
theorem own : ownKnob Try.prog.godebug = none := by kernel_rfl
theorem laidOut : laidOutB Try.prog = true := by kernel_rfl
theorem opens_point {H : Type} (enc : TypeId × Value → H) (W : World) : Opens enc Try.prog W 37 k37 (fun x : S37 => (Lit.int .i64 x.f0).wf = true ∧ (Lit.int .i64 x.f1).wf = true) :=
  opens_struct2 (fun x : S37 => (x.f0, x.f1)) (fun p => ⟨p.1, p.2⟩) (fun _ => rfl) Try.underlying37 (opens_int Try.underlying2) (opens_int Try.underlying2) (by kernel_rfl) (by kernel_rfl) rfl rfl (by kernel_rfl)
set_option maxRecDepth 100000 in
theorem lifted (os : Os) (started : os.Started) (H : Type) (enc : TypeId × Value → H) :
    ReturnsInHanded {} Try.checked os 3 .any (Rows.fnExactJoinPolygonsSpec.pre6 enc Try.prog Try.f3 Rows.fnExactJoinPolygonsRow.domain false) (Rows.fnExactJoinPolygonsSpec.post enc Try.prog Try.f3 false true false false) := by
  refine returnsInHanded_of_change_sized (C := Try.checked) own started (by kernel_rfl) Try.func3
    (ChangeSpec.witness6 (enc := enc) (C := Try.checked) false ⟨#[], #[.slice none 0 0, .slice none 0 0], []⟩ 8 (by kernel_rfl) (by kernel_rfl) (by kernel_rfl) (by kernel_rfl)) ?_
  intro W base args ds gs before hval0 hW hcnd hsz0 _
  have hsz : (DataW.weightsEach Try.prog (Try.f3.params.toList ++ Rows.fnExactJoinPolygonsSpec.plain.varTypes Try.prog) (ds ++ gs)).all (· ≤ reachBytes) = true := hsz0
  have hval : ∀ (j : Nat) t v, Try.f3.params[j]? = some t → args[j]? = some v → Value.okWide Try.prog W .any base t v := hval0
  have hW' := hW
  obtain ⟨p, q, hA0, hV, rfl, hfz, hnd⟩ := hW
  have hA : DataW.TrodAll enc Try.prog W 0 (fun _ => true) true Try.f3.params.toList args.toList ds p := hA0
  rw [Try.params3] at hA hval hsz
  obtain ⟨v0, vs0, d0, ds0, p0, q0, hargs, rfl, rfl, h0, r0⟩ := trodAll_cons hA
  obtain ⟨v1, vs1, d1, ds1, p1, q1, rfl, rfl, rfl, h1, r1⟩ := trodAll_cons r0
  obtain ⟨rfl, rfl, rfl⟩ := trodAll_nil r1
  obtain rfl : args = #[v0, v1] := by cases args; simp_all
  obtain ⟨rfl, rfl⟩ := trodVars_none hV
  have k0 := h0
  have lt0 := lt_of_trod h0
  obtain ⟨A0, c0, l0, rfl, hl0, hm0, hC0, hg0⟩ := open_row z37 Try.underlying22 (opens_point enc W) (by kernel_rfl) (hval 0 22 v0 rfl rfl) h0
  have k1 := h1
  have lt1 := lt_of_trod h1
  obtain ⟨A1, c1, l1, rfl, hl1, hm1, hC1, hg1⟩ := open_row z37 Try.underlying22 (opens_point enc W) (by kernel_rfl) (hval 1 22 v1 rfl rfl) h1
  clear hA0 hval0 hsz0 hsz
  obtain ⟨k, hk⟩ := Pure.FnExactJoinPolygons l0 l1 (Nat.le_trans hl0 hm0) hg0 (Nat.le_trans hl1 hm1) hg1
  refine (PFnExactJoinPolygons.laws_FnExactJoinPolygons.calls k A0 c0 l0 A1 c1 l1 W hC0 hl0 hC1 hl1 hk).mono fun e W' ⟨he, bel⟩ => ?_
  subst he
  exact ⟨_, rfl, _, _, _, [], _, [], hW', trodAll_mk1 (shut_bool Try.underlying4 _), (trodAll_cons_mk (Below.trod laidOut (by kernel_rfl) (of_decide_eq_true (by kernel_rfl)) k0 bel lt0) (trodAll_cons_mk (Below.trod laidOut (by kernel_rfl) (of_decide_eq_true (by kernel_rfl)) k1 bel lt1) trodAll_mk0)), rfl, bel.frame _, fun h => by cases h⟩
theorem over : Rows.fnExactJoinPolygonsRow.holds Try.pinned (OpenSpec.ofChange Rows.fnExactJoinPolygonsSpec) :=
  OpenClaim.holds_of_wide 3 Try.f3 rfl rfl rfl rfl rfl rfl rfl ⟨rfl, rfl, rfl, rfl, rfl⟩ rfl rfl rfl rfl rfl (by kernel_rfl) Try.func3 (by kernel_rfl)
    (of_decide_eq_true (by kernel_rfl)) (by unfold Func.isWrapper; first | (rw [if_pos (by decide +kernel)]; kernel_rfl) | (rw [if_neg (by decide +kernel)]; exact ⟨rfl, rfl⟩))
    (fun os started H enc _ => lifted os started H enc)
theorem proved : Rows.FnExactJoinPolygonsSaid := over
#print axioms proved
end Go.Proofs.Ytlcfdfphldjolaa.fnExactJoinPolygons
namespace Go.Proofs.Ytlcfdfphldjolaa
/-- The row, under a short name, for the claim. -/
theorem fnExactJoinPolygons_holds : Rows.FnExactJoinPolygonsSaid := fnExactJoinPolygons.proved
end Go.Proofs.Ytlcfdfphldjolaa
