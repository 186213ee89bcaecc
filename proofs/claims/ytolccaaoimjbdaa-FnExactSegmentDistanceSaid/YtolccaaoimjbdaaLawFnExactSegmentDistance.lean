/- The row of FnExactSegmentDistance: the call returns true at every input, and its arguments read as before. -/
import Derived.Test.YtolccaaoimjbdaaRows
import Derived.Test.YtolccaaoimjbdaaQFnExactSegmentDistancex
import Derived.Test.YtolccaaoimjbdaaPureFnExactSegmentDistance
import Derived.Test.YtolccaaoimjbdaaOFnExactSegmentDistance
import Derived.WalkKit
import Derived.ProofKit
import Derived.OpenShut
import Derived.ShutString
import Derived.ChangeOld
import Derived.Below
import Derived.SizedLaws
import Derived.Carry
namespace Go.Proofs.Ytolccaaoimjbdaa.fnExactSegmentDistance
open Go.ChangeShapes Go.WideShapes Go.ChangeAt Go.RowKit Go.Proofs.Ytolccaaoimjbdaa.MaOpen Go.Proofs.Ytolccaaoimjbdaa.PFnExactSegmentDistance Go.Proofs.YtolccaaoimjbdaaW.PrintWords
open Go.ChangeMaps (open_string shut_string)
set_option linter.unusedVariables false
theorem own : ownKnob Try.prog.godebug = none := by kernel_rfl
theorem laidOut : laidOutB Try.prog = true := by kernel_rfl
set_option maxRecDepth 100000 in
theorem lifted (os : Os) (started : os.Started) (H : Type) (enc : TypeId × Value → H) :
    ReturnsInHanded {} Try.checked os 10 .any (Rows.fnExactSegmentDistanceSpec.pre6 enc Try.prog Try.f10 Rows.fnExactSegmentDistanceRow.domain false) (Rows.fnExactSegmentDistanceSpec.post enc Try.prog Try.f10 false true false false) := by
  refine returnsInHanded_of_change_sized (C := Try.checked) own started (by kernel_rfl) Try.func10
    (ChangeSpec.witness6 (enc := enc) (C := Try.checked) false ⟨#[], #[.agg #[.int .i64 0, .int .i64 0], .agg #[.int .i64 0, .int .i64 0], .agg #[.int .i64 0, .int .i64 0], .agg #[.int .i64 0, .int .i64 0]], []⟩ 8 (by kernel_rfl) (by kernel_rfl) (by kernel_rfl) (by kernel_rfl)) ?_
  intro W base args ds gs before hval0 hW hcnd hsz0 _
  have hsz : (DataW.weightsEach Try.prog (Try.f10.params.toList ++ Rows.fnExactSegmentDistanceSpec.plain.varTypes Try.prog) (ds ++ gs)).all (· ≤ reachBytes) = true := hsz0
  have hval : ∀ (j : Nat) t v, Try.f10.params[j]? = some t → args[j]? = some v → Value.okWide Try.prog W .any base t v := hval0
  have hW' := hW
  obtain ⟨p, q, hA0, hV, rfl, hfz, hnd⟩ := hW
  have hA : DataW.TrodAll enc Try.prog W 0 (fun _ => true) true Try.f10.params.toList args.toList ds p := hA0
  rw [Try.params10] at hA hval hsz
  obtain ⟨v0, vs0, d0, ds0, p0, q0, hargs, rfl, rfl, h0, r0⟩ := trodAll_cons hA
  obtain ⟨v1, vs1, d1, ds1, p1, q1, rfl, rfl, rfl, h1, r1⟩ := trodAll_cons r0
  obtain ⟨v2, vs2, d2, ds2, p2, q2, rfl, rfl, rfl, h2, r2⟩ := trodAll_cons r1
  obtain ⟨v3, vs3, d3, ds3, p3, q3, rfl, rfl, rfl, h3, r3⟩ := trodAll_cons r2
  obtain ⟨rfl, rfl, rfl⟩ := trodAll_nil r3
  obtain rfl : args = #[v0, v1, v2, v3] := by cases args; simp_all
  obtain ⟨rfl, rfl⟩ := trodVars_none hV
  have k0 := h0
  have lt0 := lt_of_trod h0
  obtain ⟨cs0, ⟨a0_0, a0_1⟩, rfl, ⟨c0, c0', rfl, rfl, rfl⟩, w0_0, w0_1⟩ := open_agg Try.underlying23 (opens_struct2 (enc := enc) (w := W) (id : Int × Int → _) id (fun _ => rfl) Try.underlying23 (opens_int Try.underlying2) (opens_int Try.underlying2) (by kernel_rfl) (by kernel_rfl) rfl rfl (by kernel_rfl)) (hval 0 23 v0 rfl rfl) h0
  have k1 := h1
  have lt1 := lt_of_trod h1
  obtain ⟨cs1, ⟨a1_0, a1_1⟩, rfl, ⟨c1, c1', rfl, rfl, rfl⟩, w1_0, w1_1⟩ := open_agg Try.underlying23 (opens_struct2 (enc := enc) (w := W) (id : Int × Int → _) id (fun _ => rfl) Try.underlying23 (opens_int Try.underlying2) (opens_int Try.underlying2) (by kernel_rfl) (by kernel_rfl) rfl rfl (by kernel_rfl)) (hval 1 23 v1 rfl rfl) h1
  have k2 := h2
  have lt2 := lt_of_trod h2
  obtain ⟨cs2, ⟨a2_0, a2_1⟩, rfl, ⟨c2, c2', rfl, rfl, rfl⟩, w2_0, w2_1⟩ := open_agg Try.underlying23 (opens_struct2 (enc := enc) (w := W) (id : Int × Int → _) id (fun _ => rfl) Try.underlying23 (opens_int Try.underlying2) (opens_int Try.underlying2) (by kernel_rfl) (by kernel_rfl) rfl rfl (by kernel_rfl)) (hval 2 23 v2 rfl rfl) h2
  have k3 := h3
  have lt3 := lt_of_trod h3
  obtain ⟨cs3, ⟨a3_0, a3_1⟩, rfl, ⟨c3, c3', rfl, rfl, rfl⟩, w3_0, w3_1⟩ := open_agg Try.underlying23 (opens_struct2 (enc := enc) (w := W) (id : Int × Int → _) id (fun _ => rfl) Try.underlying23 (opens_int Try.underlying2) (opens_int Try.underlying2) (by kernel_rfl) (by kernel_rfl) rfl rfl (by kernel_rfl)) (hval 3 23 v3 rfl rfl) h3
  clear hA0 hval0 hsz0 hsz
  obtain ⟨k, hk⟩ := Pure.FnExactSegmentDistance a0_0 a0_1 a1_0 a1_1 a2_0 a2_1 a3_0 a3_1 w0_0 w0_1 w1_0 w1_1 w2_0 w2_1 w3_0 w3_1
  refine (PFnExactSegmentDistance.laws_FnExactSegmentDistance.calls k a0_0 a0_1 a1_0 a1_1 a2_0 a2_1 a3_0 a3_1 W  hk).mono fun e W' ⟨he, bel⟩ => ?_
  subst he
  exact ⟨_, rfl, _, _, _, [], _, [], hW', trodAll_mk1 (shut_bool Try.underlying4 _), (trodAll_cons_mk (Below.trod laidOut (by kernel_rfl) (of_decide_eq_true (by kernel_rfl)) k0 bel lt0) (trodAll_cons_mk (Below.trod laidOut (by kernel_rfl) (of_decide_eq_true (by kernel_rfl)) k1 bel lt1) (trodAll_cons_mk (Below.trod laidOut (by kernel_rfl) (of_decide_eq_true (by kernel_rfl)) k2 bel lt2) (trodAll_cons_mk (Below.trod laidOut (by kernel_rfl) (of_decide_eq_true (by kernel_rfl)) k3 bel lt3) trodAll_mk0)))), rfl, bel.frame _, fun h => by cases h⟩
theorem over : Rows.fnExactSegmentDistanceRow.holds Try.pinned (OpenSpec.ofChange Rows.fnExactSegmentDistanceSpec) :=
  OpenClaim.holds_of_wide 10 Try.f10 rfl rfl rfl rfl rfl rfl rfl ⟨rfl, rfl, rfl, rfl, rfl⟩ rfl rfl rfl rfl rfl (by kernel_rfl) Try.func10 (by kernel_rfl)
    (of_decide_eq_true (by kernel_rfl)) (by unfold Func.isWrapper; first | (rw [if_pos (by decide +kernel)]; kernel_rfl) | (rw [if_neg (by decide +kernel)]; exact ⟨rfl, rfl⟩))
    (fun os started H enc _ => lifted os started H enc)
theorem proved : Rows.FnExactSegmentDistanceSaid := over
#print axioms proved
end Go.Proofs.Ytolccaaoimjbdaa.fnExactSegmentDistance
namespace Go.Proofs.Ytolccaaoimjbdaa
/-- The row, under a short name, for the claim. -/
theorem fnExactSegmentDistance_holds : Rows.FnExactSegmentDistanceSaid := fnExactSegmentDistance.proved
end Go.Proofs.Ytolccaaoimjbdaa
