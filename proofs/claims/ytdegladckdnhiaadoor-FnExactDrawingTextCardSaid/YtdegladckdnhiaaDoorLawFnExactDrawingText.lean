/- The program's DrawingText returns what the reference's returns, for every input: the row, and its tied card. -/
import Derived.Test.YtdegladckdnhiaaDoorRows
import Derived.Test.YtdegladckdnhiaaDoorCards
import Derived.Test.YtdegladckdnhiaaDoorTie
import Derived.Test.YtdegladckdnhiaaDoorQFnExactDrawingTextx
import Derived.Test.YtdegladckdnhiaaDoorMetFnExactDrawingText
import Derived.Lay
import Derived.LaidOnce
import Derived.SevenTiedAt
import Derived.Test.YtdegladckdnhiaaDoorPureFnExactDrawingText
import Derived.Test.YtdegladckdnhiaaDoorOFnExactDrawingText
import Derived.WalkKit
import Derived.ProofKit
import Derived.OpenShut
import Derived.ShutString
import Derived.ChangeOld
import Derived.Below
import Derived.SizedLaws
import Derived.Carry
namespace Go.Proofs.YtdegladckdnhiaaDoor.fnExactDrawingText
open Go.ChangeShapes Go.WideShapes Go.ChangeAt Go.RowKit Go.Proofs.YtdegladckdnhiaaDoor.MaOpen Go.Proofs.YtdegladckdnhiaaDoor.PFnExactDrawingText Go.Proofs.YtdegladckdnhiaaDoorW.PrintWords
open Go.ChangeMaps (open_string shut_string)
set_option linter.unusedVariables false
theorem own : ownKnob Tryd.prog.godebug = none := by kernel_rfl
theorem laidOut : laidOutB Tryd.prog = true := by kernel_rfl
theorem opens_point {H : Type} (enc : TypeId × Value → H) (W : World) : Opens enc Tryd.prog W 38 k38 (fun x : S38 => (Lit.int .i64 x.f0).wf = true ∧ (Lit.int .i64 x.f1).wf = true) :=
  opens_struct2 (fun x : S38 => (x.f0, x.f1)) (fun p => ⟨p.1, p.2⟩) (fun _ => rfl) Tryd.underlying38 (opens_int Tryd.underlying2) (opens_int Tryd.underlying2) (by kernel_rfl) (by kernel_rfl) rfl rfl (by kernel_rfl)
theorem opens_face {H : Type} (enc : TypeId × Value → H) (W : World) : Opens enc Tryd.prog W 105 k105 (fun x : S105 => x.f0.size ≤ maxLen ∧ (x.f1.length ≤ maxLen ∧ ∀ y ∈ x.f1, (Lit.int .i64 y).wf = true)) :=
  opens_struct2 (fun x : S105 => (x.f0, x.f1)) (fun p => ⟨p.1, p.2⟩) (fun _ => rfl) Tryd.underlying105 (opens_string Tryd.underlying9) (opens_slice 0 2 Tryd.underlying29 (opens_int Tryd.underlying2) (by kernel_rfl)) (by kernel_rfl) (by kernel_rfl) rfl rfl (by kernel_rfl)
theorem opens_drawing {H : Type} (enc : TypeId × Value → H) (W : World) : Opens enc Tryd.prog W 58 (Kd.iso (Kd.pair (Kd.int .i64) (Kd.pair (Kd.int .i64) (Kd.pair (Kd.slice 38 k38) (Kd.slice 105 k105)))) (fun x : Int × Int × List S38 × List S105 => x)) (fun x => (Lit.int .i64 x.1).wf = true ∧ (Lit.int .i64 x.2.1).wf = true ∧ (x.2.2.1.length ≤ maxLen ∧ ∀ y ∈ x.2.2.1, (Lit.int .i64 y.f0).wf = true ∧ (Lit.int .i64 y.f1).wf = true) ∧ (x.2.2.2.length ≤ maxLen ∧ ∀ y ∈ x.2.2.2, y.f0.size ≤ maxLen ∧ (y.f1.length ≤ maxLen ∧ ∀ z ∈ y.f1, (Lit.int .i64 z).wf = true))) :=
  opens_struct4 (fun x => x) (fun x => x) (fun _ => rfl) Tryd.underlying58 (opens_int Tryd.underlying2) (opens_int Tryd.underlying2) (opens_slice z38 38 Tryd.underlying46 (opens_point enc W) (by kernel_rfl)) (opens_slice z105 105 Tryd.underlying56 (opens_face enc W) (by kernel_rfl)) (by kernel_rfl) (by kernel_rfl) (by kernel_rfl) (by kernel_rfl) rfl rfl rfl rfl (by kernel_rfl)
set_option maxRecDepth 100000 in
theorem lifted (os : Os) (started : os.Started) (H : Type) (enc : TypeId × Value → H) :
    ReturnsInHanded {} Tryd.checked os 11 .any (fun w args => (Rows.fnExactDrawingTextSpec.pre enc Tryd.prog Tryd.f11 [] false w args ∧ laidMetH Tryd.prog Rows.fnExactDrawingTextRow.laid w) ∧ sizedMet enc Tryd.prog Tryd.f11 (OpenSpec.ofChange Rows.fnExactDrawingTextSpec) false w args)
      (Rows.fnExactDrawingTextSpec.post enc Tryd.prog Tryd.f11 false true false false) := by
  refine handed_both (C := Tryd.checked) (X := fun w _ => laidMetH Tryd.prog Rows.fnExactDrawingTextRow.laid w) (fun _ _ _ hh h => h.of_heap hh) own started (by kernel_rfl) Tryd.func11
    (ChangeSpec.witness_shaped (enc := enc) (C := Tryd.checked) (os := os) (X := fun w _ => laidMetH Tryd.prog Rows.fnExactDrawingTextRow.laid w) false (World.laidAll Tryd.prog os Rows.fnExactDrawingTextRow.laid) #[.agg #[.int .i64 0, .int .i64 0, .slice none 0 0, .slice none 0 0]] 8 (World.laidAll_os _ _ _)
      (World.shaped_of_ZipB (by kernel_rfl) (by kernel_rfl)) (by kernel_rfl) (by kernel_rfl) (by kernel_rfl)
      (by rw [MakeChecks.laidMetH_plain _ _ _ (by kernel_rfl)]; exact laidMet_laidAll _ (by kernel_rfl) (by kernel_rfl))) ?_
  intro W base args ds gs before hval0 hW hcnd hsz0 hL hsh _
  have HG : GlobW W := by
    rw [MakeChecks.laidMetH_plain _ _ _ (by kernel_rfl)] at hL
    exact globW_of hsh hL.tail.tail
  have hsz : (DataW.weightsEach Tryd.prog (Tryd.f11.params.toList ++ Rows.fnExactDrawingTextSpec.plain.varTypes Tryd.prog) (ds ++ gs)).all (· ≤ reachBytes) = true := hsz0
  have hval : ∀ (j : Nat) t v, Tryd.f11.params[j]? = some t → args[j]? = some v → Value.okWide Tryd.prog W .any base t v := hval0
  have hW' := hW
  obtain ⟨p, q, hA0, hV, rfl, hfz, hnd⟩ := hW
  have hA : DataW.TrodAll enc Tryd.prog W 0 (fun _ => true) true Tryd.f11.params.toList args.toList ds p := hA0
  rw [Tryd.params11] at hA hval hsz
  obtain ⟨v0, vs0, d0, ds0, p0, q0, hargs, rfl, rfl, h0, r0⟩ := trodAll_cons hA
  obtain ⟨rfl, rfl, rfl⟩ := trodAll_nil r0
  obtain rfl : args = #[v0] := by cases args; simp_all
  obtain ⟨rfl, rfl⟩ := trodVars_none hV
  have k0 := h0
  have lt0 := lt_of_trod h0
  obtain ⟨cs0, ⟨a0_0, a0_1, a0_2, a0_3⟩, rfl, ⟨_, _, rfl, rfl, _, _, rfl, rfl, _, _, rfl, ⟨A0_2, c0_2, rfl, hl0_2, hC0_2⟩, ⟨A0_3, c0_3, rfl, hl0_3, hC0_3⟩⟩, w0_0, w0_1, w0_2, w0_3⟩ := open_agg Tryd.underlying58 (opens_drawing enc W) (hval 0 58 v0 rfl rfl) h0
  clear hA0 hval0 hsz0 hsz
  obtain ⟨k, hk⟩ := Pure.FnExactDrawingText a0_0 a0_1 a0_2 a0_3 w0_0 w0_1 w0_2.1 w0_2.2 w0_3.1 w0_3.2
  refine (PFnExactDrawingText.laws_FnExactDrawingText.calls k a0_0 a0_1 A0_2 c0_2 a0_2 A0_3 c0_3 a0_3 true W HG hC0_2 hl0_2 hC0_3 hl0_3 hk).mono fun e W' ⟨he, bel⟩ => ?_
  subst he
  exact ⟨_, rfl, _, _, _, [], _, [], hW', trodAll_mk1 (shut_bool Tryd.underlying4 _), (trodAll_cons_mk (Below.trod laidOut (by kernel_rfl) (of_decide_eq_true (by kernel_rfl)) k0 bel lt0) trodAll_mk0), rfl, bel.frame _, fun h => by cases h⟩
theorem over : Rows.FnExactDrawingTextSaid :=
  OpenClaim.holds_of_wide 11 Tryd.f11 rfl rfl rfl rfl rfl rfl rfl ⟨rfl, rfl, rfl, rfl, rfl⟩ rfl rfl rfl rfl rfl (by kernel_rfl) Tryd.func11 (by kernel_rfl)
    (of_decide_eq_true (by kernel_rfl)) (by unfold Func.isWrapper; first | (rw [if_pos (by decide +kernel)]; kernel_rfl) | (rw [if_neg (by decide +kernel)]; exact ⟨rfl, rfl⟩))
    (fun os started H enc _ => lifted os started H enc)
theorem proved : Rows.FnExactDrawingTextCardSaid :=
  Claim7.holds_tied_plain_at .later [] [.data, .data, .data] true (true, "660c41a4644aaa90cdd497a8ffda74e534b6a8753395ad9fa635d827ad3dd80f") false
    over (fun _ h => by cases h) (by kernel_rfl) (fun _ h => by cases h) fnExactDrawingText_row_tie rfl ⟨rfl, rfl⟩ (by kernel_rfl) rfl
    (fun f fn hf hfn => by
      obtain rfl : f = 11 := Option.some.inj ((show Tryd.prog.funcNamed "loop.example/g00956/laws.FnExactDrawingText" = some 11 by kernel_rfl).symm.trans hf) |>.symm
      obtain rfl : fn = Tryd.f11 := (Option.some.inj (Tryd.func11.symm.trans hfn)).symm
      exact ⟨by kernel_rfl, fun j t ht => by
        rw [Tryd.params11] at ht
        have hm : t ∈ [58] := by simpa using Array.mem_of_getElem? ht
        have hall : ([58].all fun u => !Tryd.prog.wantsStandIn u) = true := by kernel_rfl
        exact (show Tryd.prog.wantsStandIn t = false by simpa using List.all_eq_true.1 hall t hm)⟩)
    (by kernel_rfl)
#print axioms proved
end Go.Proofs.YtdegladckdnhiaaDoor.fnExactDrawingText
namespace Go.Proofs.YtdegladckdnhiaaDoor
/-- The card, under a short name, for the claim. -/
theorem fnExactDrawingText_card_holds : Rows.FnExactDrawingTextCardSaid := fnExactDrawingText.proved
end Go.Proofs.YtdegladckdnhiaaDoor
