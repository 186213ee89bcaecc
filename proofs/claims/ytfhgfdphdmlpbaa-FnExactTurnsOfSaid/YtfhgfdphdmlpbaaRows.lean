/-
  No cell of these rows narrows 'for every input' (looked for: loops, veiled, ifaces, maps, wideKeys, modest, calm, conditions, laid).
  DERIVED. THE GIVEN ROWS OF THIS SEAT. 3 by the template 'for every input the law returns true; each argument reads behind the call as it read before'; 0 by the template 'total and deterministic' (their statements: YtfhgfdphdmlpbaaTotals.lean).
  GIVEN WITH THE SEED: the statements are not yours to turn. If you find one false, say at which input.
  Laid BY PROGRAM, IN A SANDBOX (cutbox-rows.mjs): the forced cells as the released guide's own fill.sh prints them over the translation 3335beeb9ff2eef5… (all of the seat's roots in one cut). By AI agents, Wed Nov 11 2026. No macro, syntax, notation, axiom, sorry.
-/
import Derived.Test.YtfhgfdphdmlpbaaChecked
import GoSem.Claim
import GoSem.ClaimJoined
import GoSem.ClaimMapViews
import Derived.JoinedTies
import Derived.KernelRfl
namespace Go.Proofs.Ytfhgfdphdmlpbaa
/- THE CELL 'sum', in the pinned program and in every row, IS THE sha256 OF THE DUMP (.gsa) THAT YtfhgfdphdmlpbaaProg.lean LOADS. Nothing in Lean hashes anything: it is a label: what it is worth is what the hold of that sum in a sandbox is worth. -/
noncomputable def Try.pinned : Pinned := { name := "ytfhgfdphdmlpbaa", sum := "3335beeb9ff2eef589ef817c40ff570e1606ec6fd01c1a5dea1b233e602e1774", checked := Try.checked }
namespace Rows
def none {H : Type} : Left H := { results := [], args := [] }

/-- 'laws.FnExactTurnPolygon': WHATEVER THE INPUT: true; the input reads as it did. -/
def fnExactTurnPolygonSpec : ChangeSpec := { name := "fnExactTurnPolygon", fn := fun _ => fun
  | [d1, d2] => { results := [.lit (.bool true)], args := [d1, d2] }
  | _ => none }
def fnExactTurnPolygonRow : OpenClaim := { program := "ytfhgfdphdmlpbaa", sum := "3335beeb9ff2eef589ef817c40ff570e1606ec6fd01c1a5dea1b233e602e1774", func := "loop.example/g00956/laws.FnExactTurnPolygon", spec := "fnExactTurnPolygon", apart := false }
def FnExactTurnPolygonSaid : Prop := fnExactTurnPolygonRow.holds Try.pinned (OpenSpec.ofChange fnExactTurnPolygonSpec)

/-- ITS FALSE NEIGHBOUR: 'it returns false'. Refute it at one input. -/
def fnExactTurnPolygonWrong : ChangeSpec := { name := "fnExactTurnPolygon", fn := fun _ => fun
  | [d1, d2] => { results := [.lit (.bool false)], args := [d1, d2] }
  | _ => none }
def FnExactTurnPolygonWrongFalsely : Prop := fnExactTurnPolygonRow.holds Try.pinned (OpenSpec.ofChange fnExactTurnPolygonWrong)

/-- 'laws.FnExactTurnsOf': WHATEVER THE INPUT: true; the input reads as it did. -/
def fnExactTurnsOfSpec : ChangeSpec := { name := "fnExactTurnsOf", fn := fun _ => fun
  | [d] => { results := [.lit (.bool true)], args := [d] }
  | _ => none }
def fnExactTurnsOfRow : OpenClaim := { program := "ytfhgfdphdmlpbaa", sum := "3335beeb9ff2eef589ef817c40ff570e1606ec6fd01c1a5dea1b233e602e1774", func := "loop.example/g00956/laws.FnExactTurnsOf", spec := "fnExactTurnsOf", apart := false }
def FnExactTurnsOfSaid : Prop := fnExactTurnsOfRow.holds Try.pinned (OpenSpec.ofChange fnExactTurnsOfSpec)

/-- ITS FALSE NEIGHBOUR: 'it returns false'. Refute it at one input. -/
def fnExactTurnsOfWrong : ChangeSpec := { name := "fnExactTurnsOf", fn := fun _ => fun
  | [d] => { results := [.lit (.bool false)], args := [d] }
  | _ => none }
def FnExactTurnsOfWrongFalsely : Prop := fnExactTurnsOfRow.holds Try.pinned (OpenSpec.ofChange fnExactTurnsOfWrong)

/-- 'laws.FnExactSameDrawing': WHATEVER THE INPUT: true; the input reads as it did. -/
def fnExactSameDrawingSpec : ChangeSpec := { name := "fnExactSameDrawing", fn := fun _ => fun
  | [d1, d2] => { results := [.lit (.bool true)], args := [d1, d2] }
  | _ => none }
def fnExactSameDrawingRow : OpenClaim := { program := "ytfhgfdphdmlpbaa", sum := "3335beeb9ff2eef589ef817c40ff570e1606ec6fd01c1a5dea1b233e602e1774", func := "loop.example/g00956/laws.FnExactSameDrawing", spec := "fnExactSameDrawing", unfollowed := true, recurses := true, apart := false }
def FnExactSameDrawingSaid : Prop := fnExactSameDrawingRow.holds Try.pinned (OpenSpec.ofChange fnExactSameDrawingSpec)

/-- ITS FALSE NEIGHBOUR: 'it returns false'. Refute it at one input. -/
def fnExactSameDrawingWrong : ChangeSpec := { name := "fnExactSameDrawing", fn := fun _ => fun
  | [d1, d2] => { results := [.lit (.bool false)], args := [d1, d2] }
  | _ => none }
def FnExactSameDrawingWrongFalsely : Prop := fnExactSameDrawingRow.holds Try.pinned (OpenSpec.ofChange fnExactSameDrawingWrong)

/- THE SECOND FORM. 'bulk': how many values and letters a reading holds, each counted each time it is reached (what is shared counts as often as it is met; a slice's spare places count too). A statement '..UptoSaid' is the law's where the arguments, and the package variables that the reading takes, are together of bulk at most 1048576: NARROWER than '..Said'. Prove '..Said' where nothing that the law and all that it calls make is longer than what came in: it says more and counts as full. Else prove '..UptoSaid'. A law counts once. -/
mutual
def uptoBulk {H : Type} : DataW H → Nat
  | .lit (.string bytes) => bytes.length + 1
  | .lit _ => 1
  | .nil => 1
  | .ptr d => uptoBulk d + 1
  | .slice elems spare => uptoBulkAll elems + uptoBulkAll spare + 1
  | .agg parts => uptoBulkAll parts + 1
  | .iface _ d => uptoBulk d + 1
  | .map entries => uptoBulkEntries entries + 1
  | .held _ => 1
def uptoBulkAll {H : Type} : List (DataW H) → Nat
  | [] => 0
  | d :: r => uptoBulk d + uptoBulkAll r
def uptoBulkEntries {H : Type} : List (Lit × DataW H) → Nat
  | [] => 0
  | x :: r => uptoBulkEntry x + uptoBulkEntries r
def uptoBulkEntry {H : Type} : Lit × DataW H → Nat
  | (.string bytes, d) => bytes.length + uptoBulk d + 1
  | (_, d) => uptoBulk d + 1
 end
def uptoSmall : (H : Type) → List (DataW H) → Bool := fun _ ds => decide (uptoBulkAll ds ≤ 1048576)
def OpenSpec.upto (s : _root_.Go.ChangeSpec) : _root_.Go.OpenSpec := { _root_.Go.OpenSpec.ofChange s with cond := some uptoSmall }

/-- 'laws.FnExactTurnPolygon', WHERE WHAT IT READS IS OF BULK AT MOST 1048576: true; the input reads as it did. -/
def fnExactTurnPolygonUptoRow : OpenClaim := { program := "ytfhgfdphdmlpbaa", sum := "3335beeb9ff2eef589ef817c40ff570e1606ec6fd01c1a5dea1b233e602e1774", func := "loop.example/g00956/laws.FnExactTurnPolygon", spec := "fnExactTurnPolygon", apart := false, narrowed := true }
def FnExactTurnPolygonUptoSaid : Prop := fnExactTurnPolygonUptoRow.holds Try.pinned (OpenSpec.upto fnExactTurnPolygonSpec)

/-- 'laws.FnExactTurnsOf', WHERE WHAT IT READS IS OF BULK AT MOST 1048576: true; the input reads as it did. -/
def fnExactTurnsOfUptoRow : OpenClaim := { program := "ytfhgfdphdmlpbaa", sum := "3335beeb9ff2eef589ef817c40ff570e1606ec6fd01c1a5dea1b233e602e1774", func := "loop.example/g00956/laws.FnExactTurnsOf", spec := "fnExactTurnsOf", apart := false, narrowed := true }
def FnExactTurnsOfUptoSaid : Prop := fnExactTurnsOfUptoRow.holds Try.pinned (OpenSpec.upto fnExactTurnsOfSpec)

/-- 'laws.FnExactSameDrawing', WHERE WHAT IT READS IS OF BULK AT MOST 1048576: true; the input reads as it did. -/
def fnExactSameDrawingUptoRow : OpenClaim := { program := "ytfhgfdphdmlpbaa", sum := "3335beeb9ff2eef589ef817c40ff570e1606ec6fd01c1a5dea1b233e602e1774", func := "loop.example/g00956/laws.FnExactSameDrawing", spec := "fnExactSameDrawing", unfollowed := true, recurses := true, apart := false, narrowed := true }
def FnExactSameDrawingUptoSaid : Prop := fnExactSameDrawingUptoRow.holds Try.pinned (OpenSpec.upto fnExactSameDrawingSpec)

end Rows
end Go.Proofs.Ytfhgfdphdmlpbaa
