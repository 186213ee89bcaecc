/-
  No cell of these rows narrows 'for every input' (looked for: loops, veiled, ifaces, maps, wideKeys, modest, calm, conditions, laid).
  DERIVED. THE GIVEN ROWS OF THIS SEAT. 12 by the template 'for every input the law returns true; each argument reads behind the call as it read before'; 0 by the template 'total and deterministic' (their statements: YtkobmkdjmpnojaaTotals.lean).
  GIVEN WITH THE SEED: the statements are not yours to turn. If you find one false, say at which input.
  Laid BY PROGRAM, IN A SANDBOX (cutbox-rows.mjs): the forced cells as the released guide's own fill.sh prints them over the translation ae2cb18827620051… (all of the seat's roots in one cut). By AI agents, Wed Nov 11 2026. No macro, syntax, notation, axiom, sorry.
-/
import Derived.Test.YtkobmkdjmpnojaaChecked
import GoSem.Claim
import GoSem.ClaimJoined
import GoSem.ClaimMapViews
import Derived.JoinedTies
import Derived.KernelRfl
namespace Go.Proofs.Ytkobmkdjmpnojaa
/- THE CELL 'sum', in the pinned program and in every row, IS THE sha256 OF THE DUMP (.gsa) THAT YtkobmkdjmpnojaaProg.lean LOADS. Nothing in Lean hashes anything: it is a label: what it is worth is what the hold of that sum in a sandbox is worth. -/
noncomputable def Try.pinned : Pinned := { name := "ytkobmkdjmpnojaa", sum := "ae2cb18827620051cba8affe486bf9993ba752deb36b536c5ab342b5a6c2121d", checked := Try.checked }
namespace Rows
def none {H : Type} : Left H := { results := [], args := [] }

/-- 'laws.FnExactInside': WHATEVER THE INPUT: true; the input reads as it did. -/
def fnExactInsideSpec : ChangeSpec := { name := "fnExactInside", fn := fun _ => fun
  | [d1, d2] => { results := [.lit (.bool true)], args := [d1, d2] }
  | _ => none }
def fnExactInsideRow : OpenClaim := { program := "ytkobmkdjmpnojaa", sum := "ae2cb18827620051cba8affe486bf9993ba752deb36b536c5ab342b5a6c2121d", func := "loop.example/g00956/laws.FnExactInside", spec := "fnExactInside", apart := false }
def FnExactInsideSaid : Prop := fnExactInsideRow.holds Try.pinned (OpenSpec.ofChange fnExactInsideSpec)

/-- ITS FALSE NEIGHBOUR: 'it returns false'. Refute it at one input. -/
def fnExactInsideWrong : ChangeSpec := { name := "fnExactInside", fn := fun _ => fun
  | [d1, d2] => { results := [.lit (.bool false)], args := [d1, d2] }
  | _ => none }
def FnExactInsideWrongFalsely : Prop := fnExactInsideRow.holds Try.pinned (OpenSpec.ofChange fnExactInsideWrong)

/-- 'laws.FnExactCentreOf': WHATEVER THE INPUT: true; the input reads as it did. -/
def fnExactCentreOfSpec : ChangeSpec := { name := "fnExactCentreOf", fn := fun _ => fun
  | [d] => { results := [.lit (.bool true)], args := [d] }
  | _ => none }
def fnExactCentreOfRow : OpenClaim := { program := "ytkobmkdjmpnojaa", sum := "ae2cb18827620051cba8affe486bf9993ba752deb36b536c5ab342b5a6c2121d", func := "loop.example/g00956/laws.FnExactCentreOf", spec := "fnExactCentreOf", apart := false }
def FnExactCentreOfSaid : Prop := fnExactCentreOfRow.holds Try.pinned (OpenSpec.ofChange fnExactCentreOfSpec)

/-- ITS FALSE NEIGHBOUR: 'it returns false'. Refute it at one input. -/
def fnExactCentreOfWrong : ChangeSpec := { name := "fnExactCentreOf", fn := fun _ => fun
  | [d] => { results := [.lit (.bool false)], args := [d] }
  | _ => none }
def FnExactCentreOfWrongFalsely : Prop := fnExactCentreOfRow.holds Try.pinned (OpenSpec.ofChange fnExactCentreOfWrong)

/-- 'laws.FnExactPerimeterOf': WHATEVER THE INPUT: true; the input reads as it did. -/
def fnExactPerimeterOfSpec : ChangeSpec := { name := "fnExactPerimeterOf", fn := fun _ => fun
  | [d] => { results := [.lit (.bool true)], args := [d] }
  | _ => none }
def fnExactPerimeterOfRow : OpenClaim := { program := "ytkobmkdjmpnojaa", sum := "ae2cb18827620051cba8affe486bf9993ba752deb36b536c5ab342b5a6c2121d", func := "loop.example/g00956/laws.FnExactPerimeterOf", spec := "fnExactPerimeterOf", apart := false }
def FnExactPerimeterOfSaid : Prop := fnExactPerimeterOfRow.holds Try.pinned (OpenSpec.ofChange fnExactPerimeterOfSpec)

/-- ITS FALSE NEIGHBOUR: 'it returns false'. Refute it at one input. -/
def fnExactPerimeterOfWrong : ChangeSpec := { name := "fnExactPerimeterOf", fn := fun _ => fun
  | [d] => { results := [.lit (.bool false)], args := [d] }
  | _ => none }
def FnExactPerimeterOfWrongFalsely : Prop := fnExactPerimeterOfRow.holds Try.pinned (OpenSpec.ofChange fnExactPerimeterOfWrong)

/-- 'laws.FnExactStartAt': WHATEVER THE INPUT: true; the input reads as it did. -/
def fnExactStartAtSpec : ChangeSpec := { name := "fnExactStartAt", fn := fun _ => fun
  | [d1, d2] => { results := [.lit (.bool true)], args := [d1, d2] }
  | _ => none }
def fnExactStartAtRow : OpenClaim := { program := "ytkobmkdjmpnojaa", sum := "ae2cb18827620051cba8affe486bf9993ba752deb36b536c5ab342b5a6c2121d", func := "loop.example/g00956/laws.FnExactStartAt", spec := "fnExactStartAt", apart := false }
def FnExactStartAtSaid : Prop := fnExactStartAtRow.holds Try.pinned (OpenSpec.ofChange fnExactStartAtSpec)

/-- ITS FALSE NEIGHBOUR: 'it returns false'. Refute it at one input. -/
def fnExactStartAtWrong : ChangeSpec := { name := "fnExactStartAt", fn := fun _ => fun
  | [d1, d2] => { results := [.lit (.bool false)], args := [d1, d2] }
  | _ => none }
def FnExactStartAtWrongFalsely : Prop := fnExactStartAtRow.holds Try.pinned (OpenSpec.ofChange fnExactStartAtWrong)

/-- 'laws.FnExactShiftPolygon': WHATEVER THE INPUT: true; the input reads as it did. -/
def fnExactShiftPolygonSpec : ChangeSpec := { name := "fnExactShiftPolygon", fn := fun _ => fun
  | [d1, d2, d3] => { results := [.lit (.bool true)], args := [d1, d2, d3] }
  | _ => none }
def fnExactShiftPolygonRow : OpenClaim := { program := "ytkobmkdjmpnojaa", sum := "ae2cb18827620051cba8affe486bf9993ba752deb36b536c5ab342b5a6c2121d", func := "loop.example/g00956/laws.FnExactShiftPolygon", spec := "fnExactShiftPolygon", apart := false }
def FnExactShiftPolygonSaid : Prop := fnExactShiftPolygonRow.holds Try.pinned (OpenSpec.ofChange fnExactShiftPolygonSpec)

/-- ITS FALSE NEIGHBOUR: 'it returns false'. Refute it at one input. -/
def fnExactShiftPolygonWrong : ChangeSpec := { name := "fnExactShiftPolygon", fn := fun _ => fun
  | [d1, d2, d3] => { results := [.lit (.bool false)], args := [d1, d2, d3] }
  | _ => none }
def FnExactShiftPolygonWrongFalsely : Prop := fnExactShiftPolygonRow.holds Try.pinned (OpenSpec.ofChange fnExactShiftPolygonWrong)

/-- 'laws.FnExactSamePolygon': WHATEVER THE INPUT: true; the input reads as it did. -/
def fnExactSamePolygonSpec : ChangeSpec := { name := "fnExactSamePolygon", fn := fun _ => fun
  | [d1, d2] => { results := [.lit (.bool true)], args := [d1, d2] }
  | _ => none }
def fnExactSamePolygonRow : OpenClaim := { program := "ytkobmkdjmpnojaa", sum := "ae2cb18827620051cba8affe486bf9993ba752deb36b536c5ab342b5a6c2121d", func := "loop.example/g00956/laws.FnExactSamePolygon", spec := "fnExactSamePolygon", apart := false }
def FnExactSamePolygonSaid : Prop := fnExactSamePolygonRow.holds Try.pinned (OpenSpec.ofChange fnExactSamePolygonSpec)

/-- ITS FALSE NEIGHBOUR: 'it returns false'. Refute it at one input. -/
def fnExactSamePolygonWrong : ChangeSpec := { name := "fnExactSamePolygon", fn := fun _ => fun
  | [d1, d2] => { results := [.lit (.bool false)], args := [d1, d2] }
  | _ => none }
def FnExactSamePolygonWrongFalsely : Prop := fnExactSamePolygonRow.holds Try.pinned (OpenSpec.ofChange fnExactSamePolygonWrong)

/-- 'laws.FnExactHullOf': WHATEVER THE INPUT: true; the input reads as it did. -/
def fnExactHullOfSpec : ChangeSpec := { name := "fnExactHullOf", fn := fun _ => fun
  | [d] => { results := [.lit (.bool true)], args := [d] }
  | _ => none }
def fnExactHullOfRow : OpenClaim := { program := "ytkobmkdjmpnojaa", sum := "ae2cb18827620051cba8affe486bf9993ba752deb36b536c5ab342b5a6c2121d", func := "loop.example/g00956/laws.FnExactHullOf", spec := "fnExactHullOf", apart := false }
def FnExactHullOfSaid : Prop := fnExactHullOfRow.holds Try.pinned (OpenSpec.ofChange fnExactHullOfSpec)

/-- ITS FALSE NEIGHBOUR: 'it returns false'. Refute it at one input. -/
def fnExactHullOfWrong : ChangeSpec := { name := "fnExactHullOf", fn := fun _ => fun
  | [d] => { results := [.lit (.bool false)], args := [d] }
  | _ => none }
def FnExactHullOfWrongFalsely : Prop := fnExactHullOfRow.holds Try.pinned (OpenSpec.ofChange fnExactHullOfWrong)

/-- 'laws.FnExactEarsOf': WHATEVER THE INPUT: true; the input reads as it did. -/
def fnExactEarsOfSpec : ChangeSpec := { name := "fnExactEarsOf", fn := fun _ => fun
  | [d] => { results := [.lit (.bool true)], args := [d] }
  | _ => none }
def fnExactEarsOfRow : OpenClaim := { program := "ytkobmkdjmpnojaa", sum := "ae2cb18827620051cba8affe486bf9993ba752deb36b536c5ab342b5a6c2121d", func := "loop.example/g00956/laws.FnExactEarsOf", spec := "fnExactEarsOf", apart := false }
def FnExactEarsOfSaid : Prop := fnExactEarsOfRow.holds Try.pinned (OpenSpec.ofChange fnExactEarsOfSpec)

/-- ITS FALSE NEIGHBOUR: 'it returns false'. Refute it at one input. -/
def fnExactEarsOfWrong : ChangeSpec := { name := "fnExactEarsOf", fn := fun _ => fun
  | [d] => { results := [.lit (.bool false)], args := [d] }
  | _ => none }
def FnExactEarsOfWrongFalsely : Prop := fnExactEarsOfRow.holds Try.pinned (OpenSpec.ofChange fnExactEarsOfWrong)

/-- 'laws.FnExactTurnPolygon': WHATEVER THE INPUT: true; the input reads as it did. -/
def fnExactTurnPolygonSpec : ChangeSpec := { name := "fnExactTurnPolygon", fn := fun _ => fun
  | [d1, d2] => { results := [.lit (.bool true)], args := [d1, d2] }
  | _ => none }
def fnExactTurnPolygonRow : OpenClaim := { program := "ytkobmkdjmpnojaa", sum := "ae2cb18827620051cba8affe486bf9993ba752deb36b536c5ab342b5a6c2121d", func := "loop.example/g00956/laws.FnExactTurnPolygon", spec := "fnExactTurnPolygon", apart := false }
def FnExactTurnPolygonSaid : Prop := fnExactTurnPolygonRow.holds Try.pinned (OpenSpec.ofChange fnExactTurnPolygonSpec)

/-- ITS FALSE NEIGHBOUR: 'it returns false'. Refute it at one input. -/
def fnExactTurnPolygonWrong : ChangeSpec := { name := "fnExactTurnPolygon", fn := fun _ => fun
  | [d1, d2] => { results := [.lit (.bool false)], args := [d1, d2] }
  | _ => none }
def FnExactTurnPolygonWrongFalsely : Prop := fnExactTurnPolygonRow.holds Try.pinned (OpenSpec.ofChange fnExactTurnPolygonWrong)

/-- 'laws.FnExactTurnsOf': WHATEVER THE INPUT: true; the input reads as it did. -/
def fnExactTurnsOfSpec : ChangeSpec := { name := "fnExactTurnsOf", fn := fun _ => fun
  | [d] => { results := [.lit (.bool true)], args := [d] }
  | _ => none }
def fnExactTurnsOfRow : OpenClaim := { program := "ytkobmkdjmpnojaa", sum := "ae2cb18827620051cba8affe486bf9993ba752deb36b536c5ab342b5a6c2121d", func := "loop.example/g00956/laws.FnExactTurnsOf", spec := "fnExactTurnsOf", apart := false }
def FnExactTurnsOfSaid : Prop := fnExactTurnsOfRow.holds Try.pinned (OpenSpec.ofChange fnExactTurnsOfSpec)

/-- ITS FALSE NEIGHBOUR: 'it returns false'. Refute it at one input. -/
def fnExactTurnsOfWrong : ChangeSpec := { name := "fnExactTurnsOf", fn := fun _ => fun
  | [d] => { results := [.lit (.bool false)], args := [d] }
  | _ => none }
def FnExactTurnsOfWrongFalsely : Prop := fnExactTurnsOfRow.holds Try.pinned (OpenSpec.ofChange fnExactTurnsOfWrong)

/-- 'laws.FnExactPolygonDistance': WHATEVER THE INPUT: true; the input reads as it did. -/
def fnExactPolygonDistanceSpec : ChangeSpec := { name := "fnExactPolygonDistance", fn := fun _ => fun
  | [d1, d2] => { results := [.lit (.bool true)], args := [d1, d2] }
  | _ => none }
def fnExactPolygonDistanceRow : OpenClaim := { program := "ytkobmkdjmpnojaa", sum := "ae2cb18827620051cba8affe486bf9993ba752deb36b536c5ab342b5a6c2121d", func := "loop.example/g00956/laws.FnExactPolygonDistance", spec := "fnExactPolygonDistance", named := ["math/bits.divideError", "math/bits.overflowError"], apart := false }
def FnExactPolygonDistanceSaid : Prop := fnExactPolygonDistanceRow.holds Try.pinned (OpenSpec.ofChange fnExactPolygonDistanceSpec)

/-- ITS FALSE NEIGHBOUR: 'it returns false'. Refute it at one input. -/
def fnExactPolygonDistanceWrong : ChangeSpec := { name := "fnExactPolygonDistance", fn := fun _ => fun
  | [d1, d2] => { results := [.lit (.bool false)], args := [d1, d2] }
  | _ => none }
def FnExactPolygonDistanceWrongFalsely : Prop := fnExactPolygonDistanceRow.holds Try.pinned (OpenSpec.ofChange fnExactPolygonDistanceWrong)

/-- 'laws.FnExactIsDiagonal': WHATEVER THE INPUT: true; the input reads as it did. -/
def fnExactIsDiagonalSpec : ChangeSpec := { name := "fnExactIsDiagonal", fn := fun _ => fun
  | [d1, d2, d3] => { results := [.lit (.bool true)], args := [d1, d2, d3] }
  | _ => none }
def fnExactIsDiagonalRow : OpenClaim := { program := "ytkobmkdjmpnojaa", sum := "ae2cb18827620051cba8affe486bf9993ba752deb36b536c5ab342b5a6c2121d", func := "loop.example/g00956/laws.FnExactIsDiagonal", spec := "fnExactIsDiagonal", apart := false }
def FnExactIsDiagonalSaid : Prop := fnExactIsDiagonalRow.holds Try.pinned (OpenSpec.ofChange fnExactIsDiagonalSpec)

/-- ITS FALSE NEIGHBOUR: 'it returns false'. Refute it at one input. -/
def fnExactIsDiagonalWrong : ChangeSpec := { name := "fnExactIsDiagonal", fn := fun _ => fun
  | [d1, d2, d3] => { results := [.lit (.bool false)], args := [d1, d2, d3] }
  | _ => none }
def FnExactIsDiagonalWrongFalsely : Prop := fnExactIsDiagonalRow.holds Try.pinned (OpenSpec.ofChange fnExactIsDiagonalWrong)

/- THE SECOND FORM. 'bulk': how many values and letters a reading holds, each counted each time it is reached (what is shared counts as often as it is met; a slice's spare places count too). A statement '..UptoSaid' is the law's where the arguments, and the package variables that the reading takes, are together of bulk at most 1048576: NARROWER than '..Said'. Prove '..Said' where nothing that the law and all that it calls make is longer than what came in: it says more and counts as full. Else prove '..UptoSaid'. A law counts once. -/
mutual
def uptoBulk {H : Type} : DataW H → Nat
  | .lit (.string bytes) => bytes.length + 1
  | .lit _ => 1
  | .nil => 1
  | .ptr d => uptoBulk d + 1
  | .slice elems spare => uptoBulkAll elems + uptoBulkAll spare + 1
  | .agg parts => uptoBulkAll parts + 1
  | .iface _ d => uptoBulk d + 1
  | .map entries => uptoBulkEntries entries + 1
  | .held _ => 1
def uptoBulkAll {H : Type} : List (DataW H) → Nat
  | [] => 0
  | d :: r => uptoBulk d + uptoBulkAll r
def uptoBulkEntries {H : Type} : List (Lit × DataW H) → Nat
  | [] => 0
  | x :: r => uptoBulkEntry x + uptoBulkEntries r
def uptoBulkEntry {H : Type} : Lit × DataW H → Nat
  | (.string bytes, d) => bytes.length + uptoBulk d + 1
  | (_, d) => uptoBulk d + 1
 end
def uptoSmall : (H : Type) → List (DataW H) → Bool := fun _ ds => decide (uptoBulkAll ds ≤ 1048576)
def OpenSpec.upto (s : _root_.Go.ChangeSpec) : _root_.Go.OpenSpec := { _root_.Go.OpenSpec.ofChange s with cond := some uptoSmall }

/-- 'laws.FnExactInside', WHERE WHAT IT READS IS OF BULK AT MOST 1048576: true; the input reads as it did. -/
def fnExactInsideUptoRow : OpenClaim := { program := "ytkobmkdjmpnojaa", sum := "ae2cb18827620051cba8affe486bf9993ba752deb36b536c5ab342b5a6c2121d", func := "loop.example/g00956/laws.FnExactInside", spec := "fnExactInside", apart := false, narrowed := true }
def FnExactInsideUptoSaid : Prop := fnExactInsideUptoRow.holds Try.pinned (OpenSpec.upto fnExactInsideSpec)

/-- 'laws.FnExactCentreOf', WHERE WHAT IT READS IS OF BULK AT MOST 1048576: true; the input reads as it did. -/
def fnExactCentreOfUptoRow : OpenClaim := { program := "ytkobmkdjmpnojaa", sum := "ae2cb18827620051cba8affe486bf9993ba752deb36b536c5ab342b5a6c2121d", func := "loop.example/g00956/laws.FnExactCentreOf", spec := "fnExactCentreOf", apart := false, narrowed := true }
def FnExactCentreOfUptoSaid : Prop := fnExactCentreOfUptoRow.holds Try.pinned (OpenSpec.upto fnExactCentreOfSpec)

/-- 'laws.FnExactPerimeterOf', WHERE WHAT IT READS IS OF BULK AT MOST 1048576: true; the input reads as it did. -/
def fnExactPerimeterOfUptoRow : OpenClaim := { program := "ytkobmkdjmpnojaa", sum := "ae2cb18827620051cba8affe486bf9993ba752deb36b536c5ab342b5a6c2121d", func := "loop.example/g00956/laws.FnExactPerimeterOf", spec := "fnExactPerimeterOf", apart := false, narrowed := true }
def FnExactPerimeterOfUptoSaid : Prop := fnExactPerimeterOfUptoRow.holds Try.pinned (OpenSpec.upto fnExactPerimeterOfSpec)

/-- 'laws.FnExactStartAt', WHERE WHAT IT READS IS OF BULK AT MOST 1048576: true; the input reads as it did. -/
def fnExactStartAtUptoRow : OpenClaim := { program := "ytkobmkdjmpnojaa", sum := "ae2cb18827620051cba8affe486bf9993ba752deb36b536c5ab342b5a6c2121d", func := "loop.example/g00956/laws.FnExactStartAt", spec := "fnExactStartAt", apart := false, narrowed := true }
def FnExactStartAtUptoSaid : Prop := fnExactStartAtUptoRow.holds Try.pinned (OpenSpec.upto fnExactStartAtSpec)

/-- 'laws.FnExactShiftPolygon', WHERE WHAT IT READS IS OF BULK AT MOST 1048576: true; the input reads as it did. -/
def fnExactShiftPolygonUptoRow : OpenClaim := { program := "ytkobmkdjmpnojaa", sum := "ae2cb18827620051cba8affe486bf9993ba752deb36b536c5ab342b5a6c2121d", func := "loop.example/g00956/laws.FnExactShiftPolygon", spec := "fnExactShiftPolygon", apart := false, narrowed := true }
def FnExactShiftPolygonUptoSaid : Prop := fnExactShiftPolygonUptoRow.holds Try.pinned (OpenSpec.upto fnExactShiftPolygonSpec)

/-- 'laws.FnExactSamePolygon', WHERE WHAT IT READS IS OF BULK AT MOST 1048576: true; the input reads as it did. -/
def fnExactSamePolygonUptoRow : OpenClaim := { program := "ytkobmkdjmpnojaa", sum := "ae2cb18827620051cba8affe486bf9993ba752deb36b536c5ab342b5a6c2121d", func := "loop.example/g00956/laws.FnExactSamePolygon", spec := "fnExactSamePolygon", apart := false, narrowed := true }
def FnExactSamePolygonUptoSaid : Prop := fnExactSamePolygonUptoRow.holds Try.pinned (OpenSpec.upto fnExactSamePolygonSpec)

/-- 'laws.FnExactHullOf', WHERE WHAT IT READS IS OF BULK AT MOST 1048576: true; the input reads as it did. -/
def fnExactHullOfUptoRow : OpenClaim := { program := "ytkobmkdjmpnojaa", sum := "ae2cb18827620051cba8affe486bf9993ba752deb36b536c5ab342b5a6c2121d", func := "loop.example/g00956/laws.FnExactHullOf", spec := "fnExactHullOf", apart := false, narrowed := true }
def FnExactHullOfUptoSaid : Prop := fnExactHullOfUptoRow.holds Try.pinned (OpenSpec.upto fnExactHullOfSpec)

/-- 'laws.FnExactEarsOf', WHERE WHAT IT READS IS OF BULK AT MOST 1048576: true; the input reads as it did. -/
def fnExactEarsOfUptoRow : OpenClaim := { program := "ytkobmkdjmpnojaa", sum := "ae2cb18827620051cba8affe486bf9993ba752deb36b536c5ab342b5a6c2121d", func := "loop.example/g00956/laws.FnExactEarsOf", spec := "fnExactEarsOf", apart := false, narrowed := true }
def FnExactEarsOfUptoSaid : Prop := fnExactEarsOfUptoRow.holds Try.pinned (OpenSpec.upto fnExactEarsOfSpec)

/-- 'laws.FnExactTurnPolygon', WHERE WHAT IT READS IS OF BULK AT MOST 1048576: true; the input reads as it did. -/
def fnExactTurnPolygonUptoRow : OpenClaim := { program := "ytkobmkdjmpnojaa", sum := "ae2cb18827620051cba8affe486bf9993ba752deb36b536c5ab342b5a6c2121d", func := "loop.example/g00956/laws.FnExactTurnPolygon", spec := "fnExactTurnPolygon", apart := false, narrowed := true }
def FnExactTurnPolygonUptoSaid : Prop := fnExactTurnPolygonUptoRow.holds Try.pinned (OpenSpec.upto fnExactTurnPolygonSpec)

/-- 'laws.FnExactTurnsOf', WHERE WHAT IT READS IS OF BULK AT MOST 1048576: true; the input reads as it did. -/
def fnExactTurnsOfUptoRow : OpenClaim := { program := "ytkobmkdjmpnojaa", sum := "ae2cb18827620051cba8affe486bf9993ba752deb36b536c5ab342b5a6c2121d", func := "loop.example/g00956/laws.FnExactTurnsOf", spec := "fnExactTurnsOf", apart := false, narrowed := true }
def FnExactTurnsOfUptoSaid : Prop := fnExactTurnsOfUptoRow.holds Try.pinned (OpenSpec.upto fnExactTurnsOfSpec)

/-- 'laws.FnExactPolygonDistance', WHERE WHAT IT READS IS OF BULK AT MOST 1048576: true; the input reads as it did. -/
def fnExactPolygonDistanceUptoRow : OpenClaim := { program := "ytkobmkdjmpnojaa", sum := "ae2cb18827620051cba8affe486bf9993ba752deb36b536c5ab342b5a6c2121d", func := "loop.example/g00956/laws.FnExactPolygonDistance", spec := "fnExactPolygonDistance", named := ["math/bits.divideError", "math/bits.overflowError"], apart := false, narrowed := true }
def FnExactPolygonDistanceUptoSaid : Prop := fnExactPolygonDistanceUptoRow.holds Try.pinned (OpenSpec.upto fnExactPolygonDistanceSpec)

/-- 'laws.FnExactIsDiagonal', WHERE WHAT IT READS IS OF BULK AT MOST 1048576: true; the input reads as it did. -/
def fnExactIsDiagonalUptoRow : OpenClaim := { program := "ytkobmkdjmpnojaa", sum := "ae2cb18827620051cba8affe486bf9993ba752deb36b536c5ab342b5a6c2121d", func := "loop.example/g00956/laws.FnExactIsDiagonal", spec := "fnExactIsDiagonal", apart := false, narrowed := true }
def FnExactIsDiagonalUptoSaid : Prop := fnExactIsDiagonalUptoRow.holds Try.pinned (OpenSpec.upto fnExactIsDiagonalSpec)

end Rows
end Go.Proofs.Ytkobmkdjmpnojaa
