/-
  No cell of these rows narrows 'for every input' (looked for: loops, veiled, ifaces, maps, wideKeys, modest, calm, conditions, laid).
  DERIVED. THE GIVEN ROWS OF THIS SEAT. 7 by the template 'for every input the law returns true; each argument reads behind the call as it read before'; 0 by the template 'total and deterministic' (their statements: YtlfifbalakgfeaaTotals.lean).
  GIVEN WITH THE SEED: the statements are not yours to turn. If you find one false, say at which input.
  Laid BY PROGRAM, IN A SANDBOX (cutbox-rows.mjs): the forced cells as the released guide's own fill.sh prints them over the translation 3404bbe0c1789190… (all of the seat's roots in one cut). By AI agents, Wed Nov 11 2026. No macro, syntax, notation, axiom, sorry.
-/
import Derived.Test.YtlfifbalakgfeaaChecked
import GoSem.Claim
import GoSem.ClaimJoined
import GoSem.ClaimMapViews
import Derived.JoinedTies
import Derived.KernelRfl
namespace Go.Proofs.Ytlfifbalakgfeaa
/- THE CELL 'sum', in the pinned program and in every row, IS THE sha256 OF THE DUMP (.gsa) THAT YtlfifbalakgfeaaProg.lean LOADS. Nothing in Lean hashes anything: it is a label: what it is worth is what the hold of that sum in a sandbox is worth. -/
noncomputable def Try.pinned : Pinned := { name := "ytlfifbalakgfeaa", sum := "3404bbe0c17891905940ce94b40585a2918b54106a3d4394f2054de3cc8edd9b", checked := Try.checked }
namespace Rows
def none {H : Type} : Left H := { results := [], args := [] }

/-- 'laws.FnExactValidDrawing': WHATEVER THE INPUT: true; the input reads as it did. -/
def fnExactValidDrawingSpec : ChangeSpec := { name := "fnExactValidDrawing", fn := fun _ => fun
  | [d] => { results := [.lit (.bool true)], args := [d] }
  | _ => none }
def fnExactValidDrawingRow : OpenClaim := { program := "ytlfifbalakgfeaa", sum := "3404bbe0c17891905940ce94b40585a2918b54106a3d4394f2054de3cc8edd9b", func := "loop.example/g00956/laws.FnExactValidDrawing", spec := "fnExactValidDrawing", apart := false }
def FnExactValidDrawingSaid : Prop := fnExactValidDrawingRow.holds Try.pinned (OpenSpec.ofChange fnExactValidDrawingSpec)

/-- ITS FALSE NEIGHBOUR: 'it returns false'. Refute it at one input. -/
def fnExactValidDrawingWrong : ChangeSpec := { name := "fnExactValidDrawing", fn := fun _ => fun
  | [d] => { results := [.lit (.bool false)], args := [d] }
  | _ => none }
def FnExactValidDrawingWrongFalsely : Prop := fnExactValidDrawingRow.holds Try.pinned (OpenSpec.ofChange fnExactValidDrawingWrong)

/-- 'laws.FnExactFaceNamed': WHATEVER THE INPUT: true; the input reads as it did. -/
def fnExactFaceNamedSpec : ChangeSpec := { name := "fnExactFaceNamed", fn := fun _ => fun
  | [d1, d2] => { results := [.lit (.bool true)], args := [d1, d2] }
  | _ => none }
def fnExactFaceNamedRow : OpenClaim := { program := "ytlfifbalakgfeaa", sum := "3404bbe0c17891905940ce94b40585a2918b54106a3d4394f2054de3cc8edd9b", func := "loop.example/g00956/laws.FnExactFaceNamed", spec := "fnExactFaceNamed", apart := false }
def FnExactFaceNamedSaid : Prop := fnExactFaceNamedRow.holds Try.pinned (OpenSpec.ofChange fnExactFaceNamedSpec)

/-- ITS FALSE NEIGHBOUR: 'it returns false'. Refute it at one input. -/
def fnExactFaceNamedWrong : ChangeSpec := { name := "fnExactFaceNamed", fn := fun _ => fun
  | [d1, d2] => { results := [.lit (.bool false)], args := [d1, d2] }
  | _ => none }
def FnExactFaceNamedWrongFalsely : Prop := fnExactFaceNamedRow.holds Try.pinned (OpenSpec.ofChange fnExactFaceNamedWrong)

/-- 'laws.FnExactFacePolygon': WHATEVER THE INPUT: true; the input reads as it did. -/
def fnExactFacePolygonSpec : ChangeSpec := { name := "fnExactFacePolygon", fn := fun _ => fun
  | [d1, d2] => { results := [.lit (.bool true)], args := [d1, d2] }
  | _ => none }
def fnExactFacePolygonRow : OpenClaim := { program := "ytlfifbalakgfeaa", sum := "3404bbe0c17891905940ce94b40585a2918b54106a3d4394f2054de3cc8edd9b", func := "loop.example/g00956/laws.FnExactFacePolygon", spec := "fnExactFacePolygon", apart := false }
def FnExactFacePolygonSaid : Prop := fnExactFacePolygonRow.holds Try.pinned (OpenSpec.ofChange fnExactFacePolygonSpec)

/-- ITS FALSE NEIGHBOUR: 'it returns false'. Refute it at one input. -/
def fnExactFacePolygonWrong : ChangeSpec := { name := "fnExactFacePolygon", fn := fun _ => fun
  | [d1, d2] => { results := [.lit (.bool false)], args := [d1, d2] }
  | _ => none }
def FnExactFacePolygonWrongFalsely : Prop := fnExactFacePolygonRow.holds Try.pinned (OpenSpec.ofChange fnExactFacePolygonWrong)

/-- 'laws.FnExactUncoveredArea': WHATEVER THE INPUT: true; the input reads as it did. -/
def fnExactUncoveredAreaSpec : ChangeSpec := { name := "fnExactUncoveredArea", fn := fun _ => fun
  | [d] => { results := [.lit (.bool true)], args := [d] }
  | _ => none }
def fnExactUncoveredAreaRow : OpenClaim := { program := "ytlfifbalakgfeaa", sum := "3404bbe0c17891905940ce94b40585a2918b54106a3d4394f2054de3cc8edd9b", func := "loop.example/g00956/laws.FnExactUncoveredArea", spec := "fnExactUncoveredArea", apart := false }
def FnExactUncoveredAreaSaid : Prop := fnExactUncoveredAreaRow.holds Try.pinned (OpenSpec.ofChange fnExactUncoveredAreaSpec)

/-- ITS FALSE NEIGHBOUR: 'it returns false'. Refute it at one input. -/
def fnExactUncoveredAreaWrong : ChangeSpec := { name := "fnExactUncoveredArea", fn := fun _ => fun
  | [d] => { results := [.lit (.bool false)], args := [d] }
  | _ => none }
def FnExactUncoveredAreaWrongFalsely : Prop := fnExactUncoveredAreaRow.holds Try.pinned (OpenSpec.ofChange fnExactUncoveredAreaWrong)

/-- 'laws.FnExactFaceAt': WHATEVER THE INPUT: true; the input reads as it did. -/
def fnExactFaceAtSpec : ChangeSpec := { name := "fnExactFaceAt", fn := fun _ => fun
  | [d1, d2] => { results := [.lit (.bool true)], args := [d1, d2] }
  | _ => none }
def fnExactFaceAtRow : OpenClaim := { program := "ytlfifbalakgfeaa", sum := "3404bbe0c17891905940ce94b40585a2918b54106a3d4394f2054de3cc8edd9b", func := "loop.example/g00956/laws.FnExactFaceAt", spec := "fnExactFaceAt", apart := false }
def FnExactFaceAtSaid : Prop := fnExactFaceAtRow.holds Try.pinned (OpenSpec.ofChange fnExactFaceAtSpec)

/-- ITS FALSE NEIGHBOUR: 'it returns false'. Refute it at one input. -/
def fnExactFaceAtWrong : ChangeSpec := { name := "fnExactFaceAt", fn := fun _ => fun
  | [d1, d2] => { results := [.lit (.bool false)], args := [d1, d2] }
  | _ => none }
def FnExactFaceAtWrongFalsely : Prop := fnExactFaceAtRow.holds Try.pinned (OpenSpec.ofChange fnExactFaceAtWrong)

/-- 'laws.FnExactUnusedPoints': WHATEVER THE INPUT: true; the input reads as it did. -/
def fnExactUnusedPointsSpec : ChangeSpec := { name := "fnExactUnusedPoints", fn := fun _ => fun
  | [d] => { results := [.lit (.bool true)], args := [d] }
  | _ => none }
def fnExactUnusedPointsRow : OpenClaim := { program := "ytlfifbalakgfeaa", sum := "3404bbe0c17891905940ce94b40585a2918b54106a3d4394f2054de3cc8edd9b", func := "loop.example/g00956/laws.FnExactUnusedPoints", spec := "fnExactUnusedPoints", unfollowed := true, recurses := true, apart := false }
def FnExactUnusedPointsSaid : Prop := fnExactUnusedPointsRow.holds Try.pinned (OpenSpec.ofChange fnExactUnusedPointsSpec)

/-- ITS FALSE NEIGHBOUR: 'it returns false'. Refute it at one input. -/
def fnExactUnusedPointsWrong : ChangeSpec := { name := "fnExactUnusedPoints", fn := fun _ => fun
  | [d] => { results := [.lit (.bool false)], args := [d] }
  | _ => none }
def FnExactUnusedPointsWrongFalsely : Prop := fnExactUnusedPointsRow.holds Try.pinned (OpenSpec.ofChange fnExactUnusedPointsWrong)

/-- 'laws.FnExactFacesOfEdge': WHATEVER THE INPUT: true; the input reads as it did. -/
def fnExactFacesOfEdgeSpec : ChangeSpec := { name := "fnExactFacesOfEdge", fn := fun _ => fun
  | [d1, d2, d3] => { results := [.lit (.bool true)], args := [d1, d2, d3] }
  | _ => none }
def fnExactFacesOfEdgeRow : OpenClaim := { program := "ytlfifbalakgfeaa", sum := "3404bbe0c17891905940ce94b40585a2918b54106a3d4394f2054de3cc8edd9b", func := "loop.example/g00956/laws.FnExactFacesOfEdge", spec := "fnExactFacesOfEdge", apart := false }
def FnExactFacesOfEdgeSaid : Prop := fnExactFacesOfEdgeRow.holds Try.pinned (OpenSpec.ofChange fnExactFacesOfEdgeSpec)

/-- ITS FALSE NEIGHBOUR: 'it returns false'. Refute it at one input. -/
def fnExactFacesOfEdgeWrong : ChangeSpec := { name := "fnExactFacesOfEdge", fn := fun _ => fun
  | [d1, d2, d3] => { results := [.lit (.bool false)], args := [d1, d2, d3] }
  | _ => none }
def FnExactFacesOfEdgeWrongFalsely : Prop := fnExactFacesOfEdgeRow.holds Try.pinned (OpenSpec.ofChange fnExactFacesOfEdgeWrong)

/- THE SECOND FORM. 'bulk': how many values and letters a reading holds, each counted each time it is reached (what is shared counts as often as it is met; a slice's spare places count too). A statement '..UptoSaid' is the law's where the arguments, and the package variables that the reading takes, are together of bulk at most 1048576: NARROWER than '..Said'. Prove '..Said' where nothing that the law and all that it calls make is longer than what came in: it says more and counts as full. Else prove '..UptoSaid'. A law counts once. -/
mutual
def uptoBulk {H : Type} : DataW H → Nat
  | .lit (.string bytes) => bytes.length + 1
  | .lit _ => 1
  | .nil => 1
  | .ptr d => uptoBulk d + 1
  | .slice elems spare => uptoBulkAll elems + uptoBulkAll spare + 1
  | .agg parts => uptoBulkAll parts + 1
  | .iface _ d => uptoBulk d + 1
  | .map entries => uptoBulkEntries entries + 1
  | .held _ => 1
def uptoBulkAll {H : Type} : List (DataW H) → Nat
  | [] => 0
  | d :: r => uptoBulk d + uptoBulkAll r
def uptoBulkEntries {H : Type} : List (Lit × DataW H) → Nat
  | [] => 0
  | x :: r => uptoBulkEntry x + uptoBulkEntries r
def uptoBulkEntry {H : Type} : Lit × DataW H → Nat
  | (.string bytes, d) => bytes.length + uptoBulk d + 1
  | (_, d) => uptoBulk d + 1
 end
def uptoSmall : (H : Type) → List (DataW H) → Bool := fun _ ds => decide (uptoBulkAll ds ≤ 1048576)
def OpenSpec.upto (s : _root_.Go.ChangeSpec) : _root_.Go.OpenSpec := { _root_.Go.OpenSpec.ofChange s with cond := some uptoSmall }

/-- 'laws.FnExactValidDrawing', WHERE WHAT IT READS IS OF BULK AT MOST 1048576: true; the input reads as it did. -/
def fnExactValidDrawingUptoRow : OpenClaim := { program := "ytlfifbalakgfeaa", sum := "3404bbe0c17891905940ce94b40585a2918b54106a3d4394f2054de3cc8edd9b", func := "loop.example/g00956/laws.FnExactValidDrawing", spec := "fnExactValidDrawing", apart := false, narrowed := true }
def FnExactValidDrawingUptoSaid : Prop := fnExactValidDrawingUptoRow.holds Try.pinned (OpenSpec.upto fnExactValidDrawingSpec)

/-- 'laws.FnExactFaceNamed', WHERE WHAT IT READS IS OF BULK AT MOST 1048576: true; the input reads as it did. -/
def fnExactFaceNamedUptoRow : OpenClaim := { program := "ytlfifbalakgfeaa", sum := "3404bbe0c17891905940ce94b40585a2918b54106a3d4394f2054de3cc8edd9b", func := "loop.example/g00956/laws.FnExactFaceNamed", spec := "fnExactFaceNamed", apart := false, narrowed := true }
def FnExactFaceNamedUptoSaid : Prop := fnExactFaceNamedUptoRow.holds Try.pinned (OpenSpec.upto fnExactFaceNamedSpec)

/-- 'laws.FnExactFacePolygon', WHERE WHAT IT READS IS OF BULK AT MOST 1048576: true; the input reads as it did. -/
def fnExactFacePolygonUptoRow : OpenClaim := { program := "ytlfifbalakgfeaa", sum := "3404bbe0c17891905940ce94b40585a2918b54106a3d4394f2054de3cc8edd9b", func := "loop.example/g00956/laws.FnExactFacePolygon", spec := "fnExactFacePolygon", apart := false, narrowed := true }
def FnExactFacePolygonUptoSaid : Prop := fnExactFacePolygonUptoRow.holds Try.pinned (OpenSpec.upto fnExactFacePolygonSpec)

/-- 'laws.FnExactUncoveredArea', WHERE WHAT IT READS IS OF BULK AT MOST 1048576: true; the input reads as it did. -/
def fnExactUncoveredAreaUptoRow : OpenClaim := { program := "ytlfifbalakgfeaa", sum := "3404bbe0c17891905940ce94b40585a2918b54106a3d4394f2054de3cc8edd9b", func := "loop.example/g00956/laws.FnExactUncoveredArea", spec := "fnExactUncoveredArea", apart := false, narrowed := true }
def FnExactUncoveredAreaUptoSaid : Prop := fnExactUncoveredAreaUptoRow.holds Try.pinned (OpenSpec.upto fnExactUncoveredAreaSpec)

/-- 'laws.FnExactFaceAt', WHERE WHAT IT READS IS OF BULK AT MOST 1048576: true; the input reads as it did. -/
def fnExactFaceAtUptoRow : OpenClaim := { program := "ytlfifbalakgfeaa", sum := "3404bbe0c17891905940ce94b40585a2918b54106a3d4394f2054de3cc8edd9b", func := "loop.example/g00956/laws.FnExactFaceAt", spec := "fnExactFaceAt", apart := false, narrowed := true }
def FnExactFaceAtUptoSaid : Prop := fnExactFaceAtUptoRow.holds Try.pinned (OpenSpec.upto fnExactFaceAtSpec)

/-- 'laws.FnExactUnusedPoints', WHERE WHAT IT READS IS OF BULK AT MOST 1048576: true; the input reads as it did. -/
def fnExactUnusedPointsUptoRow : OpenClaim := { program := "ytlfifbalakgfeaa", sum := "3404bbe0c17891905940ce94b40585a2918b54106a3d4394f2054de3cc8edd9b", func := "loop.example/g00956/laws.FnExactUnusedPoints", spec := "fnExactUnusedPoints", unfollowed := true, recurses := true, apart := false, narrowed := true }
def FnExactUnusedPointsUptoSaid : Prop := fnExactUnusedPointsUptoRow.holds Try.pinned (OpenSpec.upto fnExactUnusedPointsSpec)

/-- 'laws.FnExactFacesOfEdge', WHERE WHAT IT READS IS OF BULK AT MOST 1048576: true; the input reads as it did. -/
def fnExactFacesOfEdgeUptoRow : OpenClaim := { program := "ytlfifbalakgfeaa", sum := "3404bbe0c17891905940ce94b40585a2918b54106a3d4394f2054de3cc8edd9b", func := "loop.example/g00956/laws.FnExactFacesOfEdge", spec := "fnExactFacesOfEdge", apart := false, narrowed := true }
def FnExactFacesOfEdgeUptoSaid : Prop := fnExactFacesOfEdgeUptoRow.holds Try.pinned (OpenSpec.upto fnExactFacesOfEdgeSpec)

end Rows
end Go.Proofs.Ytlfifbalakgfeaa
