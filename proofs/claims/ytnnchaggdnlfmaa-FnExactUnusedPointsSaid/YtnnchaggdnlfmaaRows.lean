/-
  No cell of these rows narrows 'for every input' (looked for: loops, veiled, ifaces, maps, wideKeys, modest, calm, conditions, laid).
  DERIVED. THE GIVEN ROWS OF THIS SEAT. 12 by the template 'for every input the law returns true; each argument reads behind the call as it read before'; 0 by the template 'total and deterministic' (their statements: YtnnchaggdnlfmaaTotals.lean).
  GIVEN WITH THE SEED: the statements are not yours to turn. If you find one false, say at which input.
  Laid BY PROGRAM, IN A SANDBOX (cutbox-rows.mjs): the forced cells as the released guide's own fill.sh prints them over the translation 0afb61bda6131886… (all of the seat's roots in one cut). By AI agents, Wed Nov 11 2026. No macro, syntax, notation, axiom, sorry.
-/
import Derived.Test.YtnnchaggdnlfmaaChecked
import GoSem.Claim
import GoSem.ClaimJoined
import GoSem.ClaimMapViews
import Derived.JoinedTies
import Derived.KernelRfl
namespace Go.Proofs.Ytnnchaggdnlfmaa
/- THE CELL 'sum', in the pinned program and in every row, IS THE sha256 OF THE DUMP (.gsa) THAT YtnnchaggdnlfmaaProg.lean LOADS. Nothing in Lean hashes anything: it is a label: what it is worth is what the hold of that sum in a sandbox is worth. -/
noncomputable def Try.pinned : Pinned := { name := "ytnnchaggdnlfmaa", sum := "0afb61bda6131886a630f4e22cc6fdb612316e7970a4b0e79112cc673b42d871", checked := Try.checked }
namespace Rows
def none {H : Type} : Left H := { results := [], args := [] }

/-- 'laws.FnExactIsDiagonal': WHATEVER THE INPUT: true; the input reads as it did. -/
def fnExactIsDiagonalSpec : ChangeSpec := { name := "fnExactIsDiagonal", fn := fun _ => fun
  | [d1, d2, d3] => { results := [.lit (.bool true)], args := [d1, d2, d3] }
  | _ => none }
def fnExactIsDiagonalRow : OpenClaim := { program := "ytnnchaggdnlfmaa", sum := "0afb61bda6131886a630f4e22cc6fdb612316e7970a4b0e79112cc673b42d871", func := "loop.example/g00956/laws.FnExactIsDiagonal", spec := "fnExactIsDiagonal", apart := false }
def FnExactIsDiagonalSaid : Prop := fnExactIsDiagonalRow.holds Try.pinned (OpenSpec.ofChange fnExactIsDiagonalSpec)

/-- ITS FALSE NEIGHBOUR: 'it returns false'. Refute it at one input. -/
def fnExactIsDiagonalWrong : ChangeSpec := { name := "fnExactIsDiagonal", fn := fun _ => fun
  | [d1, d2, d3] => { results := [.lit (.bool false)], args := [d1, d2, d3] }
  | _ => none }
def FnExactIsDiagonalWrongFalsely : Prop := fnExactIsDiagonalRow.holds Try.pinned (OpenSpec.ofChange fnExactIsDiagonalWrong)

/-- 'laws.FnExactDiagonalsOf': WHATEVER THE INPUT: true; the input reads as it did. -/
def fnExactDiagonalsOfSpec : ChangeSpec := { name := "fnExactDiagonalsOf", fn := fun _ => fun
  | [d] => { results := [.lit (.bool true)], args := [d] }
  | _ => none }
def fnExactDiagonalsOfRow : OpenClaim := { program := "ytnnchaggdnlfmaa", sum := "0afb61bda6131886a630f4e22cc6fdb612316e7970a4b0e79112cc673b42d871", func := "loop.example/g00956/laws.FnExactDiagonalsOf", spec := "fnExactDiagonalsOf", apart := false }
def FnExactDiagonalsOfSaid : Prop := fnExactDiagonalsOfRow.holds Try.pinned (OpenSpec.ofChange fnExactDiagonalsOfSpec)

/-- ITS FALSE NEIGHBOUR: 'it returns false'. Refute it at one input. -/
def fnExactDiagonalsOfWrong : ChangeSpec := { name := "fnExactDiagonalsOf", fn := fun _ => fun
  | [d] => { results := [.lit (.bool false)], args := [d] }
  | _ => none }
def FnExactDiagonalsOfWrongFalsely : Prop := fnExactDiagonalsOfRow.holds Try.pinned (OpenSpec.ofChange fnExactDiagonalsOfWrong)

/-- 'laws.FnExactTriangulate': WHATEVER THE INPUT: true; the input reads as it did. -/
def fnExactTriangulateSpec : ChangeSpec := { name := "fnExactTriangulate", fn := fun _ => fun
  | [d] => { results := [.lit (.bool true)], args := [d] }
  | _ => none }
def fnExactTriangulateRow : OpenClaim := { program := "ytnnchaggdnlfmaa", sum := "0afb61bda6131886a630f4e22cc6fdb612316e7970a4b0e79112cc673b42d871", func := "loop.example/g00956/laws.FnExactTriangulate", spec := "fnExactTriangulate", apart := false }
def FnExactTriangulateSaid : Prop := fnExactTriangulateRow.holds Try.pinned (OpenSpec.ofChange fnExactTriangulateSpec)

/-- ITS FALSE NEIGHBOUR: 'it returns false'. Refute it at one input. -/
def fnExactTriangulateWrong : ChangeSpec := { name := "fnExactTriangulate", fn := fun _ => fun
  | [d] => { results := [.lit (.bool false)], args := [d] }
  | _ => none }
def FnExactTriangulateWrongFalsely : Prop := fnExactTriangulateRow.holds Try.pinned (OpenSpec.ofChange fnExactTriangulateWrong)

/-- 'laws.FnExactDisjoint': WHATEVER THE INPUT: true; the input reads as it did. -/
def fnExactDisjointSpec : ChangeSpec := { name := "fnExactDisjoint", fn := fun _ => fun
  | [d1, d2] => { results := [.lit (.bool true)], args := [d1, d2] }
  | _ => none }
def fnExactDisjointRow : OpenClaim := { program := "ytnnchaggdnlfmaa", sum := "0afb61bda6131886a630f4e22cc6fdb612316e7970a4b0e79112cc673b42d871", func := "loop.example/g00956/laws.FnExactDisjoint", spec := "fnExactDisjoint", apart := false }
def FnExactDisjointSaid : Prop := fnExactDisjointRow.holds Try.pinned (OpenSpec.ofChange fnExactDisjointSpec)

/-- ITS FALSE NEIGHBOUR: 'it returns false'. Refute it at one input. -/
def fnExactDisjointWrong : ChangeSpec := { name := "fnExactDisjoint", fn := fun _ => fun
  | [d1, d2] => { results := [.lit (.bool false)], args := [d1, d2] }
  | _ => none }
def FnExactDisjointWrongFalsely : Prop := fnExactDisjointRow.holds Try.pinned (OpenSpec.ofChange fnExactDisjointWrong)

/-- 'laws.FnExactJoinPolygons': WHATEVER THE INPUT: true; the input reads as it did. -/
def fnExactJoinPolygonsSpec : ChangeSpec := { name := "fnExactJoinPolygons", fn := fun _ => fun
  | [d1, d2] => { results := [.lit (.bool true)], args := [d1, d2] }
  | _ => none }
def fnExactJoinPolygonsRow : OpenClaim := { program := "ytnnchaggdnlfmaa", sum := "0afb61bda6131886a630f4e22cc6fdb612316e7970a4b0e79112cc673b42d871", func := "loop.example/g00956/laws.FnExactJoinPolygons", spec := "fnExactJoinPolygons", unfollowed := true, recurses := true, apart := false }
def FnExactJoinPolygonsSaid : Prop := fnExactJoinPolygonsRow.holds Try.pinned (OpenSpec.ofChange fnExactJoinPolygonsSpec)

/-- ITS FALSE NEIGHBOUR: 'it returns false'. Refute it at one input. -/
def fnExactJoinPolygonsWrong : ChangeSpec := { name := "fnExactJoinPolygons", fn := fun _ => fun
  | [d1, d2] => { results := [.lit (.bool false)], args := [d1, d2] }
  | _ => none }
def FnExactJoinPolygonsWrongFalsely : Prop := fnExactJoinPolygonsRow.holds Try.pinned (OpenSpec.ofChange fnExactJoinPolygonsWrong)

/-- 'laws.FnExactOverlapsOf': WHATEVER THE INPUT: true; the input reads as it did. -/
def fnExactOverlapsOfSpec : ChangeSpec := { name := "fnExactOverlapsOf", fn := fun _ => fun
  | [d] => { results := [.lit (.bool true)], args := [d] }
  | _ => none }
def fnExactOverlapsOfRow : OpenClaim := { program := "ytnnchaggdnlfmaa", sum := "0afb61bda6131886a630f4e22cc6fdb612316e7970a4b0e79112cc673b42d871", func := "loop.example/g00956/laws.FnExactOverlapsOf", spec := "fnExactOverlapsOf", apart := false }
def FnExactOverlapsOfSaid : Prop := fnExactOverlapsOfRow.holds Try.pinned (OpenSpec.ofChange fnExactOverlapsOfSpec)

/-- ITS FALSE NEIGHBOUR: 'it returns false'. Refute it at one input. -/
def fnExactOverlapsOfWrong : ChangeSpec := { name := "fnExactOverlapsOf", fn := fun _ => fun
  | [d] => { results := [.lit (.bool false)], args := [d] }
  | _ => none }
def FnExactOverlapsOfWrongFalsely : Prop := fnExactOverlapsOfRow.holds Try.pinned (OpenSpec.ofChange fnExactOverlapsOfWrong)

/-- 'laws.FnExactCoversPanel': WHATEVER THE INPUT: true; the input reads as it did. -/
def fnExactCoversPanelSpec : ChangeSpec := { name := "fnExactCoversPanel", fn := fun _ => fun
  | [d] => { results := [.lit (.bool true)], args := [d] }
  | _ => none }
def fnExactCoversPanelRow : OpenClaim := { program := "ytnnchaggdnlfmaa", sum := "0afb61bda6131886a630f4e22cc6fdb612316e7970a4b0e79112cc673b42d871", func := "loop.example/g00956/laws.FnExactCoversPanel", spec := "fnExactCoversPanel", apart := false }
def FnExactCoversPanelSaid : Prop := fnExactCoversPanelRow.holds Try.pinned (OpenSpec.ofChange fnExactCoversPanelSpec)

/-- ITS FALSE NEIGHBOUR: 'it returns false'. Refute it at one input. -/
def fnExactCoversPanelWrong : ChangeSpec := { name := "fnExactCoversPanel", fn := fun _ => fun
  | [d] => { results := [.lit (.bool false)], args := [d] }
  | _ => none }
def FnExactCoversPanelWrongFalsely : Prop := fnExactCoversPanelRow.holds Try.pinned (OpenSpec.ofChange fnExactCoversPanelWrong)

/-- 'laws.FnExactTurnsOf': WHATEVER THE INPUT: true; the input reads as it did. -/
def fnExactTurnsOfSpec : ChangeSpec := { name := "fnExactTurnsOf", fn := fun _ => fun
  | [d] => { results := [.lit (.bool true)], args := [d] }
  | _ => none }
def fnExactTurnsOfRow : OpenClaim := { program := "ytnnchaggdnlfmaa", sum := "0afb61bda6131886a630f4e22cc6fdb612316e7970a4b0e79112cc673b42d871", func := "loop.example/g00956/laws.FnExactTurnsOf", spec := "fnExactTurnsOf", apart := false }
def FnExactTurnsOfSaid : Prop := fnExactTurnsOfRow.holds Try.pinned (OpenSpec.ofChange fnExactTurnsOfSpec)

/-- ITS FALSE NEIGHBOUR: 'it returns false'. Refute it at one input. -/
def fnExactTurnsOfWrong : ChangeSpec := { name := "fnExactTurnsOf", fn := fun _ => fun
  | [d] => { results := [.lit (.bool false)], args := [d] }
  | _ => none }
def FnExactTurnsOfWrongFalsely : Prop := fnExactTurnsOfRow.holds Try.pinned (OpenSpec.ofChange fnExactTurnsOfWrong)

/-- 'laws.FnExactStartAt': WHATEVER THE INPUT: true; the input reads as it did. -/
def fnExactStartAtSpec : ChangeSpec := { name := "fnExactStartAt", fn := fun _ => fun
  | [d1, d2] => { results := [.lit (.bool true)], args := [d1, d2] }
  | _ => none }
def fnExactStartAtRow : OpenClaim := { program := "ytnnchaggdnlfmaa", sum := "0afb61bda6131886a630f4e22cc6fdb612316e7970a4b0e79112cc673b42d871", func := "loop.example/g00956/laws.FnExactStartAt", spec := "fnExactStartAt", apart := false }
def FnExactStartAtSaid : Prop := fnExactStartAtRow.holds Try.pinned (OpenSpec.ofChange fnExactStartAtSpec)

/-- ITS FALSE NEIGHBOUR: 'it returns false'. Refute it at one input. -/
def fnExactStartAtWrong : ChangeSpec := { name := "fnExactStartAt", fn := fun _ => fun
  | [d1, d2] => { results := [.lit (.bool false)], args := [d1, d2] }
  | _ => none }
def FnExactStartAtWrongFalsely : Prop := fnExactStartAtRow.holds Try.pinned (OpenSpec.ofChange fnExactStartAtWrong)

/-- 'laws.FnExactFacePolygon': WHATEVER THE INPUT: true; the input reads as it did. -/
def fnExactFacePolygonSpec : ChangeSpec := { name := "fnExactFacePolygon", fn := fun _ => fun
  | [d1, d2] => { results := [.lit (.bool true)], args := [d1, d2] }
  | _ => none }
def fnExactFacePolygonRow : OpenClaim := { program := "ytnnchaggdnlfmaa", sum := "0afb61bda6131886a630f4e22cc6fdb612316e7970a4b0e79112cc673b42d871", func := "loop.example/g00956/laws.FnExactFacePolygon", spec := "fnExactFacePolygon", apart := false }
def FnExactFacePolygonSaid : Prop := fnExactFacePolygonRow.holds Try.pinned (OpenSpec.ofChange fnExactFacePolygonSpec)

/-- ITS FALSE NEIGHBOUR: 'it returns false'. Refute it at one input. -/
def fnExactFacePolygonWrong : ChangeSpec := { name := "fnExactFacePolygon", fn := fun _ => fun
  | [d1, d2] => { results := [.lit (.bool false)], args := [d1, d2] }
  | _ => none }
def FnExactFacePolygonWrongFalsely : Prop := fnExactFacePolygonRow.holds Try.pinned (OpenSpec.ofChange fnExactFacePolygonWrong)

/-- 'laws.FnExactUnusedPoints': WHATEVER THE INPUT: true; the input reads as it did. -/
def fnExactUnusedPointsSpec : ChangeSpec := { name := "fnExactUnusedPoints", fn := fun _ => fun
  | [d] => { results := [.lit (.bool true)], args := [d] }
  | _ => none }
def fnExactUnusedPointsRow : OpenClaim := { program := "ytnnchaggdnlfmaa", sum := "0afb61bda6131886a630f4e22cc6fdb612316e7970a4b0e79112cc673b42d871", func := "loop.example/g00956/laws.FnExactUnusedPoints", spec := "fnExactUnusedPoints", unfollowed := true, recurses := true, apart := false }
def FnExactUnusedPointsSaid : Prop := fnExactUnusedPointsRow.holds Try.pinned (OpenSpec.ofChange fnExactUnusedPointsSpec)

/-- ITS FALSE NEIGHBOUR: 'it returns false'. Refute it at one input. -/
def fnExactUnusedPointsWrong : ChangeSpec := { name := "fnExactUnusedPoints", fn := fun _ => fun
  | [d] => { results := [.lit (.bool false)], args := [d] }
  | _ => none }
def FnExactUnusedPointsWrongFalsely : Prop := fnExactUnusedPointsRow.holds Try.pinned (OpenSpec.ofChange fnExactUnusedPointsWrong)

/-- 'laws.FnExactFacesOfEdge': WHATEVER THE INPUT: true; the input reads as it did. -/
def fnExactFacesOfEdgeSpec : ChangeSpec := { name := "fnExactFacesOfEdge", fn := fun _ => fun
  | [d1, d2, d3] => { results := [.lit (.bool true)], args := [d1, d2, d3] }
  | _ => none }
def fnExactFacesOfEdgeRow : OpenClaim := { program := "ytnnchaggdnlfmaa", sum := "0afb61bda6131886a630f4e22cc6fdb612316e7970a4b0e79112cc673b42d871", func := "loop.example/g00956/laws.FnExactFacesOfEdge", spec := "fnExactFacesOfEdge", apart := false }
def FnExactFacesOfEdgeSaid : Prop := fnExactFacesOfEdgeRow.holds Try.pinned (OpenSpec.ofChange fnExactFacesOfEdgeSpec)

/-- ITS FALSE NEIGHBOUR: 'it returns false'. Refute it at one input. -/
def fnExactFacesOfEdgeWrong : ChangeSpec := { name := "fnExactFacesOfEdge", fn := fun _ => fun
  | [d1, d2, d3] => { results := [.lit (.bool false)], args := [d1, d2, d3] }
  | _ => none }
def FnExactFacesOfEdgeWrongFalsely : Prop := fnExactFacesOfEdgeRow.holds Try.pinned (OpenSpec.ofChange fnExactFacesOfEdgeWrong)

/- THE SECOND FORM. 'bulk': how many values and letters a reading holds, each counted each time it is reached (what is shared counts as often as it is met; a slice's spare places count too). A statement '..UptoSaid' is the law's where the arguments, and the package variables that the reading takes, are together of bulk at most 1048576: NARROWER than '..Said'. Prove '..Said' where nothing that the law and all that it calls make is longer than what came in: it says more and counts as full. Else prove '..UptoSaid'. A law counts once. -/
mutual
def uptoBulk {H : Type} : DataW H → Nat
  | .lit (.string bytes) => bytes.length + 1
  | .lit _ => 1
  | .nil => 1
  | .ptr d => uptoBulk d + 1
  | .slice elems spare => uptoBulkAll elems + uptoBulkAll spare + 1
  | .agg parts => uptoBulkAll parts + 1
  | .iface _ d => uptoBulk d + 1
  | .map entries => uptoBulkEntries entries + 1
  | .held _ => 1
def uptoBulkAll {H : Type} : List (DataW H) → Nat
  | [] => 0
  | d :: r => uptoBulk d + uptoBulkAll r
def uptoBulkEntries {H : Type} : List (Lit × DataW H) → Nat
  | [] => 0
  | x :: r => uptoBulkEntry x + uptoBulkEntries r
def uptoBulkEntry {H : Type} : Lit × DataW H → Nat
  | (.string bytes, d) => bytes.length + uptoBulk d + 1
  | (_, d) => uptoBulk d + 1
 end
def uptoSmall : (H : Type) → List (DataW H) → Bool := fun _ ds => decide (uptoBulkAll ds ≤ 1048576)
def OpenSpec.upto (s : _root_.Go.ChangeSpec) : _root_.Go.OpenSpec := { _root_.Go.OpenSpec.ofChange s with cond := some uptoSmall }

/-- 'laws.FnExactIsDiagonal', WHERE WHAT IT READS IS OF BULK AT MOST 1048576: true; the input reads as it did. -/
def fnExactIsDiagonalUptoRow : OpenClaim := { program := "ytnnchaggdnlfmaa", sum := "0afb61bda6131886a630f4e22cc6fdb612316e7970a4b0e79112cc673b42d871", func := "loop.example/g00956/laws.FnExactIsDiagonal", spec := "fnExactIsDiagonal", apart := false, narrowed := true }
def FnExactIsDiagonalUptoSaid : Prop := fnExactIsDiagonalUptoRow.holds Try.pinned (OpenSpec.upto fnExactIsDiagonalSpec)

/-- 'laws.FnExactDiagonalsOf', WHERE WHAT IT READS IS OF BULK AT MOST 1048576: true; the input reads as it did. -/
def fnExactDiagonalsOfUptoRow : OpenClaim := { program := "ytnnchaggdnlfmaa", sum := "0afb61bda6131886a630f4e22cc6fdb612316e7970a4b0e79112cc673b42d871", func := "loop.example/g00956/laws.FnExactDiagonalsOf", spec := "fnExactDiagonalsOf", apart := false, narrowed := true }
def FnExactDiagonalsOfUptoSaid : Prop := fnExactDiagonalsOfUptoRow.holds Try.pinned (OpenSpec.upto fnExactDiagonalsOfSpec)

/-- 'laws.FnExactTriangulate', WHERE WHAT IT READS IS OF BULK AT MOST 1048576: true; the input reads as it did. -/
def fnExactTriangulateUptoRow : OpenClaim := { program := "ytnnchaggdnlfmaa", sum := "0afb61bda6131886a630f4e22cc6fdb612316e7970a4b0e79112cc673b42d871", func := "loop.example/g00956/laws.FnExactTriangulate", spec := "fnExactTriangulate", apart := false, narrowed := true }
def FnExactTriangulateUptoSaid : Prop := fnExactTriangulateUptoRow.holds Try.pinned (OpenSpec.upto fnExactTriangulateSpec)

/-- 'laws.FnExactDisjoint', WHERE WHAT IT READS IS OF BULK AT MOST 1048576: true; the input reads as it did. -/
def fnExactDisjointUptoRow : OpenClaim := { program := "ytnnchaggdnlfmaa", sum := "0afb61bda6131886a630f4e22cc6fdb612316e7970a4b0e79112cc673b42d871", func := "loop.example/g00956/laws.FnExactDisjoint", spec := "fnExactDisjoint", apart := false, narrowed := true }
def FnExactDisjointUptoSaid : Prop := fnExactDisjointUptoRow.holds Try.pinned (OpenSpec.upto fnExactDisjointSpec)

/-- 'laws.FnExactJoinPolygons', WHERE WHAT IT READS IS OF BULK AT MOST 1048576: true; the input reads as it did. -/
def fnExactJoinPolygonsUptoRow : OpenClaim := { program := "ytnnchaggdnlfmaa", sum := "0afb61bda6131886a630f4e22cc6fdb612316e7970a4b0e79112cc673b42d871", func := "loop.example/g00956/laws.FnExactJoinPolygons", spec := "fnExactJoinPolygons", unfollowed := true, recurses := true, apart := false, narrowed := true }
def FnExactJoinPolygonsUptoSaid : Prop := fnExactJoinPolygonsUptoRow.holds Try.pinned (OpenSpec.upto fnExactJoinPolygonsSpec)

/-- 'laws.FnExactOverlapsOf', WHERE WHAT IT READS IS OF BULK AT MOST 1048576: true; the input reads as it did. -/
def fnExactOverlapsOfUptoRow : OpenClaim := { program := "ytnnchaggdnlfmaa", sum := "0afb61bda6131886a630f4e22cc6fdb612316e7970a4b0e79112cc673b42d871", func := "loop.example/g00956/laws.FnExactOverlapsOf", spec := "fnExactOverlapsOf", apart := false, narrowed := true }
def FnExactOverlapsOfUptoSaid : Prop := fnExactOverlapsOfUptoRow.holds Try.pinned (OpenSpec.upto fnExactOverlapsOfSpec)

/-- 'laws.FnExactCoversPanel', WHERE WHAT IT READS IS OF BULK AT MOST 1048576: true; the input reads as it did. -/
def fnExactCoversPanelUptoRow : OpenClaim := { program := "ytnnchaggdnlfmaa", sum := "0afb61bda6131886a630f4e22cc6fdb612316e7970a4b0e79112cc673b42d871", func := "loop.example/g00956/laws.FnExactCoversPanel", spec := "fnExactCoversPanel", apart := false, narrowed := true }
def FnExactCoversPanelUptoSaid : Prop := fnExactCoversPanelUptoRow.holds Try.pinned (OpenSpec.upto fnExactCoversPanelSpec)

/-- 'laws.FnExactTurnsOf', WHERE WHAT IT READS IS OF BULK AT MOST 1048576: true; the input reads as it did. -/
def fnExactTurnsOfUptoRow : OpenClaim := { program := "ytnnchaggdnlfmaa", sum := "0afb61bda6131886a630f4e22cc6fdb612316e7970a4b0e79112cc673b42d871", func := "loop.example/g00956/laws.FnExactTurnsOf", spec := "fnExactTurnsOf", apart := false, narrowed := true }
def FnExactTurnsOfUptoSaid : Prop := fnExactTurnsOfUptoRow.holds Try.pinned (OpenSpec.upto fnExactTurnsOfSpec)

/-- 'laws.FnExactStartAt', WHERE WHAT IT READS IS OF BULK AT MOST 1048576: true; the input reads as it did. -/
def fnExactStartAtUptoRow : OpenClaim := { program := "ytnnchaggdnlfmaa", sum := "0afb61bda6131886a630f4e22cc6fdb612316e7970a4b0e79112cc673b42d871", func := "loop.example/g00956/laws.FnExactStartAt", spec := "fnExactStartAt", apart := false, narrowed := true }
def FnExactStartAtUptoSaid : Prop := fnExactStartAtUptoRow.holds Try.pinned (OpenSpec.upto fnExactStartAtSpec)

/-- 'laws.FnExactFacePolygon', WHERE WHAT IT READS IS OF BULK AT MOST 1048576: true; the input reads as it did. -/
def fnExactFacePolygonUptoRow : OpenClaim := { program := "ytnnchaggdnlfmaa", sum := "0afb61bda6131886a630f4e22cc6fdb612316e7970a4b0e79112cc673b42d871", func := "loop.example/g00956/laws.FnExactFacePolygon", spec := "fnExactFacePolygon", apart := false, narrowed := true }
def FnExactFacePolygonUptoSaid : Prop := fnExactFacePolygonUptoRow.holds Try.pinned (OpenSpec.upto fnExactFacePolygonSpec)

/-- 'laws.FnExactUnusedPoints', WHERE WHAT IT READS IS OF BULK AT MOST 1048576: true; the input reads as it did. -/
def fnExactUnusedPointsUptoRow : OpenClaim := { program := "ytnnchaggdnlfmaa", sum := "0afb61bda6131886a630f4e22cc6fdb612316e7970a4b0e79112cc673b42d871", func := "loop.example/g00956/laws.FnExactUnusedPoints", spec := "fnExactUnusedPoints", unfollowed := true, recurses := true, apart := false, narrowed := true }
def FnExactUnusedPointsUptoSaid : Prop := fnExactUnusedPointsUptoRow.holds Try.pinned (OpenSpec.upto fnExactUnusedPointsSpec)

/-- 'laws.FnExactFacesOfEdge', WHERE WHAT IT READS IS OF BULK AT MOST 1048576: true; the input reads as it did. -/
def fnExactFacesOfEdgeUptoRow : OpenClaim := { program := "ytnnchaggdnlfmaa", sum := "0afb61bda6131886a630f4e22cc6fdb612316e7970a4b0e79112cc673b42d871", func := "loop.example/g00956/laws.FnExactFacesOfEdge", spec := "fnExactFacesOfEdge", apart := false, narrowed := true }
def FnExactFacesOfEdgeUptoSaid : Prop := fnExactFacesOfEdgeUptoRow.holds Try.pinned (OpenSpec.upto fnExactFacesOfEdgeSpec)

end Rows
end Go.Proofs.Ytnnchaggdnlfmaa
