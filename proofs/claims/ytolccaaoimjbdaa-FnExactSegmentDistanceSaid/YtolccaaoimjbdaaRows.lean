/-
  No cell of these rows narrows 'for every input' (looked for: loops, veiled, ifaces, maps, wideKeys, modest, calm, conditions, laid).
  DERIVED. THE GIVEN ROWS OF THIS SEAT. 12 by the template 'for every input the law returns true; each argument reads behind the call as it read before'; 0 by the template 'total and deterministic' (their statements: YtolccaaoimjbdaaTotals.lean).
  GIVEN WITH THE SEED: the statements are not yours to turn. If you find one false, say at which input.
  Laid BY PROGRAM, IN A SANDBOX (cutbox-rows.mjs): the forced cells as the released guide's own fill.sh prints them over the translation 668313dad061b014… (all of the seat's roots in one cut). By AI agents, Wed Nov 11 2026. No macro, syntax, notation, axiom, sorry.
-/
import Derived.Test.YtolccaaoimjbdaaChecked
import GoSem.Claim
import GoSem.ClaimJoined
import GoSem.ClaimMapViews
import Derived.JoinedTies
import Derived.KernelRfl
namespace Go.Proofs.Ytolccaaoimjbdaa
/- THE CELL 'sum', in the pinned program and in every row, IS THE sha256 OF THE DUMP (.gsa) THAT YtolccaaoimjbdaaProg.lean LOADS. Nothing in Lean hashes anything: it is a label: what it is worth is what the hold of that sum in a sandbox is worth. -/
noncomputable def Try.pinned : Pinned := { name := "ytolccaaoimjbdaa", sum := "668313dad061b01435c7e6234b3a7c9522cc13b8c71b604ff72f21618f68fb61", checked := Try.checked }
namespace Rows
def none {H : Type} : Left H := { results := [], args := [] }

/-- 'laws.FnExactSideOf': WHATEVER THE INPUT: true; the input reads as it did. -/
def fnExactSideOfSpec : ChangeSpec := { name := "fnExactSideOf", fn := fun _ => fun
  | [d1, d2, d3] => { results := [.lit (.bool true)], args := [d1, d2, d3] }
  | _ => none }
def fnExactSideOfRow : OpenClaim := { program := "ytolccaaoimjbdaa", sum := "668313dad061b01435c7e6234b3a7c9522cc13b8c71b604ff72f21618f68fb61", func := "loop.example/g00956/laws.FnExactSideOf", spec := "fnExactSideOf", apart := false }
def FnExactSideOfSaid : Prop := fnExactSideOfRow.holds Try.pinned (OpenSpec.ofChange fnExactSideOfSpec)

/-- ITS FALSE NEIGHBOUR: 'it returns false'. Refute it at one input. -/
def fnExactSideOfWrong : ChangeSpec := { name := "fnExactSideOf", fn := fun _ => fun
  | [d1, d2, d3] => { results := [.lit (.bool false)], args := [d1, d2, d3] }
  | _ => none }
def FnExactSideOfWrongFalsely : Prop := fnExactSideOfRow.holds Try.pinned (OpenSpec.ofChange fnExactSideOfWrong)

/-- 'laws.FnExactOnSegment': WHATEVER THE INPUT: true; the input reads as it did. -/
def fnExactOnSegmentSpec : ChangeSpec := { name := "fnExactOnSegment", fn := fun _ => fun
  | [d1, d2, d3] => { results := [.lit (.bool true)], args := [d1, d2, d3] }
  | _ => none }
def fnExactOnSegmentRow : OpenClaim := { program := "ytolccaaoimjbdaa", sum := "668313dad061b01435c7e6234b3a7c9522cc13b8c71b604ff72f21618f68fb61", func := "loop.example/g00956/laws.FnExactOnSegment", spec := "fnExactOnSegment", apart := false }
def FnExactOnSegmentSaid : Prop := fnExactOnSegmentRow.holds Try.pinned (OpenSpec.ofChange fnExactOnSegmentSpec)

/-- ITS FALSE NEIGHBOUR: 'it returns false'. Refute it at one input. -/
def fnExactOnSegmentWrong : ChangeSpec := { name := "fnExactOnSegment", fn := fun _ => fun
  | [d1, d2, d3] => { results := [.lit (.bool false)], args := [d1, d2, d3] }
  | _ => none }
def FnExactOnSegmentWrongFalsely : Prop := fnExactOnSegmentRow.holds Try.pinned (OpenSpec.ofChange fnExactOnSegmentWrong)

/-- 'laws.FnExactInTriangle': WHATEVER THE INPUT: true; the input reads as it did. -/
def fnExactInTriangleSpec : ChangeSpec := { name := "fnExactInTriangle", fn := fun _ => fun
  | [d1, d2, d3, d4] => { results := [.lit (.bool true)], args := [d1, d2, d3, d4] }
  | _ => none }
def fnExactInTriangleRow : OpenClaim := { program := "ytolccaaoimjbdaa", sum := "668313dad061b01435c7e6234b3a7c9522cc13b8c71b604ff72f21618f68fb61", func := "loop.example/g00956/laws.FnExactInTriangle", spec := "fnExactInTriangle", apart := false }
def FnExactInTriangleSaid : Prop := fnExactInTriangleRow.holds Try.pinned (OpenSpec.ofChange fnExactInTriangleSpec)

/-- ITS FALSE NEIGHBOUR: 'it returns false'. Refute it at one input. -/
def fnExactInTriangleWrong : ChangeSpec := { name := "fnExactInTriangle", fn := fun _ => fun
  | [d1, d2, d3, d4] => { results := [.lit (.bool false)], args := [d1, d2, d3, d4] }
  | _ => none }
def FnExactInTriangleWrongFalsely : Prop := fnExactInTriangleRow.holds Try.pinned (OpenSpec.ofChange fnExactInTriangleWrong)

/-- 'laws.FnExactTouches': WHATEVER THE INPUT: true; the input reads as it did. -/
def fnExactTouchesSpec : ChangeSpec := { name := "fnExactTouches", fn := fun _ => fun
  | [d1, d2, d3, d4] => { results := [.lit (.bool true)], args := [d1, d2, d3, d4] }
  | _ => none }
def fnExactTouchesRow : OpenClaim := { program := "ytolccaaoimjbdaa", sum := "668313dad061b01435c7e6234b3a7c9522cc13b8c71b604ff72f21618f68fb61", func := "loop.example/g00956/laws.FnExactTouches", spec := "fnExactTouches", apart := false }
def FnExactTouchesSaid : Prop := fnExactTouchesRow.holds Try.pinned (OpenSpec.ofChange fnExactTouchesSpec)

/-- ITS FALSE NEIGHBOUR: 'it returns false'. Refute it at one input. -/
def fnExactTouchesWrong : ChangeSpec := { name := "fnExactTouches", fn := fun _ => fun
  | [d1, d2, d3, d4] => { results := [.lit (.bool false)], args := [d1, d2, d3, d4] }
  | _ => none }
def FnExactTouchesWrongFalsely : Prop := fnExactTouchesRow.holds Try.pinned (OpenSpec.ofChange fnExactTouchesWrong)

/-- 'laws.FnExactDistance': WHATEVER THE INPUT: true; the input reads as it did. -/
def fnExactDistanceSpec : ChangeSpec := { name := "fnExactDistance", fn := fun _ => fun
  | [d1, d2] => { results := [.lit (.bool true)], args := [d1, d2] }
  | _ => none }
def fnExactDistanceRow : OpenClaim := { program := "ytolccaaoimjbdaa", sum := "668313dad061b01435c7e6234b3a7c9522cc13b8c71b604ff72f21618f68fb61", func := "loop.example/g00956/laws.FnExactDistance", spec := "fnExactDistance", apart := false }
def FnExactDistanceSaid : Prop := fnExactDistanceRow.holds Try.pinned (OpenSpec.ofChange fnExactDistanceSpec)

/-- ITS FALSE NEIGHBOUR: 'it returns false'. Refute it at one input. -/
def fnExactDistanceWrong : ChangeSpec := { name := "fnExactDistance", fn := fun _ => fun
  | [d1, d2] => { results := [.lit (.bool false)], args := [d1, d2] }
  | _ => none }
def FnExactDistanceWrongFalsely : Prop := fnExactDistanceRow.holds Try.pinned (OpenSpec.ofChange fnExactDistanceWrong)

/-- 'laws.FnExactCrossPoint': WHATEVER THE INPUT: true; the input reads as it did. -/
def fnExactCrossPointSpec : ChangeSpec := { name := "fnExactCrossPoint", fn := fun _ => fun
  | [d1, d2, d3, d4] => { results := [.lit (.bool true)], args := [d1, d2, d3, d4] }
  | _ => none }
def fnExactCrossPointRow : OpenClaim := { program := "ytolccaaoimjbdaa", sum := "668313dad061b01435c7e6234b3a7c9522cc13b8c71b604ff72f21618f68fb61", func := "loop.example/g00956/laws.FnExactCrossPoint", spec := "fnExactCrossPoint", apart := false }
def FnExactCrossPointSaid : Prop := fnExactCrossPointRow.holds Try.pinned (OpenSpec.ofChange fnExactCrossPointSpec)

/-- ITS FALSE NEIGHBOUR: 'it returns false'. Refute it at one input. -/
def fnExactCrossPointWrong : ChangeSpec := { name := "fnExactCrossPoint", fn := fun _ => fun
  | [d1, d2, d3, d4] => { results := [.lit (.bool false)], args := [d1, d2, d3, d4] }
  | _ => none }
def FnExactCrossPointWrongFalsely : Prop := fnExactCrossPointRow.holds Try.pinned (OpenSpec.ofChange fnExactCrossPointWrong)

/-- 'laws.FnExactDistanceToSegment': WHATEVER THE INPUT: true; the input reads as it did. -/
def fnExactDistanceToSegmentSpec : ChangeSpec := { name := "fnExactDistanceToSegment", fn := fun _ => fun
  | [d1, d2, d3] => { results := [.lit (.bool true)], args := [d1, d2, d3] }
  | _ => none }
def fnExactDistanceToSegmentRow : OpenClaim := { program := "ytolccaaoimjbdaa", sum := "668313dad061b01435c7e6234b3a7c9522cc13b8c71b604ff72f21618f68fb61", func := "loop.example/g00956/laws.FnExactDistanceToSegment", spec := "fnExactDistanceToSegment", named := ["math/bits.divideError", "math/bits.overflowError"], apart := false }
def FnExactDistanceToSegmentSaid : Prop := fnExactDistanceToSegmentRow.holds Try.pinned (OpenSpec.ofChange fnExactDistanceToSegmentSpec)

/-- ITS FALSE NEIGHBOUR: 'it returns false'. Refute it at one input. -/
def fnExactDistanceToSegmentWrong : ChangeSpec := { name := "fnExactDistanceToSegment", fn := fun _ => fun
  | [d1, d2, d3] => { results := [.lit (.bool false)], args := [d1, d2, d3] }
  | _ => none }
def FnExactDistanceToSegmentWrongFalsely : Prop := fnExactDistanceToSegmentRow.holds Try.pinned (OpenSpec.ofChange fnExactDistanceToSegmentWrong)

/-- 'laws.FnExactSegmentDistance': WHATEVER THE INPUT: true; the input reads as it did. -/
def fnExactSegmentDistanceSpec : ChangeSpec := { name := "fnExactSegmentDistance", fn := fun _ => fun
  | [d1, d2, d3, d4] => { results := [.lit (.bool true)], args := [d1, d2, d3, d4] }
  | _ => none }
def fnExactSegmentDistanceRow : OpenClaim := { program := "ytolccaaoimjbdaa", sum := "668313dad061b01435c7e6234b3a7c9522cc13b8c71b604ff72f21618f68fb61", func := "loop.example/g00956/laws.FnExactSegmentDistance", spec := "fnExactSegmentDistance", named := ["math/bits.divideError", "math/bits.overflowError"], apart := false }
def FnExactSegmentDistanceSaid : Prop := fnExactSegmentDistanceRow.holds Try.pinned (OpenSpec.ofChange fnExactSegmentDistanceSpec)

/-- ITS FALSE NEIGHBOUR: 'it returns false'. Refute it at one input. -/
def fnExactSegmentDistanceWrong : ChangeSpec := { name := "fnExactSegmentDistance", fn := fun _ => fun
  | [d1, d2, d3, d4] => { results := [.lit (.bool false)], args := [d1, d2, d3, d4] }
  | _ => none }
def FnExactSegmentDistanceWrongFalsely : Prop := fnExactSegmentDistanceRow.holds Try.pinned (OpenSpec.ofChange fnExactSegmentDistanceWrong)

/-- 'laws.FnExactValidPolygon': WHATEVER THE INPUT: true; the input reads as it did. -/
def fnExactValidPolygonSpec : ChangeSpec := { name := "fnExactValidPolygon", fn := fun _ => fun
  | [d] => { results := [.lit (.bool true)], args := [d] }
  | _ => none }
def fnExactValidPolygonRow : OpenClaim := { program := "ytolccaaoimjbdaa", sum := "668313dad061b01435c7e6234b3a7c9522cc13b8c71b604ff72f21618f68fb61", func := "loop.example/g00956/laws.FnExactValidPolygon", spec := "fnExactValidPolygon", apart := false }
def FnExactValidPolygonSaid : Prop := fnExactValidPolygonRow.holds Try.pinned (OpenSpec.ofChange fnExactValidPolygonSpec)

/-- ITS FALSE NEIGHBOUR: 'it returns false'. Refute it at one input. -/
def fnExactValidPolygonWrong : ChangeSpec := { name := "fnExactValidPolygon", fn := fun _ => fun
  | [d] => { results := [.lit (.bool false)], args := [d] }
  | _ => none }
def FnExactValidPolygonWrongFalsely : Prop := fnExactValidPolygonRow.holds Try.pinned (OpenSpec.ofChange fnExactValidPolygonWrong)

/-- 'laws.FnExactAreaTwice': WHATEVER THE INPUT: true; the input reads as it did. -/
def fnExactAreaTwiceSpec : ChangeSpec := { name := "fnExactAreaTwice", fn := fun _ => fun
  | [d] => { results := [.lit (.bool true)], args := [d] }
  | _ => none }
def fnExactAreaTwiceRow : OpenClaim := { program := "ytolccaaoimjbdaa", sum := "668313dad061b01435c7e6234b3a7c9522cc13b8c71b604ff72f21618f68fb61", func := "loop.example/g00956/laws.FnExactAreaTwice", spec := "fnExactAreaTwice", apart := false }
def FnExactAreaTwiceSaid : Prop := fnExactAreaTwiceRow.holds Try.pinned (OpenSpec.ofChange fnExactAreaTwiceSpec)

/-- ITS FALSE NEIGHBOUR: 'it returns false'. Refute it at one input. -/
def fnExactAreaTwiceWrong : ChangeSpec := { name := "fnExactAreaTwice", fn := fun _ => fun
  | [d] => { results := [.lit (.bool false)], args := [d] }
  | _ => none }
def FnExactAreaTwiceWrongFalsely : Prop := fnExactAreaTwiceRow.holds Try.pinned (OpenSpec.ofChange fnExactAreaTwiceWrong)

/-- 'laws.FnExactIsConvex': WHATEVER THE INPUT: true; the input reads as it did. -/
def fnExactIsConvexSpec : ChangeSpec := { name := "fnExactIsConvex", fn := fun _ => fun
  | [d] => { results := [.lit (.bool true)], args := [d] }
  | _ => none }
def fnExactIsConvexRow : OpenClaim := { program := "ytolccaaoimjbdaa", sum := "668313dad061b01435c7e6234b3a7c9522cc13b8c71b604ff72f21618f68fb61", func := "loop.example/g00956/laws.FnExactIsConvex", spec := "fnExactIsConvex", apart := false }
def FnExactIsConvexSaid : Prop := fnExactIsConvexRow.holds Try.pinned (OpenSpec.ofChange fnExactIsConvexSpec)

/-- ITS FALSE NEIGHBOUR: 'it returns false'. Refute it at one input. -/
def fnExactIsConvexWrong : ChangeSpec := { name := "fnExactIsConvex", fn := fun _ => fun
  | [d] => { results := [.lit (.bool false)], args := [d] }
  | _ => none }
def FnExactIsConvexWrongFalsely : Prop := fnExactIsConvexRow.holds Try.pinned (OpenSpec.ofChange fnExactIsConvexWrong)

/-- 'laws.FnExactBoundsOf': WHATEVER THE INPUT: true; the input reads as it did. -/
def fnExactBoundsOfSpec : ChangeSpec := { name := "fnExactBoundsOf", fn := fun _ => fun
  | [d] => { results := [.lit (.bool true)], args := [d] }
  | _ => none }
def fnExactBoundsOfRow : OpenClaim := { program := "ytolccaaoimjbdaa", sum := "668313dad061b01435c7e6234b3a7c9522cc13b8c71b604ff72f21618f68fb61", func := "loop.example/g00956/laws.FnExactBoundsOf", spec := "fnExactBoundsOf", apart := false }
def FnExactBoundsOfSaid : Prop := fnExactBoundsOfRow.holds Try.pinned (OpenSpec.ofChange fnExactBoundsOfSpec)

/-- ITS FALSE NEIGHBOUR: 'it returns false'. Refute it at one input. -/
def fnExactBoundsOfWrong : ChangeSpec := { name := "fnExactBoundsOf", fn := fun _ => fun
  | [d] => { results := [.lit (.bool false)], args := [d] }
  | _ => none }
def FnExactBoundsOfWrongFalsely : Prop := fnExactBoundsOfRow.holds Try.pinned (OpenSpec.ofChange fnExactBoundsOfWrong)

/- THE SECOND FORM. 'bulk': how many values and letters a reading holds, each counted each time it is reached (what is shared counts as often as it is met; a slice's spare places count too). A statement '..UptoSaid' is the law's where the arguments, and the package variables that the reading takes, are together of bulk at most 1048576: NARROWER than '..Said'. Prove '..Said' where nothing that the law and all that it calls make is longer than what came in: it says more and counts as full. Else prove '..UptoSaid'. A law counts once. -/
mutual
def uptoBulk {H : Type} : DataW H → Nat
  | .lit (.string bytes) => bytes.length + 1
  | .lit _ => 1
  | .nil => 1
  | .ptr d => uptoBulk d + 1
  | .slice elems spare => uptoBulkAll elems + uptoBulkAll spare + 1
  | .agg parts => uptoBulkAll parts + 1
  | .iface _ d => uptoBulk d + 1
  | .map entries => uptoBulkEntries entries + 1
  | .held _ => 1
def uptoBulkAll {H : Type} : List (DataW H) → Nat
  | [] => 0
  | d :: r => uptoBulk d + uptoBulkAll r
def uptoBulkEntries {H : Type} : List (Lit × DataW H) → Nat
  | [] => 0
  | x :: r => uptoBulkEntry x + uptoBulkEntries r
def uptoBulkEntry {H : Type} : Lit × DataW H → Nat
  | (.string bytes, d) => bytes.length + uptoBulk d + 1
  | (_, d) => uptoBulk d + 1
 end
def uptoSmall : (H : Type) → List (DataW H) → Bool := fun _ ds => decide (uptoBulkAll ds ≤ 1048576)
def OpenSpec.upto (s : _root_.Go.ChangeSpec) : _root_.Go.OpenSpec := { _root_.Go.OpenSpec.ofChange s with cond := some uptoSmall }

/-- 'laws.FnExactSideOf', WHERE WHAT IT READS IS OF BULK AT MOST 1048576: true; the input reads as it did. -/
def fnExactSideOfUptoRow : OpenClaim := { program := "ytolccaaoimjbdaa", sum := "668313dad061b01435c7e6234b3a7c9522cc13b8c71b604ff72f21618f68fb61", func := "loop.example/g00956/laws.FnExactSideOf", spec := "fnExactSideOf", apart := false, narrowed := true }
def FnExactSideOfUptoSaid : Prop := fnExactSideOfUptoRow.holds Try.pinned (OpenSpec.upto fnExactSideOfSpec)

/-- 'laws.FnExactOnSegment', WHERE WHAT IT READS IS OF BULK AT MOST 1048576: true; the input reads as it did. -/
def fnExactOnSegmentUptoRow : OpenClaim := { program := "ytolccaaoimjbdaa", sum := "668313dad061b01435c7e6234b3a7c9522cc13b8c71b604ff72f21618f68fb61", func := "loop.example/g00956/laws.FnExactOnSegment", spec := "fnExactOnSegment", apart := false, narrowed := true }
def FnExactOnSegmentUptoSaid : Prop := fnExactOnSegmentUptoRow.holds Try.pinned (OpenSpec.upto fnExactOnSegmentSpec)

/-- 'laws.FnExactInTriangle', WHERE WHAT IT READS IS OF BULK AT MOST 1048576: true; the input reads as it did. -/
def fnExactInTriangleUptoRow : OpenClaim := { program := "ytolccaaoimjbdaa", sum := "668313dad061b01435c7e6234b3a7c9522cc13b8c71b604ff72f21618f68fb61", func := "loop.example/g00956/laws.FnExactInTriangle", spec := "fnExactInTriangle", apart := false, narrowed := true }
def FnExactInTriangleUptoSaid : Prop := fnExactInTriangleUptoRow.holds Try.pinned (OpenSpec.upto fnExactInTriangleSpec)

/-- 'laws.FnExactTouches', WHERE WHAT IT READS IS OF BULK AT MOST 1048576: true; the input reads as it did. -/
def fnExactTouchesUptoRow : OpenClaim := { program := "ytolccaaoimjbdaa", sum := "668313dad061b01435c7e6234b3a7c9522cc13b8c71b604ff72f21618f68fb61", func := "loop.example/g00956/laws.FnExactTouches", spec := "fnExactTouches", apart := false, narrowed := true }
def FnExactTouchesUptoSaid : Prop := fnExactTouchesUptoRow.holds Try.pinned (OpenSpec.upto fnExactTouchesSpec)

/-- 'laws.FnExactDistance', WHERE WHAT IT READS IS OF BULK AT MOST 1048576: true; the input reads as it did. -/
def fnExactDistanceUptoRow : OpenClaim := { program := "ytolccaaoimjbdaa", sum := "668313dad061b01435c7e6234b3a7c9522cc13b8c71b604ff72f21618f68fb61", func := "loop.example/g00956/laws.FnExactDistance", spec := "fnExactDistance", apart := false, narrowed := true }
def FnExactDistanceUptoSaid : Prop := fnExactDistanceUptoRow.holds Try.pinned (OpenSpec.upto fnExactDistanceSpec)

/-- 'laws.FnExactCrossPoint', WHERE WHAT IT READS IS OF BULK AT MOST 1048576: true; the input reads as it did. -/
def fnExactCrossPointUptoRow : OpenClaim := { program := "ytolccaaoimjbdaa", sum := "668313dad061b01435c7e6234b3a7c9522cc13b8c71b604ff72f21618f68fb61", func := "loop.example/g00956/laws.FnExactCrossPoint", spec := "fnExactCrossPoint", apart := false, narrowed := true }
def FnExactCrossPointUptoSaid : Prop := fnExactCrossPointUptoRow.holds Try.pinned (OpenSpec.upto fnExactCrossPointSpec)

/-- 'laws.FnExactDistanceToSegment', WHERE WHAT IT READS IS OF BULK AT MOST 1048576: true; the input reads as it did. -/
def fnExactDistanceToSegmentUptoRow : OpenClaim := { program := "ytolccaaoimjbdaa", sum := "668313dad061b01435c7e6234b3a7c9522cc13b8c71b604ff72f21618f68fb61", func := "loop.example/g00956/laws.FnExactDistanceToSegment", spec := "fnExactDistanceToSegment", named := ["math/bits.divideError", "math/bits.overflowError"], apart := false, narrowed := true }
def FnExactDistanceToSegmentUptoSaid : Prop := fnExactDistanceToSegmentUptoRow.holds Try.pinned (OpenSpec.upto fnExactDistanceToSegmentSpec)

/-- 'laws.FnExactSegmentDistance', WHERE WHAT IT READS IS OF BULK AT MOST 1048576: true; the input reads as it did. -/
def fnExactSegmentDistanceUptoRow : OpenClaim := { program := "ytolccaaoimjbdaa", sum := "668313dad061b01435c7e6234b3a7c9522cc13b8c71b604ff72f21618f68fb61", func := "loop.example/g00956/laws.FnExactSegmentDistance", spec := "fnExactSegmentDistance", named := ["math/bits.divideError", "math/bits.overflowError"], apart := false, narrowed := true }
def FnExactSegmentDistanceUptoSaid : Prop := fnExactSegmentDistanceUptoRow.holds Try.pinned (OpenSpec.upto fnExactSegmentDistanceSpec)

/-- 'laws.FnExactValidPolygon', WHERE WHAT IT READS IS OF BULK AT MOST 1048576: true; the input reads as it did. -/
def fnExactValidPolygonUptoRow : OpenClaim := { program := "ytolccaaoimjbdaa", sum := "668313dad061b01435c7e6234b3a7c9522cc13b8c71b604ff72f21618f68fb61", func := "loop.example/g00956/laws.FnExactValidPolygon", spec := "fnExactValidPolygon", apart := false, narrowed := true }
def FnExactValidPolygonUptoSaid : Prop := fnExactValidPolygonUptoRow.holds Try.pinned (OpenSpec.upto fnExactValidPolygonSpec)

/-- 'laws.FnExactAreaTwice', WHERE WHAT IT READS IS OF BULK AT MOST 1048576: true; the input reads as it did. -/
def fnExactAreaTwiceUptoRow : OpenClaim := { program := "ytolccaaoimjbdaa", sum := "668313dad061b01435c7e6234b3a7c9522cc13b8c71b604ff72f21618f68fb61", func := "loop.example/g00956/laws.FnExactAreaTwice", spec := "fnExactAreaTwice", apart := false, narrowed := true }
def FnExactAreaTwiceUptoSaid : Prop := fnExactAreaTwiceUptoRow.holds Try.pinned (OpenSpec.upto fnExactAreaTwiceSpec)

/-- 'laws.FnExactIsConvex', WHERE WHAT IT READS IS OF BULK AT MOST 1048576: true; the input reads as it did. -/
def fnExactIsConvexUptoRow : OpenClaim := { program := "ytolccaaoimjbdaa", sum := "668313dad061b01435c7e6234b3a7c9522cc13b8c71b604ff72f21618f68fb61", func := "loop.example/g00956/laws.FnExactIsConvex", spec := "fnExactIsConvex", apart := false, narrowed := true }
def FnExactIsConvexUptoSaid : Prop := fnExactIsConvexUptoRow.holds Try.pinned (OpenSpec.upto fnExactIsConvexSpec)

/-- 'laws.FnExactBoundsOf', WHERE WHAT IT READS IS OF BULK AT MOST 1048576: true; the input reads as it did. -/
def fnExactBoundsOfUptoRow : OpenClaim := { program := "ytolccaaoimjbdaa", sum := "668313dad061b01435c7e6234b3a7c9522cc13b8c71b604ff72f21618f68fb61", func := "loop.example/g00956/laws.FnExactBoundsOf", spec := "fnExactBoundsOf", apart := false, narrowed := true }
def FnExactBoundsOfUptoSaid : Prop := fnExactBoundsOfUptoRow.holds Try.pinned (OpenSpec.upto fnExactBoundsOfSpec)

end Rows
end Go.Proofs.Ytolccaaoimjbdaa
