/- Contracts of the functions that FnExactReadList reaches: own text, out of the lines that the kit's print gave, with the facts that its walks lacked. -/
import Derived.Test.YtdegladckdnhiaaDoorProg
import Derived.IntWalk
import Derived.Laws.Cover1
import Derived.BigQuiet
import Derived.Deep.QuietTactic
import Derived.Below
import Derived.Deep.Draws
import Derived.Deep.AppendLies
import Derived.Maps.AppendAt
import Derived.OwnWalk
import Derived.Laws.BytesArg
import Derived.Laws.MakeOwn
import Derived.Laws.OwnMore
import Derived.Deep.OwnRows
import Derived.Tactics
import Derived.Lib.ConvBytes
import Derived.Laws.Slices
import Derived.WalkKit
import Derived.KernelRfl
import Derived.RowKit3
import Derived.Deep.LoopGhost
import Derived.Deep.QuietTactic
import Derived.BigQuiet
import Derived.WideLaws
import Derived.Deep.DeepCutAuto
import Derived.Deep.CutBlock
import Derived.Deep.RegionHeld3
import Derived.Laws.Rows
import Derived.Lib.AppendStr
import Derived.ArgAppend
import Derived.Laws.IdiomCopy
import Derived.OrdersHeld
import Derived.Laws.BitsLemmas
import Derived.RowKit
import Derived.Test.YtdegladckdnhiaaDoorWWords
import Derived.Test.YtdegladckdnhiaaDoorWLast
import Derived.Test.YtdegladckdnhiaaDoorWTab
import Derived.Test.YtdegladckdnhiaaDoorWFour
import Derived.Test.YtdegladckdnhiaaDoorWQPut
import Derived.Test.YtdegladckdnhiaaDoorWApart
import Derived.Test.YtdegladckdnhiaaDoorWArr
import Derived.Test.YtdegladckdnhiaaDoorWZeros
import Derived.Test.YtdegladckdnhiaaDoorWFoot
import Derived.Test.YtdegladckdnhiaaDoorWKept
import Derived.Test.YtdegladckdnhiaaDoorWShare
import Derived.Test.YtdegladckdnhiaaDoorWN
import Derived.Test.YtdegladckdnhiaaDoorWFootNe
import Derived.Test.YtdegladckdnhiaaDoorWAt
import Derived.Test.YtdegladckdnhiaaDoorWEqStruct
import Derived.Test.YtdegladckdnhiaaDoorWRepsOne
import Derived.Test.YtdegladckdnhiaaDoorWInv
import Derived.Test.YtdegladckdnhiaaDoorWInvWords
import Derived.Test.YtdegladckdnhiaaDoorWGuard
import Derived.Test.YtdegladckdnhiaaDoorWNEv
import Derived.Test.YtdegladckdnhiaaDoorWMore
import Derived.Test.YtdegladckdnhiaaDoorGlob
namespace Go.Proofs.YtdegladckdnhiaaDoor.PFnExactReadList
open Go.RowKit Go.Proofs.YtdegladckdnhiaaDoorW.PrintWords Go.Proofs.YtdegladckdnhiaaDoorW.PrintLast Go.Proofs.YtdegladckdnhiaaDoorW.PrintMore
attribute [local go_sem] max2_int min2_int max_two min_two max_three min_three max_four min_four   -- for this text's walks alone
set_option linter.unusedVariables false
set_option linter.unusedSimpArgs false



def errW : Option Int → Value
  | none => .nilIface
  | some c => .iface 0 (.int .i64 c)
theorem errW_none : errW none = .nilIface := rfl
theorem errW_some (c : Int) : errW (some c) = .iface 0 (.int .i64 c) := rfl

theorem info2 : (Tryd.prog.info? 2).map (fun i => (i.zero, i.size, i.bytes)) = some (some (.int .i64 0), 1, 8) := by kernel_rfl
theorem info9 : (Tryd.prog.info? 9).map (fun i => (i.zero, i.size, i.bytes)) = some (some (.string ⟨#[]⟩), 1, 16) := by kernel_rfl
-- the values' own types

end Go.Proofs.YtdegladckdnhiaaDoor.PFnExactReadList
