-- PRINTED BY print.sh 35421559b90ae4d0a3588c463048766b98c2df88dd9212a6774a882060cdf62d: not written by this session
import Derived.Test.YtenicbchpnoafaaDoorProg
import Derived.IntWalk
import Derived.Laws.Cover1
import Derived.BigQuiet
import Derived.Deep.QuietTactic
import Derived.Below
import Derived.Deep.Draws
import Derived.Deep.AppendLies
import Derived.Maps.AppendAt
import Derived.OwnWalk
import Derived.Laws.BytesArg
import Derived.Laws.MakeOwn
import Derived.Laws.OwnMore
import Derived.Deep.OwnRows
import Derived.Tactics
import Derived.Lib.ConvBytes
import Derived.Laws.Slices
import Derived.WalkKit
import Derived.KernelRfl
import Derived.RowKit3
import Derived.Deep.LoopGhost
import Derived.Deep.QuietTactic
import Derived.BigQuiet
import Derived.WideLaws
import Derived.Deep.DeepCutAuto
import Derived.Deep.CutBlock
import Derived.Deep.RegionHeld3
import Derived.Laws.Rows
import Derived.Lib.AppendStr
import Derived.ArgAppend
import Derived.Laws.IdiomCopy
import Derived.OrdersHeld
import Derived.Laws.BitsLemmas
import Derived.RowKit
import Derived.Test.YtenicbchpnoafaaDoorWWords
import Derived.Test.YtenicbchpnoafaaDoorWLast
import Derived.Test.YtenicbchpnoafaaDoorWTab
import Derived.Test.YtenicbchpnoafaaDoorWFour
import Derived.Test.YtenicbchpnoafaaDoorWQPut
import Derived.Test.YtenicbchpnoafaaDoorWApart
import Derived.Test.YtenicbchpnoafaaDoorWArr
import Derived.Test.YtenicbchpnoafaaDoorWZeros
import Derived.Test.YtenicbchpnoafaaDoorWFoot
import Derived.Test.YtenicbchpnoafaaDoorWKept
import Derived.Test.YtenicbchpnoafaaDoorWShare
import Derived.Test.YtenicbchpnoafaaDoorWN
import Derived.Test.YtenicbchpnoafaaDoorWFootNe
import Derived.Test.YtenicbchpnoafaaDoorWAt
import Derived.Test.YtenicbchpnoafaaDoorWEqStruct
import Derived.Test.YtenicbchpnoafaaDoorWRepsOne
import Derived.Test.YtenicbchpnoafaaDoorWInv
import Derived.Test.YtenicbchpnoafaaDoorWInvWords
import Derived.Test.YtenicbchpnoafaaDoorWGuard
import Derived.Test.YtenicbchpnoafaaDoorWNEv
import Derived.Test.YtenicbchpnoafaaDoorWMore
namespace Go.Proofs.YtenicbchpnoafaaDoor.PFnExactDecimal
open Go.RowKit Go.Proofs.YtenicbchpnoafaaDoorW.PrintWords Go.Proofs.YtenicbchpnoafaaDoorW.PrintLast Go.Proofs.YtenicbchpnoafaaDoorW.PrintMore
attribute [local go_sem] max2_int min2_int max_two min_two max_three min_three max_four min_four   -- for this text's walks alone
set_option linter.unusedVariables false
set_option linter.unusedSimpArgs false



def errW : Option Int → Value
  | none => .nilIface
  | some c => .iface 0 (.int .i64 c)
theorem errW_none : errW none = .nilIface := rfl
theorem errW_some (c : Int) : errW (some c) = .iface 0 (.int .i64 c) := rfl

theorem info5 : (Tryd.prog.info? 5).map (fun i => (i.zero, i.size, i.bytes)) = some (some (.int .u8 0), 1, 1) := by kernel_rfl
-- the values' own types

end Go.Proofs.YtenicbchpnoafaaDoor.PFnExactDecimal
