/- Contracts of functions that FnExactSameDrawing reaches, out of the lines of the kit's print. -/
import Derived.Test.YtfhgfdphdmlpbaaQFnExactSameDrawingx0
import Derived.Test.YtfhgfdphdmlpbaaQFnExactSameDrawingx1
import Derived.Test.YtfhgfdphdmlpbaaQFnExactSameDrawingx2
import Derived.Test.YtfhgfdphdmlpbaaQFnExactSameDrawingx3
import Derived.Test.YtfhgfdphdmlpbaaQFnExactSameDrawingx4
import Derived.Test.YtfhgfdphdmlpbaaQFnExactSameDrawingx5
import Derived.Test.YtfhgfdphdmlpbaaQFnExactSameDrawingx6
namespace Go.Proofs.Ytfhgfdphdmlpbaa.PFnExactSameDrawing
open Go.RowKit Go.Proofs.YtfhgfdphdmlpbaaW.PrintWords Go.Proofs.YtfhgfdphdmlpbaaW.PrintLast Go.Proofs.YtfhgfdphdmlpbaaW.PrintMore
open Bool renaming true → tT, false → fF
open Go.World renaming block_lt_of_cell? → bL
attribute [local go_sem] max2_int min2_int max_two min_two max_three min_three max_four min_four
set_option linter.unusedVariables false
set_option linter.unusedSimpArgs false
end Go.Proofs.Ytfhgfdphdmlpbaa.PFnExactSameDrawing
