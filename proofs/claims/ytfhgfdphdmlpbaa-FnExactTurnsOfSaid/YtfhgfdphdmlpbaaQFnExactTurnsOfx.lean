/- Contracts of functions that FnExactTurnsOf reaches, out of the lines of the kit's print. -/
import Derived.Test.YtfhgfdphdmlpbaaQFnExactTurnsOfx0
import Derived.Test.YtfhgfdphdmlpbaaQFnExactTurnsOfx1
import Derived.Test.YtfhgfdphdmlpbaaQFnExactTurnsOfx2
import Derived.Test.YtfhgfdphdmlpbaaQFnExactTurnsOfx3
import Derived.Test.YtfhgfdphdmlpbaaQFnExactTurnsOfx4
import Derived.Test.YtfhgfdphdmlpbaaQFnExactTurnsOfx5
import Derived.Test.YtfhgfdphdmlpbaaQFnExactTurnsOfx6
import Derived.Test.YtfhgfdphdmlpbaaQFnExactTurnsOfx7
import Derived.Test.YtfhgfdphdmlpbaaQFnExactTurnsOfx8
import Derived.Test.YtfhgfdphdmlpbaaQFnExactTurnsOfx9
import Derived.Test.YtfhgfdphdmlpbaaQFnExactTurnsOfx10
import Derived.Test.YtfhgfdphdmlpbaaQFnExactTurnsOfx11
import Derived.Test.YtfhgfdphdmlpbaaQFnExactTurnsOfx12
import Derived.Test.YtfhgfdphdmlpbaaQFnExactTurnsOfx13
import Derived.Test.YtfhgfdphdmlpbaaQFnExactTurnsOfx14
import Derived.Test.YtfhgfdphdmlpbaaQFnExactTurnsOfx15
import Derived.Test.YtfhgfdphdmlpbaaQFnExactTurnsOfx16
namespace Go.Proofs.Ytfhgfdphdmlpbaa.PFnExactTurnsOf
open Go.RowKit Go.Proofs.YtfhgfdphdmlpbaaW.PrintWords Go.Proofs.YtfhgfdphdmlpbaaW.PrintLast Go.Proofs.YtfhgfdphdmlpbaaW.PrintMore
open Bool renaming true → tT, false → fF
open Go.World renaming block_lt_of_cell? → bL
attribute [local go_sem] max2_int min2_int max_two min_two max_three min_three max_four min_four
set_option linter.unusedVariables false
set_option linter.unusedSimpArgs false
end Go.Proofs.Ytfhgfdphdmlpbaa.PFnExactTurnsOf
