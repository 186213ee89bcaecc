/- Contracts of functions that FnExactEdgesOf reaches, out of the lines of the kit's print. -/
import Derived.Test.YtpeebobdbaemiaaQFnExactEdgesOfx0
import Derived.Test.YtpeebobdbaemiaaQFnExactEdgesOfx1
import Derived.Test.YtpeebobdbaemiaaQFnExactEdgesOfx2
import Derived.Test.YtpeebobdbaemiaaQFnExactEdgesOfx3
import Derived.Test.YtpeebobdbaemiaaQFnExactEdgesOfx4
import Derived.Test.YtpeebobdbaemiaaQFnExactEdgesOfx5
import Derived.Test.YtpeebobdbaemiaaQFnExactEdgesOfx6
import Derived.Test.YtpeebobdbaemiaaQFnExactEdgesOfx7
import Derived.Test.YtpeebobdbaemiaaQFnExactEdgesOfx8
import Derived.Test.YtpeebobdbaemiaaQFnExactEdgesOfx9
import Derived.Test.YtpeebobdbaemiaaQFnExactEdgesOfx10
import Derived.Test.YtpeebobdbaemiaaQFnExactEdgesOfx11
import Derived.Test.YtpeebobdbaemiaaQFnExactEdgesOfx12
import Derived.Test.YtpeebobdbaemiaaQFnExactEdgesOfx13
import Derived.Test.YtpeebobdbaemiaaQFnExactEdgesOfx14
import Derived.Test.YtpeebobdbaemiaaQFnExactEdgesOfx15
import Derived.Test.YtpeebobdbaemiaaQFnExactEdgesOfx16
import Derived.Test.YtpeebobdbaemiaaQFnExactEdgesOfx17
import Derived.Test.YtpeebobdbaemiaaQFnExactEdgesOfx18
import Derived.Test.YtpeebobdbaemiaaQFnExactEdgesOfx19
namespace Go.Proofs.Ytpeebobdbaemiaa.PFnExactEdgesOf
open Go.RowKit Go.Proofs.YtpeebobdbaemiaaW.PrintWords Go.Proofs.YtpeebobdbaemiaaW.PrintLast Go.Proofs.YtpeebobdbaemiaaW.PrintMore
open Bool renaming true → tT, false → fF
open Go.World renaming block_lt_of_cell? → bL
attribute [local go_sem] max2_int min2_int max_two min_two max_three min_three max_four min_four
set_option linter.unusedVariables false
set_option linter.unusedSimpArgs false
end Go.Proofs.Ytpeebobdbaemiaa.PFnExactEdgesOf
