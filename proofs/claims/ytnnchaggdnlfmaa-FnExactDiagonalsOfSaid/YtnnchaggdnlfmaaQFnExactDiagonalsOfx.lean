/- Contracts of functions that FnExactDiagonalsOf reaches, out of the lines of the kit's print. -/
import Derived.Test.YtnnchaggdnlfmaaQFnExactDiagonalsOfx0
import Derived.Test.YtnnchaggdnlfmaaQFnExactDiagonalsOfx1
import Derived.Test.YtnnchaggdnlfmaaQFnExactDiagonalsOfx2
import Derived.Test.YtnnchaggdnlfmaaQFnExactDiagonalsOfx3
import Derived.Test.YtnnchaggdnlfmaaQFnExactDiagonalsOfx4
import Derived.Test.YtnnchaggdnlfmaaQFnExactDiagonalsOfx5
import Derived.Test.YtnnchaggdnlfmaaQFnExactDiagonalsOfx6
import Derived.Test.YtnnchaggdnlfmaaQFnExactDiagonalsOfx7
import Derived.Test.YtnnchaggdnlfmaaQFnExactDiagonalsOfx8
import Derived.Test.YtnnchaggdnlfmaaQFnExactDiagonalsOfx9
import Derived.Test.YtnnchaggdnlfmaaQFnExactDiagonalsOfx10
import Derived.Test.YtnnchaggdnlfmaaQFnExactDiagonalsOfx11
import Derived.Test.YtnnchaggdnlfmaaQFnExactDiagonalsOfx12
import Derived.Test.YtnnchaggdnlfmaaQFnExactDiagonalsOfx13
namespace Go.Proofs.Ytnnchaggdnlfmaa.PFnExactDiagonalsOf
open Go.RowKit Go.Proofs.YtnnchaggdnlfmaaW.PrintWords Go.Proofs.YtnnchaggdnlfmaaW.PrintLast Go.Proofs.YtnnchaggdnlfmaaW.PrintMore
open Bool renaming true → tT, false → fF
open Go.World renaming block_lt_of_cell? → bL
attribute [local go_sem] max2_int min2_int max_two min_two max_three min_three max_four min_four
set_option linter.unusedVariables false
set_option linter.unusedSimpArgs false
end Go.Proofs.Ytnnchaggdnlfmaa.PFnExactDiagonalsOf
