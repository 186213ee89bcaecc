/- Contracts of functions that FnExactIsDiagonal reaches, out of the lines of the kit's print. -/
import Derived.Test.YtnnchaggdnlfmaaQFnExactIsDiagonalx0
import Derived.Test.YtnnchaggdnlfmaaQFnExactIsDiagonalx1
import Derived.Test.YtnnchaggdnlfmaaQFnExactIsDiagonalx2
import Derived.Test.YtnnchaggdnlfmaaQFnExactIsDiagonalx3
import Derived.Test.YtnnchaggdnlfmaaQFnExactIsDiagonalx4
import Derived.Test.YtnnchaggdnlfmaaQFnExactIsDiagonalx5
import Derived.Test.YtnnchaggdnlfmaaQFnExactIsDiagonalx6
import Derived.Test.YtnnchaggdnlfmaaQFnExactIsDiagonalx7
import Derived.Test.YtnnchaggdnlfmaaQFnExactIsDiagonalx8
import Derived.Test.YtnnchaggdnlfmaaQFnExactIsDiagonalx9
import Derived.Test.YtnnchaggdnlfmaaQFnExactIsDiagonalx10
import Derived.Test.YtnnchaggdnlfmaaQFnExactIsDiagonalx11
import Derived.Test.YtnnchaggdnlfmaaQFnExactIsDiagonalx12
namespace Go.Proofs.Ytnnchaggdnlfmaa.PFnExactIsDiagonal
open Go.RowKit Go.Proofs.YtnnchaggdnlfmaaW.PrintWords Go.Proofs.YtnnchaggdnlfmaaW.PrintLast Go.Proofs.YtnnchaggdnlfmaaW.PrintMore
open Bool renaming true → tT, false → fF
open Go.World renaming block_lt_of_cell? → bL
attribute [local go_sem] max2_int min2_int max_two min_two max_three min_three max_four min_four
set_option linter.unusedVariables false
set_option linter.unusedSimpArgs false
end Go.Proofs.Ytnnchaggdnlfmaa.PFnExactIsDiagonal
