/- Contracts of functions that FnExactStartAt reaches, out of the lines of the kit's print. -/
import Derived.Test.YtnnchaggdnlfmaaQFnExactStartAtx0
import Derived.Test.YtnnchaggdnlfmaaQFnExactStartAtx1
import Derived.Test.YtnnchaggdnlfmaaQFnExactStartAtx2
import Derived.Test.YtnnchaggdnlfmaaQFnExactStartAtx3
import Derived.Test.YtnnchaggdnlfmaaQFnExactStartAtx4
import Derived.Test.YtnnchaggdnlfmaaQFnExactStartAtx5
import Derived.Test.YtnnchaggdnlfmaaQFnExactStartAtx6
import Derived.Test.YtnnchaggdnlfmaaQFnExactStartAtx7
import Derived.Test.YtnnchaggdnlfmaaQFnExactStartAtx8
import Derived.Test.YtnnchaggdnlfmaaQFnExactStartAtx9
import Derived.Test.YtnnchaggdnlfmaaQFnExactStartAtx10
import Derived.Test.YtnnchaggdnlfmaaQFnExactStartAtx11
namespace Go.Proofs.Ytnnchaggdnlfmaa.PFnExactStartAt
open Go.RowKit Go.Proofs.YtnnchaggdnlfmaaW.PrintWords Go.Proofs.YtnnchaggdnlfmaaW.PrintLast Go.Proofs.YtnnchaggdnlfmaaW.PrintMore
open Bool renaming true → tT, false → fF
open Go.World renaming block_lt_of_cell? → bL
attribute [local go_sem] max2_int min2_int max_two min_two max_three min_three max_four min_four
set_option linter.unusedVariables false
set_option linter.unusedSimpArgs false
end Go.Proofs.Ytnnchaggdnlfmaa.PFnExactStartAt
