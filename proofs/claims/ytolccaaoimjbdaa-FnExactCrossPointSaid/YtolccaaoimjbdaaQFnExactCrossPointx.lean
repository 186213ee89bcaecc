/- Contracts of functions that FnExactCrossPoint reaches, out of the lines of the kit's print. -/
import Derived.Test.YtolccaaoimjbdaaQFnExactCrossPointx0
import Derived.Test.YtolccaaoimjbdaaQFnExactCrossPointx1
import Derived.Test.YtolccaaoimjbdaaQFnExactCrossPointx2
import Derived.Test.YtolccaaoimjbdaaQFnExactCrossPointx3
import Derived.Test.YtolccaaoimjbdaaQFnExactCrossPointx4
import Derived.Test.YtolccaaoimjbdaaQFnExactCrossPointx5
namespace Go.Proofs.Ytolccaaoimjbdaa.PFnExactCrossPoint
open Go.RowKit Go.Proofs.YtolccaaoimjbdaaW.PrintWords Go.Proofs.YtolccaaoimjbdaaW.PrintLast Go.Proofs.YtolccaaoimjbdaaW.PrintMore
attribute [local go_sem] max2_int min2_int max_two min_two max_three min_three max_four min_four
set_option linter.unusedVariables false
set_option linter.unusedSimpArgs false
end Go.Proofs.Ytolccaaoimjbdaa.PFnExactCrossPoint
