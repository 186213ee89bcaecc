/- Contracts of functions that FnExactIsConvex reaches, out of the lines of the kit's print. -/
import Derived.Test.YtolccaaoimjbdaaQFnExactIsConvexx0
import Derived.Test.YtolccaaoimjbdaaQFnExactIsConvexx1
import Derived.Test.YtolccaaoimjbdaaQFnExactIsConvexx2
import Derived.Test.YtolccaaoimjbdaaQFnExactIsConvexx3
import Derived.Test.YtolccaaoimjbdaaQFnExactIsConvexx4
import Derived.Test.YtolccaaoimjbdaaQFnExactIsConvexx5
import Derived.Test.YtolccaaoimjbdaaQFnExactIsConvexx6
import Derived.Test.YtolccaaoimjbdaaQFnExactIsConvexx7
import Derived.Test.YtolccaaoimjbdaaQFnExactIsConvexx8
import Derived.Test.YtolccaaoimjbdaaQFnExactIsConvexx9
namespace Go.Proofs.Ytolccaaoimjbdaa.PFnExactIsConvex
open Go.RowKit Go.Proofs.YtolccaaoimjbdaaW.PrintWords Go.Proofs.YtolccaaoimjbdaaW.PrintLast Go.Proofs.YtolccaaoimjbdaaW.PrintMore
attribute [local go_sem] max2_int min2_int max_two min_two max_three min_three max_four min_four
set_option linter.unusedVariables false
set_option linter.unusedSimpArgs false
end Go.Proofs.Ytolccaaoimjbdaa.PFnExactIsConvex
