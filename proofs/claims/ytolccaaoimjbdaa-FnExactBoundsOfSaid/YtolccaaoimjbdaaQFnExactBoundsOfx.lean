/- Contracts of functions that FnExactBoundsOf reaches, out of the lines of the kit's print. -/
import Derived.Test.YtolccaaoimjbdaaQFnExactBoundsOfx0
import Derived.Test.YtolccaaoimjbdaaQFnExactBoundsOfx1
import Derived.Test.YtolccaaoimjbdaaQFnExactBoundsOfx2
import Derived.Test.YtolccaaoimjbdaaQFnExactBoundsOfx3
import Derived.Test.YtolccaaoimjbdaaQFnExactBoundsOfx4
import Derived.Test.YtolccaaoimjbdaaQFnExactBoundsOfx5
import Derived.Test.YtolccaaoimjbdaaQFnExactBoundsOfx6
import Derived.Test.YtolccaaoimjbdaaQFnExactBoundsOfx7
import Derived.Test.YtolccaaoimjbdaaQFnExactBoundsOfx8
import Derived.Test.YtolccaaoimjbdaaQFnExactBoundsOfx9
import Derived.Test.YtolccaaoimjbdaaQFnExactBoundsOfx10
import Derived.Test.YtolccaaoimjbdaaQFnExactBoundsOfx11
namespace Go.Proofs.Ytolccaaoimjbdaa.PFnExactBoundsOf
open Go.RowKit Go.Proofs.YtolccaaoimjbdaaW.PrintWords Go.Proofs.YtolccaaoimjbdaaW.PrintLast Go.Proofs.YtolccaaoimjbdaaW.PrintMore
attribute [local go_sem] max2_int min2_int max_two min_two max_three min_three max_four min_four
set_option linter.unusedVariables false
set_option linter.unusedSimpArgs false
end Go.Proofs.Ytolccaaoimjbdaa.PFnExactBoundsOf
