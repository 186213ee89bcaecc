/- Contracts of functions that FnExactAreaTwice reaches, out of the lines of the kit's print. -/
import Derived.Test.YtolccaaoimjbdaaQFnExactAreaTwicex0
import Derived.Test.YtolccaaoimjbdaaQFnExactAreaTwicex1
import Derived.Test.YtolccaaoimjbdaaQFnExactAreaTwicex2
import Derived.Test.YtolccaaoimjbdaaQFnExactAreaTwicex3
import Derived.Test.YtolccaaoimjbdaaQFnExactAreaTwicex4
import Derived.Test.YtolccaaoimjbdaaQFnExactAreaTwicex5
import Derived.Test.YtolccaaoimjbdaaQFnExactAreaTwicex6
import Derived.Test.YtolccaaoimjbdaaQFnExactAreaTwicex7
import Derived.Test.YtolccaaoimjbdaaQFnExactAreaTwicex8
import Derived.Test.YtolccaaoimjbdaaQFnExactAreaTwicex9
namespace Go.Proofs.Ytolccaaoimjbdaa.PFnExactAreaTwice
open Go.RowKit Go.Proofs.YtolccaaoimjbdaaW.PrintWords Go.Proofs.YtolccaaoimjbdaaW.PrintLast Go.Proofs.YtolccaaoimjbdaaW.PrintMore
attribute [local go_sem] max2_int min2_int max_two min_two max_three min_three max_four min_four
set_option linter.unusedVariables false
set_option linter.unusedSimpArgs false
end Go.Proofs.Ytolccaaoimjbdaa.PFnExactAreaTwice
