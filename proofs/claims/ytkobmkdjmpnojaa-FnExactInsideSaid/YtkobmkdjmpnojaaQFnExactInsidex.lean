/- Contracts of functions that FnExactInside reaches, out of the lines of the kit's print. -/
import Derived.Test.YtkobmkdjmpnojaaQFnExactInsidex0
import Derived.Test.YtkobmkdjmpnojaaQFnExactInsidex1
import Derived.Test.YtkobmkdjmpnojaaQFnExactInsidex2
import Derived.Test.YtkobmkdjmpnojaaQFnExactInsidex3
import Derived.Test.YtkobmkdjmpnojaaQFnExactInsidex4
import Derived.Test.YtkobmkdjmpnojaaQFnExactInsidex5
import Derived.Test.YtkobmkdjmpnojaaQFnExactInsidex6
import Derived.Test.YtkobmkdjmpnojaaQFnExactInsidex7
import Derived.Test.YtkobmkdjmpnojaaQFnExactInsidex8
import Derived.Test.YtkobmkdjmpnojaaQFnExactInsidex9
import Derived.Test.YtkobmkdjmpnojaaQFnExactInsidex10
import Derived.Test.YtkobmkdjmpnojaaQFnExactInsidex11
namespace Go.Proofs.Ytkobmkdjmpnojaa.PFnExactInside
open Go.RowKit Go.Proofs.YtkobmkdjmpnojaaW.PrintWords Go.Proofs.YtkobmkdjmpnojaaW.PrintLast Go.Proofs.YtkobmkdjmpnojaaW.PrintMore
attribute [local go_sem] max2_int min2_int max_two min_two max_three min_three max_four min_four
set_option linter.unusedVariables false
set_option linter.unusedSimpArgs false
end Go.Proofs.Ytkobmkdjmpnojaa.PFnExactInside
