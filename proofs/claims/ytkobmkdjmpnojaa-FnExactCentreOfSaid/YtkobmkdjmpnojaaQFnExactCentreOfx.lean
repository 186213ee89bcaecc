/- Contracts of functions that FnExactCentreOf reaches, out of the lines of the kit's print. -/
import Derived.Test.YtkobmkdjmpnojaaQFnExactCentreOfx0
import Derived.Test.YtkobmkdjmpnojaaQFnExactCentreOfx1
import Derived.Test.YtkobmkdjmpnojaaQFnExactCentreOfx2
import Derived.Test.YtkobmkdjmpnojaaQFnExactCentreOfx3
import Derived.Test.YtkobmkdjmpnojaaQFnExactCentreOfx4
import Derived.Test.YtkobmkdjmpnojaaQFnExactCentreOfx5
import Derived.Test.YtkobmkdjmpnojaaQFnExactCentreOfx6
import Derived.Test.YtkobmkdjmpnojaaQFnExactCentreOfx7
import Derived.Test.YtkobmkdjmpnojaaQFnExactCentreOfx8
import Derived.Test.YtkobmkdjmpnojaaQFnExactCentreOfx9
namespace Go.Proofs.Ytkobmkdjmpnojaa.PFnExactCentreOf
open Go.RowKit Go.Proofs.YtkobmkdjmpnojaaW.PrintWords Go.Proofs.YtkobmkdjmpnojaaW.PrintLast Go.Proofs.YtkobmkdjmpnojaaW.PrintMore
attribute [local go_sem] max2_int min2_int max_two min_two max_three min_three max_four min_four
set_option linter.unusedVariables false
set_option linter.unusedSimpArgs false
end Go.Proofs.Ytkobmkdjmpnojaa.PFnExactCentreOf
