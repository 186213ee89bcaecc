/- Contracts of functions that FnExactHullOf reaches, out of the lines of the kit's print. -/
import Derived.Test.YtkobmkdjmpnojaaQFnExactHullOfx0
import Derived.Test.YtkobmkdjmpnojaaQFnExactHullOfx1
import Derived.Test.YtkobmkdjmpnojaaQFnExactHullOfx2
import Derived.Test.YtkobmkdjmpnojaaQFnExactHullOfx3
import Derived.Test.YtkobmkdjmpnojaaQFnExactHullOfx4
import Derived.Test.YtkobmkdjmpnojaaQFnExactHullOfx5
import Derived.Test.YtkobmkdjmpnojaaQFnExactHullOfx6
import Derived.Test.YtkobmkdjmpnojaaQFnExactHullOfx7
namespace Go.Proofs.Ytkobmkdjmpnojaa.PFnExactHullOf
open Go.RowKit Go.Proofs.YtkobmkdjmpnojaaW.PrintWords Go.Proofs.YtkobmkdjmpnojaaW.PrintLast Go.Proofs.YtkobmkdjmpnojaaW.PrintMore
open Bool renaming true → tT, false → fF
open Go.World renaming block_lt_of_cell? → bL
attribute [local go_sem] max2_int min2_int max_two min_two max_three min_three max_four min_four
set_option linter.unusedVariables false
set_option linter.unusedSimpArgs false
end Go.Proofs.Ytkobmkdjmpnojaa.PFnExactHullOf
