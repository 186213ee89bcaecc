/- Contracts of functions that FnExactEarsOf reaches, out of the lines of the kit's print. -/
import Derived.Test.YtkobmkdjmpnojaaQFnExactEarsOfx0
import Derived.Test.YtkobmkdjmpnojaaQFnExactEarsOfx1
import Derived.Test.YtkobmkdjmpnojaaQFnExactEarsOfx2
import Derived.Test.YtkobmkdjmpnojaaQFnExactEarsOfx3
import Derived.Test.YtkobmkdjmpnojaaQFnExactEarsOfx4
import Derived.Test.YtkobmkdjmpnojaaQFnExactEarsOfx5
import Derived.Test.YtkobmkdjmpnojaaQFnExactEarsOfx6
import Derived.Test.YtkobmkdjmpnojaaQFnExactEarsOfx7
import Derived.Test.YtkobmkdjmpnojaaQFnExactEarsOfx8
import Derived.Test.YtkobmkdjmpnojaaQFnExactEarsOfx9
import Derived.Test.YtkobmkdjmpnojaaQFnExactEarsOfx10
import Derived.Test.YtkobmkdjmpnojaaQFnExactEarsOfx11
import Derived.Test.YtkobmkdjmpnojaaQFnExactEarsOfx12
import Derived.Test.YtkobmkdjmpnojaaQFnExactEarsOfx13
import Derived.Test.YtkobmkdjmpnojaaQFnExactEarsOfx14
import Derived.Test.YtkobmkdjmpnojaaQFnExactEarsOfx15
namespace Go.Proofs.Ytkobmkdjmpnojaa.PFnExactEarsOf
open Go.RowKit Go.Proofs.YtkobmkdjmpnojaaW.PrintWords Go.Proofs.YtkobmkdjmpnojaaW.PrintLast Go.Proofs.YtkobmkdjmpnojaaW.PrintMore
open Bool renaming true → tT, false → fF
open Go.World renaming block_lt_of_cell? → bL
attribute [local go_sem] max2_int min2_int max_two min_two max_three min_three max_four min_four
set_option linter.unusedVariables false
set_option linter.unusedSimpArgs false
end Go.Proofs.Ytkobmkdjmpnojaa.PFnExactEarsOf
