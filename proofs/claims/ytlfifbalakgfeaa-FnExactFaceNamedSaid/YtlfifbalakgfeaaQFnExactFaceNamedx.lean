/- Contracts of functions that FnExactFaceNamed reaches, out of the lines of the kit's print. -/
import Derived.Test.YtlfifbalakgfeaaQFnExactFaceNamedx0
import Derived.Test.YtlfifbalakgfeaaQFnExactFaceNamedx1
import Derived.Test.YtlfifbalakgfeaaQFnExactFaceNamedx2
import Derived.Test.YtlfifbalakgfeaaQFnExactFaceNamedx3
import Derived.Test.YtlfifbalakgfeaaQFnExactFaceNamedx4
import Derived.Test.YtlfifbalakgfeaaQFnExactFaceNamedx5
import Derived.Test.YtlfifbalakgfeaaQFnExactFaceNamedx6
import Derived.Test.YtlfifbalakgfeaaQFnExactFaceNamedx7
import Derived.Test.YtlfifbalakgfeaaQFnExactFaceNamedx8
import Derived.Test.YtlfifbalakgfeaaQFnExactFaceNamedx9
import Derived.Test.YtlfifbalakgfeaaQFnExactFaceNamedx10
import Derived.Test.YtlfifbalakgfeaaQFnExactFaceNamedx11
import Derived.Test.YtlfifbalakgfeaaQFnExactFaceNamedx12
import Derived.Test.YtlfifbalakgfeaaQFnExactFaceNamedx13
import Derived.Test.YtlfifbalakgfeaaQFnExactFaceNamedx14
import Derived.Test.YtlfifbalakgfeaaQFnExactFaceNamedx15
namespace Go.Proofs.Ytlfifbalakgfeaa.PFnExactFaceNamed
open Go.RowKit Go.Proofs.YtlfifbalakgfeaaW.PrintWords Go.Proofs.YtlfifbalakgfeaaW.PrintLast Go.Proofs.YtlfifbalakgfeaaW.PrintMore
open Bool renaming true → tT, false → fF
open Go.World renaming block_lt_of_cell? → bL
attribute [local go_sem] max2_int min2_int max_two min_two max_three min_three max_four min_four
set_option linter.unusedVariables false
set_option linter.unusedSimpArgs false
end Go.Proofs.Ytlfifbalakgfeaa.PFnExactFaceNamed
