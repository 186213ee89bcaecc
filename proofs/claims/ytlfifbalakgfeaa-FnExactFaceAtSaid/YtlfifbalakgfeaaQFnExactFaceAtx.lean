/- Contracts of functions that FnExactFaceAt reaches, out of the lines of the kit's print. -/
import Derived.Test.YtlfifbalakgfeaaQFnExactFaceAtx0
import Derived.Test.YtlfifbalakgfeaaQFnExactFaceAtx1
import Derived.Test.YtlfifbalakgfeaaQFnExactFaceAtx2
import Derived.Test.YtlfifbalakgfeaaQFnExactFaceAtx3
import Derived.Test.YtlfifbalakgfeaaQFnExactFaceAtx4
import Derived.Test.YtlfifbalakgfeaaQFnExactFaceAtx5
import Derived.Test.YtlfifbalakgfeaaQFnExactFaceAtx6
import Derived.Test.YtlfifbalakgfeaaQFnExactFaceAtx7
import Derived.Test.YtlfifbalakgfeaaQFnExactFaceAtx8
import Derived.Test.YtlfifbalakgfeaaQFnExactFaceAtx9
import Derived.Test.YtlfifbalakgfeaaQFnExactFaceAtx10
import Derived.Test.YtlfifbalakgfeaaQFnExactFaceAtx11
import Derived.Test.YtlfifbalakgfeaaQFnExactFaceAtx12
import Derived.Test.YtlfifbalakgfeaaQFnExactFaceAtx13
import Derived.Test.YtlfifbalakgfeaaQFnExactFaceAtx14
import Derived.Test.YtlfifbalakgfeaaQFnExactFaceAtx15
import Derived.Test.YtlfifbalakgfeaaQFnExactFaceAtx16
import Derived.Test.YtlfifbalakgfeaaQFnExactFaceAtx17
import Derived.Test.YtlfifbalakgfeaaQFnExactFaceAtx18
namespace Go.Proofs.Ytlfifbalakgfeaa.PFnExactFaceAt
open Go.RowKit Go.Proofs.YtlfifbalakgfeaaW.PrintWords Go.Proofs.YtlfifbalakgfeaaW.PrintLast Go.Proofs.YtlfifbalakgfeaaW.PrintMore
open Bool renaming true → tT, false → fF
open Go.World renaming block_lt_of_cell? → bL
attribute [local go_sem] max2_int min2_int max_two min_two max_three min_three max_four min_four
set_option linter.unusedVariables false
set_option linter.unusedSimpArgs false
end Go.Proofs.Ytlfifbalakgfeaa.PFnExactFaceAt
