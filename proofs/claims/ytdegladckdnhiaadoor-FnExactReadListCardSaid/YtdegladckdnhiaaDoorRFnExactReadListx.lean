/- Contracts of the functions that FnExactReadList reaches: own text, out of the lines that the kit's print gave, with the facts that its walks lacked. -/
import Derived.Test.YtdegladckdnhiaaDoorRFnExactReadListx0
import Derived.Test.YtdegladckdnhiaaDoorRFnExactReadListx1
import Derived.Test.YtdegladckdnhiaaDoorRFnExactReadListx2
import Derived.Test.YtdegladckdnhiaaDoorRFnExactReadListx3
namespace Go.Proofs.YtdegladckdnhiaaDoor.PFnExactReadList
open Go.RowKit Go.Proofs.YtdegladckdnhiaaDoorW.PrintWords Go.Proofs.YtdegladckdnhiaaDoorW.PrintLast Go.Proofs.YtdegladckdnhiaaDoorW.PrintMore
attribute [local go_sem] max2_int min2_int max_two min_two max_three min_three max_four min_four   -- for this text's walks alone
set_option linter.unusedVariables false
set_option linter.unusedSimpArgs false

end Go.Proofs.YtdegladckdnhiaaDoor.PFnExactReadList
