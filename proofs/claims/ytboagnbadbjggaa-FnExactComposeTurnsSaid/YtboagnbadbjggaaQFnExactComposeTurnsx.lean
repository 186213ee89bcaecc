/- Contracts of the functions that FnExactComposeTurns reaches: own text, out of the lines that the kit's print gave, with the facts that its walks lacked. -/
import Derived.Test.YtboagnbadbjggaaPFnExactComposeTurnsx0
import Derived.Test.YtboagnbadbjggaaPFnExactComposeTurnsx1
import Derived.Test.YtboagnbadbjggaaQFnExactComposeTurnsx2
namespace Go.Proofs.Ytboagnbadbjggaa.PFnExactComposeTurns
open Go.RowKit Go.Proofs.YtboagnbadbjggaaW.PrintWords Go.Proofs.YtboagnbadbjggaaW.PrintLast Go.Proofs.YtboagnbadbjggaaW.PrintMore
attribute [local go_sem] max2_int min2_int max_two min_two max_three min_three max_four min_four   -- for this text's walks alone
set_option linter.unusedVariables false
set_option linter.unusedSimpArgs false

end Go.Proofs.Ytboagnbadbjggaa.PFnExactComposeTurns
