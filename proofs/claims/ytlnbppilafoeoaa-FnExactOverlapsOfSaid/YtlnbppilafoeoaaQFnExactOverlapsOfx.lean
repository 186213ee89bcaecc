/- Contracts of functions that the law reaches. -/
import Derived.Test.YtlnbppilafoeoaaQFnExactOverlapsOfx27
namespace Go.Proofs.Ytlnbppilafoeoaa.PFnExactOverlapsOf
open Go.RowKit Go.Proofs.YtlnbppilafoeoaaW.PrintWords Go.Proofs.YtlnbppilafoeoaaW.PrintLast Go.Proofs.YtlnbppilafoeoaaW.PrintMore
open Bool renaming true → tT, false → fF
open Go.World renaming block_lt_of_cell? → bL
attribute [local go_sem] max2_int min2_int max_two min_two max_three min_three max_four min_four
set_option linter.unusedVariables false
set_option linter.unusedSimpArgs false
end Go.Proofs.Ytlnbppilafoeoaa.PFnExactOverlapsOf
