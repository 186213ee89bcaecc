/- Contracts of functions that the law reaches. -/
import Derived.Test.YtnnmnhnmagnmiaaQFnExactCoversPanelx28
namespace Go.Proofs.Ytnnmnhnmagnmiaa.PFnExactCoversPanel
open Go.RowKit Go.Proofs.YtnnmnhnmagnmiaaW.PrintWords Go.Proofs.YtnnmnhnmagnmiaaW.PrintLast Go.Proofs.YtnnmnhnmagnmiaaW.PrintMore
open Bool renaming true → tT, false → fF
open Go.World renaming block_lt_of_cell? → bL
attribute [local go_sem] max2_int min2_int max_two min_two max_three min_three max_four min_four
set_option linter.unusedVariables false
set_option linter.unusedSimpArgs false
end Go.Proofs.Ytnnmnhnmagnmiaa.PFnExactCoversPanel
