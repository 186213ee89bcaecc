/- Contracts of functions that the law reaches. -/
import Derived.Test.YtlcfdfphldjolaaQFnExactJoinPolygonsx26
namespace Go.Proofs.Ytlcfdfphldjolaa.PFnExactJoinPolygons
open Go.RowKit Go.Proofs.YtlcfdfphldjolaaW.PrintWords Go.Proofs.YtlcfdfphldjolaaW.PrintLast Go.Proofs.YtlcfdfphldjolaaW.PrintMore
open Bool renaming true → tT, false → fF
open Go.World renaming block_lt_of_cell? → bL
attribute [local go_sem] max2_int min2_int max_two min_two max_three min_three max_four min_four
set_option linter.unusedVariables false
set_option linter.unusedSimpArgs false
end Go.Proofs.Ytlcfdfphldjolaa.PFnExactJoinPolygons
