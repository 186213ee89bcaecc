/- Contracts of functions that the law reaches. -/
import Derived.ChangeKeysEq
import Derived.Test.YtlcfdfphldjolaaQFnExactJoinPolygonsx1
namespace Go.Proofs.Ytlcfdfphldjolaa.PFnExactJoinPolygons
open Go.RowKit Go.Proofs.YtlcfdfphldjolaaW.PrintWords Go.Proofs.YtlcfdfphldjolaaW.PrintLast Go.Proofs.YtlcfdfphldjolaaW.PrintMore
open Bool renaming true → tT, false → fF
open Go.World renaming block_lt_of_cell? → bL
attribute [local go_sem] max2_int min2_int max_two min_two max_three min_three max_four min_four
set_option linter.unusedVariables false
set_option linter.unusedSimpArgs false
theorem eqA39 (d : Nat) (w : World) (x0 y0 : Int) (x1 y1 : Int) (x2 y2 : Int) (x3 y3 : Int) :
  (Op.equalIn (d + 3) 39 (.agg #[.int .i64 x0,.int .i64 x1,.int .i64 x2,.int .i64 x3]) (.agg #[.int .i64 y0,.int .i64 y1,.int .i64 y2,.int .i64 y3])).run Try.prog w = .ok ((x0 == y0 && (x1 == y1)) && ((x2 == y2 && (x3 == y3)))) w:=by
 obtain ⟨i0,hi,hz,hsz,hby⟩:=info_parts info35;(have hc : Try.prog.cellsOf 35 = 2:=by simp [Program.cellsOf,hi,hsz]);have e1:=eqA35 d w x0 y0 x1 y1;have e2:=eqA35 d w x2 y2 x3 y3;(have p1 : (part 35 #[.int .i64 x0,.int .i64 x1,.int .i64 x2,.int .i64 x3] (0 * 2)).run Try.prog w = .ok (.agg #[.int .i64 x0,.int .i64 x1]) w:=by go_simp);(have p2 : (part 35 #[.int .i64 y0,.int .i64 y1,.int .i64 y2,.int .i64 y3] (0 * 2)).run Try.prog w = .ok (.agg #[.int .i64 y0,.int .i64 y1]) w:=by go_simp);(have p3 : (part 35 #[.int .i64 x0,.int .i64 x1,.int .i64 x2,.int .i64 x3] (1 * 2)).run Try.prog w = .ok (.agg #[.int .i64 x2,.int .i64 x3]) w:=by go_simp);(have p4 : (part 35 #[.int .i64 y0,.int .i64 y1,.int .i64 y2,.int .i64 y3] (1 * 2)).run Try.prog w = .ok (.agg #[.int .i64 y2,.int .i64 y3]) w:=by go_simp);rw [run_equalIn_array (P:=Try.prog) (w:=w) (d + 2) _ _ Try.underlying39 hi,hc,show List.range 2 = [0,1] from rfl];simp only [Op.eqItems,Sem.run_bind,p1,p2,e1,Result.andThen_ok];rw [Nat.one_mul] at p3 p4;(cases (x0 == y0 && (x1 == y1)) with |false => (simp) |true => (simp only [Bool.not_true,Bool.false_eq_true,Bool.true_eq_false,if_false,Op.eqItems,Nat.one_mul,Sem.run_bind,p3,p4,e2,Result.andThen_ok,Bool.true_and];cases (x2 == y2 && (x3 == y3)) <;> simp [Op.eqItems]))
end Go.Proofs.Ytlcfdfphldjolaa.PFnExactJoinPolygons
