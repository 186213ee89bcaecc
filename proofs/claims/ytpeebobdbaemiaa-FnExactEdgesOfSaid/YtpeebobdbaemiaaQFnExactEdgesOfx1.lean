/- Contracts of functions that FnExactEdgesOf reaches, out of the lines of the kit's print. -/
import Derived.Test.YtpeebobdbaemiaaQFnExactEdgesOfx0
import Derived.ChangeKeysEq
namespace Go.Proofs.Ytpeebobdbaemiaa.PFnExactEdgesOf
open Go.RowKit Go.Proofs.YtpeebobdbaemiaaW.PrintWords Go.Proofs.YtpeebobdbaemiaaW.PrintLast Go.Proofs.YtpeebobdbaemiaaW.PrintMore
open Bool renaming true → tT, false → fF
open Go.World renaming block_lt_of_cell? → bL
attribute [local go_sem] max2_int min2_int max_two min_two max_three min_three max_four min_four
set_option linter.unusedVariables false
set_option linter.unusedSimpArgs false
theorem eqA67 (d : Nat) (w : World) (x0 y0 : Int) (x1 y1 : Int) :
  (Op.equalIn (d + 2) 67 (.agg #[.int .i64 x0,.int .i64 x1]) (.agg #[.int .i64 y0,.int .i64 y1])).run Try.prog w = .ok (x0 == y0 && (x1 == y1)) w:=by
 obtain ⟨i0,hi,hz,hsz,hby⟩:=info_parts info2
 have hc : Try.prog.cellsOf 2 = 1:=by simp [Program.cellsOf,hi,hsz]
 have e1 : (Op.equalIn (d + 1) 2 (.int .i64 x0) (.int .i64 y0)).run Try.prog w = .ok (x0 == y0) w:=by go_simp
 have e2 : (Op.equalIn (d + 1) 2 (.int .i64 x1) (.int .i64 y1)).run Try.prog w = .ok (x1 == y1) w:=by go_simp
 have p1 : (part 2 #[.int .i64 x0,.int .i64 x1] (0 * 1)).run Try.prog w = .ok (.int .i64 x0) w:=by go_simp
 have p2 : (part 2 #[.int .i64 y0,.int .i64 y1] (0 * 1)).run Try.prog w = .ok (.int .i64 y0) w:=by go_simp
 have p3 : (part 2 #[.int .i64 x0,.int .i64 x1] (1 * 1)).run Try.prog w = .ok (.int .i64 x1) w:=by go_simp
 have p4 : (part 2 #[.int .i64 y0,.int .i64 y1] (1 * 1)).run Try.prog w = .ok (.int .i64 y1) w:=by go_simp
 rw [run_equalIn_array (P:=Try.prog) (w:=w) (d + 1) _ _ Try.underlying67 hi,hc,show List.range 2 = [0,1] from rfl]
 simp only [Op.eqItems,Sem.run_bind,p1,p2,e1,Result.andThen_ok]
 rw [Nat.one_mul] at p3 p4
 cases x0 == y0 with
 | false => simp
 | true =>
  simp only [Bool.not_true,Bool.false_eq_true,Bool.true_eq_false,if_false,Op.eqItems,Nat.one_mul,Sem.run_bind,p3,p4,e2,Result.andThen_ok,Bool.true_and]
  cases x1 == y1 <;> simp [Op.eqItems]
end Go.Proofs.Ytpeebobdbaemiaa.PFnExactEdgesOf
