/- Written by a program of this session out of the translation: pure functions, and that Go's functions come to them. -/
import Derived.Test.YtedbgfjllladkaaPAx0
namespace Go.Proofs.Ytedbgfjllladkaa.PA
open Go.RowKit Go.Proofs.YtedbgfjllladkaaW.PrintWords Go.Proofs.YtedbgfjllladkaaW.PrintLast Go.Proofs.YtedbgfjllladkaaW.PrintMore
attribute [local go_sem] max2_int min2_int max_two min_two max_three min_three max_four min_four   -- for this text's walks alone
set_option linter.unusedVariables false
set_option linter.unusedSimpArgs false

theorem eqA79 (d : Nat) (w : World) (x0 y0 : Int) (x1 y1 : Int) :
    (Op.equalIn (d + 2) 79 (.agg #[.int .i64 x0, .int .i64 x1]) (.agg #[.int .i64 y0, .int .i64 y1])).run Try.prog w = .ok (x0 == y0 && (x1 == y1)) w := by
  rw [run_equalIn_array w (d + 1) _ _ Try.underlying79 (i := (Try.prog.info? 2).getD default) (by kernel_rfl)]
  rw [show Try.prog.cellsOf 2 = 1 from by kernel_rfl, show List.range 2 = [0, 1] from rfl]
  have p : ∀ (x0 x1 : Int), (part 2 #[Value.int .i64 x0, Value.int .i64 x1] (0 * 1)).run Try.prog w = .ok (Value.int .i64 x0) w := fun x0 x1 => by go_simp
  have q : ∀ (x0 x1 : Int), (part 2 #[Value.int .i64 x0, Value.int .i64 x1] (1 * 1)).run Try.prog w = .ok (Value.int .i64 x1) w := fun x0 x1 => by go_simp
  have e : ∀ (x y : Int), (Op.equalIn (d + 1) 2 (.int .i64 x) (.int .i64 y)).run Try.prog w = .ok (x == y) w := fun x y => by go_simp
  simp only [Op.eqItems, Sem.run_bind, p, q, e, Result.andThen_ok]
  cases x0 == y0
  · simp
  · simp only [Bool.not_true, Bool.false_eq_true, if_false, Sem.run_bind, p, q, e, Result.andThen_ok]
    cases x1 == y1 <;> simp

end Go.Proofs.Ytedbgfjllladkaa.PA
