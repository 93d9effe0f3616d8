/- The laws' own functions over lists of numbers. -/
import Derived.Test.YtedbgfjllladkaaCutsMarks
import Derived.Test.YtedbgfjllladkaaPAxgLaw
namespace Go.Proofs.Ytedbgfjllladkaa.CutsKit
set_option linter.unusedSimpArgs false
set_option linter.unusedVariables false
open Go.RowKit Go.Proofs.Ytedbgfjllladkaa.PA Go.Proofs.Ytedbgfjllladkaa.Base Go.Proofs.Ytedbgfjllladkaa.KindsKit Go.Proofs.Ytedbgfjllladkaa.CutsKit Go.Proofs.YtedbgfjllladkaaW.PrintWords Go.Proofs.YtedbgfjllladkaaW.PrintLast Go.Proofs.YtedbgfjllladkaaW.PrintMore

theorem eqInts (l0 l1 : List Int) (h : l0.length ≤ 9223372036854775806) : Ev (fun k => laws_eqInt64S.f k l0 l1) (decide (l0 = l1)) := by
  unfold laws_eqInt64S.f
  refine Ev.ite (fun e => ?_) (fun e => Ev.fin ?_)
  · exact eq_loop (laws_eqInt64S.l0 · l0 l1 ·) h (by omega) (fun k i => by rw [laws_eqInt64S.l0]) l0.length 0 (by omega)
  · exact (decide_eq_false (fun h => e (by rw [h]))).symm
theorem markInts (l : List Int) (h : l.length ≤ 281474976710656) : Ev (fun k => laws_markInt64S.f k l 1) (1 + (l.length : Int), marks (fun j => j) l.length 1) := by
  unfold laws_markInt64S.f
  exact Ev.to (mark_loop (fun j => j) (fun k x j i => laws_markInt64S.l0 k x j i) (fun k x j i => by rw [laws_markInt64S.l0]) l.length 0 1 l (by omega) (by omega) (by omega) (by omega)) (by simp)
theorem heldInts (n : Nat) (h : n ≤ 281474976710656) : Ev (fun k => laws_heldInt64S.f k (marks (fun j => j) n 1) 1) (1 + (n : Int)) := by
  unfold laws_heldInt64S.f
  have hn := marks_length (fun j => j) n 1
  exact held_loop (fun j => j) (marks (fun j => j) n 1) (fun k j i => laws_heldInt64S.l0 k (marks (fun j => j) n 1) j i) (by omega) (fun k j i => by rw [laws_heldInt64S.l0]) n 0 1 (by omega) (by omega) (by omega) (by simp)
end Go.Proofs.Ytedbgfjllladkaa.CutsKit
