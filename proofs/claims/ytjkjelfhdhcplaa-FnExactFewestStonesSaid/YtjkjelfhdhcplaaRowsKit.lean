/- What the laws' own small functions over rows come to: a copy is the row, two rows are held against each other, places are marked and found again. -/
import Derived.Test.YtjkjelfhdhcplaaBase
import Derived.Test.YtjkjelfhdhcplaaPAxgLaw
namespace Go.Proofs.Ytjkjelfhdhcplaa.RowsKit
set_option linter.unusedSimpArgs false
open Go.RowKit Go.Proofs.Ytjkjelfhdhcplaa.PA Go.Proofs.Ytjkjelfhdhcplaa.Base Go.Proofs.YtjkjelfhdhcplaaW.PrintWords Go.Proofs.YtjkjelfhdhcplaaW.PrintLast Go.Proofs.YtjkjelfhdhcplaaW.PrintMore

theorem eqRow (l0 l1 : List Int) (h : l0.length ≤ 9223372036854775806) : Ev (fun k => laws_eqRow.f k l0 l1) (decide (l0 = l1)) := by
  unfold laws_eqRow.f
  refine Ev.ite (fun e => ?_) (fun e => Ev.fin ?_)
  · exact eq_loop (laws_eqRow.l0 · l0 l1 ·) h (by omega) (fun k i => by rw [laws_eqRow.l0]) l0.length 0 (by omega)
  · exact (decide_eq_false (fun h => e (by rw [h]))).symm
theorem toRow (l0 : List Int) (h : l0.length ≤ 140737488355328) : Ev (fun k => laws_toRow.f k l0) l0 := by
  unfold laws_toRow.f
  refine Ev.pos (by omega) (Ev.pos (by omega) ?_)
  exact copy_loop (laws_toRow.l0 · l0 · ·) (by omega) (fun k x3 i => by rw [laws_toRow.l0]) l0.length 0 _ (by omega) (by simp) (by simp)
theorem markRow (l0 : List Int) (h : l0.length ≤ 140737488355328) : Ev (fun k => laws_markRow.f k l0 1) (1 + (l0.length : Int), marks IntKind.i16.wrap l0.length 1) := by
  unfold laws_markRow.f
  refine Ev.to (mark_loop IntKind.i16.wrap (laws_markRow.l0 · · · ·) (fun k x j i => by rw [laws_markRow.l0]) l0.length 0 1 l0 (by omega) (by omega) (by omega) (by omega)) (by simp)
theorem heldRow (n : Nat) (h : n ≤ 140737488355328) : Ev (fun k => laws_heldRow.f k (marks IntKind.i16.wrap n 1) 1) (1 + (n : Int)) := by
  unfold laws_heldRow.f
  have hl := marks_length IntKind.i16.wrap n 1
  exact held_loop IntKind.i16.wrap (marks IntKind.i16.wrap n 1) (laws_heldRow.l0 · (marks IntKind.i16.wrap n 1) · ·) (by omega) (fun k j i => by rw [laws_heldRow.l0]) n 0 1 (by omega) (by omega) (by omega) (by simp)
end Go.Proofs.Ytjkjelfhdhcplaa.RowsKit
