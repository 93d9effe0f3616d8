/- The laws' functions that mark lists of corners and find the marks again. -/
import Derived.Test.YtgbfbnlmnodpaaaDoorStonesKit
import Derived.Test.YtgbfbnlmnodpaaaDoorPAxgLaw
namespace Go.Proofs.YtgbfbnlmnodpaaaDoor.StonesKit
set_option linter.unusedSimpArgs false
set_option linter.unusedVariables false
open Go.RowKit Go.Proofs.YtgbfbnlmnodpaaaDoor.PA Go.Proofs.YtgbfbnlmnodpaaaDoor.Base Go.Proofs.YtgbfbnlmnodpaaaDoorW.PrintWords Go.Proofs.YtgbfbnlmnodpaaaDoorW.PrintLast Go.Proofs.YtgbfbnlmnodpaaaDoorW.PrintMore

def mkC (j : Int) : S48 := ⟨IntKind.i16.wrap j, IntKind.i16.wrap (j + 1)⟩
theorem markStone (l : List S48) (h : l.length ≤ 1048576) : Ev (fun k => laws_markStone.f k l 1) (1 + 2 * (l.length : Int), marksG mkC 2 l.length 1) := by
  unfold laws_markStone.f
  refine mark_ev0 mkC 2 l (fun k x j i => laws_markStone.l0 k x j i) (by omega) (by omega) (by omega) (fun x j i hi r h0 h1 h2 hk => ?_) (fun x j => ?_)
  · have ha := w64 (x := (i : Int) + 1) (by omega) (by omega)
    have hb := w64 (x := j + 1) (by omega) (by omega)
    have hc := w64 (x := j + 1 + 1) (by omega) (by omega)
    refine Ev.step (fun k => by rw [laws_markStone.l0]) (Ev.pos (by omega) (Ev.pos (by omega) ?_))
    refine Ev.nobind rfl ?_
    rw [ha, hb, hc, rdC x i hi, rdC _ i (by simp; omega)]
    simp only [Int.toNat_natCast, List.set_set, List.getElem_set_self]
    rw [show j + 1 + 1 = j + 2 by omega]
    exact hk
  · exact Ev.step (fun k => by rw [laws_markStone.l0]) (Ev.neg (by omega) (Ev.fin rfl))
theorem heldStone (n : Nat) (h : n ≤ 1048576) : Ev (fun k => laws_heldStone.f k (marksG mkC 2 n 1) 1) (1 + 2 * (n : Int)) := by
  unfold laws_heldStone.f
  refine held_ev0 mkC 2 n (fun k j i => laws_heldStone.l0 k (marksG mkC 2 n 1) j i) (by omega) (by omega) (by omega) (fun j i hi r e h0 h1 hk => ?_) (fun j => ?_)
  · have hl := marksG_length mkC 2 n 1
    have ha := w64 (x := (i : Int) + 1) (by omega) (by omega)
    have hb := w64 (x := j + 1) (by omega) (by omega)
    have hc := w64 (x := j + 1 + 1) (by omega) (by omega)
    refine Ev.step (fun k => by rw [laws_heldStone.l0]) (Ev.pos (by omega) (Ev.pos (by omega) ?_))
    rw [ha, hb, hc, rdC _ i hi, e]
    refine Ev.pos rfl (Ev.pos rfl ?_)
    rw [show j + 1 + 1 = j + 2 by omega]
    exact hk
  · have hl := marksG_length mkC 2 n 1
    exact Ev.step (fun k => by rw [laws_heldStone.l0]) (Ev.neg (by omega) (Ev.fin rfl))
theorem markStoneAt (l : List S48) (h : l.length ≤ 1048576) (j0 : Int) (h0 : 0 ≤ j0 ∧ j0 ≤ 1000000000) : Ev (fun k => laws_markStone.f k l j0) (j0 + 2 * (l.length : Int), marksG mkC 2 l.length j0) := by
  unfold laws_markStone.f
  refine Ev.to (mark_ev mkC 2 (fun k x j i => laws_markStone.l0 k x j i) (by omega) (by omega) (fun x j i hi r h0 h1 h2 hk => ?_) (fun x j => ?_) l.length 0 j0 l (by omega) (by omega) h0.1 (by omega)) (by simp)
  · have ha := w64 (x := (i : Int) + 1) (by omega) (by omega)
    have hb := w64 (x := j + 1) (by omega) (by omega)
    have hc := w64 (x := j + 1 + 1) (by omega) (by omega)
    refine Ev.step (fun k => by rw [laws_markStone.l0]) (Ev.pos (by omega) (Ev.pos (by omega) ?_))
    refine Ev.nobind rfl ?_
    rw [ha, hb, hc, rdC x i hi, rdC _ i (by simp; omega)]
    simp only [Int.toNat_natCast, List.set_set, List.getElem_set_self]
    rw [show j + 1 + 1 = j + 2 by omega]
    exact hk
  · exact Ev.step (fun k => by rw [laws_markStone.l0]) (Ev.neg (by omega) (Ev.fin rfl))
theorem heldStoneAt (n : Nat) (h : n ≤ 1048576) (j0 : Int) (h0 : 0 ≤ j0 ∧ j0 ≤ 1000000000) : Ev (fun k => laws_heldStone.f k (marksG mkC 2 n j0) j0) (j0 + 2 * (n : Int)) := by
  unfold laws_heldStone.f
  have hl := marksG_length mkC 2 n j0
  refine held_evx mkC 2 (marksG mkC 2 n j0) (fun k j i => laws_heldStone.l0 k (marksG mkC 2 n j0) j i) (by omega) (by omega) (fun j i hi r e h0 h1 hk => ?_) (fun j => ?_) n 0 j0 (by omega) h0.1 (by omega) (by simp)
  · have ha := w64 (x := (i : Int) + 1) (by omega) (by omega)
    have hb := w64 (x := j + 1) (by omega) (by omega)
    have hc := w64 (x := j + 1 + 1) (by omega) (by omega)
    refine Ev.step (fun k => by rw [laws_heldStone.l0]) (Ev.pos (by omega) (Ev.pos (by omega) ?_))
    rw [ha, hb, hc, rdC _ i hi, e]
    refine Ev.pos rfl (Ev.pos rfl ?_)
    rw [show j + 1 + 1 = j + 2 by omega]
    exact hk
  · exact Ev.step (fun k => by rw [laws_heldStone.l0]) (Ev.neg (by omega) (Ev.fin rfl))
end Go.Proofs.YtgbfbnlmnodpaaaDoor.StonesKit
