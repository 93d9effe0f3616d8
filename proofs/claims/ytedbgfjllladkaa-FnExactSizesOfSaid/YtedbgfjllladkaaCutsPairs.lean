/- The laws' own functions over lists of pairs of numbers. -/
import Derived.Test.YtedbgfjllladkaaCutsMarks
import Derived.Test.YtedbgfjllladkaaPAxgMark
namespace Go.Proofs.Ytedbgfjllladkaa.CutsKit
set_option linter.unusedSimpArgs false
set_option linter.unusedVariables false
open Go.RowKit Go.Proofs.Ytedbgfjllladkaa.PA Go.Proofs.Ytedbgfjllladkaa.Base Go.Proofs.Ytedbgfjllladkaa.KindsKit Go.Proofs.YtedbgfjllladkaaW.PrintWords Go.Proofs.YtedbgfjllladkaaW.PrintLast Go.Proofs.YtedbgfjllladkaaW.PrintMore

theorem rdP (xs : List S79) (i : Nat) (h : i < xs.length) : rd_T79 xs (i : Int) = xs[i] := getD_nat xs z79 i h
theorem eqPairs (l : List S79) (h : l.length ≤ 1048576) : Ev (fun k => laws_eqInt64A2S.f k l l) true := by
  unfold laws_eqInt64A2S.f
  refine Ev.pos rfl ?_
  refine Ev.to (rangeAll_ev0 (fun k i => laws_eqInt64A2S.l0 k l l i) l.length (fun _ => true) true false ?_ ?_ ?_) (by simp)
  · intro i hi _ r' hr
    refine Ev.step (fun k => by rw [laws_eqInt64A2S.l0]) (Ev.pos (by omega) (Ev.pos (by omega) (Ev.pos (by omega) ?_)))
    refine Ev.nobind (a := true) (by simp [laws_eqInt64A2.f]) (Ev.pos rfl ?_)
    rw [w64 (x := (i : Int) + 1) (by omega) (by omega)]; exact hr
  · intro i hi h'; cases h'
  · intro _
    refine Ev.step (fun k => by rw [laws_eqInt64A2S.l0]) ?_
    exact Ev.neg (by omega) (Ev.fin rfl)
def mkP (j : Int) : S79 := ⟨j, j + 1⟩
theorem markPairs (l : List S79) (h : l.length ≤ 1048576) : Ev (fun k => laws_markInt64A2S.f k l 1) (1 + 2 * (l.length : Int), marksG mkP 2 l.length 1) := by
  unfold laws_markInt64A2S.f
  refine mark_ev0 mkP 2 l (fun k x j i => laws_markInt64A2S.l0 k x j i) (by omega) (by omega) (by omega) (fun x j i hi r h0 h1 h2 hk => ?_) (fun x j => ?_)
  · have ha := w64 (x := (i : Int) + 1) (by omega) (by omega)
    have hb := w64 (x := j + 1) (by omega) (by omega)
    have hc := w64 (x := j + 1 + 1) (by omega) (by omega)
    refine Ev.step (fun k => by rw [laws_markInt64A2S.l0]) (Ev.pos (by omega) (Ev.pos (by omega) ?_))
    refine Ev.nobind rfl ?_
    rw [ha, hb, hc, rdP x i hi, rdP _ i (by simp; omega)]
    simp only [Int.toNat_natCast, List.set_set, List.getElem_set_self]
    rw [show j + 1 + 1 = j + 2 by omega]
    exact hk
  · exact Ev.step (fun k => by rw [laws_markInt64A2S.l0]) (Ev.neg (by omega) (Ev.fin rfl))
theorem heldPairs (n : Nat) (h : n ≤ 1048576) : Ev (fun k => laws_heldInt64A2S.f k (marksG mkP 2 n 1) 1) (1 + 2 * (n : Int)) := by
  unfold laws_heldInt64A2S.f
  refine held_ev0 mkP 2 n (fun k j i => laws_heldInt64A2S.l0 k (marksG mkP 2 n 1) j i) (by omega) (by omega) (by omega) (fun j i hi r e h0 h1 hk => ?_) (fun j => ?_)
  · have hl := marksG_length mkP 2 n 1
    have ha := w64 (x := (i : Int) + 1) (by omega) (by omega)
    have hb := w64 (x := j + 1) (by omega) (by omega)
    have hc := w64 (x := j + 1 + 1) (by omega) (by omega)
    refine Ev.step (fun k => by rw [laws_heldInt64A2S.l0]) (Ev.pos (by omega) (Ev.pos (by omega) ?_))
    rw [ha, hb, hc, rdP _ i hi, e]
    refine Ev.pos rfl (Ev.pos rfl ?_)
    rw [show j + 1 + 1 = j + 2 by omega]
    exact hk
  · have hl := marksG_length mkP 2 n 1
    exact Ev.step (fun k => by rw [laws_heldInt64A2S.l0]) (Ev.neg (by omega) (Ev.fin rfl))
end Go.Proofs.Ytedbgfjllladkaa.CutsKit
