/- The laws' own marks on lists of kinds and of cuts. -/
import Derived.Test.YtedbgfjllladkaaCutsKit
import Derived.Test.YtedbgfjllladkaaPAxgMark
namespace Go.Proofs.Ytedbgfjllladkaa.CutsKit
set_option linter.unusedSimpArgs false
set_option linter.unusedVariables false
open Go.RowKit Go.Proofs.Ytedbgfjllladkaa.PA Go.Proofs.Ytedbgfjllladkaa.Base Go.Proofs.Ytedbgfjllladkaa.KindsKit Go.Proofs.YtedbgfjllladkaaW.PrintWords Go.Proofs.YtedbgfjllladkaaW.PrintLast Go.Proofs.YtedbgfjllladkaaW.PrintMore

def mkK (j : Int) : S57 := ⟨IntKind.i8.wrap j, IntKind.i8.wrap (j + 1), IntKind.i16.wrap (j + 1 + 1)⟩
theorem markKinds (l : List S57) (h : l.length ≤ 1048576) : Ev (fun k => laws_markKindS.f k l 1) (1 + 3 * (l.length : Int), marksG mkK 3 l.length 1) := by
  unfold laws_markKindS.f
  refine mark_ev0 mkK 3 l (fun k x j i => laws_markKindS.l0 k x j i) (by omega) (by omega) (by omega) (fun x j i hi r h0 h1 h2 hk => ?_) (fun x j => ?_)
  · have ha := w64 (x := (i : Int) + 1) (by omega) (by omega)
    have hb := w64 (x := j + 1) (by omega) (by omega)
    have hc := w64 (x := j + 1 + 1) (by omega) (by omega)
    have hd := w64 (x := j + 1 + 1 + 1) (by omega) (by omega)
    refine Ev.step (fun k => by rw [laws_markKindS.l0]) (Ev.pos (by omega) (Ev.pos (by omega) ?_))
    refine Ev.nobind rfl ?_
    refine Ev.nobind rfl ?_
    rw [ha, hb, hc, hd, rdK x i hi, rdK _ i (by simp; omega), rdK _ i (by simp; omega)]
    simp only [Int.toNat_natCast, List.set_set, List.getElem_set_self]
    rw [show j + 1 + 1 + 1 = j + 3 by omega]
    exact hk
  · exact Ev.step (fun k => by rw [laws_markKindS.l0]) (Ev.neg (by omega) (Ev.fin rfl))
def mkC (j : Int) : S75 := ⟨IntKind.i8.wrap j, IntKind.i8.wrap (j + 1), IntKind.i8.wrap (j + 1 + 1), IntKind.i8.wrap (j + 1 + 1 + 1)⟩
theorem markCuts (l : List S75) (h : l.length ≤ 1048576) (j0 : Int) (h0 : 0 ≤ j0) (h1 : j0 ≤ 4194304) : Ev (fun k => laws_markCutS.f k l j0) (j0 + 4 * (l.length : Int), marksG mkC 4 l.length j0) := by
  unfold laws_markCutS.f
  refine Ev.to (mark_ev mkC 4 (fun k x j i => laws_markCutS.l0 k x j i) (by omega) (by omega) (fun x j i hi r h0 h1 h2 hk => ?_) (fun x j => ?_) l.length 0 j0 l (by omega) (by omega) h0 (by omega)) (by simp)
  · have ha := w64 (x := (i : Int) + 1) (by omega) (by omega)
    have hb := w64 (x := j + 1) (by omega) (by omega)
    have hc := w64 (x := j + 1 + 1) (by omega) (by omega)
    have hd := w64 (x := j + 1 + 1 + 1) (by omega) (by omega)
    have he := w64 (x := j + 1 + 1 + 1 + 1) (by omega) (by omega)
    refine Ev.step (fun k => by rw [laws_markCutS.l0]) (Ev.pos (by omega) (Ev.pos (by omega) ?_))
    refine Ev.nobind rfl ?_
    refine Ev.nobind rfl ?_
    refine Ev.nobind rfl ?_
    rw [ha, hb, hc, hd, he, rdC x i hi, rdC _ i (by simp; omega), rdC _ i (by simp; omega), rdC _ i (by simp; omega)]
    simp only [Int.toNat_natCast, List.set_set, List.getElem_set_self]
    rw [show j + 1 + 1 + 1 + 1 = j + 4 by omega]
    exact hk
  · exact Ev.step (fun k => by rw [laws_markCutS.l0]) (Ev.neg (by omega) (Ev.fin rfl))
end Go.Proofs.Ytedbgfjllladkaa.CutsKit
