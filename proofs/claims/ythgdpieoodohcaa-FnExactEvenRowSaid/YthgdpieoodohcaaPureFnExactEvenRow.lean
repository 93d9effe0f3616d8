/- The program's EvenRow answers what the reference's EvenRow answers, at all rows and numbers; no condition. -/
import Derived.Test.YthgdpieoodohcaaRowsKit
import Derived.Test.YthgdpieoodohcaaLoops
import Derived.Test.YthgdpieoodohcaaEvenKit
import Derived.Test.YthgdpieoodohcaaPAxf5
namespace Go.Proofs.Ythgdpieoodohcaa.Pure
set_option linter.unusedSimpArgs false
set_option linter.unusedVariables false
open Go.RowKit Go.Proofs.Ythgdpieoodohcaa.PA Go.Proofs.Ythgdpieoodohcaa.Base Go.Proofs.Ythgdpieoodohcaa.RowsKit Go.Proofs.Ythgdpieoodohcaa.RowsFns Go.Proofs.Ythgdpieoodohcaa.EvenKit Go.Proofs.YthgdpieoodohcaaW.PrintWords Go.Proofs.YthgdpieoodohcaaW.PrintLast Go.Proofs.YthgdpieoodohcaaW.PrintMore

def er (a s n : Int) : List Int × Int := if inB a 1 2000 && inB s 0 200 && inB n 1 60 then (match evenOf (a - (n - 1) * s) n with | some l => (l, 0) | none => ([], 6)) else ([], 2)
theorem er_length (a s n : Int) : (er a s n).1.length ≤ 60 := by
  unfold er
  split
  · rename_i h
    rw [Bool.and_eq_true, Bool.and_eq_true, inB_iff, inB_iff, inB_iff] at h
    unfold evenOf
    split
    · rename_i l e
      split at e
      · cases e; simp only [evenL_length]; omega
      · cases e
    · simp
  · simp
theorem specEr (a s n : Int) : Ev (fun k => spec_EvenRow.f k a s n) (er a s n) := by
  unfold spec_EvenRow.f er
  refine Ev.nobind (specLong a s) (Ev.ite (fun e => ?_) (fun e => ?_))
  · rw [e]
    refine Ev.nobind (specIn n 1 60) (Ev.step (fun k => by rw [spec_EvenRow.j0]) ?_)
    cases e2 : inB n 1 60 with
    | false => exact Ev.pos rfl (Ev.fin (by simp))
    | true =>
      rw [Bool.and_eq_true, inB_iff, inB_iff] at e
      rw [inB_iff] at e2
      refine Ev.neg (by simp) (Ev.bind (specEven a s n e.1 e.2 e2) ?_)
      simp only [Bool.true_and, if_true]
      cases evenOf (a - (n - 1) * s) n with
      | some l => exact Ev.pos rfl (Ev.fin rfl)
      | none => exact Ev.neg (by simp [outE]) (Ev.fin rfl)
  · rw [Bool.not_eq_true] at e; rw [e]
    refine Ev.step (fun k => by rw [spec_EvenRow.j0]) ?_
    exact Ev.pos rfl (Ev.fin (by simp))
theorem implEr (a s n : Int) : Ev (fun k => impl_EvenRow.f k a s n) (er a s n) := by
  unfold impl_EvenRow.f er
  refine Ev.nobind (implLong a) (Ev.ite (fun e => ?_) (fun e => ?_))
  · rw [e]
    refine Ev.nobind (implSeam s) (Ev.ite (fun e1 => ?_) (fun e1 => ?_))
    · rw [e1]
      refine Ev.nobind (implIn n 1 60) (Ev.step (fun k => by rw [impl_EvenRow.j0]) ?_)
      cases e2 : inB n 1 60 with
      | false => exact Ev.pos rfl (Ev.fin (by simp))
      | true =>
        rw [inB_iff] at e e1 e2
        have hm : (n - 1) * s ≤ 59 * 200 := Int.mul_le_mul (by omega) e1.2 e1.1 (by omega)
        have hm0 : 0 ≤ (n - 1) * s := Int.mul_nonneg (by omega) e1.1
        rw [w64 (x := n - 1) (by omega) (by omega), w64 (x := (n - 1) * s) (by omega) (by omega), w64 (by omega) (by omega)]
        refine Ev.neg (by simp) (Ev.bind (implEven (a - (n - 1) * s) n (by omega) (by omega) e2) ?_)
        simp only [Bool.true_and, if_true]
        cases evenOf (a - (n - 1) * s) n with
        | some l => exact Ev.pos rfl (Ev.fin rfl)
        | none => exact Ev.neg (by simp [outE]) (Ev.fin rfl)
    · rw [Bool.not_eq_true] at e1; rw [e1]
      refine Ev.step (fun k => by rw [impl_EvenRow.j0]) ?_
      exact Ev.pos rfl (Ev.fin (by simp))
  · rw [Bool.not_eq_true] at e; rw [e]
    refine Ev.step (fun k => by rw [impl_EvenRow.j0]) ?_
    exact Ev.pos rfl (Ev.fin (by simp))
theorem FnExactEvenRow : laws_FnExactEvenRow.Pure := by
  intro a s n _ _ _
  refine Ev.rounds (g := fun k => laws_FnExactEvenRow.f k a s n) ?_
  unfold laws_FnExactEvenRow.f
  have hl := er_length a s n
  have hs := specEr a s n
  have hi := implEr a s n
  generalize er a s n = v at hl hs hi
  have hq := eqRow v.1 v.1 (by omega)
  refine Ev.bind hs (Ev.bind hi (Ev.bind hq (Ev.pos (by simp) ?_)))
  refine Ev.step (fun k => by rw [laws_FnExactEvenRow.j0]) ?_
  refine Ev.neg (by simp) ?_
  refine Ev.bind (markRow v.1 (by omega)) (Ev.bind (heldRow v.1.length (by omega)) (Ev.neg (by omega) (Ev.pos rfl ?_)))
  refine Ev.bind hi (Ev.bind hq (Ev.pos (by simp) ?_))
  refine Ev.step (fun k => by rw [laws_FnExactEvenRow.j1]) ?_
  refine Ev.neg (by simp) (Ev.bind (heldRow v.1.length (by omega)) (Ev.neg (by omega) ?_))
  exact Ev.pos rfl (Ev.fin rfl)

end Go.Proofs.Ythgdpieoodohcaa.Pure
