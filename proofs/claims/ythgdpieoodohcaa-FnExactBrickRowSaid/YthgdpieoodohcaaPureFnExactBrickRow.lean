/- The program's BrickRow answers what the reference's BrickRow answers, at all numbers; no condition. -/
import Derived.Test.YthgdpieoodohcaaRowsKit
import Derived.Test.YthgdpieoodohcaaBrickKit
import Derived.Test.YthgdpieoodohcaaPAxf9
namespace Go.Proofs.Ythgdpieoodohcaa.Pure
set_option linter.unusedSimpArgs false
set_option linter.unusedVariables false
open Go.RowKit Go.Proofs.Ythgdpieoodohcaa.PA Go.Proofs.Ythgdpieoodohcaa.Base Go.Proofs.Ythgdpieoodohcaa.RowsKit Go.Proofs.Ythgdpieoodohcaa.RowsFns Go.Proofs.Ythgdpieoodohcaa.BrickKit Go.Proofs.YthgdpieoodohcaaW.PrintWords Go.Proofs.YthgdpieoodohcaaW.PrintLast Go.Proofs.YthgdpieoodohcaaW.PrintMore

def br (a s w f : Int) : List Int × Int := if inB a 1 2000 && inB s 0 200 && inB w 1 200 && inB f 1 200 then bro a s w f else ([], 2)
theorem brk_length (l : List Int) : (brk l).1.length ≤ 60 := by
  unfold brk
  split
  · rename_i h
    unfold okW at h
    rw [Bool.and_eq_true, inB_iff] at h
    simp only [List.length_map]; omega
  · simp
theorem br_length (a s w f : Int) : (br a s w f).1.length ≤ 60 := by
  unfold br
  split
  · exact brk_length _
  · simp
theorem specBrr (a s w f : Int) : Ev (fun k => spec_BrickRow.f k a s w f) (br a s w f) := by
  unfold spec_BrickRow.f br
  refine Ev.nobind (specLong a s) (Ev.ite (fun e => ?_) (fun e => ?_))
  · rw [e]
    refine Ev.nobind (specWidth w) (Ev.ite (fun e1 => ?_) (fun e1 => ?_))
    · rw [e1]
      refine Ev.nobind (specWidth f) (Ev.step (fun k => by rw [spec_BrickRow.j0]) ?_)
      cases e2 : inB f 1 200 with
      | false => exact Ev.pos rfl (Ev.fin (by simp))
      | true =>
        rw [Bool.and_eq_true, inB_iff, inB_iff] at e
        rw [inB_iff] at e1 e2
        obtain ⟨v, h1, h2⟩ := specBr a s w f e.1 e.2 e1 e2
        refine Ev.neg (by simp) (Ev.bind h1 ?_)
        simp only [Bool.true_and, if_true]
        rw [← h2]
        refine Ev.ite (fun h => Ev.fin ?_) (fun h => Ev.fin ?_)
        · unfold end_; rw [if_pos h]
        · unfold end_; rw [if_neg h]
    · rw [Bool.not_eq_true] at e1; rw [e1]
      refine Ev.step (fun k => by rw [spec_BrickRow.j0]) ?_
      exact Ev.pos rfl (Ev.fin (by simp))
  · rw [Bool.not_eq_true] at e; rw [e]
    refine Ev.step (fun k => by rw [spec_BrickRow.j0]) ?_
    exact Ev.pos rfl (Ev.fin (by simp))
theorem implBrr (a s w f : Int) : Ev (fun k => impl_BrickRow.f k a s w f) (br a s w f) := by
  unfold impl_BrickRow.f br
  have bad : Ev (fun k => impl_BrickRow.j0 k a s w f true) ([], 2) := by
    refine Ev.step (fun k => by rw [impl_BrickRow.j0]) ?_
    exact Ev.pos rfl (Ev.fin rfl)
  refine Ev.nobind (implLong a) (Ev.ite (fun e => ?_) (fun e => ?_))
  · rw [e]
    refine Ev.nobind (implSeam s) (Ev.ite (fun e1 => ?_) (fun e1 => ?_))
    · rw [e1]
      refine Ev.nobind (implWidth _) ?_
      have hall : ([w, f] : List Int).all (fun x => inB x 1 200) = (inB w 1 200 && inB f 1 200) := by simp
      rw [hall]
      cases e2 : inB w 1 200 with
      | false => exact Ev.to bad (by simp)
      | true =>
        cases e3 : inB f 1 200 with
        | false => exact Ev.to bad (by simp)
        | true =>
          rw [inB_iff] at e e1 e2 e3
          obtain ⟨v, h1, h2⟩ := implBr a s w f e e1 e2 e3
          refine Ev.step (fun k => by rw [impl_BrickRow.j0]) ?_
          refine Ev.neg (by simp) (Ev.bind h1 ?_)
          simp only [Bool.true_and, if_true]
          rw [← h2]
          refine Ev.ite (fun h => Ev.fin ?_) (fun h => Ev.fin ?_)
          · unfold end_; rw [if_pos h]
          · unfold end_; rw [if_neg h]
    · rw [Bool.not_eq_true] at e1; rw [e1]; exact Ev.to bad (by simp)
  · rw [Bool.not_eq_true] at e; rw [e]; exact Ev.to bad (by simp)
theorem FnExactBrickRow : laws_FnExactBrickRow.Pure := by
  intro a s w f _ _ _ _
  refine Ev.rounds (g := fun k => laws_FnExactBrickRow.f k a s w f) ?_
  unfold laws_FnExactBrickRow.f
  have hl := br_length a s w f
  have hs := specBrr a s w f
  have hi := implBrr a s w f
  generalize br a s w f = v at hl hs hi
  have hq := eqRow v.1 v.1 (by omega)
  refine Ev.bind hs (Ev.bind hi (Ev.bind hq (Ev.pos (by simp) ?_)))
  refine Ev.step (fun k => by rw [laws_FnExactBrickRow.j0]) ?_
  refine Ev.neg (by simp) ?_
  refine Ev.bind (markRow v.1 (by omega)) (Ev.bind (heldRow v.1.length (by omega)) (Ev.neg (by omega) (Ev.pos rfl ?_)))
  refine Ev.bind hi (Ev.bind hq (Ev.pos (by simp) ?_))
  refine Ev.step (fun k => by rw [laws_FnExactBrickRow.j1]) ?_
  refine Ev.neg (by simp) (Ev.bind (heldRow v.1.length (by omega)) ?_)
  refine Ev.neg (by omega) ?_
  exact Ev.pos rfl (Ev.fin rfl)

end Go.Proofs.Ythgdpieoodohcaa.Pure
