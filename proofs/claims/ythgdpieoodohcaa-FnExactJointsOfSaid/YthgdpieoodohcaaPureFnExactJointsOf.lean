/- The program's JointsOf answers what the reference's JointsOf answers, at all rows and numbers; no condition. -/
import Derived.Test.YthgdpieoodohcaaRowsKit
import Derived.Test.YthgdpieoodohcaaJointsKit
import Derived.Test.YthgdpieoodohcaaPAxf12
namespace Go.Proofs.Ythgdpieoodohcaa.Pure
set_option linter.unusedSimpArgs false
set_option linter.unusedVariables false
open Go.RowKit Go.Proofs.Ythgdpieoodohcaa.PA Go.Proofs.Ythgdpieoodohcaa.Base Go.Proofs.Ythgdpieoodohcaa.RowsKit Go.Proofs.Ythgdpieoodohcaa.RowsFns Go.Proofs.Ythgdpieoodohcaa.JointsKit Go.Proofs.YthgdpieoodohcaaW.PrintWords Go.Proofs.YthgdpieoodohcaaW.PrintLast Go.Proofs.YthgdpieoodohcaaW.PrintMore

theorem ask0 {l : List Int} {a : Int} (h : askRow l a = 0) : 1 ≤ l.length ∧ l.length ≤ 60 := by
  unfold askRow at h
  cases e : okB l with
  | false => rw [e] at h; simp at h
  | true =>
    unfold okB at e
    rw [Bool.and_eq_true, inB_iff] at e
    omega
def jo (l : List Int) (a : Int) : List S90 × Int := if askRow l a = 0 then (jts l a, 0) else ([], askRow l a)
theorem jo_length (l : List Int) (a : Int) (h : l.length ≤ 1048576) : (jo l a).1.length ≤ 1048576 := by
  unfold jo; split
  · simp only [jts_length]; omega
  · simp
theorem specJo {l : List Int} (hf : Fit l) (a : Int) (h : l.length ≤ 1048576) : Ev (fun k => spec_JointsOf.f k l a) (jo l a) := by
  unfold spec_JointsOf.f jo
  refine Ev.bind (specAsked hf a) (Ev.ite (fun e => ?_) (fun e => ?_))
  · rw [if_pos e]; exact Ev.bind (specJoints l a h (ask0 e).1) (Ev.now _)
  · rw [if_neg e]; exact Ev.now _
theorem implJo {l : List Int} (hf : Fit l) (a : Int) (h : l.length ≤ 1048576) : Ev (fun k => impl_JointsOf.f k l a) (jo l a) := by
  unfold impl_JointsOf.f jo
  refine Ev.nobind (implValid hf) (Ev.nobind (implSeam a) (Ev.nobind (codeOf _ _) ?_))
  show Ev (fun k => if askRow l a = 0 then _ else _) _
  refine Ev.ite (fun e => ?_) (fun e => ?_)
  · rw [if_pos e]; exact Ev.bind (implJoints l a h (ask0 e).1) (Ev.now _)
  · rw [if_neg e]; exact Ev.now _
theorem FnExactJointsOf : laws_FnExactJointsOf.Pure := by
  intro l0 a1 m0 b0 w0 w1
  have hf := fit_of w0
  refine Ev.rounds (g := fun k => laws_FnExactJointsOf.f k l0 a1) ?_
  unfold laws_FnExactJointsOf.f
  refine Ev.ite (fun _ => Ev.fin rfl) (fun h0 => ?_)
  have hl : l0.length ≤ 1048576 := by omega
  have t0 := toRow l0 (by omega)
  have hj := jo_length l0 a1 hl
  have hs := specJo hf a1 hl
  have hi := implJo hf a1 hl
  generalize jo l0 a1 = v at hj hs hi
  have hq := eqJoints v.1 hj
  refine Ev.bind t0 (Ev.bind hs (Ev.bind t0 (Ev.bind hi (Ev.bind hq (Ev.pos rfl ?_)))))
  refine Ev.step (fun k => by rw [laws_FnExactJointsOf.j0]) ?_
  refine Ev.neg (by simp) (Ev.bind t0 (Ev.bind (eqRow l0 l0 (by omega)) (Ev.pos (by simp) ?_)))
  refine Ev.bind (markRow l0 (by omega)) (Ev.neg (by show ¬ (1 + (l0.length : Int) < 0); omega) (Ev.bind hq (Ev.pos rfl ?_)))
  refine Ev.step (fun k => by rw [laws_FnExactJointsOf.j1]) (Ev.neg (by simp) ?_)
  refine Ev.bind (markJoints v.1 hj) (Ev.bind (heldJoints v.1.length hj) (Ev.neg (by omega) (Ev.pos rfl ?_)))
  refine Ev.bind t0 (Ev.bind hi (Ev.bind hq (Ev.pos rfl ?_)))
  refine Ev.step (fun k => by rw [laws_FnExactJointsOf.j2]) ?_
  refine Ev.neg (by simp) (Ev.bind (heldJoints v.1.length hj) ?_)
  refine Ev.neg (by omega) ?_
  exact Ev.pos rfl (Ev.fin rfl)

end Go.Proofs.Ythgdpieoodohcaa.Pure
