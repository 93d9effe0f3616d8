/- The program's InFrame answers what the reference's InFrame answers, at all frames and lists of corners; no condition. -/
import Derived.Test.YtpbneibgngmciaaLayKit
import Derived.Test.YtpbneibgngmciaaPAxf3
namespace Go.Proofs.Ytpbneibgngmciaa.Pure
set_option linter.unusedSimpArgs false
set_option linter.unusedVariables false
open Go.RowKit Go.Proofs.Ytpbneibgngmciaa.PA Go.Proofs.Ytpbneibgngmciaa.Base Go.Proofs.Ytpbneibgngmciaa.StonesKit Go.Proofs.Ytpbneibgngmciaa.LayKit Go.Proofs.YtpbneibgngmciaaW.PrintWords Go.Proofs.YtpbneibgngmciaaW.PrintLast Go.Proofs.YtpbneibgngmciaaW.PrintMore

def res (a b : Int) (l : List S58) : Bool × Int := if frB a b then (if okS l then (allIn a b l, 0) else (false, 1)) else (false, 1)
theorem specRes {a b : Int} (h : F16 a b) {l : List S58} (hf : Fit l) (hl : l.length ≤ 1048576) : Ev (fun k => spec_InFrame.f k a b l) (res a b l) := by
  unfold spec_InFrame.f res
  refine Ev.nobind (specFrame h) ?_
  cases frB a b with
  | false => exact Ev.neg (by decide) (Ev.fin rfl)
  | true =>
    refine Ev.pos rfl (Ev.bind (specOk hf) ?_)
    cases okS l with
    | false => exact Ev.neg (by decide) (Ev.fin rfl)
    | true => exact Ev.pos rfl (Ev.bind (specInF h hf hl) (Ev.fin rfl))
theorem implRes {a b : Int} (h : F16 a b) {l : List S58} (hf : Fit l) : Ev (fun k => impl_InFrame.f k a b l) (res a b l) := by
  unfold impl_InFrame.f res
  refine Ev.nobind (implFrame h) ?_
  cases frB a b with
  | false => exact Ev.neg (by decide) (Ev.fin rfl)
  | true =>
    refine Ev.pos rfl (Ev.bind (implOk hf) ?_)
    cases okS l with
    | false => exact Ev.neg (by decide) (Ev.fin rfl)
    | true => exact Ev.pos rfl (Ev.nobind (implInF a b l) (Ev.fin rfl))
theorem FnExactInFrame : laws_FnExactInFrame.Pure := by
  intro a b l1 wa wb w1
  have hf := fit_of w1
  have h16 := f16_of wa wb
  refine Ev.rounds (g := fun k => laws_FnExactInFrame.f k a b l1) ?_
  unfold laws_FnExactInFrame.f
  refine Ev.nobind (szStone l1 w1.1) (Ev.ite (fun _ => Ev.fin rfl) (fun h0 => ?_))
  have hl : l1.length ≤ 1048576 := by split at h0 <;> omega
  have t0 := toStone l1 hl
  refine Ev.nobind (a := (a, b)) rfl (Ev.bind t0 (Ev.bind (specRes h16 hf (by simpa using hl)) (Ev.bind t0 (Ev.nobind (a := (a, b)) rfl (Ev.bind (implRes h16 hf) (Ev.neg (by simp) ?_))))))
  refine Ev.step (fun k => by rw [laws_FnExactInFrame.j0]) ?_
  exact Ev.neg (by simp) (Ev.bind t0 (Ev.bind (eqStone _ (by simpa using hl)) (Ev.pos rfl (Ev.fin rfl))))

end Go.Proofs.Ytpbneibgngmciaa.Pure
