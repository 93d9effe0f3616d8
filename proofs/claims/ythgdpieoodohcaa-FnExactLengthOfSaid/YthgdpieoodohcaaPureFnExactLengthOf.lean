/- The program's LengthOf answers what the reference's LengthOf answers, at all rows and numbers; no condition. -/
import Derived.Test.YthgdpieoodohcaaRowsKit
import Derived.Test.YthgdpieoodohcaaRowsFns
import Derived.Test.YthgdpieoodohcaaPAxf7
namespace Go.Proofs.Ythgdpieoodohcaa.Pure
set_option linter.unusedSimpArgs false
open Go.RowKit Go.Proofs.Ythgdpieoodohcaa.PA Go.Proofs.Ythgdpieoodohcaa.Base Go.Proofs.Ythgdpieoodohcaa.RowsKit Go.Proofs.Ythgdpieoodohcaa.RowsFns Go.Proofs.YthgdpieoodohcaaW.PrintWords Go.Proofs.YthgdpieoodohcaaW.PrintLast

theorem FnExactLengthOf : laws_FnExactLengthOf.Pure := by
  intro l0 a1 m0 b0 w0 w1
  have hf := fit_of w0
  refine Ev.rounds (g := fun k => laws_FnExactLengthOf.f k l0 a1) ?_
  unfold laws_FnExactLengthOf.f
  refine Ev.ite (fun _ => Ev.fin rfl) (fun h0 => ?_)
  have t0 := toRow l0 (by omega)
  have hs : Ev (fun k => spec_LengthOf.f k l0 a1) (if askRow l0 a1 = 0 then (lenF l0 a1, 0) else (0, askRow l0 a1)) := by
    unfold spec_LengthOf.f
    refine Ev.bind (specAsked hf a1) (Ev.ite (fun h => ?_) (fun h => ?_))
    · rw [if_pos h]; exact Ev.bind (specLength l0 a1 (by omega)) (Ev.now _)
    · rw [if_neg h]; exact Ev.now _
  have hi : Ev (fun k => impl_LengthOf.f k l0 a1) (if askRow l0 a1 = 0 then (lenF l0 a1, 0) else (0, askRow l0 a1)) := by
    unfold impl_LengthOf.f
    refine Ev.nobind (implValid hf) (Ev.nobind (implSeam a1) (Ev.nobind (codeOf _ _) ?_))
    show Ev (fun k => if askRow l0 a1 = 0 then _ else _) _
    refine Ev.ite (fun h => ?_) (fun h => ?_)
    · rw [if_pos h]; exact Ev.bind (implLength l0 a1 (by omega)) (Ev.now _)
    · rw [if_neg h]; exact Ev.now _
  refine Ev.bind t0 (Ev.bind hs (Ev.bind t0 (Ev.bind hi ?_)))
  refine Ev.pos rfl (Ev.step (fun k => by rw [laws_FnExactLengthOf.j0]) (Ev.neg (by simp) ?_))
  exact Ev.bind t0 (Ev.bind (eqRow l0 l0 (by omega)) (Ev.pos (by simp) (Ev.fin rfl)))

end Go.Proofs.Ythgdpieoodohcaa.Pure
