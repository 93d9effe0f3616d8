/- The program's LeastApart answers what the reference's LeastApart answers, at all rows and numbers; no condition. -/
import Derived.Test.YthgdpieoodohcaaRowsKit
import Derived.Test.YthgdpieoodohcaaApartKit
import Derived.Test.YthgdpieoodohcaaPAxf10
namespace Go.Proofs.Ythgdpieoodohcaa.Pure
set_option linter.unusedSimpArgs false
set_option linter.unusedVariables false
open Go.RowKit Go.Proofs.Ythgdpieoodohcaa.PA Go.Proofs.Ythgdpieoodohcaa.Base Go.Proofs.Ythgdpieoodohcaa.RowsKit Go.Proofs.Ythgdpieoodohcaa.RowsFns Go.Proofs.Ythgdpieoodohcaa.JointsKit Go.Proofs.Ythgdpieoodohcaa.ApartKit Go.Proofs.YthgdpieoodohcaaW.PrintWords Go.Proofs.YthgdpieoodohcaaW.PrintLast Go.Proofs.YthgdpieoodohcaaW.PrintMore

theorem FnExactLeastApart : laws_FnExactLeastApart.Pure := by
  intro l0 l1 a2 m0 b0 w0 m1 b1 w1 w2
  have hf0 := fit_of w0
  have hf1 := fit_of w1
  refine Ev.rounds (g := fun k => laws_FnExactLeastApart.f k l0 l1 a2) ?_
  unfold laws_FnExactLeastApart.f
  refine Ev.ite (fun _ => Ev.fin rfl) (fun h0 => Ev.ite (fun _ => Ev.fin rfl) (fun h1 => ?_))
  have t0 := toRow l0 (by omega)
  have t1 := toRow l1 (by omega)
  refine Ev.bind t0 (Ev.bind t1 (Ev.bind (specLA hf0 hf1 a2 (by omega) (by omega)) (Ev.bind t0 (Ev.bind t1 (Ev.bind (implLA hf0 hf1 a2 (by omega) (by omega)) ?_)))))
  refine Ev.pos rfl (Ev.step (fun k => by rw [laws_FnExactLeastApart.j0]) ?_)
  exact Ev.neg (by simp) (Ev.bind t0 (Ev.bind (eqRow l0 l0 (by omega)) (Ev.pos (by simp) (Ev.bind t1 (Ev.bind (eqRow l1 l1 (by omega)) (Ev.pos (by simp) (Ev.fin rfl)))))))

end Go.Proofs.Ythgdpieoodohcaa.Pure
