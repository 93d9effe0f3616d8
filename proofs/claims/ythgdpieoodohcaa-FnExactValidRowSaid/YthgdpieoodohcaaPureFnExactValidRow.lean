/- The program's ValidRow answers what the reference's ValidRow answers, at all rows; no condition. -/
import Derived.Test.YthgdpieoodohcaaRowsKit
import Derived.Test.YthgdpieoodohcaaRowsFns
import Derived.Test.YthgdpieoodohcaaPAxf4
namespace Go.Proofs.Ythgdpieoodohcaa.Pure
set_option linter.unusedSimpArgs false
open Go.RowKit Go.Proofs.Ythgdpieoodohcaa.PA Go.Proofs.Ythgdpieoodohcaa.Base Go.Proofs.Ythgdpieoodohcaa.RowsKit Go.Proofs.Ythgdpieoodohcaa.RowsFns Go.Proofs.YthgdpieoodohcaaW.PrintWords Go.Proofs.YthgdpieoodohcaaW.PrintLast

theorem FnExactValidRow : laws_FnExactValidRow.Pure := by
  intro l0 m0 b0 w0
  have hf := fit_of w0
  refine Ev.rounds (g := fun k => laws_FnExactValidRow.f k l0) ?_
  unfold laws_FnExactValidRow.f
  refine Ev.ite (fun _ => Ev.fin rfl) (fun h0 => ?_)
  have t0 := toRow l0 (by omega)
  refine Ev.bind t0 (Ev.bind (a := okB l0) (by unfold spec_ValidRow.f; exact Ev.bind (specOk hf) (Ev.now _)) (Ev.bind t0 (Ev.nobind (implValid hf) ?_)))
  exact Ev.neg (by simp) (Ev.bind t0 (Ev.bind (eqRow l0 l0 (by omega)) (Ev.pos (by simp) (Ev.fin rfl))))

end Go.Proofs.Ythgdpieoodohcaa.Pure
