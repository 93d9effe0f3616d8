/- The program's ValidKinds answers what the reference's ValidKinds answers, at all lists of kinds; no condition. -/
import Derived.Test.YtgbjpnlmbdjooaaKindsKit
import Derived.Test.YtgbjpnlmbdjooaaPAxf3
namespace Go.Proofs.Ytgbjpnlmbdjooaa.Pure
set_option linter.unusedSimpArgs false
set_option linter.unusedVariables false
open Go.RowKit Go.Proofs.Ytgbjpnlmbdjooaa.PA Go.Proofs.Ytgbjpnlmbdjooaa.Base Go.Proofs.Ytgbjpnlmbdjooaa.KindsKit Go.Proofs.YtgbjpnlmbdjooaaW.PrintWords Go.Proofs.YtgbjpnlmbdjooaaW.PrintLast Go.Proofs.YtgbjpnlmbdjooaaW.PrintMore

theorem FnExactValidKinds : laws_FnExactValidKinds.Pure := by
  intro l0 w0
  refine Ev.rounds (g := fun k => laws_FnExactValidKinds.f k l0) ?_
  unfold laws_FnExactValidKinds.f
  refine Ev.nobind (szKinds l0 w0.1) (Ev.ite (fun _ => Ev.fin rfl) (fun h0 => ?_))
  have hl : l0.length ≤ 1048576 := by split at h0 <;> omega
  have t0 := toKinds l0 hl
  have hs : Ev (fun k => spec_ValidKinds.f k (l0.map conv)) (kindsB (l0.map conv)) := by
    unfold spec_ValidKinds.f
    exact Ev.bind (specKinds _ (by simpa using hl)) (Ev.fin rfl)
  refine Ev.bind t0 (Ev.bind hs (Ev.bind t0 (Ev.nobind (implKinds _) (Ev.neg (by simp) (Ev.bind t0 (Ev.bind (eqKinds _ (by simpa using hl)) ?_))))))
  exact Ev.pos rfl (Ev.fin rfl)

end Go.Proofs.Ytgbjpnlmbdjooaa.Pure
