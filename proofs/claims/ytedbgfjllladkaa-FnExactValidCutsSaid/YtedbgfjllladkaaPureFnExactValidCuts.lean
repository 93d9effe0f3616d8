/- The program's ValidCuts answers what the reference's ValidCuts answers, at all plates, lists of kinds and of cuts; no condition. -/
import Derived.Test.YtedbgfjllladkaaCutsKit
import Derived.Test.YtedbgfjllladkaaPAxf5
namespace Go.Proofs.Ytedbgfjllladkaa.Pure
set_option linter.unusedSimpArgs false
set_option linter.unusedVariables false
open Go.RowKit Go.Proofs.Ytedbgfjllladkaa.PA Go.Proofs.Ytedbgfjllladkaa.Base Go.Proofs.Ytedbgfjllladkaa.KindsKit Go.Proofs.Ytedbgfjllladkaa.CutsKit Go.Proofs.YtedbgfjllladkaaW.PrintWords Go.Proofs.YtedbgfjllladkaaW.PrintLast Go.Proofs.YtedbgfjllladkaaW.PrintMore

theorem FnExactValidCuts : laws_FnExactValidCuts.Pure := by
  intro a0 a1 l2 l3 u0 u1 u2 u3
  refine Ev.rounds (g := fun k => laws_FnExactValidCuts.f k a0 a1 l2 l3) ?_
  unfold laws_FnExactValidCuts.f
  refine Ev.nobind (szKinds l2 u2.1) ?_
  refine Ev.ite (fun _ => Ev.fin rfl) (fun h0 => ?_)
  obtain ⟨hl2, e0⟩ := few l2.length 0 h0
  rw [e0]
  refine Ev.nobind (szCuts l3 _ (by omega) (by omega) u3.1) ?_
  refine Ev.ite (fun _ => Ev.fin rfl) (fun h1 => ?_)
  have hl3 : l3.length ≤ 1048576 := by split at h1 <;> omega
  have tk := toKinds l2 hl2
  have tc := toCuts l3 hl3
  obtain ⟨r, e1, e2, e3⟩ := sizes a0 a1 (l2.map conv) (l3.map convC) (okKs l2 u2.2) (by simpa using hl2) (by simpa using hl3) (okCs l3 u3.2)
  have hs : Ev (fun k => spec_ValidCuts.f k a0 a1 (l2.map conv) (l3.map convC)) r.2 := by
    unfold spec_ValidCuts.f
    exact Ev.bind e1 (Ev.fin rfl)
  have hi : Ev (fun k => impl_ValidCuts.f k a0 a1 (l2.map conv) (l3.map convC)) r.2 := by
    unfold impl_ValidCuts.f
    exact Ev.bind e2 (Ev.fin rfl)
  refine Ev.bind tk ?_
  refine Ev.bind tc ?_
  refine Ev.bind hs ?_
  refine Ev.bind tk ?_
  refine Ev.bind tc ?_
  refine Ev.bind hi ?_
  refine Ev.neg (by simp) ?_
  refine Ev.bind tk ?_
  refine Ev.bind (eqKinds _ (by simpa using hl2)) ?_
  refine Ev.pos rfl ?_
  refine Ev.bind tc ?_
  refine Ev.bind (eqCuts _ (by simpa using hl3)) ?_
  exact Ev.pos rfl (Ev.fin rfl)

end Go.Proofs.Ytedbgfjllladkaa.Pure
