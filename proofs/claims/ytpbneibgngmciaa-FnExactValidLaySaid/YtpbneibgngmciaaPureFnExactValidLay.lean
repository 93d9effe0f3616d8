/- The program's ValidLay answers what the reference's ValidLay answers, at all frames and lists of stones; no condition. -/
import Derived.Test.YtpbneibgngmciaaLayKit
import Derived.Test.YtpbneibgngmciaaPAxf5
namespace Go.Proofs.Ytpbneibgngmciaa.Pure
set_option linter.unusedSimpArgs false
set_option linter.unusedVariables false
open Go.RowKit Go.Proofs.Ytpbneibgngmciaa.PA Go.Proofs.Ytpbneibgngmciaa.Base Go.Proofs.Ytpbneibgngmciaa.StonesKit Go.Proofs.Ytpbneibgngmciaa.LayKit Go.Proofs.YtpbneibgngmciaaW.PrintWords Go.Proofs.YtpbneibgngmciaaW.PrintLast Go.Proofs.YtpbneibgngmciaaW.PrintMore

theorem FnExactValidLay : laws_FnExactValidLay.Pure := by
  intro a b l1 wa wb w1
  have h16 := f16_of wa wb
  refine Ev.rounds (g := fun k => laws_FnExactValidLay.f k a b l1) ?_
  unfold laws_FnExactValidLay.f
  obtain ⟨v, hv, hv2⟩ := szStones w1
  refine Ev.bind hv (Ev.ite (fun _ => Ev.fin rfl) (fun h0 => ?_))
  have h2 : l1.length ≤ 1048576 ∧ ∀ l ∈ l1, l.length ≤ 1048576 := by
    rcases hv2 with h | h
    · exact absurd h h0
    · exact h
  have hf := fitL_of w1 h2.1 h2.2
  have t0 := toStones h2.1 h2.2
  obtain ⟨r, hs, hi⟩ := lays h16 hf
  have hs' : Ev (fun k => spec_ValidLay.f k a b (convL l1)) r := by
    unfold spec_ValidLay.f
    exact Ev.bind hs (Ev.fin rfl)
  refine Ev.nobind (a := (a, b)) rfl (Ev.bind t0 (Ev.bind hs' (Ev.bind t0 (Ev.nobind (a := (a, b)) rfl (Ev.bind hi (Ev.neg (by simp) ?_))))))
  exact Ev.bind t0 (Ev.bind (eqStones hf) (Ev.pos rfl (Ev.fin rfl)))

end Go.Proofs.Ytpbneibgngmciaa.Pure
