/- The program's FirstFault answers what the reference's FirstFault answers, at all frames and lists of stones; no condition. -/
import Derived.Test.YtpbneibgngmciaaLayKit
import Derived.Test.YtpbneibgngmciaaPAxf6
namespace Go.Proofs.Ytpbneibgngmciaa.Pure
set_option linter.unusedSimpArgs false
set_option linter.unusedVariables false
open Go.RowKit Go.Proofs.Ytpbneibgngmciaa.PA Go.Proofs.Ytpbneibgngmciaa.Base Go.Proofs.Ytpbneibgngmciaa.StonesKit Go.Proofs.Ytpbneibgngmciaa.LayKit Go.Proofs.YtpbneibgngmciaaW.PrintWords Go.Proofs.YtpbneibgngmciaaW.PrintLast Go.Proofs.YtpbneibgngmciaaW.PrintMore

theorem both {a b : Int} (h : F16 a b) {ls : List (List S58)} (hf : FitL ls) : ∃ r, Ev (fun k => spec_FirstFault.f k a b ls) r ∧ Ev (fun k => impl_FirstFault.f k a b ls) r := by
  unfold spec_FirstFault.f impl_FirstFault.f
  have hs := specStones h hf
  have hm := implStones h hf
  obtain ⟨r, h1, h2⟩ := faults h hf
  cases e : stB a b ls with
  | false =>
    rw [e] at hs hm
    exact ⟨(0, 0, 1), Ev.bind hs (Ev.neg (by decide) (Ev.fin rfl)), Ev.bind hm (Ev.neg (by decide) (Ev.fin rfl))⟩
  | true =>
    rw [e] at hs hm
    by_cases c : r.2.2 = true
    · exact ⟨(r.1, r.2.1, 0), Ev.bind hs (Ev.pos rfl (Ev.bind h1 (Ev.pos c (Ev.fin rfl)))), Ev.bind hm (Ev.pos rfl (Ev.bind h2 (Ev.pos c (Ev.fin rfl))))⟩
    · exact ⟨(0, 0, 6), Ev.bind hs (Ev.pos rfl (Ev.bind h1 (Ev.neg c (Ev.fin rfl)))), Ev.bind hm (Ev.pos rfl (Ev.bind h2 (Ev.neg c (Ev.fin rfl))))⟩
theorem FnExactFirstFault : laws_FnExactFirstFault.Pure := by
  intro a b l1 wa wb w1
  have h16 := f16_of wa wb
  refine Ev.rounds (g := fun k => laws_FnExactFirstFault.f k a b l1) ?_
  unfold laws_FnExactFirstFault.f
  obtain ⟨v, hv, hv2⟩ := szStones w1
  refine Ev.bind hv (Ev.ite (fun _ => Ev.fin rfl) (fun h0 => ?_))
  have h2 : l1.length ≤ 1048576 ∧ ∀ l ∈ l1, l.length ≤ 1048576 := by
    rcases hv2 with h | h
    · exact absurd h h0
    · exact h
  have hf := fitL_of w1 h2.1 h2.2
  have t0 := toStones h2.1 h2.2
  obtain ⟨r, hs, hi⟩ := both h16 hf
  refine Ev.nobind (a := (a, b)) rfl (Ev.bind t0 (Ev.bind hs (Ev.bind t0 (Ev.nobind (a := (a, b)) rfl (Ev.bind hi (Ev.pos rfl (Ev.pos rfl ?_)))))))
  refine Ev.step (fun k => by rw [laws_FnExactFirstFault.j0]) ?_
  exact Ev.neg (by simp) (Ev.bind t0 (Ev.bind (eqStones hf) (Ev.pos rfl (Ev.fin rfl))))

end Go.Proofs.Ytpbneibgngmciaa.Pure
