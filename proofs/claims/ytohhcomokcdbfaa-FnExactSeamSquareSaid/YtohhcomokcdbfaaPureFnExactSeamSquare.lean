/- The program's SeamSquare answers what the reference's SeamSquare answers, at all lists of corners; no condition. -/
import Derived.Test.YtohhcomokcdbfaaSeamKit
import Derived.Test.YtohhcomokcdbfaaPAxf3
import Derived.Test.YtohhcomokcdbfaaPAxf7
import Derived.Test.YtohhcomokcdbfaaPAxf9
namespace Go.Proofs.Ytohhcomokcdbfaa.Pure
set_option linter.unusedSimpArgs false
set_option linter.unusedVariables false
open Go.RowKit Go.Proofs.Ytohhcomokcdbfaa.PA Go.Proofs.Ytohhcomokcdbfaa.Base Go.Proofs.Ytohhcomokcdbfaa.StonesKit Go.Proofs.Ytohhcomokcdbfaa.SeamKit Go.Proofs.YtohhcomokcdbfaaW.PrintWords Go.Proofs.YtohhcomokcdbfaaW.PrintLast Go.Proofs.YtohhcomokcdbfaaW.PrintMore

theorem both {a b : List S55} (fa : Fit a) (fb : Fit b) : ∃ r, Ev (fun k => spec_SeamSquare.f k a b) r ∧ Ev (fun k => impl_SeamSquare.f k a b) r := by
  unfold spec_SeamSquare.f impl_SeamSquare.f
  have sa := specOk fa
  have sb := specOk fb
  have ia := implOk fa
  have ib := implOk fb
  cases e : okS a with
  | false =>
    rw [e] at sa ia
    exact ⟨(0, 1), Ev.bind sa (Ev.neg (by decide) (Ev.fin rfl)), Ev.bind ia (Ev.neg (by decide) (Ev.fin rfl))⟩
  | true =>
    rw [e] at sa ia
    cases e2 : okS b with
    | false =>
      rw [e2] at sb ib
      exact ⟨(0, 1), Ev.bind sa (Ev.pos rfl (Ev.bind sb (Ev.neg (by decide) (Ev.fin rfl)))), Ev.bind ia (Ev.pos rfl (Ev.bind ib (Ev.neg (by decide) (Ev.fin rfl))))⟩
    | true =>
      rw [e2] at sb ib
      obtain ⟨r, h1, h2⟩ := seams e e2
      exact ⟨(r, 0), Ev.bind sa (Ev.pos rfl (Ev.bind sb (Ev.pos rfl (Ev.bind h1 (Ev.fin rfl))))), Ev.bind ia (Ev.pos rfl (Ev.bind ib (Ev.pos rfl (Ev.bind h2 (Ev.fin rfl)))))⟩
theorem szAt (l : List S57) (hl : l.length ≤ maxLen) (t : Int) (h0 : 0 ≤ t) (h1 : t ≤ 1048576) : laws_szStone.f l t = some (if t - (l.length : Int) < 0 then (-1 : Int) else t - (l.length : Int)) := by
  have hM : maxLen ≤ 9223372036854775807 := by decide
  unfold laws_szStone.f
  rw [w64 (by omega) (by omega)]
  split <;> rfl
theorem FnExactSeamSquare : laws_FnExactSeamSquare.Pure := by
  intro l0 l1 w0 w1
  have f0 := fit_of w0
  have f1 := fit_of w1
  refine Ev.rounds (g := fun k => laws_FnExactSeamSquare.f k l0 l1) ?_
  unfold laws_FnExactSeamSquare.f
  refine Ev.nobind (szAt l0 w0.1 1048576 (by decide) (by decide)) (Ev.ite (fun _ => Ev.fin rfl) (fun h0 => ?_))
  have hl0 : l0.length ≤ 1048576 := by split at h0 <;> omega
  rw [if_neg (by split at h0 <;> omega : ¬ (1048576 : Int) - (l0.length : Int) < 0)]
  refine Ev.nobind (szAt l1 w1.1 _ (by omega) (by omega)) (Ev.ite (fun _ => Ev.fin rfl) (fun h1 => ?_))
  have hl1 : l1.length ≤ 1048576 := by split at h1 <;> omega
  have t0 := toStone l0 hl0
  have t1 := toStone l1 hl1
  obtain ⟨r, hs, hi⟩ := both f0 f1
  refine Ev.bind t0 (Ev.bind t1 (Ev.bind hs (Ev.bind t0 (Ev.bind t1 (Ev.bind hi (Ev.pos rfl ?_))))))
  refine Ev.step (fun k => by rw [laws_FnExactSeamSquare.j0]) ?_
  exact Ev.neg (by simp) (Ev.bind t0 (Ev.bind (eqStone _ (by simpa using hl0)) (Ev.pos rfl (Ev.bind t1 (Ev.bind (eqStone _ (by simpa using hl1)) (Ev.pos rfl (Ev.fin rfl)))))))

end Go.Proofs.Ytohhcomokcdbfaa.Pure
