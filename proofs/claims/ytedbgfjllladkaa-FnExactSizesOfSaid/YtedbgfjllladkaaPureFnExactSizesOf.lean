/- The program's SizesOf answers what the reference's SizesOf answers, at all plates, lists of kinds and of cuts; no condition. -/
import Derived.Test.YtedbgfjllladkaaCutsPairs
import Derived.Test.YtedbgfjllladkaaPAxf9
namespace Go.Proofs.Ytedbgfjllladkaa.Pure
set_option linter.unusedSimpArgs false
set_option linter.unusedVariables false
open Go.RowKit Go.Proofs.Ytedbgfjllladkaa.PA Go.Proofs.Ytedbgfjllladkaa.Base Go.Proofs.Ytedbgfjllladkaa.KindsKit Go.Proofs.Ytedbgfjllladkaa.CutsKit Go.Proofs.YtedbgfjllladkaaW.PrintWords Go.Proofs.YtedbgfjllladkaaW.PrintLast Go.Proofs.YtedbgfjllladkaaW.PrintMore

theorem bothSizesOf (p q : Int) (ks : List S57) (l : List S75) (hks : ∀ x ∈ ks, B8 x.f0 ∧ B8 x.f1) (hkl : ks.length ≤ 1048576) (hll : l.length ≤ 1048576) (hc : ∀ c ∈ l, okC c) :
    ∃ R : List S79 × Int, Ev (fun k => spec_SizesOf.f k p q ks l) R ∧ Ev (fun k => impl_SizesOf.f k p q ks l) R ∧ R.1.length ≤ 1048576 := by
  obtain ⟨r, e1, e2, e3⟩ := sizes p q ks l hks hkl hll hc
  by_cases h : r.2 = true
  · refine ⟨(r.1, 0), ?_, ?_, by rw [(e3 h).1]; exact hll⟩
    · unfold spec_SizesOf.f
      exact Ev.bind e1 (Ev.pos h (Ev.fin rfl))
    · unfold impl_SizesOf.f
      exact Ev.bind e2 (Ev.pos h (Ev.fin rfl))
  · refine ⟨([], 1), ?_, ?_, by simp⟩
    · unfold spec_SizesOf.f
      exact Ev.bind e1 (Ev.neg h (Ev.fin rfl))
    · unfold impl_SizesOf.f
      exact Ev.bind e2 (Ev.neg h (Ev.fin rfl))
theorem FnExactSizesOf : laws_FnExactSizesOf.Pure := by
  intro a0 a1 l2 l3 u0 u1 u2 u3
  refine Ev.rounds (g := fun k => laws_FnExactSizesOf.f k a0 a1 l2 l3) ?_
  unfold laws_FnExactSizesOf.f
  refine Ev.nobind (szKinds l2 u2.1) ?_
  refine Ev.ite (fun _ => Ev.fin rfl) (fun h0 => ?_)
  obtain ⟨hl2, e0⟩ := few l2.length 0 h0
  rw [e0]
  refine Ev.nobind (szCuts l3 _ (by omega) (by omega) u3.1) ?_
  refine Ev.ite (fun _ => Ev.fin rfl) (fun h1 => ?_)
  have hl3 : l3.length ≤ 1048576 := by split at h1 <;> omega
  have tk := toKinds l2 hl2
  have tc := toCuts l3 hl3
  have hk : (l2.map conv).length ≤ 1048576 := by simpa using hl2
  have hc : (l3.map convC).length ≤ 1048576 := by simpa using hl3
  obtain ⟨R, hs, hi, hR⟩ := bothSizesOf a0 a1 (l2.map conv) (l3.map convC) (okKs l2 u2.2) hk hc (okCs l3 u3.2)
  have hRR : (R.2 != R.2) = false := by simp
  refine Ev.bind tk ?_
  refine Ev.bind tc ?_
  refine Ev.bind hs ?_
  refine Ev.bind tk ?_
  refine Ev.bind tc ?_
  refine Ev.bind hi ?_
  refine Ev.bind (eqPairs _ hR) ?_
  refine Ev.pos rfl ?_
  rw [hRR]
  refine Ev.step (fun k => by rw [laws_FnExactSizesOf.j0]) ?_
  refine Ev.neg (by decide) ?_
  refine Ev.bind tk ?_
  refine Ev.bind (eqKinds _ hk) ?_
  refine Ev.pos rfl ?_
  refine Ev.bind tc ?_
  refine Ev.bind (eqCuts _ hc) ?_
  refine Ev.pos rfl ?_
  refine Ev.bind (markKinds _ hk) ?_
  refine Ev.bind (markCuts _ hc (1 + 3 * ((l2.map conv).length : Int)) (by omega) (by omega)) ?_
  refine Ev.neg (by show ¬ (1 + 3 * ((l2.map conv).length : Int) + 4 * ((l3.map convC).length : Int)) < 0; omega) ?_
  refine Ev.bind (eqPairs _ hR) ?_
  refine Ev.pos rfl ?_
  rw [hRR]
  refine Ev.step (fun k => by rw [laws_FnExactSizesOf.j1]) ?_
  refine Ev.neg (by decide) ?_
  refine Ev.bind (markPairs _ hR) ?_
  refine Ev.bind (heldPairs _ hR) ?_
  refine Ev.neg (by show ¬ (1 + 2 * (R.1.length : Int) : Int) < 0; omega) ?_
  refine Ev.pos rfl ?_
  refine Ev.bind tk ?_
  refine Ev.bind tc ?_
  refine Ev.bind hi ?_
  refine Ev.bind (eqPairs _ hR) ?_
  refine Ev.pos rfl ?_
  rw [hRR]
  refine Ev.step (fun k => by rw [laws_FnExactSizesOf.j2]) ?_
  refine Ev.neg (by decide) ?_
  refine Ev.bind (heldPairs _ hR) ?_
  refine Ev.neg (by show ¬ (1 + 2 * (R.1.length : Int) : Int) < 0; omega) ?_
  exact Ev.pos rfl (Ev.fin rfl)

end Go.Proofs.Ytedbgfjllladkaa.Pure
