/- The program's CutLength answers what the reference's CutLength answers, at all plates, lists of kinds and of cuts; no condition. -/
import Derived.Test.YtedbgfjllladkaaCutsKit
import Derived.Test.YtedbgfjllladkaaPAxf7
namespace Go.Proofs.Ytedbgfjllladkaa.Pure
set_option linter.unusedSimpArgs false
set_option linter.unusedVariables false
open Go.RowKit Go.Proofs.Ytedbgfjllladkaa.PA Go.Proofs.Ytedbgfjllladkaa.Base Go.Proofs.Ytedbgfjllladkaa.KindsKit Go.Proofs.Ytedbgfjllladkaa.CutsKit Go.Proofs.YtedbgfjllladkaaW.PrintWords Go.Proofs.YtedbgfjllladkaaW.PrintLast Go.Proofs.YtedbgfjllladkaaW.PrintMore

def F64 (x : Int) : Prop := -9223372036854775808 ≤ x ∧ x ≤ 9223372036854775807
theorem wrapF (x : Int) : F64 (wrap64 x) := by unfold F64 wrap64; omega
theorem sums (l : List S75) (hl : l.length ≤ 1048576) (s : List S79) (hs : s.length = l.length) : ∀ (d i : Nat) (x : Int), i + d = l.length → F64 x →
    ∃ R : Int × Int, Ev (fun k => spec_CutLength.l0 k l s x (i : Int)) R ∧ Ev (fun k => impl_summed.l0 impl_CutLength_1.f k s x l (l.length : Int) (i : Int)) R
  | 0, i, x, h, hx => by
    refine ⟨(x, 0), ?_, ?_⟩
    · refine Ev.step (fun k => by rw [spec_CutLength.l0]) ?_
      exact Ev.neg (by omega) (Ev.fin rfl)
    · refine Ev.step (fun k => by rw [impl_summed.l0]) ?_
      exact Ev.neg (by omega) (Ev.fin rfl)
  | d + 1, i, x, h, hx => by
    have hi : i < l.length := by omega
    have hC := rdC l i hi
    have wi : Aside0 (wrap64 ((i : Int) + 1) = ((i + 1 : Nat) : Int)) := ⟨w64 (x := (i : Int) + 1) (by omega) (by omega)⟩
    have w0 : Aside0 (wrap64 (x + 0) = x) := ⟨by rw [Int.add_zero]; exact w64 hx.1 hx.2⟩
    have IMPL : ∀ (v : Int) (R : Int × Int), impl_CutLength_1.f l[i].f0 l[i].f1 l[i].f2 l[i].f3 (rd_T79 s (i : Int)).f0 (rd_T79 s (i : Int)).f1 = some v → Ev (fun k => impl_summed.l0 impl_CutLength_1.f k s (wrap64 (x + v)) l (l.length : Int) ((i + 1 : Nat) : Int)) R → Ev (fun k => impl_summed.l0 impl_CutLength_1.f k s x l (l.length : Int) (i : Int)) R := by
      intro v R hv hR
      refine Ev.step (fun k => by rw [impl_summed.l0]) ?_
      refine Ev.pos (by omega) ?_
      refine Ev.pos (by omega) ?_
      refine Ev.pos (by omega) ?_
      refine Ev.pos (by omega) ?_
      rw [hC, wi.out]
      exact Ev.nobind hv hR
    by_cases q0 : l[i].f0 = 2
    · obtain ⟨R, e1, e2⟩ := sums l hl s hs d (i + 1) (wrap64 (x + (rd_T79 s (i : Int)).f1)) (by omega) (wrapF _)
      refine ⟨R, ?_, IMPL _ R (by unfold impl_CutLength_1.f; rw [if_pos q0]) e2⟩
      refine Ev.step (fun k => by rw [spec_CutLength.l0]) ?_
      refine Ev.pos (by omega) ?_
      refine Ev.pos (by omega) ?_
      rw [hC, wi.out]
      refine Ev.pos q0 ?_
      exact Ev.pos (by omega) e1
    · skip
      by_cases q1 : l[i].f0 = 3
      · obtain ⟨R, e1, e2⟩ := sums l hl s hs d (i + 1) (wrap64 (x + (rd_T79 s (i : Int)).f0)) (by omega) (wrapF _)
        refine ⟨R, ?_, IMPL _ R (by unfold impl_CutLength_1.f; rw [if_neg q0]; rw [if_pos q1]) e2⟩
        refine Ev.step (fun k => by rw [spec_CutLength.l0]) ?_
        refine Ev.pos (by omega) ?_
        refine Ev.pos (by omega) ?_
        rw [hC, wi.out]
        refine Ev.neg q0 ?_
        refine Ev.pos q1 ?_
        exact Ev.pos (by omega) e1
      · obtain ⟨R, e1, e2⟩ := sums l hl s hs d (i + 1) x (by omega) hx
        refine ⟨R, ?_, IMPL 0 R (by unfold impl_CutLength_1.f; rw [if_neg q0]; rw [if_neg q1]) (by rw [w0.out]; exact e2)⟩
        refine Ev.step (fun k => by rw [spec_CutLength.l0]) ?_
        refine Ev.pos (by omega) ?_
        refine Ev.pos (by omega) ?_
        rw [hC, wi.out]
        refine Ev.neg q0 ?_
        exact Ev.neg q1 e1
theorem bothCutLength (p q : Int) (ks : List S57) (l : List S75) (hks : ∀ x ∈ ks, B8 x.f0 ∧ B8 x.f1) (hkl : ks.length ≤ 1048576) (hll : l.length ≤ 1048576) (hc : ∀ c ∈ l, okC c) :
    ∃ R : Int × Int, Ev (fun k => spec_CutLength.f k p q ks l) R ∧ Ev (fun k => impl_CutLength.f k p q ks l) R := by
  obtain ⟨r, e1, e2, e3⟩ := sizes p q ks l hks hkl hll hc
  by_cases h : r.2 = true
  · obtain ⟨h1, h2, h3⟩ := e3 h
    obtain ⟨R, g1, g2⟩ := sums l hll r.1 h1 l.length 0 0 (by omega) ⟨by omega, by omega⟩
    refine ⟨R, ?_, ?_⟩
    · unfold spec_CutLength.f
      exact Ev.bind e1 (Ev.pos h g1)
    · unfold impl_CutLength.f impl_CutLength_1_sum.f impl_summed.f
      exact Ev.bind (Ev.bind e2 (Ev.pos h g2)) (Ev.fin rfl)
  · refine ⟨(0, 1), ?_, ?_⟩
    · unfold spec_CutLength.f
      exact Ev.bind e1 (Ev.neg h (Ev.fin rfl))
    · unfold impl_CutLength.f impl_CutLength_1_sum.f impl_summed.f
      exact Ev.bind (Ev.bind e2 (Ev.neg h (Ev.fin rfl))) (Ev.fin rfl)
theorem FnExactCutLength : laws_FnExactCutLength.Pure := by
  intro a0 a1 l2 l3 u0 u1 u2 u3
  refine Ev.rounds (g := fun k => laws_FnExactCutLength.f k a0 a1 l2 l3) ?_
  unfold laws_FnExactCutLength.f
  refine Ev.nobind (szKinds l2 u2.1) ?_
  refine Ev.ite (fun _ => Ev.fin rfl) (fun h0 => ?_)
  obtain ⟨hl2, e0⟩ := few l2.length 0 h0
  rw [e0]
  refine Ev.nobind (szCuts l3 _ (by omega) (by omega) u3.1) ?_
  refine Ev.ite (fun _ => Ev.fin rfl) (fun h1 => ?_)
  have hl3 : l3.length ≤ 1048576 := by split at h1 <;> omega
  have tk := toKinds l2 hl2
  have tc := toCuts l3 hl3
  have hk : (l2.map conv).length ≤ 1048576 := by simpa using hl2
  have hc : (l3.map convC).length ≤ 1048576 := by simpa using hl3
  obtain ⟨R, hs, hi⟩ := bothCutLength a0 a1 (l2.map conv) (l3.map convC) (okKs l2 u2.2) hk hc (okCs l3 u3.2)
  have hRR : (R.2 != R.2) = false := by simp
  refine Ev.bind tk ?_
  refine Ev.bind tc ?_
  refine Ev.bind hs ?_
  refine Ev.bind tk ?_
  refine Ev.bind tc ?_
  refine Ev.bind hi ?_
  refine Ev.pos rfl ?_
  rw [hRR]
  refine Ev.step (fun k => by rw [laws_FnExactCutLength.j0]) ?_
  refine Ev.neg (by decide) ?_
  refine Ev.bind tk ?_
  refine Ev.bind (eqKinds _ hk) ?_
  refine Ev.pos rfl ?_
  refine Ev.bind tc ?_
  refine Ev.bind (eqCuts _ hc) ?_
  exact Ev.pos rfl (Ev.fin rfl)

end Go.Proofs.Ytedbgfjllladkaa.Pure
