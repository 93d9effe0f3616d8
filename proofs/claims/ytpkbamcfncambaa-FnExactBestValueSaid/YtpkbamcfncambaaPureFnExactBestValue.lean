/- The program's BestValue answers what the reference's BestValue answers, at all plates and lists of kinds; no condition. -/
import Derived.Test.YtpkbamcfncambaaBestKit
import Derived.Test.YtpkbamcfncambaaPAxf3
namespace Go.Proofs.Ytpkbamcfncambaa.Pure
set_option linter.unusedSimpArgs false
set_option linter.unusedVariables false
open Go.RowKit Go.Proofs.Ytpkbamcfncambaa.PA Go.Proofs.Ytpkbamcfncambaa.Base Go.Proofs.Ytpkbamcfncambaa.KindsKit Go.Proofs.Ytpkbamcfncambaa.BestKit Go.Proofs.YtpkbamcfncambaaW.PrintWords Go.Proofs.YtpkbamcfncambaaW.PrintLast Go.Proofs.YtpkbamcfncambaaW.PrintMore

theorem asked (p q : Int) (ks : List S43) (hl : ks.length ≤ 1048576) : Ev (fun k => spec_l04Asked.f k p q ks) (if kindsB ks = true then (if (inB p 1 24 && inB q 1 24) = true then 0 else 2) else 1) := by
  unfold spec_l04Asked.f
  refine Ev.bind (specKinds ks hl) ?_
  refine Ev.ite (fun h => ?_) (fun h => Ev.fin (by rw [if_neg h]))
  rw [if_pos h]
  refine Ev.nobind (specPlate p) ?_
  refine Ev.ite (fun h1 => ?_) (fun h1 => Ev.fin (by simp [h1]))
  refine Ev.nobind (specPlate q) ?_
  refine Ev.ite (fun h2 => Ev.fin (by simp [h1, h2])) (fun h2 => Ev.fin (by simp [h2]))
theorem implPlate (p q : Int) : impl_isPlate.f p q = some (inB p 1 24 && inB q 1 24) := by
  unfold impl_isPlate.f
  rw [implIn, implIn, Option.bind_some]
  cases inB p 1 24 <;> rfl
theorem implCode (a b : Bool) : impl_codeOf.f a b = some (if a = true then (if b = true then 0 else 2) else 1) := by
  unfold impl_codeOf.f
  cases a <;> cases b <;> rfl
theorem bothBestValue (p q : Int) (ks : List S43) (hkl : ks.length ≤ 1048576) :
    ∃ R : Int × Int, Ev (fun k => spec_BestValue.f k p q ks) R ∧ Ev (fun k => impl_BestValue.f k p q ks) R := by
  have A := asked p q ks hkl
  by_cases h : kindsB ks = true ∧ (inB p 1 24 && inB q 1 24) = true
  · obtain ⟨h1, h2⟩ := h
    rw [if_pos h1, if_pos h2] at A
    rw [Bool.and_eq_true, inB_iff, inB_iff] at h2
    obtain ⟨b0, b1⟩ := h2
    obtain ⟨r, e1, e2⟩ := worths p q ks hkl b0 b1
    have TAIL : ∀ g : Nat → Option (List Int), Ev g r → Ev (fun k => (g k).bind fun t => (if 0 ≤ p then (if p < 25 then (if 0 ≤ q then (if q < 25 then (some (rd t (p * 25 + q), (0 : Int))) else (none)) else (none)) else (none)) else (none))) (rd r (p * 25 + q), 0) := fun g hg => by
      refine Ev.bind hg ?_
      refine Ev.pos (by omega) ?_
      refine Ev.pos (by omega) ?_
      refine Ev.pos (by omega) ?_
      refine Ev.pos (by omega) ?_
      exact Ev.fin rfl
    refine ⟨(rd r (p * 25 + q), 0), ?_, ?_⟩
    · unfold spec_BestValue.f
      exact Ev.bind A (Ev.pos rfl (TAIL _ e1))
    · unfold impl_BestValue.f
      refine Ev.nobind (implKinds ks) ?_
      refine Ev.nobind (implPlate p q) ?_
      refine Ev.nobind (implCode _ _) ?_
      rw [h1]
      refine Ev.pos (by rw [if_pos rfl, if_pos (by rw [Bool.and_eq_true, inB_iff, inB_iff]; exact ⟨b0, b1⟩)]) (TAIL _ e2)
  · have hne : (if kindsB ks = true then (if (inB p 1 24 && inB q 1 24) = true then (0 : Int) else 2) else 1) ≠ 0 := by
      intro e
      apply h
      by_cases h1 : kindsB ks = true
      · rw [if_pos h1] at e
        by_cases h2 : (inB p 1 24 && inB q 1 24) = true
        · exact ⟨h1, h2⟩
        · rw [if_neg h2] at e; omega
      · rw [if_neg h1] at e; omega
    refine ⟨(0, (if kindsB ks = true then (if (inB p 1 24 && inB q 1 24) = true then (0 : Int) else 2) else 1)), ?_, ?_⟩
    · unfold spec_BestValue.f
      exact Ev.bind A (Ev.neg hne (Ev.fin rfl))
    · unfold impl_BestValue.f
      refine Ev.nobind (implKinds ks) ?_
      refine Ev.nobind (implPlate p q) ?_
      refine Ev.nobind (implCode _ _) ?_
      exact Ev.neg hne (Ev.fin rfl)
theorem FnExactBestValue : laws_FnExactBestValue.Pure := by
  intro a0 a1 l2 u0 u1 u2
  refine Ev.rounds (g := fun k => laws_FnExactBestValue.f k a0 a1 l2) ?_
  unfold laws_FnExactBestValue.f
  refine Ev.nobind (szKinds l2 u2.1) ?_
  refine Ev.ite (fun _ => Ev.fin rfl) (fun h0 => ?_)
  have hl2 : l2.length ≤ 1048576 := by split at h0 <;> omega
  have tk := toKinds l2 hl2
  have hk : (l2.map conv).length ≤ 1048576 := by simpa using hl2
  obtain ⟨R, hs, hi⟩ := bothBestValue a0 a1 (l2.map conv) hk
  have hRR : (R.2 != R.2) = false := by simp
  refine Ev.bind tk ?_
  refine Ev.bind hs ?_
  refine Ev.bind tk ?_
  refine Ev.bind hi ?_
  refine Ev.pos rfl ?_
  rw [hRR]
  refine Ev.step (fun k => by rw [laws_FnExactBestValue.j0]) ?_
  refine Ev.neg (by decide) ?_
  refine Ev.bind tk ?_
  refine Ev.bind (eqKinds _ hk) ?_
  exact Ev.pos rfl (Ev.fin rfl)

end Go.Proofs.Ytpkbamcfncambaa.Pure
