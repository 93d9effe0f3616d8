/- The program's BestCuts answers what the reference's BestCuts answers, at all plates and lists of kinds; no condition. -/
import Derived.Test.YtpkbamcfncambaaAddKit
import Derived.Test.YtpkbamcfncambaaPAxf4
namespace Go.Proofs.Ytpkbamcfncambaa.Pure
set_option linter.unusedSimpArgs false
set_option linter.unusedVariables false
open Go.RowKit Go.Proofs.Ytpkbamcfncambaa.PA Go.Proofs.Ytpkbamcfncambaa.Base Go.Proofs.Ytpkbamcfncambaa.KindsKit Go.Proofs.Ytpkbamcfncambaa.BestKit Go.Proofs.Ytpkbamcfncambaa.WorthKit Go.Proofs.Ytpkbamcfncambaa.AddKit Go.Proofs.YtpkbamcfncambaaW.PrintWords Go.Proofs.YtpkbamcfncambaaW.PrintLast Go.Proofs.YtpkbamcfncambaaW.PrintMore

theorem rdC (xs : List S61) (i : Nat) (h : i < xs.length) : rd_T61 xs (i : Int) = xs[i] := getD_nat xs z61 i h
theorem eqCuts (l : List S61) (h : l.length ≤ 1048576) : Ev (fun k => laws_eqCutS.f k l l) true := by
  unfold laws_eqCutS.f
  refine Ev.pos rfl ?_
  refine Ev.to (rangeAll_ev0 (fun k i => laws_eqCutS.l0 k l l i) l.length (fun _ => true) true false ?_ ?_ ?_) (by simp)
  · intro i hi _ r' hr
    refine Ev.step (fun k => by rw [laws_eqCutS.l0]) (Ev.pos (by omega) (Ev.pos (by omega) (Ev.pos (by omega) ?_)))
    refine Ev.nobind (a := true) (by simp [laws_eqCut.f]) (Ev.pos rfl ?_)
    rw [w64 (x := (i : Int) + 1) (by omega) (by omega)]; exact hr
  · intro i hi h'; cases h'
  · intro _
    refine Ev.step (fun k => by rw [laws_eqCutS.l0]) ?_
    exact Ev.neg (by omega) (Ev.fin rfl)

def mkK (j : Int) : S43 := ⟨IntKind.i8.wrap j, IntKind.i8.wrap (j + 1), IntKind.i16.wrap (j + 1 + 1)⟩
theorem markKinds (l : List S43) (h : l.length ≤ 1048576) : Ev (fun k => laws_markKindS.f k l 1) (1 + 3 * (l.length : Int), marksG mkK 3 l.length 1) := by
  unfold laws_markKindS.f
  refine mark_ev0 mkK 3 l (fun k x j i => laws_markKindS.l0 k x j i) (by omega) (by omega) (by omega) (fun x j i hi r h0 h1 h2 hk => ?_) (fun x j => ?_)
  · have ha := w64 (x := (i : Int) + 1) (by omega) (by omega)
    have hb := w64 (x := j + 1) (by omega) (by omega)
    have hc := w64 (x := j + 1 + 1) (by omega) (by omega)
    have hd := w64 (x := j + 1 + 1 + 1) (by omega) (by omega)
    refine Ev.step (fun k => by rw [laws_markKindS.l0]) (Ev.pos (by omega) (Ev.pos (by omega) ?_))
    refine Ev.nobind rfl ?_
    refine Ev.nobind rfl ?_
    rw [ha, hb, hc, hd, rdK x i hi, rdK _ i (by simp; omega), rdK _ i (by simp; omega)]
    simp only [Int.toNat_natCast, List.set_set, List.getElem_set_self]
    rw [show j + 1 + 1 + 1 = j + 3 by omega]
    exact hk
  · exact Ev.step (fun k => by rw [laws_markKindS.l0]) (Ev.neg (by omega) (Ev.fin rfl))
def mkC (j : Int) : S61 := ⟨IntKind.i8.wrap j, IntKind.i8.wrap (j + 1), IntKind.i8.wrap (j + 1 + 1), IntKind.i8.wrap (j + 1 + 1 + 1)⟩
theorem markCuts (l : List S61) (h : l.length ≤ 1048576) : Ev (fun k => laws_markCutS.f k l 1) (1 + 4 * (l.length : Int), marksG mkC 4 l.length 1) := by
  unfold laws_markCutS.f
  refine mark_ev0 mkC 4 l (fun k x j i => laws_markCutS.l0 k x j i) (by omega) (by omega) (by omega) (fun x j i hi r h0 h1 h2 hk => ?_) (fun x j => ?_)
  · have ha := w64 (x := (i : Int) + 1) (by omega) (by omega)
    have hb := w64 (x := j + 1) (by omega) (by omega)
    have hc := w64 (x := j + 1 + 1) (by omega) (by omega)
    have hd := w64 (x := j + 1 + 1 + 1) (by omega) (by omega)
    have he := w64 (x := j + 1 + 1 + 1 + 1) (by omega) (by omega)
    refine Ev.step (fun k => by rw [laws_markCutS.l0]) (Ev.pos (by omega) (Ev.pos (by omega) ?_))
    refine Ev.nobind rfl ?_
    refine Ev.nobind rfl ?_
    refine Ev.nobind rfl ?_
    rw [ha, hb, hc, hd, he, rdC x i hi, rdC _ i (by simp; omega), rdC _ i (by simp; omega), rdC _ i (by simp; omega)]
    simp only [Int.toNat_natCast, List.set_set, List.getElem_set_self]
    rw [show j + 1 + 1 + 1 + 1 = j + 4 by omega]
    exact hk
  · exact Ev.step (fun k => by rw [laws_markCutS.l0]) (Ev.neg (by omega) (Ev.fin rfl))
theorem heldCuts (n : Nat) (h : n ≤ 1048576) : Ev (fun k => laws_heldCutS.f k (marksG mkC 4 n 1) 1) (1 + 4 * (n : Int)) := by
  unfold laws_heldCutS.f
  refine held_ev0 mkC 4 n (fun k j i => laws_heldCutS.l0 k (marksG mkC 4 n 1) j i) (by omega) (by omega) (by omega) (fun j i hi r e h0 h1 hk => ?_) (fun j => ?_)
  · have hl := marksG_length mkC 4 n 1
    have ha := w64 (x := (i : Int) + 1) (by omega) (by omega)
    have hb := w64 (x := j + 1) (by omega) (by omega)
    have hc := w64 (x := j + 1 + 1) (by omega) (by omega)
    have hd := w64 (x := j + 1 + 1 + 1) (by omega) (by omega)
    have he := w64 (x := j + 1 + 1 + 1 + 1) (by omega) (by omega)
    refine Ev.step (fun k => by rw [laws_heldCutS.l0]) (Ev.pos (by omega) (Ev.pos (by omega) ?_))
    rw [ha, hb, hc, hd, he, rdC _ i hi, e]
    refine Ev.pos rfl (Ev.pos rfl (Ev.pos rfl (Ev.pos rfl ?_)))
    rw [show j + 1 + 1 + 1 + 1 = j + 4 by omega]
    exact hk
  · have hl := marksG_length mkC 4 n 1
    exact Ev.step (fun k => by rw [laws_heldCutS.l0]) (Ev.neg (by omega) (Ev.fin rfl))
theorem asked (p q : Int) (ks : List S43) (hl : ks.length ≤ 1048576) : Ev (fun k => spec_l04Asked.f k p q ks) (if kindsB ks = true then (if (inB p 1 24 && inB q 1 24) = true then 0 else 2) else 1) := by
  unfold spec_l04Asked.f
  refine Ev.bind (specKinds ks hl) ?_
  refine Ev.ite (fun h => ?_) (fun h => Ev.fin (by rw [if_neg h]))
  rw [if_pos h]
  refine Ev.nobind (specPlate p) ?_
  refine Ev.ite (fun h1 => ?_) (fun h1 => Ev.fin (by simp [h1]))
  refine Ev.nobind (specPlate q) ?_
  refine Ev.ite (fun h2 => Ev.fin (by simp [h1, h2])) (fun h2 => Ev.fin (by simp [h2]))
theorem implPlate (p q : Int) : impl_isPlate.f p q = some (inB p 1 24 && inB q 1 24) := by
  unfold impl_isPlate.f
  rw [implIn, implIn, Option.bind_some]
  cases inB p 1 24 <;> rfl
theorem implCode (a b : Bool) : impl_codeOf.f a b = some (if a = true then (if b = true then 0 else 2) else 1) := by
  unfold impl_codeOf.f
  cases a <;> cases b <;> rfl
theorem bothBestCuts (p q : Int) (ks : List S43) (hkl : ks.length ≤ 1048576) :
    ∃ R : List S61 × Int × Int, R.1.length ≤ 60 ∧ Ev (fun k => spec_BestCuts.f k p q ks) R ∧ Ev (fun k => impl_BestCuts.f k p q ks) R := by
  have A := asked p q ks hkl
  by_cases h : kindsB ks = true ∧ (inB p 1 24 && inB q 1 24) = true
  · obtain ⟨h1, h2⟩ := h
    rw [if_pos h1, if_pos h2] at A
    rw [Bool.and_eq_true, inB_iff, inB_iff] at h2
    obtain ⟨b0, b1⟩ := h2
    obtain ⟨r, e1, e2, hT⟩ := worths2 p q ks hkl b0 b1
    obtain ⟨s, es, gs, c⟩ := alike r ks hkl p q b0 b1 hT (p + q).toNat p q (by omega) (by omega) (by omega) [] (by simp)
    have SPEC : ∀ R, Ev (fun k => if (s.length : Int) > 60 then some (([] : List S61), (0 : Int), (3 : Int)) else (if 0 ≤ p then (if p < 25 then (if 0 ≤ q then (if q < 25 then (some (s, rd r (p * 25 + q), (0 : Int))) else (none)) else (none)) else (none)) else (none))) R → Ev (fun k => spec_BestCuts.f k p q ks) R := fun R hR => by
      unfold spec_BestCuts.f
      refine Ev.bind A ?_
      refine Ev.pos rfl ?_
      refine Ev.bind e1 ?_
      exact Ev.bind es hR
    have IMPL : ∀ (R : List S61 × Int × Int) (t : List S61) (b : Int) (f : Bool), Ev (fun k => impl_cutter_add.f k ([] : List S61) p q r ks) (t, b, f) → Ev (fun k => if f = true then (if 0 ≤ p then (if p < 25 then (if 0 ≤ q then (if q < 25 then (some (t, rd r (p * 25 + q), (0 : Int))) else (none)) else (none)) else (none)) else (none)) else some (([] : List S61), (0 : Int), (3 : Int))) R → Ev (fun k => impl_BestCuts.f k p q ks) R := fun R t b f ha hR => by
      unfold impl_BestCuts.f
      refine Ev.nobind (implKinds ks) ?_
      refine Ev.nobind (implPlate p q) ?_
      refine Ev.nobind (implCode _ _) ?_
      rw [h1]
      refine Ev.pos (by rw [if_pos rfl, if_pos (by rw [Bool.and_eq_true, inB_iff, inB_iff]; exact ⟨b0, b1⟩)]) ?_
      refine Ev.bind e2 ?_
      exact Ev.bind ha hR
    rcases c with ⟨c1, c2⟩ | ⟨c1, t, b, c2, c3⟩
    · refine ⟨(s, rd r (p * 25 + q), 0), c1, SPEC _ ?_, IMPL _ _ _ _ c2 ?_⟩
      · refine Ev.neg (by omega) ?_
        refine Ev.pos (by omega) ?_
        refine Ev.pos (by omega) ?_
        refine Ev.pos (by omega) ?_
        refine Ev.pos (by omega) ?_
        exact Ev.fin rfl
      · refine Ev.pos rfl ?_
        refine Ev.pos (by omega) ?_
        refine Ev.pos (by omega) ?_
        refine Ev.pos (by omega) ?_
        refine Ev.pos (by omega) ?_
        exact Ev.fin rfl
    · refine ⟨([], 0, 3), by simp, SPEC _ (Ev.pos (by omega) (Ev.fin rfl)), IMPL _ _ _ _ c3 (Ev.neg (by simp) (Ev.fin rfl))⟩
  · have hne : (if kindsB ks = true then (if (inB p 1 24 && inB q 1 24) = true then (0 : Int) else 2) else 1) ≠ 0 := by
      intro e
      apply h
      by_cases h1 : kindsB ks = true
      · rw [if_pos h1] at e
        by_cases h2 : (inB p 1 24 && inB q 1 24) = true
        · exact ⟨h1, h2⟩
        · rw [if_neg h2] at e; omega
      · rw [if_neg h1] at e; omega
    refine ⟨([], 0, (if kindsB ks = true then (if (inB p 1 24 && inB q 1 24) = true then (0 : Int) else 2) else 1)), by simp, ?_, ?_⟩
    · unfold spec_BestCuts.f
      exact Ev.bind A (Ev.neg hne (Ev.fin rfl))
    · unfold impl_BestCuts.f
      refine Ev.nobind (implKinds ks) ?_
      refine Ev.nobind (implPlate p q) ?_
      refine Ev.nobind (implCode _ _) ?_
      exact Ev.neg hne (Ev.fin rfl)
theorem FnExactBestCuts : laws_FnExactBestCuts.Pure := by
  intro a0 a1 l2 u0 u1 u2
  refine Ev.rounds (g := fun k => laws_FnExactBestCuts.f k a0 a1 l2) ?_
  unfold laws_FnExactBestCuts.f
  refine Ev.nobind (szKinds l2 u2.1) ?_
  refine Ev.ite (fun _ => Ev.fin rfl) (fun h0 => ?_)
  have hl2 : l2.length ≤ 1048576 := by split at h0 <;> omega
  have tk := toKinds l2 hl2
  have hk : (l2.map conv).length ≤ 1048576 := by simpa using hl2
  obtain ⟨R, hR, hs, hi⟩ := bothBestCuts a0 a1 (l2.map conv) hk
  have hR6 : R.1.length ≤ 1048576 := by omega
  have hRR : (R.2.2 != R.2.2) = false := by simp
  have EQ := eqCuts R.1 hR6
  have HELD := heldCuts R.1.length hR6
  refine Ev.bind tk ?_
  refine Ev.bind hs ?_
  refine Ev.bind tk ?_
  refine Ev.bind hi ?_
  refine Ev.bind EQ ?_
  refine Ev.pos rfl ?_
  refine Ev.pos rfl ?_
  rw [hRR]
  refine Ev.step (fun k => by rw [laws_FnExactBestCuts.j0]) ?_
  refine Ev.neg (by decide) ?_
  refine Ev.bind tk ?_
  refine Ev.bind (eqKinds _ hk) ?_
  refine Ev.pos rfl ?_
  refine Ev.bind (markKinds _ hk) ?_
  refine Ev.neg (by omega) ?_
  refine Ev.bind EQ ?_
  refine Ev.pos rfl ?_
  refine Ev.pos rfl ?_
  rw [hRR]
  refine Ev.step (fun k => by rw [laws_FnExactBestCuts.j1]) ?_
  refine Ev.neg (by decide) ?_
  refine Ev.bind (markCuts R.1 hR6) ?_
  refine Ev.bind HELD ?_
  refine Ev.neg (by omega) ?_
  refine Ev.pos rfl ?_
  refine Ev.bind tk ?_
  refine Ev.bind hi ?_
  refine Ev.bind EQ ?_
  refine Ev.pos rfl ?_
  refine Ev.pos rfl ?_
  rw [hRR]
  refine Ev.step (fun k => by rw [laws_FnExactBestCuts.j2]) ?_
  refine Ev.neg (by decide) ?_
  refine Ev.bind HELD ?_
  refine Ev.neg (by omega) ?_
  refine Ev.pos rfl ?_
  exact Ev.fin rfl

end Go.Proofs.Ytpkbamcfncambaa.Pure
