/- The tables of worths: the program's and the reference's are filled alike, and filling them ends. -/
import Derived.Test.YtpkbamcfncambaaKindsKit
import Derived.Test.YtpkbamcfncambaaPAxf17
import Derived.Test.YtpkbamcfncambaaPAxf22
import Derived.Test.YtpkbamcfncambaaPAxf29
namespace Go.Proofs.Ytpkbamcfncambaa.BestKit
set_option linter.unusedSimpArgs false
set_option linter.unusedVariables false
open Go.RowKit Go.Proofs.Ytpkbamcfncambaa.PA Go.Proofs.Ytpkbamcfncambaa.Base Go.Proofs.Ytpkbamcfncambaa.KindsKit Go.Proofs.YtpkbamcfncambaaW.PrintWords Go.Proofs.YtpkbamcfncambaaW.PrintLast Go.Proofs.YtpkbamcfncambaaW.PrintMore

theorem max_mx (a b : Int) : spec_l00Max.f a b = some (mx a b) := by
  unfold spec_l00Max.f mx
  split <;> split <;> first | rfl | (congr 1; omega)
theorem same : ∀ k, (∀ a0 a1 l x7 x8, impl_worthOf.l0 k a0 a1 l x7 x8 = spec_l04Worth.l0 k a0 a1 l x7 x8) ∧
    (∀ a0 a1 l x7 x8 x9, impl_worthOf.l1 k a0 a1 l x7 x8 x9 = spec_l04Worth.l1 k a0 a1 l x7 x8 x9) ∧
    (∀ a0 a1 l x7 x8 x9 x10 i, impl_worthOf.l2 k a0 a1 l x7 x8 x9 x10 l (l.length : Int) i = spec_l04Worth.l2 k a0 a1 l x7 x8 x9 x10 i) ∧
    (∀ a0 a1 l x7 x8 x9 x10 i, impl_worthOf.l3 k a0 a1 l x7 x8 x9 x10 i = spec_l04Worth.l3 k a0 a1 l x7 x8 x9 x10 i) ∧
    (∀ a0 a1 l x7 x8 x9 x10 i, impl_worthOf.l4 k a0 a1 l x7 x8 x9 x10 i = spec_l04Worth.l4 k a0 a1 l x7 x8 x9 x10 i)
  | 0 => ⟨fun _ _ _ _ _ => rfl, fun _ _ _ _ _ _ => rfl, fun _ _ _ _ _ _ _ _ => rfl, fun _ _ _ _ _ _ _ _ => rfl, fun _ _ _ _ _ _ _ _ => rfl⟩
  | k + 1 => by
    obtain ⟨h0, h1, h2, h3, h4⟩ := same k
    refine ⟨?_, ?_, ?_, ?_, ?_⟩
    · intro a0 a1 l x7 x8
      simp only [impl_worthOf.l0, spec_l04Worth.l0, h1]
    · intro a0 a1 l x7 x8 x9
      simp only [impl_worthOf.l1, spec_l04Worth.l1, h0, h2]
    · intro a0 a1 l x7 x8 x9 x10 i
      simp only [impl_worthOf.l2, spec_l04Worth.l2, h2, h3, max_mx, Option.bind_some]
      split
      · rename_i hi
        simp only [hi, if_true]
      · rfl
    · intro a0 a1 l x7 x8 x9 x10 i
      simp only [impl_worthOf.l3, spec_l04Worth.l3, h3, h4, max_mx, Option.bind_some]
    · intro a0 a1 l x7 x8 x9 x10 i
      simp only [impl_worthOf.l4, spec_l04Worth.l4, h4, h1, max_mx, Option.bind_some]
theorem worth_same (k : Nat) (a0 a1 : Int) (l : List S43) : impl_worthOf.f k a0 a1 l = spec_l04Worth.f k a0 a1 l := (same k).1 a0 a1 l _ 1
section
variable (a0 a1 : Int) (l : List S43)
theorem end4 (x7 : List Int) (x8 x9 : Int) (b8 : 1 ≤ x8 ∧ x8 ≤ 24) (b9 : 1 ≤ x9 ∧ x9 ≤ 24) (h : ∀ v, ∃ r, Ev (fun k => spec_l04Worth.l1 k a0 a1 l (x7.set (x8 * 25 + x9).toNat v) x8 (x9 + 1)) r) :
    ∀ (d : Nat) (i b : Int), i + d = x9 → 1 ≤ i → ∃ r, Ev (fun k => spec_l04Worth.l4 k a0 a1 l x7 x8 x9 b i) r
  | 0, i, b, e, h1 => by
    obtain ⟨r, hr⟩ := h b
    refine ⟨r, Ev.step (fun k => by rw [spec_l04Worth.l4]) ?_⟩
    refine Ev.neg (by omega) ?_
    refine Ev.pos (by omega) ?_
    refine Ev.pos (by omega) ?_
    refine Ev.pos (by omega) ?_
    refine Ev.pos (by omega) ?_
    rw [w64 (x := x9 + 1) (by omega) (by omega)]
    exact hr
  | d + 1, i, b, e, h1 => by
    have e1 : wrap64 (x9 - i) = x9 - i := w64 (by omega) (by omega)
    have e2 : wrap64 (i + 1) = i + 1 := w64 (by omega) (by omega)
    obtain ⟨r, hr⟩ := end4 x7 x8 x9 b8 b9 h d (i + 1) (mx b (wrap64 ((rd x7 (x8 * 25 + i)) + (rd x7 (x8 * 25 + (x9 - i)))))) (by omega) (by omega)
    refine ⟨r, Ev.step (fun k => by rw [spec_l04Worth.l4]) ?_⟩
    refine Ev.pos (by omega) ?_
    refine Ev.pos (by omega) ?_
    refine Ev.pos (by omega) ?_
    refine Ev.pos (by omega) ?_
    refine Ev.pos (by omega) ?_
    rw [e1, e2]
    refine Ev.pos (by omega) ?_
    refine Ev.pos (by omega) ?_
    exact Ev.nobind (max_mx _ _) hr
theorem end3 (x7 : List Int) (x8 x9 : Int) (b8 : 1 ≤ x8 ∧ x8 ≤ 24) (b9 : 1 ≤ x9 ∧ x9 ≤ 24) (h : ∀ v, ∃ r, Ev (fun k => spec_l04Worth.l1 k a0 a1 l (x7.set (x8 * 25 + x9).toNat v) x8 (x9 + 1)) r) :
    ∀ (d : Nat) (i b : Int), i + d = x8 → 1 ≤ i → ∃ r, Ev (fun k => spec_l04Worth.l3 k a0 a1 l x7 x8 x9 b i) r
  | 0, i, b, e, h1 => by
    obtain ⟨r, hr⟩ := end4 a0 a1 l x7 x8 x9 b8 b9 h (x9 - 1).toNat 1 b (by omega) (by omega)
    refine ⟨r, Ev.step (fun k => by rw [spec_l04Worth.l3]) ?_⟩
    exact Ev.neg (by omega) hr
  | d + 1, i, b, e, h1 => by
    have e1 : wrap64 (x8 - i) = x8 - i := w64 (by omega) (by omega)
    have e2 : wrap64 (i + 1) = i + 1 := w64 (by omega) (by omega)
    obtain ⟨r, hr⟩ := end3 x7 x8 x9 b8 b9 h d (i + 1) (mx b (wrap64 ((rd x7 (i * 25 + x9)) + (rd x7 ((x8 - i) * 25 + x9))))) (by omega) (by omega)
    refine ⟨r, Ev.step (fun k => by rw [spec_l04Worth.l3]) ?_⟩
    refine Ev.pos (by omega) ?_
    refine Ev.pos (by omega) ?_
    refine Ev.pos (by omega) ?_
    refine Ev.pos (by omega) ?_
    refine Ev.pos (by omega) ?_
    rw [e1, e2]
    refine Ev.pos (by omega) ?_
    refine Ev.pos (by omega) ?_
    exact Ev.nobind (max_mx _ _) hr
theorem end2 (hl : l.length ≤ 1048576) (x7 : List Int) (x8 x9 : Int) (b8 : 1 ≤ x8 ∧ x8 ≤ 24) (b9 : 1 ≤ x9 ∧ x9 ≤ 24) (h : ∀ v, ∃ r, Ev (fun k => spec_l04Worth.l1 k a0 a1 l (x7.set (x8 * 25 + x9).toNat v) x8 (x9 + 1)) r) :
    ∀ (d : Nat) (i b : Int), i + d = (l.length : Int) → 0 ≤ i → ∃ r, Ev (fun k => spec_l04Worth.l2 k a0 a1 l x7 x8 x9 b i) r
  | 0, i, b, e, h1 => by
    obtain ⟨r, hr⟩ := end3 a0 a1 l x7 x8 x9 b8 b9 h (x8 - 1).toNat 1 b (by omega) (by omega)
    refine ⟨r, Ev.step (fun k => by rw [spec_l04Worth.l2]) ?_⟩
    exact Ev.neg (by omega) hr
  | d + 1, i, b, e, h1 => by
    have e2 : wrap64 (i + 1) = i + 1 := w64 (by omega) (by omega)
    have go := fun b => end2 hl x7 x8 x9 b8 b9 h d (i + 1) b (by omega) (by omega)
    by_cases q0 : wrap64 ((rd_T43 l i).f0) = x8
    · by_cases q1 : wrap64 ((rd_T43 l i).f1) = x9
      · obtain ⟨r, hr⟩ := go (mx b (wrap64 ((rd_T43 l i).f2)))
        refine ⟨r, Ev.step (fun k => by rw [spec_l04Worth.l2]) ?_⟩
        refine Ev.pos (by omega) ?_
        refine Ev.pos (by omega) ?_
        refine Ev.pos q0 ?_
        refine Ev.pos q1 ?_
        rw [e2]
        exact Ev.nobind (max_mx _ _) hr
      · obtain ⟨r, hr⟩ := go b
        refine ⟨r, Ev.step (fun k => by rw [spec_l04Worth.l2]) ?_⟩
        refine Ev.pos (by omega) ?_
        refine Ev.pos (by omega) ?_
        refine Ev.pos q0 ?_
        rw [e2]
        exact Ev.neg q1 hr
    · obtain ⟨r, hr⟩ := go b
      refine ⟨r, Ev.step (fun k => by rw [spec_l04Worth.l2]) ?_⟩
      refine Ev.pos (by omega) ?_
      refine Ev.pos (by omega) ?_
      rw [e2]
      exact Ev.neg q0 hr
theorem end1 (hl : l.length ≤ 1048576) (b1 : 1 ≤ a1 ∧ a1 ≤ 24) (x8 : Int) (b8 : 1 ≤ x8 ∧ x8 ≤ 24) (h : ∀ x7, ∃ r, Ev (fun k => spec_l04Worth.l0 k a0 a1 l x7 (x8 + 1)) r) :
    ∀ (d : Nat) (x9 : Int) (x7 : List Int), x9 + d = a1 + 1 → 1 ≤ x9 → ∃ r, Ev (fun k => spec_l04Worth.l1 k a0 a1 l x7 x8 x9) r
  | 0, x9, x7, e, h1 => by
    obtain ⟨r, hr⟩ := h x7
    refine ⟨r, Ev.step (fun k => by rw [spec_l04Worth.l1]) ?_⟩
    refine Ev.neg (by omega) ?_
    rw [w64 (x := x8 + 1) (by omega) (by omega)]
    exact hr
  | d + 1, x9, x7, e, h1 => by
    obtain ⟨r, hr⟩ := end2 a0 a1 l hl x7 x8 x9 b8 (by omega) (fun v => end1 hl b1 x8 b8 h d (x9 + 1) _ (by omega) (by omega)) l.length 0 0 (by omega) (by omega)
    refine ⟨r, Ev.step (fun k => by rw [spec_l04Worth.l1]) ?_⟩
    exact Ev.pos (by omega) hr
theorem end0 (hl : l.length ≤ 1048576) (b0 : 1 ≤ a0 ∧ a0 ≤ 24) (b1 : 1 ≤ a1 ∧ a1 ≤ 24) : ∀ (d : Nat) (x8 : Int) (x7 : List Int), x8 + d = a0 + 1 → 1 ≤ x8 → ∃ r, Ev (fun k => spec_l04Worth.l0 k a0 a1 l x7 x8) r
  | 0, x8, x7, e, h1 => by
    refine ⟨x7, Ev.step (fun k => by rw [spec_l04Worth.l0]) ?_⟩
    exact Ev.neg (by omega) (Ev.fin rfl)
  | d + 1, x8, x7, e, h1 => by
    obtain ⟨r, hr⟩ := end1 a0 a1 l hl b1 x8 (by omega) (fun x7 => end0 hl b0 b1 d (x8 + 1) x7 (by omega) (by omega)) a1.toNat 1 x7 (by omega) (by omega)
    refine ⟨r, Ev.step (fun k => by rw [spec_l04Worth.l0]) ?_⟩
    exact Ev.pos (by omega) hr
/-- Both tables are filled, alike. -/
theorem worths (hl : l.length ≤ 1048576) (b0 : 1 ≤ a0 ∧ a0 ≤ 24) (b1 : 1 ≤ a1 ∧ a1 ≤ 24) : ∃ r, Ev (fun k => spec_l04Worth.f k a0 a1 l) r ∧ Ev (fun k => impl_worthOf.f k a0 a1 l) r := by
  obtain ⟨r, hr⟩ := end0 a0 a1 l hl b0 b1 a0.toNat 1 (List.replicate 625 0) (by omega) (by omega)
  exact ⟨r, hr, by simp only [worth_same]; exact hr⟩
end
end Go.Proofs.Ytpkbamcfncambaa.BestKit
