-- cut down by wip/pk/prune.py from the words that the kit's print lays
import Derived.Test.YtpkbamcfncambaaBestKit
import Derived.Test.YtpkbamcfncambaaPAxf17
import Derived.Test.YtpkbamcfncambaaPAxf22
import Derived.Test.YtpkbamcfncambaaPAxf29
namespace Go.Proofs.Ytpkbamcfncambaa.WorthKit
set_option linter.unusedSimpArgs false
set_option linter.unusedVariables false
open Go.RowKit Go.Proofs.Ytpkbamcfncambaa.PA Go.Proofs.Ytpkbamcfncambaa.Base Go.Proofs.Ytpkbamcfncambaa.KindsKit Go.Proofs.Ytpkbamcfncambaa.BestKit Go.Proofs.YtpkbamcfncambaaW.PrintWords Go.Proofs.YtpkbamcfncambaaW.PrintLast Go.Proofs.YtpkbamcfncambaaW.PrintMore
def Src (l : List S43) (T : List Int) (w h v : Int) : Prop :=
  v = 0 ∨ (∃ i : Nat, i < l.length ∧ wrap64 (rd_T43 l (i : Int)).f0 = w ∧ wrap64 (rd_T43 l (i : Int)).f1 = h ∧ wrap64 (rd_T43 l (i : Int)).f2 = v) ∨
  (∃ i : Int, (1 ≤ i ∧ i < w) ∧ wrap64 (rd T (i * 25 + h) + rd T ((w - i) * 25 + h)) = v) ∨
  (∃ i : Int, (1 ≤ i ∧ i < h) ∧ wrap64 (rd T (w * 25 + i) + rd T (w * 25 + (h - i))) = v)
theorem Src.two {l : List S43} {T : List Int} {w h a b : Int} (ha : Src l T w h a) (hb : Src l T w h b) : Src l T w h (mx a b) := by
  have e : mx a b = a ∨ mx a b = b := by unfold mx; omega
  rcases e with e | e <;> rw [e] <;> assumption
theorem rd_put (xs : List Int) (i j v : Int) (i0 : 0 ≤ i) (j0 : 0 ≤ j) (h : i ≠ j) : rd (xs.set i.toNat v) j = rd xs j := by
  simp only [rd, List.getD_eq_getElem?_getD]
  rw [List.getElem?_set_ne (by omega)]
theorem rd_own (xs : List Int) (i v : Int) (i0 : 0 ≤ i) (h : i < (xs.length : Int)) : rd (xs.set i.toNat v) i = v := by
  simp only [rd, List.getD_eq_getElem?_getD]
  rw [List.getElem?_set_self (by omega)]; rfl
theorem Src.keep {l : List S43} {T : List Int} {w h v : Int} (n x : Int) (n0 : 0 ≤ n) (hw : 1 ≤ w) (hh : 1 ≤ h) (h1 : ∀ i, 1 ≤ i → i < w → i * 25 + h ≠ n) (h2 : ∀ i, 1 ≤ i → i < h → w * 25 + i ≠ n)
    (hs : Src l T w h v) : Src l (T.set n.toNat x) w h v := by
  rcases hs with e | e | ⟨i, ⟨b, c⟩, e⟩ | ⟨i, ⟨b, c⟩, e⟩
  · exact .inl e
  · exact .inr (.inl e)
  · refine .inr (.inr (.inl ⟨i, ⟨b, c⟩, ?_⟩))
    rw [rd_put _ _ _ _ n0 (by omega) (fun q => h1 i b c q.symm), rd_put _ _ _ _ n0 (by omega) (fun q => h1 (w - i) (by omega) (by omega) q.symm)]; exact e
  · refine .inr (.inr (.inr ⟨i, ⟨b, c⟩, ?_⟩))
    rw [rd_put _ _ _ _ n0 (by omega) (fun q => h2 i b c q.symm), rd_put _ _ _ _ n0 (by omega) (fun q => h2 (h - i) (by omega) (by omega) q.symm)]; exact e
section
variable (a0 a1 : Int) (l : List S43) (Q : List Int → Prop)
def Done (x7 : List Int) (x8 x9 : Int) : Prop := x7.length = 625 ∧ ∀ w h : Int, (1 ≤ w ∧ w ≤ 24) → (1 ≤ h ∧ h ≤ a1) → (w < x8 ∨ (w = x8 ∧ h < x9)) → Src l x7 w h (rd x7 (w * 25 + h))
theorem Done.put {x7 : List Int} {x8 x9 v : Int} (b1 : 1 ≤ a1 ∧ a1 ≤ 24) (b8 : 1 ≤ x8 ∧ x8 ≤ 24) (b9 : 1 ≤ x9 ∧ x9 ≤ a1) (hd : Done a1 l x7 x8 x9) (hv : Src l x7 x8 x9 v) : Done a1 l (x7.set (x8 * 25 + x9).toNat v) x8 (x9 + 1) := by
  refine ⟨by rw [List.length_set]; exact hd.1, fun w h hw hh hlt => ?_⟩
  have hl := hd.1
  by_cases e : w = x8 ∧ h = x9
  · obtain ⟨rfl, rfl⟩ := e
    rw [rd_own _ _ _ (by omega) (by omega)]
    exact hv.keep _ _ (by omega) (by omega) (by omega) (fun i _ _ => by omega) (fun i _ _ => by omega)
  · have hlt' : w < x8 ∨ (w = x8 ∧ h < x9) := by omega
    rw [rd_put _ _ _ _ (by omega) (by omega) (by omega)]
    exact (hd.2 w h hw hh hlt').keep _ _ (by omega) (by omega) (by omega) (fun i _ _ => by omega) (fun i _ _ => by omega)
theorem end4 (x7 : List Int) (x8 x9 : Int) (b8 : 1 ≤ x8 ∧ x8 ≤ 24) (b9 : 1 ≤ x9 ∧ x9 ≤ 24) (h : ∀ v, Src l x7 x8 x9 v → ∃ r, Ev (fun k => spec_l04Worth.l1 k a0 a1 l (x7.set (x8 * 25 + x9).toNat v) x8 (x9 + 1)) r ∧ Q r) :
    ∀ (d : Nat) (i b : Int), i + d = x9 → 1 ≤ i → Src l x7 x8 x9 b → ∃ r, Ev (fun k => spec_l04Worth.l4 k a0 a1 l x7 x8 x9 b i) r ∧ Q r
  | 0, i, b, e, h1, sb => by
    obtain ⟨r, hr, hq⟩ := h b sb
    refine ⟨r, Ev.step (fun k => by rw [spec_l04Worth.l4]) ?_, hq⟩
    refine Ev.neg (by omega) ?_
    refine Ev.pos (by omega) ?_
    refine Ev.pos (by omega) ?_
    refine Ev.pos (by omega) ?_
    refine Ev.pos (by omega) ?_
    rw [w64 (x := x9 + 1) (by omega) (by omega)]
    exact hr
  | d + 1, i, b, e, h1, sb => by
    have e1 : wrap64 (x9 - i) = x9 - i := w64 (by omega) (by omega)
    have e2 : wrap64 (i + 1) = i + 1 := w64 (by omega) (by omega)
    obtain ⟨r, hr, hq⟩ := end4 x7 x8 x9 b8 b9 h d (i + 1) (mx b (wrap64 ((rd x7 (x8 * 25 + i)) + (rd x7 (x8 * 25 + (x9 - i)))))) (by omega) (by omega) (sb.two (.inr (.inr (.inr ⟨i, ⟨h1, by omega⟩, rfl⟩))))
    refine ⟨r, Ev.step (fun k => by rw [spec_l04Worth.l4]) ?_, hq⟩
    refine Ev.pos (by omega) ?_
    refine Ev.pos (by omega) ?_
    refine Ev.pos (by omega) ?_
    refine Ev.pos (by omega) ?_
    refine Ev.pos (by omega) ?_
    rw [e1, e2]
    refine Ev.pos (by omega) ?_
    refine Ev.pos (by omega) ?_
    exact Ev.nobind (max_mx _ _) hr
theorem end3 (x7 : List Int) (x8 x9 : Int) (b8 : 1 ≤ x8 ∧ x8 ≤ 24) (b9 : 1 ≤ x9 ∧ x9 ≤ 24) (h : ∀ v, Src l x7 x8 x9 v → ∃ r, Ev (fun k => spec_l04Worth.l1 k a0 a1 l (x7.set (x8 * 25 + x9).toNat v) x8 (x9 + 1)) r ∧ Q r) :
    ∀ (d : Nat) (i b : Int), i + d = x8 → 1 ≤ i → Src l x7 x8 x9 b → ∃ r, Ev (fun k => spec_l04Worth.l3 k a0 a1 l x7 x8 x9 b i) r ∧ Q r
  | 0, i, b, e, h1, sb => by
    obtain ⟨r, hr, hq⟩ := end4 a0 a1 l Q x7 x8 x9 b8 b9 h (x9 - 1).toNat 1 b (by omega) (by omega) sb
    refine ⟨r, Ev.step (fun k => by rw [spec_l04Worth.l3]) ?_, hq⟩
    exact Ev.neg (by omega) hr
  | d + 1, i, b, e, h1, sb => by
    have e1 : wrap64 (x8 - i) = x8 - i := w64 (by omega) (by omega)
    have e2 : wrap64 (i + 1) = i + 1 := w64 (by omega) (by omega)
    obtain ⟨r, hr, hq⟩ := end3 x7 x8 x9 b8 b9 h d (i + 1) (mx b (wrap64 ((rd x7 (i * 25 + x9)) + (rd x7 ((x8 - i) * 25 + x9))))) (by omega) (by omega) (sb.two (.inr (.inr (.inl ⟨i, ⟨h1, by omega⟩, rfl⟩))))
    refine ⟨r, Ev.step (fun k => by rw [spec_l04Worth.l3]) ?_, hq⟩
    refine Ev.pos (by omega) ?_
    refine Ev.pos (by omega) ?_
    refine Ev.pos (by omega) ?_
    refine Ev.pos (by omega) ?_
    refine Ev.pos (by omega) ?_
    rw [e1, e2]
    refine Ev.pos (by omega) ?_
    refine Ev.pos (by omega) ?_
    exact Ev.nobind (max_mx _ _) hr
theorem end2 (hl : l.length ≤ 1048576) (x7 : List Int) (x8 x9 : Int) (b8 : 1 ≤ x8 ∧ x8 ≤ 24) (b9 : 1 ≤ x9 ∧ x9 ≤ 24) (h : ∀ v, Src l x7 x8 x9 v → ∃ r, Ev (fun k => spec_l04Worth.l1 k a0 a1 l (x7.set (x8 * 25 + x9).toNat v) x8 (x9 + 1)) r ∧ Q r) :
    ∀ (d i : Nat) (b : Int), i + d = l.length → Src l x7 x8 x9 b → ∃ r, Ev (fun k => spec_l04Worth.l2 k a0 a1 l x7 x8 x9 b (i : Int)) r ∧ Q r
  | 0, i, b, e, sb => by
    obtain ⟨r, hr, hq⟩ := end3 a0 a1 l Q x7 x8 x9 b8 b9 h (x8 - 1).toNat 1 b (by omega) (by omega) sb
    refine ⟨r, Ev.step (fun k => by rw [spec_l04Worth.l2]) ?_, hq⟩
    exact Ev.neg (by omega) hr
  | d + 1, i, b, e, sb => by
    have e2 : wrap64 ((i : Int) + 1) = ((i + 1 : Nat) : Int) := by rw [w64 (by omega) (by omega)]; omega
    have go := fun b sb => end2 hl x7 x8 x9 b8 b9 h d (i + 1) b (by omega) sb
    by_cases q0 : wrap64 ((rd_T43 l (i : Int)).f0) = x8
    · by_cases q1 : wrap64 ((rd_T43 l (i : Int)).f1) = x9
      · obtain ⟨r, hr, hq⟩ := go (mx b (wrap64 ((rd_T43 l (i : Int)).f2))) (sb.two (.inr (.inl ⟨i, by omega, q0, q1, rfl⟩)))
        refine ⟨r, Ev.step (fun k => by rw [spec_l04Worth.l2]) ?_, hq⟩
        refine Ev.pos (by omega) ?_
        refine Ev.pos (by omega) ?_
        refine Ev.pos q0 ?_
        refine Ev.pos q1 ?_
        rw [e2]
        exact Ev.nobind (max_mx _ _) hr
      · obtain ⟨r, hr, hq⟩ := go b sb
        refine ⟨r, Ev.step (fun k => by rw [spec_l04Worth.l2]) ?_, hq⟩
        refine Ev.pos (by omega) ?_
        refine Ev.pos (by omega) ?_
        refine Ev.pos q0 ?_
        rw [e2]
        exact Ev.neg q1 hr
    · obtain ⟨r, hr, hq⟩ := go b sb
      refine ⟨r, Ev.step (fun k => by rw [spec_l04Worth.l2]) ?_, hq⟩
      refine Ev.pos (by omega) ?_
      refine Ev.pos (by omega) ?_
      rw [e2]
      exact Ev.neg q0 hr
theorem end1 (hl : l.length ≤ 1048576) (b1 : 1 ≤ a1 ∧ a1 ≤ 24) (x8 : Int) (b8 : 1 ≤ x8 ∧ x8 ≤ 24) (h : ∀ x7, Done a1 l x7 (x8 + 1) 1 → ∃ r, Ev (fun k => spec_l04Worth.l0 k a0 a1 l x7 (x8 + 1)) r ∧ Q r) :
    ∀ (d : Nat) (x9 : Int) (x7 : List Int), x9 + d = a1 + 1 → 1 ≤ x9 → Done a1 l x7 x8 x9 → ∃ r, Ev (fun k => spec_l04Worth.l1 k a0 a1 l x7 x8 x9) r ∧ Q r
  | 0, x9, x7, e, h1, hd => by
    obtain ⟨r, hr, hq⟩ := h x7 ⟨hd.1, fun w h hw hh hlt => hd.2 w h hw hh (by omega)⟩
    refine ⟨r, Ev.step (fun k => by rw [spec_l04Worth.l1]) ?_, hq⟩
    refine Ev.neg (by omega) ?_
    rw [w64 (x := x8 + 1) (by omega) (by omega)]
    exact hr
  | d + 1, x9, x7, e, h1, hd => by
    obtain ⟨r, hr, hq⟩ := end2 a0 a1 l Q hl x7 x8 x9 b8 (by omega) (fun v sv => end1 hl b1 x8 b8 h d (x9 + 1) _ (by omega) (by omega) (hd.put a1 l b1 b8 (by omega) sv)) l.length 0 0 (by omega) (.inl rfl)
    refine ⟨r, Ev.step (fun k => by rw [spec_l04Worth.l1]) ?_, hq⟩
    exact Ev.pos (by omega) hr
theorem end0 (hl : l.length ≤ 1048576) (b0 : 1 ≤ a0 ∧ a0 ≤ 24) (b1 : 1 ≤ a1 ∧ a1 ≤ 24) : ∀ (d : Nat) (x8 : Int) (x7 : List Int), x8 + d = a0 + 1 → 1 ≤ x8 → Done a1 l x7 x8 1 → ∃ r, Ev (fun k => spec_l04Worth.l0 k a0 a1 l x7 x8) r ∧ Done a1 l r (a0 + 1) 1
  | 0, x8, x7, e, h1, hd => by
    refine ⟨x7, Ev.step (fun k => by rw [spec_l04Worth.l0]) ?_, by rw [show a0 + 1 = x8 by omega]; exact hd⟩
    exact Ev.neg (by omega) (Ev.fin rfl)
  | d + 1, x8, x7, e, h1, hd => by
    obtain ⟨r, hr, hq⟩ := end1 a0 a1 l _ hl b1 x8 (by omega) (fun x7 hd => end0 hl b0 b1 d (x8 + 1) x7 (by omega) (by omega) hd) a1.toNat 1 x7 (by omega) (by omega) hd
    refine ⟨r, Ev.step (fun k => by rw [spec_l04Worth.l0]) ?_, hq⟩
    exact Ev.pos (by omega) hr
/-- Both tables are filled, alike, and each entry has its source. -/
theorem worths2 (hl : l.length ≤ 1048576) (b0 : 1 ≤ a0 ∧ a0 ≤ 24) (b1 : 1 ≤ a1 ∧ a1 ≤ 24) : ∃ r, Ev (fun k => spec_l04Worth.f k a0 a1 l) r ∧ Ev (fun k => impl_worthOf.f k a0 a1 l) r ∧
    ∀ w h : Int, (1 ≤ w ∧ w ≤ a0) → (1 ≤ h ∧ h ≤ a1) → Src l r w h (rd r (w * 25 + h)) := by
  obtain ⟨r, hr, hd⟩ := end0 a0 a1 l hl b0 b1 a0.toNat 1 (List.replicate 625 0) (by omega) (by omega) ⟨List.length_replicate, fun w h hw hh hlt => by omega⟩
  exact ⟨r, hr, by simp only [worth_same]; exact hr, fun w h hw hh => hd.2 w h (by omega) hh (by omega)⟩
end
end Go.Proofs.Ytpkbamcfncambaa.WorthKit
