/- What bars use: what the reference's and the program's functions come to. -/
import Derived.Test.YtadighbpjanjbaaBarsKit
import Derived.Test.YtadighbpjanjbaaPAxgImpl
import Derived.Test.YtadighbpjanjbaaPAxgSpec
namespace Go.Proofs.Ytadighbpjanjbaa.RoomKit
set_option linter.unusedSimpArgs false
set_option linter.unusedVariables false
open Go.RowKit Go.Proofs.Ytadighbpjanjbaa.PA Go.Proofs.Ytadighbpjanjbaa.Base Go.Proofs.Ytadighbpjanjbaa.BarsKit Go.Proofs.YtadighbpjanjbaaW.PrintWords Go.Proofs.YtadighbpjanjbaaW.PrintLast Go.Proofs.YtadighbpjanjbaaW.PrintMore

/-- The sum of the pieces of a bar from place i on. -/
def useS (p l : List Int) : Nat → Nat → Int
  | 0, _ => 0
  | d + 1, i => p.getD (l.getD i 0).toNat 0 + useS p l d (i + 1)
/-- What a bar uses: its pieces and the cuts between them. -/
def use (p : List Int) (s : Int) (l : List Int) : Int := if l.length = 0 then 0 else ((l.length : Int) - 1) * s + useS p l l.length 0
def Small (p : List Int) (s : Int) : Prop := (0 ≤ s ∧ s ≤ 10000) ∧ p.length ≤ 1048576 ∧ ∀ i : Nat, 0 ≤ p.getD i 0 ∧ p.getD i 0 ≤ 10000
theorem small_of {a s : Int} {p : List Int} (h : barB a s p = true) : Small p s := by
  have := bar_of h
  refine ⟨this.2.1, by omega, fun i => ?_⟩
  by_cases hi : i < p.length
  · rw [List.getD_eq_getElem?_getD, List.getElem?_eq_getElem hi]
    have := this.2.2.2 _ (List.getElem_mem hi)
    simp only [Option.getD_some]; omega
  · rw [List.getD_eq_getElem?_getD, List.getElem?_eq_none (by omega)]; decide
theorem specUse {p : List Int} {s : Int} (hp : Small p s) (l : List Int) (hl : l.length ≤ 1048576) (hi : ∀ i, i < l.length → 0 ≤ l.getD i 0 ∧ l.getD i 0 < (p.length : Int)) : Ev (fun k => spec_l04Use.f k p s l) (use p s l) := by
  unfold spec_l04Use.f
  have key : ∀ (d i : Nat) (t : Int), (i + 1) + d = l.length → 0 ≤ t → t ≤ 20000 * ((i : Int) + 1) → Ev (fun k => spec_l04Use.l0 k p s l t ((i + 1 : Nat) : Int)) (t + ((d : Int) * s + useS p l d (i + 1))) := by
    intro d
    induction d with
    | zero =>
      intro i t h h0 h1
      refine Ev.step (fun k => by rw [spec_l04Use.l0]) ?_
      exact Ev.neg (by omega) (Ev.fin (by simp [useS]))
    | succ d ih =>
      intro i t h h0 h1
      obtain ⟨x0, x1⟩ := hi (i + 1) (by omega)
      obtain ⟨q, hq⟩ : ∃ q : Nat, l.getD (i + 1) 0 = (q : Int) := ⟨(l.getD (i + 1) 0).toNat, by omega⟩
      have hv := hp.2.2 q
      have hs := hp.1
      have ha := w64 (x := ((i + 1 : Nat) : Int) + 1) (by omega) (by omega)
      refine Ev.step (fun k => by rw [spec_l04Use.l0]) ?_
      rw [rdI l (i + 1), hq, rdI p q, ha, w64 (x := t + s) (by omega) (by omega), w64 (x := t + s + p.getD q 0) (by omega) (by omega)]
      refine Ev.pos (by omega) (Ev.pos (by omega) (Ev.pos (by omega) (Ev.pos (by omega) (Ev.pos (by omega) ?_))))
      refine Ev.to (ih (i + 1) _ (by omega) (by omega) (by omega)) ?_
      rw [useS, hq, Int.toNat_natCast]
      have : ((d + 1 : Nat) : Int) * s = (d : Int) * s + s := by rw [Int.natCast_add, Int.add_mul]; simp
      rw [this]; omega
  unfold use
  by_cases e : l.length = 0
  · rw [if_pos e]
    refine Ev.step (fun k => by rw [spec_l04Use.l0]) ?_
    exact Ev.neg (by omega) (Ev.fin rfl)
  · rw [if_neg e]
    obtain ⟨n, hn⟩ : ∃ n, l.length = n + 1 := ⟨l.length - 1, by omega⟩
    obtain ⟨x0, x1⟩ := hi 0 (by omega)
    obtain ⟨q, hq⟩ : ∃ q : Nat, l.getD 0 0 = (q : Int) := ⟨(l.getD 0 0).toNat, by omega⟩
    have hv := hp.2.2 q
    refine Ev.step (fun k => by rw [spec_l04Use.l0]) ?_
    have r0 : rd l 0 = l.getD 0 0 := rdI l 0
    have a1 : wrap64 ((0 : Int) + 1) = ((0 + 1 : Nat) : Int) := by rw [w64 (by omega) (by omega)]; rfl
    rw [r0, hq, rdI p q, w64 (x := (0 : Int) + p.getD q 0) (by omega) (by omega), Int.zero_add (p.getD q 0), a1]
    refine Ev.pos (by omega) (Ev.neg (by omega) (Ev.pos (by omega) (Ev.pos (by omega) (Ev.pos (by omega) ?_))))
    refine Ev.to (key n 0 (p.getD q 0) (by omega) (by omega) (by omega)) ?_
    rw [hn, useS, hq, Int.toNat_natCast]
    have : (((n + 1 : Nat) : Int) - 1) = (n : Int) := by omega
    rw [this]; omega
theorem tb {t z i v : Int} (h0 : 0 ≤ t) (h1 : t ≤ z + 10000 * i) (hz : z ≤ 10485760000) (hi : i ≤ 1048576) (v0 : 0 ≤ v) (v1 : v ≤ 10000) : wrap64 (t + v) = t + v := w64 (by omega) (by omega)
theorem tb2 {t z i v : Int} (h1 : t ≤ z + 10000 * i) (v1 : v ≤ 10000) : t + v ≤ z + 10000 * (i + 1) := by omega
theorem implUse {p : List Int} {s : Int} (hp : Small p s) (l : List Int) (hl : l.length ≤ 1048576) (hi : ∀ i, i < l.length → 0 ≤ l.getD i 0 ∧ l.getD i 0 < (p.length : Int)) : Ev (fun k => impl_useOf.f k p s l) (use p s l) := by
  unfold impl_useOf.f use
  by_cases e : l.length = 0
  · rw [if_pos e]; exact Ev.pos (by omega) (Ev.fin rfl)
  · rw [if_neg e]
    refine Ev.neg (by omega) ?_
    have hs := hp.1
    have m0 : 0 ≤ ((l.length : Int) - 1) * s := Int.mul_nonneg (by omega) hs.1
    have m1 : ((l.length : Int) - 1) * s ≤ 10485760000 := Int.le_trans (Int.mul_le_mul (by omega) hs.2 hs.1 (by omega) : ((l.length : Int) - 1) * s ≤ 1048576 * 10000) (by decide)
    rw [w64 (x := (l.length : Int) - 1) (by omega) (by omega)]
    generalize ((l.length : Int) - 1) * s = z at m0 m1 ⊢
    rw [w64 (x := z) (by omega) (by omega)]
    clear e hs
    have key : ∀ (d i : Nat) (t : Int), i + d = l.length → 0 ≤ t → t ≤ z + 10000 * (i : Int) → Ev (fun k => impl_useOf.l0 k p t l (l.length : Int) (i : Int)) (t + useS p l d i) := by
      intro d
      induction d with
      | zero =>
        intro i t h h0 h1
        refine Ev.step (fun k => by rw [impl_useOf.l0]) ?_
        exact Ev.neg (by omega) (Ev.fin (by simp [useS]))
      | succ d ih =>
        intro i t h h0 h1
        obtain ⟨x0, x1⟩ := hi i (by omega)
        obtain ⟨q, hq⟩ : ∃ q : Nat, l.getD i 0 = (q : Int) := ⟨(l.getD i 0).toNat, by omega⟩
        have hv := hp.2.2 q
        have ha := w64 (x := (i : Int) + 1) (by omega) (by omega)
        refine Ev.step (fun k => by rw [impl_useOf.l0]) ?_
        rw [rdI l i, hq, rdI p q, ha, tb h0 h1 m1 (by omega) hv.1 hv.2]
        refine Ev.pos (by omega) (Ev.pos (by omega) (Ev.pos (by omega) (Ev.pos (by omega) (Ev.pos (by omega) ?_))))
        refine Ev.to (ih (i + 1) _ (by omega) (Int.add_nonneg h0 hv.1) (tb2 h1 hv.2)) ?_
        rw [useS, hq, Int.toNat_natCast, Int.add_assoc]
    exact key l.length 0 z (by omega) m0 (by omega)
end Go.Proofs.Ytadighbpjanjbaa.RoomKit
