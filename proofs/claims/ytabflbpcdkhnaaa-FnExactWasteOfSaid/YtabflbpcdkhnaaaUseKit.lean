/- Bars of indices and what they use: what the reference's and the program's functions come to. -/
import Derived.Test.YtabflbpcdkhnaaaBarsKit
import Derived.Test.YtabflbpcdkhnaaaPAxgImpl
import Derived.Test.YtabflbpcdkhnaaaPAxgSpec
namespace Go.Proofs.Ytabflbpcdkhnaaa.UseKit
set_option linter.unusedSimpArgs false
set_option linter.unusedVariables false
open Go.RowKit Go.Proofs.Ytabflbpcdkhnaaa.PA Go.Proofs.Ytabflbpcdkhnaaa.Base Go.Proofs.Ytabflbpcdkhnaaa.BarsKit Go.Proofs.YtabflbpcdkhnaaaW.PrintWords Go.Proofs.YtabflbpcdkhnaaaW.PrintLast Go.Proofs.YtabflbpcdkhnaaaW.PrintMore

def has (x : Int) (l : List Int) : Bool := l.any fun y => decide (x = y)
theorem has_drop (x : Int) (l : List Int) (i : Nat) (h : i < l.length) : has x (l.drop i) = (decide (x = l.getD i 0) || has x (l.drop (i + 1))) := by
  unfold has
  rw [drop_at l i h, List.any_cons, List.getD_eq_getElem?_getD, List.getElem?_eq_getElem h]; rfl
theorem specHas (l : List Int) (x : Int) (hl : l.length ≤ 1048576) : Ev (fun k => spec_l00Has.f k l x) (has x l) := by
  unfold spec_l00Has.f
  have key : ∀ d i : Nat, i + d = l.length → Ev (fun k => spec_l00Has.l0 k l x (i : Int)) (has x (l.drop i)) := by
    intro d
    induction d with
    | zero =>
      intro i h
      refine Ev.step (fun k => by rw [spec_l00Has.l0]) ?_
      rw [List.drop_of_length_le (by omega)]
      exact Ev.neg (by omega) (Ev.fin rfl)
    | succ d ih =>
      intro i h
      have ha := w64 (x := (i : Int) + 1) (by omega) (by omega)
      refine Ev.step (fun k => by rw [spec_l00Has.l0]) ?_
      rw [has_drop x l i (by omega), rdI, ha]
      refine Ev.pos (by omega) (Ev.pos (by omega) (Ev.ite (fun e => ?_) (fun e => ?_)))
      · rw [decide_eq_true (by omega)]; exact Ev.fin rfl
      · rw [decide_eq_false (by omega), Bool.false_or]; exact ih (i + 1) (by omega)
  exact key l.length 0 (by omega)
theorem implIdx (l : List Int) (x : Int) (hl : l.length ≤ 1048576) : ∃ v, Ev (fun k => slices_Index_int64_int64.f k l x) v ∧ decide (v ≥ 0) = has x l := by
  unfold slices_Index_int64_int64.f
  have key : ∀ d i : Nat, i + d = l.length → ∃ v, Ev (fun k => slices_Index_int64_int64.l0 k l x (l.length : Int) (i : Int)) v ∧ decide (v ≥ 0) = has x (l.drop i) := by
    intro d
    induction d with
    | zero =>
      intro i h
      refine ⟨-1, ?_, ?_⟩
      · refine Ev.step (fun k => by rw [slices_Index_int64_int64.l0]) ?_
        exact Ev.neg (by omega) (Ev.fin rfl)
      · rw [List.drop_of_length_le (by omega)]; rfl
    | succ d ih =>
      intro i h
      have ha := w64 (x := (i : Int) + 1) (by omega) (by omega)
      by_cases e : x = l.getD i 0
      · refine ⟨(i : Int), ?_, ?_⟩
        · refine Ev.step (fun k => by rw [slices_Index_int64_int64.l0]) ?_
          rw [rdI]
          exact Ev.pos (by omega) (Ev.pos (by omega) (Ev.pos (by omega) (Ev.pos e (Ev.fin rfl))))
        · rw [has_drop x l i (by omega), decide_eq_true e, Bool.true_or, decide_eq_true (by omega)]
      · obtain ⟨v, h1, h2⟩ := ih (i + 1) (by omega)
        refine ⟨v, ?_, ?_⟩
        · refine Ev.step (fun k => by rw [slices_Index_int64_int64.l0]) ?_
          rw [rdI, ha]
          exact Ev.pos (by omega) (Ev.pos (by omega) (Ev.pos (by omega) (Ev.neg e h1)))
        · rw [has_drop x l i (by omega), decide_eq_false e, Bool.false_or]; exact h2
  exact key l.length 0 (by omega)
theorem implHas (l : List Int) (x : Int) (hl : l.length ≤ 1048576) : Ev (fun k => slices_Contains_int64_int64.f k l x) (has x l) := by
  obtain ⟨v, h1, h2⟩ := implIdx l x hl
  unfold slices_Contains_int64_int64.f
  exact Ev.bind h1 (Ev.fin h2)
def ixP (n : Int) (l : List Int) (i : Nat) : Bool := inB (l.getD i 0) 0 (n - 1) && !has (l.getD i 0) (l.take i)
/-- All indices are in range, none stands twice. -/
def ixB (n : Int) (l : List Int) : Bool := (List.range l.length).all fun i => ixP n l i
theorem ite_b (b : Bool) : (if b = true then true else false) = b := by cases b <;> rfl
theorem specIndexed (l : List Int) (n : Int) (hl : l.length ≤ 1048576) (hn : 0 ≤ n ∧ n ≤ 1048576) : Ev (fun k => spec_l04Indexed.f k l n) (ixB n l) := by
  unfold spec_l04Indexed.f ixB
  refine Ev.to (rangeAll_ev0 (fun k i => spec_l04Indexed.l0 k l n i) l.length (fun i => ixP n l i) true false ?_ ?_ ?_) (ite_b _)
  · intro i hi hp r' hr
    have ha := w64 (x := (i : Int) + 1) (by omega) (by omega)
    have hb := w64 (x := n - 1) (by omega) (by omega)
    unfold ixP at hp
    rw [Bool.and_eq_true, Bool.not_eq_true'] at hp
    have hh := specHas (l.take i) (l.getD i 0) (by simp; omega)
    refine Ev.step (fun k => by rw [spec_l04Indexed.l0]) ?_
    rw [rdI, ha, hb, Int.toNat_natCast]
    exact Ev.pos (by omega) (Ev.pos (by omega) (Ev.nobind (specIn _ _ _) (Ev.pos hp.1 (Ev.pos (by omega) (Ev.bind hh (Ev.neg (by rw [hp.2]; decide) hr))))))
  · intro i hi hp
    have hb := w64 (x := n - 1) (by omega) (by omega)
    have hh := specHas (l.take i) (l.getD i 0) (by simp; omega)
    refine Ev.step (fun k => by rw [spec_l04Indexed.l0]) ?_
    rw [rdI, hb, Int.toNat_natCast]
    refine Ev.pos (by omega) (Ev.pos (by omega) (Ev.nobind (specIn _ _ _) (Ev.ite (fun e => ?_) (fun _ => Ev.fin rfl))))
    unfold ixP at hp
    rw [e, Bool.true_and, Bool.not_eq_false'] at hp
    exact Ev.pos (by omega) (Ev.bind hh (Ev.pos hp (Ev.fin rfl)))
  · intro _
    refine Ev.step (fun k => by rw [spec_l04Indexed.l0]) ?_
    exact Ev.neg (by omega) (Ev.fin rfl)
theorem implIndexed (p l : List Int) (hl : l.length ≤ 1048576) (hn : p.length ≤ 1048576) : Ev (fun k => impl_isBar.f k p l) (ixB (p.length : Int) l) := by
  unfold impl_isBar.f ixB
  refine Ev.to (rangeAll_ev0 (fun k i => impl_isBar.l0 k p l l (l.length : Int) i) l.length (fun i => ixP (p.length : Int) l i) true false ?_ ?_ ?_) (ite_b _)
  · intro i hi hp r' hr
    have ha := w64 (x := (i : Int) + 1) (by omega) (by omega)
    have hb := w64 (x := (p.length : Int) - 1) (by omega) (by omega)
    unfold ixP at hp
    rw [Bool.and_eq_true, Bool.not_eq_true'] at hp
    have hh := implHas (l.take i) (l.getD i 0) (by simp; omega)
    refine Ev.step (fun k => by rw [impl_isBar.l0]) ?_
    rw [rdI, ha, hb, Int.toNat_natCast]
    exact Ev.pos (by omega) (Ev.pos (by omega) (Ev.pos (by omega) (Ev.nobind (implIn _ _ _) (Ev.pos hp.1 (Ev.pos (by omega) (Ev.bind hh (Ev.neg (by rw [hp.2]; decide) hr)))))))
  · intro i hi hp
    have hb := w64 (x := (p.length : Int) - 1) (by omega) (by omega)
    have hh := implHas (l.take i) (l.getD i 0) (by simp; omega)
    refine Ev.step (fun k => by rw [impl_isBar.l0]) ?_
    rw [rdI, hb, Int.toNat_natCast]
    refine Ev.pos (by omega) (Ev.pos (by omega) (Ev.pos (by omega) (Ev.nobind (implIn _ _ _) (Ev.ite (fun e => ?_) (fun _ => Ev.fin rfl)))))
    unfold ixP at hp
    rw [e, Bool.true_and, Bool.not_eq_false'] at hp
    exact Ev.pos (by omega) (Ev.bind hh (Ev.pos hp (Ev.fin rfl)))
  · intro _
    refine Ev.step (fun k => by rw [impl_isBar.l0]) ?_
    exact Ev.neg (by omega) (Ev.fin rfl)
theorem ix_of {n : Int} {l : List Int} (h : ixB n l = true) : ∀ i, i < l.length → 0 ≤ l.getD i 0 ∧ l.getD i 0 < n := by
  intro i hi
  unfold ixB at h
  rw [List.all_eq_true] at h
  have := h i (by simpa using hi)
  unfold ixP at this
  rw [Bool.and_eq_true, inB_iff] at this
  omega
/-- The sum of the pieces of a bar from place i on. -/
def useS (p l : List Int) : Nat → Nat → Int
  | 0, _ => 0
  | d + 1, i => p.getD (l.getD i 0).toNat 0 + useS p l d (i + 1)
/-- What a bar uses: its pieces and the cuts between them. -/
def use (p : List Int) (s : Int) (l : List Int) : Int := if l.length = 0 then 0 else ((l.length : Int) - 1) * s + useS p l l.length 0
def Small (p : List Int) (s : Int) : Prop := (0 ≤ s ∧ s ≤ 10000) ∧ p.length ≤ 1048576 ∧ ∀ i : Nat, 0 ≤ p.getD i 0 ∧ p.getD i 0 ≤ 10000
theorem small_of {a s : Int} {p : List Int} (h : barB a s p = true) : Small p s := by
  have := bar_of h
  refine ⟨this.2.1, by omega, fun i => ?_⟩
  by_cases hi : i < p.length
  · rw [List.getD_eq_getElem?_getD, List.getElem?_eq_getElem hi]
    have := this.2.2.2 _ (List.getElem_mem hi)
    simp only [Option.getD_some]; omega
  · rw [List.getD_eq_getElem?_getD, List.getElem?_eq_none (by omega)]; decide
theorem specUse {p : List Int} {s : Int} (hp : Small p s) (l : List Int) (hl : l.length ≤ 1048576) (hi : ∀ i, i < l.length → 0 ≤ l.getD i 0 ∧ l.getD i 0 < (p.length : Int)) : Ev (fun k => spec_l04Use.f k p s l) (use p s l) := by
  unfold spec_l04Use.f
  have key : ∀ (d i : Nat) (t : Int), (i + 1) + d = l.length → 0 ≤ t → t ≤ 20000 * ((i : Int) + 1) → Ev (fun k => spec_l04Use.l0 k p s l t ((i + 1 : Nat) : Int)) (t + ((d : Int) * s + useS p l d (i + 1))) := by
    intro d
    induction d with
    | zero =>
      intro i t h h0 h1
      refine Ev.step (fun k => by rw [spec_l04Use.l0]) ?_
      exact Ev.neg (by omega) (Ev.fin (by simp [useS]))
    | succ d ih =>
      intro i t h h0 h1
      obtain ⟨x0, x1⟩ := hi (i + 1) (by omega)
      obtain ⟨q, hq⟩ : ∃ q : Nat, l.getD (i + 1) 0 = (q : Int) := ⟨(l.getD (i + 1) 0).toNat, by omega⟩
      have hv := hp.2.2 q
      have hs := hp.1
      have ha := w64 (x := ((i + 1 : Nat) : Int) + 1) (by omega) (by omega)
      refine Ev.step (fun k => by rw [spec_l04Use.l0]) ?_
      rw [rdI l (i + 1), hq, rdI p q, ha, w64 (x := t + s) (by omega) (by omega), w64 (x := t + s + p.getD q 0) (by omega) (by omega)]
      refine Ev.pos (by omega) (Ev.pos (by omega) (Ev.pos (by omega) (Ev.pos (by omega) (Ev.pos (by omega) ?_))))
      refine Ev.to (ih (i + 1) _ (by omega) (by omega) (by omega)) ?_
      rw [useS, hq, Int.toNat_natCast]
      have : ((d + 1 : Nat) : Int) * s = (d : Int) * s + s := by rw [Int.natCast_add, Int.add_mul]; simp
      rw [this]; omega
  unfold use
  by_cases e : l.length = 0
  · rw [if_pos e]
    refine Ev.step (fun k => by rw [spec_l04Use.l0]) ?_
    exact Ev.neg (by omega) (Ev.fin rfl)
  · rw [if_neg e]
    obtain ⟨n, hn⟩ : ∃ n, l.length = n + 1 := ⟨l.length - 1, by omega⟩
    obtain ⟨x0, x1⟩ := hi 0 (by omega)
    obtain ⟨q, hq⟩ : ∃ q : Nat, l.getD 0 0 = (q : Int) := ⟨(l.getD 0 0).toNat, by omega⟩
    have hv := hp.2.2 q
    refine Ev.step (fun k => by rw [spec_l04Use.l0]) ?_
    have r0 : rd l 0 = l.getD 0 0 := rdI l 0
    have a1 : wrap64 ((0 : Int) + 1) = ((0 + 1 : Nat) : Int) := by rw [w64 (by omega) (by omega)]; rfl
    rw [r0, hq, rdI p q, w64 (x := (0 : Int) + p.getD q 0) (by omega) (by omega), Int.zero_add (p.getD q 0), a1]
    refine Ev.pos (by omega) (Ev.neg (by omega) (Ev.pos (by omega) (Ev.pos (by omega) (Ev.pos (by omega) ?_))))
    refine Ev.to (key n 0 (p.getD q 0) (by omega) (by omega) (by omega)) ?_
    rw [hn, useS, hq, Int.toNat_natCast]
    have : (((n + 1 : Nat) : Int) - 1) = (n : Int) := by omega
    rw [this]; omega
theorem tb {t z i v : Int} (h0 : 0 ≤ t) (h1 : t ≤ z + 10000 * i) (hz : z ≤ 10485760000) (hi : i ≤ 1048576) (v0 : 0 ≤ v) (v1 : v ≤ 10000) : wrap64 (t + v) = t + v := w64 (by omega) (by omega)
theorem tb2 {t z i v : Int} (h1 : t ≤ z + 10000 * i) (v1 : v ≤ 10000) : t + v ≤ z + 10000 * (i + 1) := by omega
theorem implUse {p : List Int} {s : Int} (hp : Small p s) (l : List Int) (hl : l.length ≤ 1048576) (hi : ∀ i, i < l.length → 0 ≤ l.getD i 0 ∧ l.getD i 0 < (p.length : Int)) : Ev (fun k => impl_useOf.f k p s l) (use p s l) := by
  unfold impl_useOf.f use
  by_cases e : l.length = 0
  · rw [if_pos e]; exact Ev.pos (by omega) (Ev.fin rfl)
  · rw [if_neg e]
    refine Ev.neg (by omega) ?_
    have hs := hp.1
    have m0 : 0 ≤ ((l.length : Int) - 1) * s := Int.mul_nonneg (by omega) hs.1
    have m1 : ((l.length : Int) - 1) * s ≤ 10485760000 := Int.le_trans (Int.mul_le_mul (by omega) hs.2 hs.1 (by omega) : ((l.length : Int) - 1) * s ≤ 1048576 * 10000) (by decide)
    rw [w64 (x := (l.length : Int) - 1) (by omega) (by omega)]
    generalize ((l.length : Int) - 1) * s = z at m0 m1 ⊢
    rw [w64 (x := z) (by omega) (by omega)]
    clear e hs
    have key : ∀ (d i : Nat) (t : Int), i + d = l.length → 0 ≤ t → t ≤ z + 10000 * (i : Int) → Ev (fun k => impl_useOf.l0 k p t l (l.length : Int) (i : Int)) (t + useS p l d i) := by
      intro d
      induction d with
      | zero =>
        intro i t h h0 h1
        refine Ev.step (fun k => by rw [impl_useOf.l0]) ?_
        exact Ev.neg (by omega) (Ev.fin (by simp [useS]))
      | succ d ih =>
        intro i t h h0 h1
        obtain ⟨x0, x1⟩ := hi i (by omega)
        obtain ⟨q, hq⟩ : ∃ q : Nat, l.getD i 0 = (q : Int) := ⟨(l.getD i 0).toNat, by omega⟩
        have hv := hp.2.2 q
        have ha := w64 (x := (i : Int) + 1) (by omega) (by omega)
        refine Ev.step (fun k => by rw [impl_useOf.l0]) ?_
        rw [rdI l i, hq, rdI p q, ha, tb h0 h1 m1 (by omega) hv.1 hv.2]
        refine Ev.pos (by omega) (Ev.pos (by omega) (Ev.pos (by omega) (Ev.pos (by omega) (Ev.pos (by omega) ?_))))
        refine Ev.to (ih (i + 1) _ (by omega) (Int.add_nonneg h0 hv.1) (tb2 h1 hv.2)) ?_
        rw [useS, hq, Int.toNat_natCast, Int.add_assoc]
    exact key l.length 0 z (by omega) m0 (by omega)
end Go.Proofs.Ytabflbpcdkhnaaa.UseKit
