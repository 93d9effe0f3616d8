/- Plans of bars: what the reference's and the program's functions come to; lists of lists as the law copies, weighs and holds them. -/
import Derived.Test.YtabflbpcdkhnaaaUseKit
import Derived.Test.YtabflbpcdkhnaaaPAxgImpl
import Derived.Test.YtabflbpcdkhnaaaPAxgLaw
import Derived.Test.YtabflbpcdkhnaaaPAxgSpec
namespace Go.Proofs.Ytabflbpcdkhnaaa.PlanKit
set_option linter.unusedSimpArgs false
set_option linter.unusedVariables false
open Go.RowKit Go.Proofs.Ytabflbpcdkhnaaa.PA Go.Proofs.Ytabflbpcdkhnaaa.Base Go.Proofs.Ytabflbpcdkhnaaa.BarsKit Go.Proofs.Ytabflbpcdkhnaaa.UseKit Go.Proofs.YtabflbpcdkhnaaaW.PrintWords Go.Proofs.YtabflbpcdkhnaaaW.PrintLast Go.Proofs.YtabflbpcdkhnaaaW.PrintMore

theorem rdL (xs : List (List Int)) (i : Nat) : rd_L1 xs (i : Int) = xs.getD i [] := by simp [rd_L1]
theorem getL {xs : List (List Int)} {i : Nat} (h : i < xs.length) : xs.getD i [] = xs[i] := by
  rw [List.getD_eq_getElem?_getD, List.getElem?_eq_getElem h]; rfl
/-! ### indices, all different -/
theorem has_iff (x : Int) (l : List Int) : has x l = true ↔ x ∈ l := by
  unfold has; rw [List.any_eq_true]
  constructor
  · rintro ⟨y, hy, e⟩
    rw [decide_eq_true_eq] at e; rw [e]; exact hy
  · intro h; exact ⟨x, h, decide_eq_true rfl⟩
def IX (n : Int) (l : List Int) : Prop := (∀ x ∈ l, 0 ≤ x ∧ x ≤ n - 1) ∧ l.Pairwise (· ≠ ·)
theorem getI {l : List Int} {i : Nat} (h : i < l.length) : l.getD i 0 = l[i] := by
  rw [List.getD_eq_getElem?_getD, List.getElem?_eq_getElem h]; rfl
theorem ixB_iff (n : Int) (l : List Int) : ixB n l = true ↔ IX n l := by
  unfold ixB IX
  rw [List.all_eq_true, List.pairwise_iff_getElem]
  constructor
  · intro h
    refine ⟨fun x hx => ?_, fun i j hi hj hij e => ?_⟩
    · obtain ⟨i, hi, rfl⟩ := List.getElem_of_mem hx
      have := h i (by simpa using hi)
      unfold ixP at this
      rw [Bool.and_eq_true, inB_iff, getI hi] at this
      exact this.1
    · have := h j (by simpa using hj)
      unfold ixP at this
      rw [Bool.and_eq_true, Bool.not_eq_true'] at this
      have hm : has (l.getD j 0) (l.take j) = true := by
        rw [has_iff, getI hj, ← e]
        have hlt : i < (l.take j).length := by simp; omega
        have : (l.take j)[i] = l[i] := by simp
        rw [← this]; exact List.getElem_mem hlt
      rw [this.2] at hm; cases hm
  · rintro ⟨h1, h2⟩ i hi
    have hi' : i < l.length := by simpa using hi
    unfold ixP
    rw [Bool.and_eq_true, inB_iff, Bool.not_eq_true', getI hi']
    refine ⟨h1 _ (List.getElem_mem hi'), ?_⟩
    cases e : has l[i] (l.take i) with
    | false => rfl
    | true =>
      rw [has_iff] at e
      obtain ⟨j, hj, ej⟩ := List.getElem_of_mem e
      have hj' : j < i ∧ j < l.length := by rw [List.length_take] at hj; omega
      refine absurd ?_ (h2 j i hj'.2 hi' hj'.1)
      rw [← ej]; simp
theorem ixB_part {n : Int} {bars : List (List Int)} (h : ixB n bars.flatten = true) {b : List Int} (hb : b ∈ bars) : ixB n b = true := by
  rw [ixB_iff] at h ⊢
  refine ⟨fun x hx => h.1 x (List.mem_flatten.2 ⟨b, hb, hx⟩), ?_⟩
  exact (List.pairwise_flatten.1 h.2).1 b hb
/-! ### all bars in one row -/
theorem flat_take (bars : List (List Int)) (i : Nat) (h : i < bars.length) : (bars.take (i + 1)).flatten = (bars.take i).flatten ++ bars.getD i [] := by
  rw [List.take_succ_eq_append_getElem h, List.flatten_append, getL h]; simp
theorem flat_le (bars : List (List Int)) (i : Nat) : (bars.take i).flatten.length ≤ bars.flatten.length := by
  have : bars.flatten = (bars.take i).flatten ++ (bars.drop i).flatten := by rw [← List.flatten_append, List.take_append_drop]
  rw [this, List.length_append]; omega
theorem flat_all (bars : List (List Int)) : (bars.take bars.length).flatten = bars.flatten := by rw [List.take_length]
theorem part_le {bars : List (List Int)} {b : List Int} (h : b ∈ bars) : b.length ≤ bars.flatten.length := by
  obtain ⟨s, t, rfl⟩ := List.append_of_mem h
  simp; omega
theorem concat (bars : List (List Int)) (hl : bars.length ≤ 1048576) (hf : bars.flatten.length < 1048576) : Ev (fun k => slices_Concat_int64_int64.f k bars) bars.flatten := by
  unfold slices_Concat_int64_int64.f
  have key2 : ∀ d i : Nat, i + d = bars.length → Ev (fun k => slices_Concat_int64_int64.l1 k (bars.take i).flatten bars (bars.length : Int) (i : Int)) bars.flatten := by
    intro d
    induction d with
    | zero =>
      intro i h
      obtain rfl : i = bars.length := by omega
      refine Ev.step (fun k => by rw [slices_Concat_int64_int64.l1]) ?_
      exact Ev.neg (by omega) (Ev.fin (flat_all bars))
    | succ d ih =>
      intro i h
      have h1 := flat_le bars (i + 1)
      have h2 := flat_take bars i (by omega)
      have h3 : (bars.take i).flatten.length + (bars.getD i []).length = (bars.take (i + 1)).flatten.length := by rw [h2, List.length_append]
      have ha := w64 (x := (i : Int) + 1) (by omega) (by omega)
      refine Ev.step (fun k => by rw [slices_Concat_int64_int64.l1]) ?_
      rw [rdL bars i, ha, ← h2]
      exact Ev.pos (by omega) (Ev.pos (by omega) (Ev.pos (by omega) (Ev.pos (by omega) (ih (i + 1) (by omega)))))
  have key1 : ∀ d i : Nat, i + d = bars.length → Ev (fun k => slices_Concat_int64_int64.l0 k bars ((bars.take i).flatten.length : Int) bars (bars.length : Int) (i : Int)) bars.flatten := by
    intro d
    induction d with
    | zero =>
      intro i h
      obtain rfl : i = bars.length := by omega
      refine Ev.step (fun k => by rw [slices_Concat_int64_int64.l0]) ?_
      rw [flat_all]
      refine Ev.neg (by omega) (Ev.nobind (a := []) ?_ ?_)
      · unfold slices_Grow_int64_int64.f
        rw [if_pos (by omega), if_pos (by omega)]
      · have := key2 bars.length 0 (by omega)
        simpa using this
    | succ d ih =>
      intro i h
      have h1 := flat_le bars (i + 1)
      have h2 := flat_take bars i (by omega)
      have h3 : (bars.take i).flatten.length + (bars.getD i []).length = (bars.take (i + 1)).flatten.length := by rw [h2, List.length_append]
      have ha := w64 (x := (i : Int) + 1) (by omega) (by omega)
      have hb : wrap64 (((bars.take i).flatten.length : Int) + ((bars.getD i []).length : Int)) = ((bars.take (i + 1)).flatten.length : Int) := by
        rw [w64 (by omega) (by omega)]; omega
      refine Ev.step (fun k => by rw [slices_Concat_int64_int64.l0]) ?_
      rw [rdL bars i, ha, hb]
      exact Ev.pos (by omega) (Ev.pos (by omega) (Ev.pos (by omega) (Ev.neg (by omega) (ih (i + 1) (by omega)))))
  have := key1 bars.length 0 (by omega)
  simpa using this
/-! ### plans -/
def fits (a s : Int) (p b : List Int) : Bool := decide (use p s b ≤ a)
def some_ (b : List Int) : Bool := decide (b.length ≠ 0)
def planB (a s : Int) (p : List Int) (bars : List (List Int)) : Bool :=
  bars.all some_ && (decide (bars.flatten.length = p.length) && (ixB (p.length : Int) bars.flatten && bars.all (fits a s p)))
theorem all_at {α : Type} (q : α → Bool) (l : List α) (i : Nat) (h : i < l.length) : (l.drop i).all q = (q l[i] && (l.drop (i + 1)).all q) := by
  rw [drop_at l i h, List.all_cons]
theorem specPlan {a s : Int} {p : List Int} (hs : Small p s) (hp : p.length ≤ 14) (bars : List (List Int)) (hl : bars.length ≤ 1048576) (hf : bars.flatten.length ≤ 1048576) : Ev (fun k => spec_l04Plan.f k a s p bars) (planB a s p bars) := by
  unfold spec_l04Plan.f
  have key : ∀ d i : Nat, i + d = bars.length → Ev (fun k => spec_l04Plan.l0 k a s p bars (bars.take i).flatten (i : Int)) ((bars.drop i).all some_ && (decide (bars.flatten.length = p.length) && (ixB (p.length : Int) bars.flatten && bars.all (fits a s p)))) := by
    intro d
    induction d with
    | zero =>
      intro i h
      obtain rfl : i = bars.length := by omega
      refine Ev.step (fun k => by rw [spec_l04Plan.l0]) ?_
      rw [flat_all, List.drop_of_length_le (Nat.le_refl _), List.all_nil, Bool.true_and]
      refine Ev.neg (by omega) (Ev.ite (fun e => ?_) (fun e => ?_))
      · rw [decide_eq_true (by omega : bars.flatten.length = p.length), Bool.true_and]
        refine Ev.bind (specIndexed bars.flatten (p.length : Int) hf (by omega)) (Ev.step (fun k => by rw [spec_l04Plan.j1]) ?_)
        cases e2 : ixB (p.length : Int) bars.flatten with
        | false => exact Ev.pos rfl (Ev.fin (by simp))
        | true =>
          refine Ev.neg (by simp) ?_
          rw [Bool.true_and]
          refine Ev.to (rangeAll_ev0 (fun k i => spec_l04Plan.l1 k a s p bars i) bars.length (fun j => fits a s p (bars.getD j [])) true false ?_ ?_ ?_) ?_
          · intro i hi hq r' hr
            have hm : bars.getD i [] ∈ bars := by rw [getL hi]; exact List.getElem_mem hi
            have hu := specUse hs (bars.getD i []) (Nat.le_trans (part_le hm) hf) (ix_of (ixB_part e2 hm))
            refine Ev.step (fun k => by rw [spec_l04Plan.l1]) ?_
            rw [rdL bars i, w64 (x := (i : Int) + 1) (by omega) (by omega)]
            unfold fits at hq
            rw [decide_eq_true_eq] at hq
            exact Ev.pos (by omega) (Ev.pos (by omega) (Ev.bind hu (Ev.neg (by omega) hr)))
          · intro i hi hq
            have hm : bars.getD i [] ∈ bars := by rw [getL hi]; exact List.getElem_mem hi
            have hu := specUse hs (bars.getD i []) (Nat.le_trans (part_le hm) hf) (ix_of (ixB_part e2 hm))
            refine Ev.step (fun k => by rw [spec_l04Plan.l1]) ?_
            rw [rdL bars i]
            unfold fits at hq
            rw [decide_eq_false_iff_not] at hq
            exact Ev.pos (by omega) (Ev.pos (by omega) (Ev.bind hu (Ev.pos (by omega) (Ev.fin rfl))))
          · intro _
            refine Ev.step (fun k => by rw [spec_l04Plan.l1]) ?_
            exact Ev.neg (by omega) (Ev.fin rfl)
          · rw [ite_b, Bool.eq_iff_iff, List.all_eq_true, List.all_eq_true]
            constructor
            · intro h x hx
              obtain ⟨i, hi, rfl⟩ := List.getElem_of_mem hx
              have := h i (by simpa using hi)
              rwa [getL hi] at this
            · intro h i hi
              have hi' : i < bars.length := by simpa using hi
              rw [getL hi']; exact h _ (List.getElem_mem hi')
      · rw [decide_eq_false (by omega : ¬ bars.flatten.length = p.length), Bool.false_and]
        refine Ev.step (fun k => by rw [spec_l04Plan.j1]) ?_
        exact Ev.pos rfl (Ev.fin rfl)
    | succ d ih =>
      intro i h
      have hi : i < bars.length := by omega
      have h1 := flat_le bars (i + 1)
      have h2 := flat_take bars i hi
      have h3 : (bars.take i).flatten.length + (bars.getD i []).length = (bars.take (i + 1)).flatten.length := by rw [h2, List.length_append]
      refine Ev.step (fun k => by rw [spec_l04Plan.l0]) ?_
      rw [rdL bars i, w64 (x := (i : Int) + 1) (by omega) (by omega), ← h2, all_at some_ bars i hi]
      refine Ev.pos (by omega) (Ev.pos (by omega) (Ev.ite (fun e => ?_) (fun e => ?_)))
      · have hq : some_ bars[i] = false := by unfold some_; rw [getL hi] at e; rw [decide_eq_false]; omega
        rw [hq]; exact Ev.fin rfl
      · have hq : some_ bars[i] = true := by unfold some_; rw [getL hi] at e; rw [decide_eq_true]; omega
        rw [hq, Bool.true_and]; exact Ev.pos (by omega) (ih (i + 1) (by omega))
  have := key bars.length 0 (by omega)
  simpa [planB] using this
def okB (a s : Int) (p b : List Int) : Bool := some_ b && (ixB (p.length : Int) b && fits a s p b)
theorem ok_plan (a s : Int) (p : List Int) (bars : List (List Int)) : (bars.all (okB a s p) && (decide (bars.flatten.length = p.length) && ixB (p.length : Int) bars.flatten)) = planB a s p bars := by
  unfold planB
  cases e : ixB (p.length : Int) bars.flatten with
  | false => simp
  | true =>
    have h : bars.all (okB a s p) = (bars.all some_ && bars.all (fits a s p)) := by
      rw [Bool.eq_iff_iff, Bool.and_eq_true, List.all_eq_true, List.all_eq_true, List.all_eq_true]
      constructor
      · intro h
        refine ⟨fun x hx => ?_, fun x hx => ?_⟩
        · have := h x hx; unfold okB at this; rw [Bool.and_eq_true] at this; exact this.1
        · have := h x hx; unfold okB at this; rw [Bool.and_eq_true, Bool.and_eq_true] at this; exact this.2.2
      · rintro ⟨h1, h2⟩ x hx
        unfold okB; rw [h1 x hx, h2 x hx, ixB_part e hx]; rfl
    rw [h]
    cases bars.all some_ <;> cases bars.all (fits a s p) <;> cases decide (bars.flatten.length = p.length) <;> rfl
theorem implPlan {a s : Int} {p : List Int} (hs : Small p s) (hp : p.length ≤ 14) (bars : List (List Int)) (hl : bars.length ≤ 1048576) (hf : bars.flatten.length ≤ 1048576) : Ev (fun k => impl_isPlan.f k a s p bars) (planB a s p bars) := by
  unfold impl_isPlan.f
  have key : ∀ d i : Nat, i + d = bars.length → Ev (fun k => impl_isPlan.l0 k a s p bars ((bars.take i).flatten.length : Int) bars (bars.length : Int) (i : Int)) ((bars.drop i).all (okB a s p) && (decide (bars.flatten.length = p.length) && ixB (p.length : Int) bars.flatten)) := by
    intro d
    induction d with
    | zero =>
      intro i h
      obtain rfl : i = bars.length := by omega
      refine Ev.step (fun k => by rw [impl_isPlan.l0]) ?_
      rw [flat_all, List.drop_of_length_le (Nat.le_refl _), List.all_nil, Bool.true_and]
      refine Ev.neg (by omega) (Ev.ite (fun e => ?_) (fun e => ?_))
      · rw [decide_eq_true (by omega : bars.flatten.length = p.length), Bool.true_and]
        refine Ev.bind (concat bars hl (by omega)) (Ev.bind (implIndexed p bars.flatten hf (by omega)) (Ev.fin rfl))
      · rw [decide_eq_false (by omega : ¬ bars.flatten.length = p.length), Bool.false_and]
        exact Ev.fin rfl
    | succ d ih =>
      intro i h
      have hi : i < bars.length := by omega
      have h1 := flat_le bars (i + 1)
      have h2 := flat_take bars i hi
      have h3 : (bars.take i).flatten.length + (bars.getD i []).length = (bars.take (i + 1)).flatten.length := by rw [h2, List.length_append]
      have hb : wrap64 (((bars.take i).flatten.length : Int) + ((bars.getD i []).length : Int)) = ((bars.take (i + 1)).flatten.length : Int) := by
        rw [w64 (by omega) (by omega)]; omega
      have hx := implIndexed p (bars.getD i []) (by omega) (by omega)
      refine Ev.step (fun k => by rw [impl_isPlan.l0]) ?_
      rw [rdL bars i, w64 (x := (i : Int) + 1) (by omega) (by omega), hb, all_at (okB a s p) bars i hi, ← getL hi]
      generalize hG : bars.getD i [] = g at hx h3
      refine Ev.pos (by omega) (Ev.pos (by omega) (Ev.pos (by omega) (Ev.ite (fun e => ?_) (fun e => ?_))))
      · have hq : okB a s p g = false := by
          unfold okB some_; rw [decide_eq_false (by omega : ¬ g.length ≠ 0)]; rfl
        rw [hq]; exact Ev.fin rfl
      · have hq : some_ g = true := by unfold some_; rw [decide_eq_true]; omega
        refine Ev.bind hx ?_
        cases e2 : ixB (p.length : Int) g with
        | false =>
          have hq2 : okB a s p g = false := by unfold okB; rw [e2]; simp
          rw [hq2]; exact Ev.neg (by simp) (Ev.fin rfl)
        | true =>
          have hu := implUse hs g (by omega) (ix_of e2)
          have hq2 : okB a s p g = fits a s p g := by unfold okB; rw [e2, hq]; simp
          rw [hq2]
          unfold fits
          refine Ev.pos rfl (Ev.bind hu (Ev.ite (fun c => ?_) (fun c => ?_)))
          · rw [decide_eq_false (by omega : ¬ use p s g ≤ a)]; exact Ev.fin rfl
          · rw [decide_eq_true (by omega : use p s g ≤ a), Bool.true_and]; exact ih (i + 1) (by omega)
  rw [← ok_plan]
  have := key bars.length 0 (by omega)
  simpa using this
/-! ### the law's own functions -/
theorem toIntss (l : List (List Int)) (h : l.length ≤ 1048576) (hb : ∀ x ∈ l, x.length ≤ 1048576) : Ev (fun k => laws_toInt64SS.f k l) l := by
  unfold laws_toInt64SS.f
  refine Ev.pos (by omega) (Ev.pos (by omega) ?_)
  have := copy_ev0 l id [] (fun k x i => laws_toInt64SS.l0 k l x i) ?_ ?_
  · rw [Int.toNat_natCast]; simpa using this
  · intro x3 i hi r h3 hr
    refine Ev.step (fun k => by rw [laws_toInt64SS.l0]) ?_
    rw [rdL l i, getL hi, w64 (x := (i : Int) + 1) (by omega) (by omega), Int.toNat_natCast]
    exact Ev.pos (by omega) (Ev.pos (by omega) (Ev.bind (toInts l[i] (Nat.le_trans (hb _ (List.getElem_mem hi)) (by omega))) (Ev.pos (by omega) hr)))
  · intro x3
    refine Ev.step (fun k => by rw [laws_toInt64SS.l0]) ?_
    exact Ev.neg (by omega) (Ev.fin rfl)
theorem eqIntss (l : List (List Int)) (h : l.length ≤ 1048576) (hb : ∀ x ∈ l, x.length ≤ 1048576) : Ev (fun k => laws_eqInt64SS.f k l l) true := by
  unfold laws_eqInt64SS.f
  refine Ev.pos rfl ?_
  refine Ev.to (rangeAll_ev0 (fun k i => laws_eqInt64SS.l0 k l l i) l.length (fun _ => true) true false ?_ ?_ ?_) (by simp)
  · intro i hi _ r' hr
    refine Ev.step (fun k => by rw [laws_eqInt64SS.l0]) ?_
    rw [rdL l i, getL hi, w64 (x := (i : Int) + 1) (by omega) (by omega)]
    exact Ev.pos (by omega) (Ev.pos (by omega) (Ev.pos (by omega) (Ev.bind (eqInts l[i] l[i] (Nat.le_trans (hb _ (List.getElem_mem hi)) (by omega))) (Ev.pos (by simp) hr))))
  · intro i hi h'; cases h'
  · intro _
    refine Ev.step (fun k => by rw [laws_eqInt64SS.l0]) ?_
    exact Ev.neg (by omega) (Ev.fin rfl)
/-- Lists that are light enough, or told as too heavy. -/
theorem sizes (l : List (List Int)) (h : l.length ≤ maxLen) (hb : ∀ x ∈ l, x.length ≤ maxLen) : ∃ v, Ev (fun k => laws_szInt64SS.f k l 1048576) v ∧ (v < 0 ∨ l.length ≤ 1048576 ∧ l.flatten.length ≤ 1048576) := by
  unfold laws_szInt64SS.f
  have hM : maxLen ≤ 9223372036854775807 := by decide
  rw [w64 (x := 1048576 - (l.length : Int)) (by omega) (by omega)]
  by_cases c : (1048576 : Int) - (l.length : Int) < 0
  · exact ⟨-1, Ev.pos c (Ev.fin rfl), Or.inl (by decide)⟩
  · have key : ∀ (d i : Nat) (t : Int), i + d = l.length → 0 ≤ t → t ≤ 1048576 → ∃ v, Ev (fun k => laws_szInt64SS.l0 k l t (i : Int)) v ∧ (v < 0 ∨ ((l.drop i).flatten.length : Int) ≤ t) := by
      intro d
      induction d with
      | zero =>
        intro i t hi h0 h1
        refine ⟨t, ?_, Or.inr ?_⟩
        · refine Ev.step (fun k => by rw [laws_szInt64SS.l0]) ?_
          exact Ev.neg (by omega) (Ev.fin rfl)
        · rw [List.drop_of_length_le (by omega)]; simpa using h0
      | succ d ih =>
        intro i t hi h0 h1
        have hi' : i < l.length := by omega
        have hx := hb _ (List.getElem_mem hi')
        have hw := w64 (x := t - (l[i].length : Int)) (by omega) (by omega)
        by_cases q : t - (l[i].length : Int) < 0
        · refine ⟨-1, ?_, Or.inl (by decide)⟩
          refine Ev.step (fun k => by rw [laws_szInt64SS.l0]) ?_
          rw [rdL l i, getL hi']
          refine Ev.pos (by omega) (Ev.pos (by omega) (Ev.nobind (a := -1) ?_ (Ev.pos (by decide) (Ev.fin rfl))))
          unfold laws_szInt64S.f; rw [hw, if_pos q]
        · obtain ⟨v, hv, hv2⟩ := ih (i + 1) (t - (l[i].length : Int)) (by omega) (by omega) (by omega)
          refine ⟨v, ?_, ?_⟩
          · refine Ev.step (fun k => by rw [laws_szInt64SS.l0]) ?_
            rw [rdL l i, getL hi', w64 (x := (i : Int) + 1) (by omega) (by omega)]
            refine Ev.pos (by omega) (Ev.pos (by omega) (Ev.nobind (a := t - (l[i].length : Int)) ?_ (Ev.neg q hv)))
            unfold laws_szInt64S.f; rw [hw, if_neg q]
          · rw [drop_at l i hi', List.flatten_cons, List.length_append]
            omega
    obtain ⟨v, hv, hv2⟩ := key l.length 0 (1048576 - (l.length : Int)) (by omega) (by omega) (by omega)
    refine ⟨v, Ev.neg c hv, ?_⟩
    rw [List.drop_zero] at hv2
    omega
end Go.Proofs.Ytabflbpcdkhnaaa.PlanKit
