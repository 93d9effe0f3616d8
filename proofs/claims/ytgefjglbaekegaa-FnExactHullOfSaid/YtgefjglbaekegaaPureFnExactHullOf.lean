/- The program's HullOf answers what the reference's HullOf answers, at all lists of corners. -/
import Derived.Test.YtgefjglbaekegaaStonesAll
import Derived.Test.YtgefjglbaekegaaSeamKit
import Derived.Test.YtgefjglbaekegaaHullSpec
import Derived.Test.YtgefjglbaekegaaGeoAll
import Derived.Test.YtgefjglbaekegaaPAxf10
import Derived.Test.YtgefjglbaekegaaPAxf19
import Derived.Test.YtgefjglbaekegaaPAxf21
import Derived.Test.YtgefjglbaekegaaPAxf22
import Derived.Test.YtgefjglbaekegaaPAxf25
import Derived.Test.YtgefjglbaekegaaPAxf26
import Derived.Test.YtgefjglbaekegaaPAxf27
import Derived.Test.YtgefjglbaekegaaPAxf3
import Derived.Test.YtgefjglbaekegaaPAxf4
import Derived.Test.YtgefjglbaekegaaPAxf5
import Derived.Test.YtgefjglbaekegaaPAxf6
import Derived.Test.YtgefjglbaekegaaPAxf7
import Derived.Test.YtgefjglbaekegaaPAxf9
namespace Go.Proofs.Ytgefjglbaekegaa.Pure
set_option linter.unusedSimpArgs false
set_option linter.unusedVariables false
set_option linter.unusedSectionVars false
open Go.RowKit Go.Proofs.Ytgefjglbaekegaa.PA Go.Proofs.Ytgefjglbaekegaa.Base Go.Proofs.Ytgefjglbaekegaa.StonesKit Go.Proofs.Ytgefjglbaekegaa.Geo Go.Proofs.Ytgefjglbaekegaa.SeamKit Go.Proofs.Ytgefjglbaekegaa.HullGeo Go.Proofs.Ytgefjglbaekegaa.HullWrap Go.Proofs.Ytgefjglbaekegaa.HullSpec Go.Proofs.Ytgefjglbaekegaa.ChainGeo Go.Proofs.Ytgefjglbaekegaa.ChainHull Go.Proofs.YtgefjglbaekegaaW.PrintWords Go.Proofs.YtgefjglbaekegaaW.PrintLast Go.Proofs.YtgefjglbaekegaaW.PrintMore

/-! ### half a hull -/
theorem pop_len (c : S37) : ∀ st, (pop c st).length ≤ st.length
  | [] => by simp [pop]
  | [b] => by simp [pop]
  | b :: a :: st => by
    rw [pop]
    split
    · have := pop_len c (a :: st); simp at this ⊢; omega
    · exact Nat.le_refl _
theorem push_len (st : List S37) (c : S37) : (push st c).length ≤ st.length + 1 := by
  unfold push
  rw [List.length_cons]
  have := pop_len c st; omega
theorem foldl_len : ∀ (T st : List S37), (T.foldl push st).length ≤ st.length + T.length
  | [], st => Nat.le_refl _
  | c :: T, st => by
    rw [List.foldl_cons, List.length_cons]
    have h1 := foldl_len T (push st c)
    have h2 := push_len st c
    omega
theorem pile_len (T : List S37) : (pile T).length ≤ T.length := by
  have := foldl_len T []
  rw [List.length_nil, Nat.zero_add] at this
  exact this
theorem half_len (T : List S37) : (half T).length ≤ T.length := by
  unfold half
  rw [List.length_dropLast, List.length_reverse]
  have := pile_len T; omega
theorem push_sm {c : S37} (hc : Sm c) : ∀ {st : List S37}, (∀ x ∈ st, Sm x) → ∀ x ∈ pop c st, Sm x
  | [], h, x, hx => h x hx
  | [b], h, x, hx => h x hx
  | b :: a :: st, h, x, hx => by
    rw [pop] at hx
    split at hx
    · exact push_sm hc (st := a :: st) (fun y hy => h y (List.mem_cons_of_mem _ hy)) x hx
    · exact h x hx
theorem popLoop {T : List S37} {i : Nat} {c : S37} (hc : Sm c) (hi : i ≤ 1000) (r : List S37) : ∀ (st : List S37), st.length ≤ 1000 → (∀ x ∈ st, Sm x) → Ev (fun k => impl_chain.l0 k (push st c).reverse T (T.length : Int) ((i + 1 : Nat) : Int)) r → Ev (fun k => impl_chain.l1 k st.reverse T (T.length : Int) (i : Int) c.f0 c.f1) r
  | [], hl, hs, h => by
    refine Ev.step (fun k => by rw [impl_chain.l1]) (Ev.neg (by simp) (Ev.pos (by simp) ?_))
    rw [w64 (x := (i : Int) + 1) (by omega) (by omega)]
    exact h
  | [b], hl, hs, h => by
    refine Ev.step (fun k => by rw [impl_chain.l1]) (Ev.neg (by simp) (Ev.pos (by simp) ?_))
    rw [w64 (x := (i : Int) + 1) (by omega) (by omega)]
    exact h
  | b :: a :: st, hl, hs, h => by
    rw [List.length_cons, List.length_cons] at hl
    have hn : ((b :: a :: st).reverse.length : Int) = (st.length : Int) + 2 := by simp <;> omega
    have w1 : wrap64 (((b :: a :: st).reverse.length : Int) - 1) = ((st.length + 1 : Nat) : Int) := by rw [hn, w64 (by omega) (by omega)]; omega
    have w2 : wrap64 (((b :: a :: st).reverse.length : Int) - 2) = (st.length : Int) := by rw [hn, w64 (by omega) (by omega)]; omega
    have hr : (b :: a :: st).reverse = st.reverse ++ [a] ++ [b] := by simp
    have ra : rd_T37 (b :: a :: st).reverse (st.length : Int) = a := by
      rw [rdC', hr, List.append_assoc, List.getD_eq_getElem?_getD, List.getElem?_append_right (by simp), List.length_reverse, Nat.sub_self]; rfl
    have rb : rd_T37 (b :: a :: st).reverse ((st.length + 1 : Nat) : Int) = b := by
      rw [rdC', hr, List.getD_eq_getElem?_getD, List.getElem?_append_right (by simp)]
      simp
    have hsa := hs a (by simp)
    have hsb := hs b (by simp)
    refine Ev.step (fun k => by rw [impl_chain.l1]) ?_
    rw [w1, w2, ra, rb]
    refine Ev.pos (by omega) (Ev.pos (by omega) (Ev.pos (by omega) (Ev.pos (by omega) (Ev.pos (by omega) ?_))))
    refine Ev.nobind (implSide a b c) ?_
    rw [sd_cr hsa hsb hc]
    unfold push at h
    rw [pop] at h
    refine Ev.ite (fun e => ?_) (fun e => ?_)
    · rw [if_pos e] at h
      have ht : (b :: a :: st).reverse.take ((st.length + 1 : Nat) : Int).toNat = (a :: st).reverse := by
        rw [Int.toNat_natCast, hr, List.take_append_of_le_length (by simp), List.take_of_length_le (by simp)]
        simp
      rw [ht]
      exact Ev.pos (by omega) (popLoop hc hi r (a :: st) (by rw [List.length_cons]; omega) (fun x hx => hs x (List.mem_cons_of_mem _ hx)) h)
    · rw [if_neg e] at h
      rw [w64 (x := (i : Int) + 1) (by omega) (by omega)]
      refine Ev.pos (by rw [List.length_reverse, List.length_cons, List.length_cons]; omega) ?_
      rw [List.reverse_cons (a := c)] at h
      exact h
theorem implChain {T : List S37} (hl : T.length ≤ 100) (hS : ∀ x ∈ T, Sm x) (hne : T ≠ []) : Ev (fun k => impl_chain.f k T) (half T) := by
  unfold impl_chain.f
  have key : ∀ (d i : Nat) (st : List S37), i + d = T.length → st.length ≤ i → (∀ x ∈ st, Sm x) → (0 < i → st ≠ []) → Ev (fun k => impl_chain.l0 k st.reverse T (T.length : Int) (i : Int)) ((T.drop i).foldl push st).reverse.dropLast := by
    intro d
    induction d with
    | zero =>
      intro i st h h1 h2 h3
      have hpos : 0 < T.length := List.length_pos_iff.2 hne
      have hst : 0 < st.length := List.length_pos_iff.2 (h3 (by omega))
      have w1 : wrap64 ((st.reverse.length : Int) - 1) = ((st.length - 1 : Nat) : Int) := by rw [List.length_reverse, w64 (by omega) (by omega)]; omega
      refine Ev.step (fun k => by rw [impl_chain.l0]) (Ev.neg (by omega) ?_)
      rw [w1]
      refine Ev.pos (by omega) (Ev.pos (by rw [List.length_reverse]; omega) (Ev.fin ?_))
      rw [List.drop_of_length_le (by omega), Int.toNat_natCast, List.foldl_nil, List.dropLast_eq_take, List.length_reverse]
    | succ d ih =>
      intro i st h h1 h2 h3
      have hi : i < T.length := by omega
      have hc := hS _ (List.getElem_mem hi)
      refine Ev.step (fun k => by rw [impl_chain.l0]) (Ev.pos (by omega) (Ev.pos (by omega) (Ev.pos (by omega) ?_)))
      rw [rdC T i hi, drop_at T i hi, List.foldl_cons]
      refine popLoop hc (by omega) _ st (by omega) h2 (ih (i + 1) (push st T[i]) (by omega) (by have := push_len st T[i]; omega) (fun x hx => ?_) (fun _ => by simp [push]))
      unfold push at hx
      rcases List.mem_cons.1 hx with rfl | hx
      · exact hc
      · exact push_sm hc h2 x hx
  have := key T.length 0 [] (by omega) (by simp) (by simp) (by omega)
  exact this
/-! ### the corners in their order, each once -/
theorem lt_is (a b : S37) : CS.lt a b = lt a b := rfl
def srtd (l : List S37) : List S37 := l.mergeSort fun x y => !CS.lt y x
theorem le_iff (x y : S37) : (!CS.lt y x) = true ↔ x.f0 < y.f0 ∨ (x.f0 = y.f0 ∧ x.f1 ≤ y.f1) := by
  rw [Bool.not_eq_true', ← Bool.not_eq_true, CS.lt_iff]
  omega
theorem srtd_mem (l : List S37) (x : S37) : x ∈ srtd l ↔ x ∈ l := List.mem_mergeSort
theorem srtd_len (l : List S37) : (srtd l).length = l.length := List.length_mergeSort _
theorem srtd_le (l : List S37) : (srtd l).Pairwise fun x y => (!CS.lt y x) = true := by
  unfold srtd
  refine List.pairwise_mergeSort (fun a b c h1 h2 => ?_) (fun a b => ?_) l
  · rw [le_iff] at h1 h2 ⊢; omega
  · rw [Bool.or_eq_true, le_iff, le_iff]; omega
section
variable [Inhabited S37] [DecidableEq S37]
theorem getb' (s : List S37) (i : Nat) (h : i < s.length) : s.toArray[i]! = s[i] := by simp [h]
theorem compact_is {s : List S37} (hS : ∀ x ∈ s, Sm x) (hs : s.Pairwise fun x y => (!CS.lt y x) = true) : ∀ m, m ≤ s.length → (∀ x, x ∈ Lib.compactUpTo s.toArray m ↔ x ∈ s.take m) ∧ Sorted 1 (-2001) (Lib.compactUpTo s.toArray m) ∧ (∀ (h : 0 < m) (h2 : m - 1 < s.length), ∀ q ∈ Lib.compactUpTo s.toArray m, q = s[m - 1] ∨ key q < key s[m - 1])
  | 0, _ => ⟨fun x => by simp [Lib.compactUpTo], trivial, fun h => absurd h (by omega)⟩
  | m + 1, hm => by
    obtain ⟨i1, i2, i3⟩ := compact_is hS hs m (by omega)
    have hml : m < s.length := by omega
    rw [Lib.compactUpTo_succ]
    have hg := getb' s m hml
    by_cases hz : m = 0
    · subst hz
      have hk : Lib.keeps s.toArray 0 = true := Lib.keeps_lt_one _ 0 (by omega)
      have hc0 : Lib.compactUpTo s.toArray 0 = [] := rfl
      rw [hk, if_pos rfl, hg, hc0]
      refine ⟨fun x => ?_, ⟨(fun q hq => by cases hq), trivial⟩, fun _ _ q hq => ?_⟩
      · rw [List.take_succ_eq_append_getElem hml]; simp
      · left; simpa using hq
    · have hpl : m - 1 < s.length := by omega
      have hg1 := getb' s (m - 1) hpl
      have hle : key s[m - 1] ≤ key s[m] := by
        have h1 := (List.pairwise_iff_getElem.1 hs) (m - 1) m hpl hml (by omega)
        rw [lt_is] at h1
        have h2 := (lt_iff (hS _ (List.getElem_mem hml)) (hS _ (List.getElem_mem hpl)))
        rw [Bool.not_eq_true', ← Bool.not_eq_true, h2] at h1
        omega
      have i3' := i3 (by omega) hpl
      by_cases e : s[m] = s[m - 1]
      · have hk : Lib.keeps s.toArray m = false := Lib.keeps_neg (by omega) (by rw [hg, hg1, e])
        rw [hk]
        simp only [Bool.false_eq_true, if_false, List.append_nil]
        refine ⟨fun x => ?_, i2, fun _ _ q hq => ?_⟩
        · rw [i1, List.take_succ_eq_append_getElem hml, List.mem_append, List.mem_singleton]
          constructor
          · exact Or.inl
          · rintro (h | h)
            · exact h
            · rw [h, e, List.mem_take_iff_getElem]
              exact ⟨m - 1, by omega, rfl⟩
        · have := i3' q hq
          show q = s[m] ∨ key q < key s[m]
          rw [e]; exact this
      · have hk : Lib.keeps s.toArray m = true := Lib.keeps_pos (by rw [hg, hg1]; exact e)
        rw [hk, if_pos rfl, hg]
        have hne : key s[m - 1] < key s[m] := by
          have : key s[m - 1] ≠ key s[m] := fun g => e (key_inj (hS _ (List.getElem_mem hml)) (hS _ (List.getElem_mem hpl)) g.symm)
          omega
        refine ⟨fun x => ?_, sorted_snoc i2 (fun q hq => ?_), fun _ _ q hq => ?_⟩
        · rw [List.mem_append, i1, List.take_succ_eq_append_getElem hml, List.mem_append]
        · rw [off_key]
          rcases i3' q hq with g | g
          · rw [g]; omega
          · omega
        · show q = s[m] ∨ key q < key s[m]
          rcases List.mem_append.1 hq with hq | hq
          · right
            rcases i3' q hq with g | g
            · rw [g]; exact hne
            · omega
          · left; exact List.mem_singleton.1 hq
theorem compact_own {l : List S37} (hS : ∀ x ∈ l, Sm x) : Sorted 1 (-2001) (Lib.compact (srtd l)) ∧ (∀ x, x ∈ Lib.compact (srtd l) ↔ x ∈ l) ∧ (Lib.compact (srtd l)).length ≤ l.length := by
  have := compact_is (s := srtd l) (fun x hx => hS x ((srtd_mem l x).1 hx)) (srtd_le l) (srtd l).length (Nat.le_refl _)
  refine ⟨this.2.1, fun x => ?_, ?_⟩
  · show x ∈ Lib.compactUpTo (srtd l).toArray (srtd l).length ↔ _
    rw [this.1, List.take_length, srtd_mem]
  · unfold Lib.compact Lib.compactUpTo
    rw [List.length_map]
    refine Nat.le_trans (List.length_filter_le _ _) ?_
    rw [List.length_range, srtd_len]; exact Nat.le_refl _
end
theorem endR_out {l own : List S37} (hS : ∀ c ∈ l, Sm c) (hm : ∀ c, c ∈ own ↔ c ∈ l) (hs : Sorted 1 (-2001) own) (hne : l ≠ []) : endR (outOf own) = endR (round l) := by
  rcases out_is hS hm hs hne with e | ⟨e1, e2⟩
  · rw [e]
  · unfold endR
    rw [e1, e2]; rfl
theorem implHull {l : List S37} (hf : Fit l) : Ev (fun k => impl_HullOf.f k l) (hullRes l) := by
  unfold impl_HullOf.f hullRes
  refine Ev.ite (fun e => ?_) (fun e => ?_)
  · rw [if_pos (show l.length > 100 by omega)]
    refine Ev.step (fun k => by rw [impl_HullOf.j0]) (Ev.pos rfl (Ev.fin rfl))
  · rw [if_neg (show ¬ l.length > 100 by omega)]
    have hany : impl_HullOf_1_any.f l = some (l.any fun c => !placed c) := by
      unfold impl_HullOf_1_any.f
      exact idxO_any (q := fun c => !placed c) l (fun c hc => by unfold impl_HullOf_1.f; rw [implPlaced (hf c hc)]; rfl)
    refine Ev.nobind hany ?_
    have hb : (l.any fun c => !placed c) = !(l.all placed) := by
      rw [Bool.eq_iff_iff]; simp [List.any_eq_true, List.all_eq_true]
    rw [hb]
    refine Ev.step (fun k => by rw [impl_HullOf.j0]) ?_
    cases hp : l.all placed with
    | false => exact Ev.pos rfl (Ev.fin rfl)
    | true =>
      rw [if_pos rfl]
      have hS : ∀ c ∈ l, Sm c := fun c hc => placed_sm.1 (List.all_eq_true.1 hp c hc)
      refine Ev.neg (by decide) (Ev.ite (fun z => ?_) (fun z => ?_))
      · rw [if_pos (List.eq_nil_of_length_eq_zero (by omega))]; exact Ev.fin rfl
      · have hne : l ≠ [] := fun g => z (by rw [g]; rfl)
        rw [if_neg hne]
        have h1 : impl_Corner_21.f l = some l := by unfold impl_Corner_21.f; rw [if_pos (by omega)]
        have h2 : impl_Corner_22.f l = some (srtd l) := by unfold impl_Corner_22.f; rw [if_pos (by omega)]; rfl
        have hsl := srtd_len l
        refine Ev.nobind h1 (Ev.nobind h2 ?_)
        obtain ⟨own, ho, c1, c2, c3⟩ : ∃ own, impl_Corner_25.f (srtd l) = some own ∧ Sorted 1 (-2001) own ∧ (∀ x, x ∈ own ↔ x ∈ l) ∧ own.length ≤ l.length := by
          unfold impl_Corner_25.f
          rw [if_pos (by omega)]
          exact ⟨_, rfl, compact_own hS⟩
        refine Ev.nobind ho ?_
        have hone : own ≠ [] := fun g => by
          obtain ⟨c, hc⟩ := List.exists_mem_of_ne_nil l hne
          rw [← c2, g] at hc; cases hc
        have h3 : impl_Corner_27.f own = some own.reverse := by unfold impl_Corner_27.f; rw [if_pos (by omega)]
        have hoS : ∀ x ∈ own, Sm x := fun x hx => hS x ((c2 x).1 hx)
        refine Ev.bind (implChain (by omega) hoS hone) (Ev.nobind h3 (Ev.bind (implChain (T := own.reverse) (by rw [List.length_reverse]; omega) (fun x hx => hoS x (List.mem_reverse.1 hx)) (fun g => hone (List.reverse_eq_nil_iff.1 g))) ?_))
        have l1 := half_len own
        have l2 := half_len own.reverse
        rw [List.length_reverse] at l2
        refine Ev.pos (by omega) (Ev.nobind rfl ?_)
        rw [← endR_out hS c2 c1 hne]
        unfold endR outOf
        refine Ev.ite (fun q => ?_) (fun q => ?_)
        · rw [if_pos (show (half own ++ half own.reverse).length < 3 by omega)]; exact Ev.fin rfl
        · rw [if_neg (show ¬ (half own ++ half own.reverse).length < 3 by omega)]
          refine Ev.ite (fun y => ?_) (fun y => ?_)
          · rw [if_pos (show (half own ++ half own.reverse).length > 8 by omega)]; exact Ev.fin rfl
          · rw [if_neg (show ¬ (half own ++ half own.reverse).length > 8 by omega)]; exact Ev.fin rfl
theorem res_len (l : List S37) : (hullRes l).1.length ≤ 8 := by
  unfold hullRes
  split
  · simp
  · split
    · split
      · simp
      · unfold endR
        split
        · simp
        · split
          · simp
          · simp; omega
    · simp
/-! ### the law's own functions -/
theorem szCorners (l : List S42) (hl : l.length ≤ maxLen) : laws_szCornerS.f l 1048576 = some (if (1048576 : Int) - (l.length : Int) < 0 then (-1 : Int) else (1048576 : Int) - (l.length : Int)) := by
  unfold maxLen at hl
  unfold laws_szCornerS.f
  rw [w64 (by omega) (by omega)]
  split <;> rfl
theorem toCorners (l : List S42) (h : l.length ≤ 1048576) : Ev (fun k => laws_toCornerS.f k l) (l.map conv) := by
  unfold laws_toCornerS.f
  refine Ev.pos (by omega) (Ev.pos (by omega) ?_)
  refine copy_ev0 l conv z37 (fun k x i => laws_toCornerS.l0 k l x i) (fun x3 i hi r h3 hr => ?_) (fun x3 => ?_)
  · have ha := w64 (x := (i : Int) + 1) (by omega) (by omega)
    refine Ev.step (fun k => by rw [laws_toCornerS.l0]) (Ev.pos (by omega) (Ev.pos (by omega) ?_))
    refine Ev.nobind rfl (Ev.pos (by omega) ?_)
    rw [rdD l i hi, ha]
    exact hr
  · exact Ev.step (fun k => by rw [laws_toCornerS.l0]) (Ev.neg (by omega) (Ev.fin rfl))
theorem eqCorners (l : List S37) (h : l.length ≤ 1048576) : Ev (fun k => laws_eqCornerS.f k l l) true := by
  unfold laws_eqCornerS.f
  refine Ev.pos rfl ?_
  refine count_ev0 (laws_eqCornerS.l0 · l l ·) l.length true (fun i hi hk => ?_) ?_
  · have ha := w64 (x := (i : Int) + 1) (by omega) (by omega)
    refine Ev.step (fun k => by rw [laws_eqCornerS.l0]) (Ev.pos (by omega) (Ev.pos (by omega) (Ev.pos (by omega) ?_)))
    refine Ev.nobind (a := true) (by simp [laws_eqCorner.f]) (Ev.pos rfl ?_)
    rw [ha]; exact hk
  · exact Ev.step (fun k => by rw [laws_eqCornerS.l0]) (Ev.neg (by omega) (Ev.fin rfl))
theorem markCorners (l : List S37) (h : l.length ≤ 1048576) : Ev (fun k => laws_markCornerS.f k l 1) (1 + 2 * (l.length : Int), marksG mkC 2 l.length 1) := by
  unfold laws_markCornerS.f
  refine mark_ev0 mkC 2 l (fun k x j i => laws_markCornerS.l0 k x j i) (by omega) (by omega) (by omega) (fun x j i hi r h0 h1 h2 hk => ?_) (fun x j => ?_)
  · have ha := w64 (x := (i : Int) + 1) (by omega) (by omega)
    have hb := w64 (x := j + 1) (by omega) (by omega)
    have hc := w64 (x := j + 1 + 1) (by omega) (by omega)
    refine Ev.step (fun k => by rw [laws_markCornerS.l0]) (Ev.pos (by omega) (Ev.pos (by omega) ?_))
    refine Ev.nobind rfl ?_
    rw [ha, hb, hc, rdC x i hi, rdC _ i (by simp; omega)]
    simp only [Int.toNat_natCast, List.set_set, List.getElem_set_self]
    rw [show j + 1 + 1 = j + 2 by omega]
    exact hk
  · exact Ev.step (fun k => by rw [laws_markCornerS.l0]) (Ev.neg (by omega) (Ev.fin rfl))
theorem FnExactHullOf : laws_FnExactHullOf.Pure := by
  intro l0 w0
  have hf := fit_of w0
  refine Ev.rounds (g := fun k => laws_FnExactHullOf.f k l0) ?_
  unfold laws_FnExactHullOf.f
  refine Ev.nobind (szCorners l0 w0.1) (Ev.ite (fun _ => Ev.fin rfl) (fun h0 => ?_))
  have hl : l0.length ≤ 1048576 := by split at h0 <;> omega
  have t0 := toCorners l0 hl
  have hj := res_len (l0.map conv)
  have hs := specHull hf
  have hi := implHull hf
  have hm : (l0.map conv).length ≤ 1048576 := by simpa using hl
  generalize l0.map conv = l at t0 hs hi hj hm
  generalize hullRes l = v at hj hs hi
  have hq := eqStone v.1 (by omega)
  refine Ev.bind t0 (Ev.bind hs (Ev.bind t0 (Ev.bind hi (Ev.bind hq (Ev.pos rfl ?_)))))
  refine Ev.step (fun k => by rw [laws_FnExactHullOf.j0]) ?_
  refine Ev.neg (by simp) (Ev.bind t0 (Ev.bind (eqCorners l hm) (Ev.pos rfl ?_)))
  refine Ev.bind (markCorners l hm) (Ev.neg (by show ¬ (1 + 2 * (l.length : Int) < 0); omega) (Ev.bind hq (Ev.pos rfl ?_)))
  refine Ev.step (fun k => by rw [laws_FnExactHullOf.j1]) ?_
  refine Ev.neg (by simp) ?_
  refine Ev.bind (markStone v.1 (by omega)) (Ev.bind (heldStone v.1.length (by omega)) ?_)
  refine Ev.neg (by omega) (Ev.pos rfl ?_)
  refine Ev.bind t0 (Ev.bind hi (Ev.bind hq (Ev.pos rfl ?_)))
  refine Ev.step (fun k => by rw [laws_FnExactHullOf.j2]) ?_
  refine Ev.neg (by simp) (Ev.bind (heldStone v.1.length (by omega)) ?_)
  refine Ev.neg (by omega) ?_
  exact Ev.pos rfl (Ev.fin rfl)
end Go.Proofs.Ytgefjglbaekegaa.Pure
