/- The program's FirstBars answers what the reference's FirstBars answers, at all lengths, saws and pieces. -/
import Derived.Test.YtadighbpjanjbaaLongestKit
import Derived.Test.YtadighbpjanjbaaPAxf10
import Derived.Test.YtadighbpjanjbaaPAxf11
import Derived.Test.YtadighbpjanjbaaPAxf15
import Derived.Test.YtadighbpjanjbaaPAxf19
import Derived.Test.YtadighbpjanjbaaPAxf20
import Derived.Test.YtadighbpjanjbaaPAxf29
import Derived.Test.YtadighbpjanjbaaPAxf3
import Derived.Test.YtadighbpjanjbaaPAxf4
import Derived.Test.YtadighbpjanjbaaPAxf6
import Derived.Test.YtadighbpjanjbaaPAxgLaw
namespace Go.Proofs.Ytadighbpjanjbaa.Pure
set_option linter.unusedSimpArgs false
set_option linter.unusedVariables false
open Go.RowKit Go.Proofs.Ytadighbpjanjbaa.PA Go.Proofs.Ytadighbpjanjbaa.Base Go.Proofs.Ytadighbpjanjbaa.BarsKit Go.Proofs.Ytadighbpjanjbaa.RoomKit Go.Proofs.Ytadighbpjanjbaa.LongestKit Go.Proofs.YtadighbpjanjbaaW.PrintWords Go.Proofs.YtadighbpjanjbaaW.PrintLast Go.Proofs.YtadighbpjanjbaaW.PrintMore

theorem rdL (xs : List (List Int)) (i : Nat) (h : i < xs.length) : rd_L1 xs (i : Int) = xs[i] := by
  simp [rd_L1, h]
/-! ### what a bar with a piece more uses -/
theorem useS_sum (p l : List Int) : ∀ (d i : Nat), i + d = l.length → useS p l d i = ((l.drop i).map fun y => p.getD y.toNat 0).sum
  | 0, i, h => by rw [List.drop_of_length_le (by omega)]; rfl
  | d + 1, i, h => by
    have hi : i < l.length := by omega
    rw [useS, useS_sum p l d (i + 1) (by omega), drop_at l i hi, List.map_cons, List.sum_cons, List.getD_eq_getElem?_getD (l := l), List.getElem?_eq_getElem hi]
    rfl
theorem use_more (p : List Int) (s q : Int) (l : List Int) (h : l ≠ []) : use p s (l ++ [q]) = use p s l + s + p.getD q.toNat 0 := by
  have h0 : l.length ≠ 0 := fun e => h (List.eq_nil_of_length_eq_zero e)
  unfold use
  rw [if_neg (by simp), if_neg h0, useS_sum p (l ++ [q]) _ 0 (by simp), useS_sum p l _ 0 (by simp), List.drop_zero, List.drop_zero, List.map_append, List.sum_append, List.map_singleton, List.length_append]
  simp only [List.length_singleton, List.sum_cons, List.sum_nil, Int.add_zero]
  generalize (l.map fun y => p.getD y.toNat 0).sum = z
  obtain ⟨n, hn⟩ : ∃ n : Nat, l.length = n + 1 := ⟨l.length - 1, by omega⟩
  rw [hn]
  have e1 : (((n + 1 + 1 : Nat) : Int) - 1) * s = ((n + 1 : Nat) : Int) * s := by congr 1; omega
  have e2 : (((n + 1 : Nat) : Int) - 1) * s = (n : Int) * s := by congr 1; omega
  have e3 : ((n + 1 : Nat) : Int) * s = (n : Int) * s + s := by rw [Int.natCast_add, Int.add_mul]; simp
  rw [e1, e2, e3]; omega
def room (a s : Int) (p : List Int) (q : Int) (b : List Int) : Bool := decide (use p s (b ++ [q]) ≤ a)
def put (bars : List (List Int)) (i : Nat) (q : Int) : List (List Int) := if i = bars.length then bars ++ [[q]] else bars.set i (bars.getD i [] ++ [q])
def next (a s : Int) (p : List Int) (bars : List (List Int)) (q : Int) : List (List Int) := put bars (bars.findIdx (room a s p q)) q
/-- Bars of places below n, none empty, each of at most m places, m bars at most. -/
def Good (n m : Nat) (bars : List (List Int)) : Prop := bars.length ≤ m ∧ ∀ b ∈ bars, b ≠ [] ∧ b.length ≤ m ∧ ∀ y ∈ b, 0 ≤ y ∧ y < (n : Int)
theorem good_put {n m : Nat} {bars : List (List Int)} {q : Int} (h : Good n m bars) (hq : 0 ≤ q ∧ q < (n : Int)) (i : Nat) (hi : i ≤ bars.length) : Good n (m + 1) (put bars i q) := by
  have hb : ∀ b ∈ bars, b ≠ [] ∧ b.length ≤ m + 1 ∧ ∀ y ∈ b, 0 ≤ y ∧ y < (n : Int) := fun b hb => by
    have := h.2 b hb
    exact ⟨this.1, by omega, this.2.2⟩
  unfold put
  by_cases e : i = bars.length
  · rw [if_pos e]
    refine ⟨by have := h.1; simp; omega, fun b hm => ?_⟩
    rcases List.mem_append.1 hm with hm | hm
    · exact hb b hm
    · rw [List.mem_singleton] at hm
      subst hm
      refine ⟨by simp, by simp, fun y hy => ?_⟩
      rw [List.mem_singleton] at hy
      rw [hy]; exact hq
  · rw [if_neg e]
    refine ⟨by have := h.1; rw [List.length_set]; omega, fun b hm => ?_⟩
    rcases List.mem_or_eq_of_mem_set hm with hm | hm
    · exact hb b hm
    · have hg : bars.getD i [] = bars[i]'(by omega) := by rw [List.getD_eq_getElem?_getD, List.getElem?_eq_getElem (by omega)]; rfl
      have := h.2 (bars[i]'(by omega)) (List.getElem_mem _)
      subst hm
      rw [hg]
      refine ⟨by simp, by rw [List.length_append]; simp; omega, fun y hy => ?_⟩
      rcases List.mem_append.1 hy with hy | hy
      · exact this.2.2 y hy
      · rw [List.mem_singleton] at hy
        rw [hy]; exact hq
theorem ix_good {n : Nat} {b : List Int} (h : ∀ y ∈ b, 0 ≤ y ∧ y < (n : Int)) : ∀ i, i < b.length → 0 ≤ b.getD i 0 ∧ b.getD i 0 < (n : Int) := by
  intro i hi
  rw [List.getD_eq_getElem?_getD, List.getElem?_eq_getElem hi]
  exact h _ (List.getElem_mem hi)
/-! ### the program's rounds -/
theorem implRoom {a s : Int} {p : List Int} (hp : Small p s) (q : Int) (hq : 0 ≤ q ∧ q < (p.length : Int)) (b : List Int) (hl : b.length ≤ 1000) (hb : ∀ y ∈ b, 0 ≤ y ∧ y < (p.length : Int)) : Ev (fun k => impl_FirstBars_1.f k b a s p q) (room a s p q b) := by
  unfold impl_FirstBars_1.f impl_hasRoom.f room
  have hc : slices_Clone_int64_int64.f b = some b := by unfold slices_Clone_int64_int64.f; rw [if_pos (by omega)]
  refine Ev.nobind hc (Ev.pos (by omega) (Ev.bind (implUse hp (b ++ [q]) (by simp; omega) (ix_good (fun y hy => ?_))) (Ev.fin rfl)))
  rcases List.mem_append.1 hy with hy | hy
  · exact hb y hy
  · rw [List.mem_singleton] at hy
    rw [hy]; exact hq
theorem idxO_ev {α : Type} (f : Nat → α → Option Bool) (g : α → Bool) : ∀ (l : List α) (i : Int), (∀ x ∈ l, Ev (fun k => f k x) (g x)) → Ev (fun k => idxO (f k) l i) (if l.any g then (l.findIdx g : Int) + i else -1)
  | [], i, _ => Ev.fin rfl
  | x :: xs, i, h => by
    show Ev (fun k => (f k x).bind fun b => if b = true then some i else idxO (f k) xs (i + 1)) _
    refine Ev.bind (h x (by simp)) ?_
    rw [List.any_cons, List.findIdx_cons]
    cases hq : g x with
    | true => exact Ev.pos rfl (Ev.fin (by simp))
    | false =>
      refine Ev.neg (by decide) (Ev.to (idxO_ev f g xs (i + 1) (fun y hy => h y (by simp [hy]))) ?_)
      simp only [Bool.false_or, cond_false]
      split
      · omega
      · rfl
theorem implLoop {a s : Int} {p : List Int} (hp : Small p s) (order : List Int) (ho : ∀ q ∈ order, 0 ≤ q ∧ q < (p.length : Int)) (hl : order.length ≤ 14) : ∀ (d i : Nat) (bars : List (List Int)), i + d = order.length → Good p.length i bars →
    Ev (fun k => impl_FirstBars.l0 k a s bars p order (order.length : Int) (i : Int)) ((order.drop i).foldl (next a s p) bars, 0)
  | 0, i, bars, h, hg => by
    refine Ev.step (fun k => by rw [impl_FirstBars.l0]) (Ev.neg (by omega) (Ev.fin ?_))
    rw [List.drop_of_length_le (by omega)]; rfl
  | d + 1, i, bars, h, hg => by
    have hi : i < order.length := by omega
    have hq := ho order[i] (List.getElem_mem hi)
    have hL := hg.1
    have ih := implLoop (a := a) hp order ho hl d (i + 1) (next a s p bars order[i]) (by omega) (good_put hg hq _ List.findIdx_le_length)
    refine Ev.step (fun k => by rw [impl_FirstBars.l0]) (Ev.pos (by omega) (Ev.pos (by omega) (Ev.pos (by omega) ?_)))
    rw [rd_nat order i hi, w64 (x := (i : Int) + 1) (by omega) (by omega), drop_at order i hi, List.foldl_cons]
    unfold impl_FirstBars_1.at_
    refine Ev.bind (idxO_ev (fun k x => impl_FirstBars_1.f k x a s p order[i]) (room a s p order[i]) bars 0 (fun b hb => implRoom hp _ hq b (by have := (hg.2 b hb).2.1; omega) (hg.2 b hb).2.2)) ?_
    rw [Int.add_zero]
    by_cases c : bars.any (room a s p order[i]) = true
    · have hf : bars.findIdx (room a s p order[i]) < bars.length := by
        rw [List.findIdx_lt_length]
        rw [List.any_eq_true] at c
        exact c
      have hn : next a s p bars order[i] = bars.set (bars.findIdx (room a s p order[i])) (bars[bars.findIdx (room a s p order[i])] ++ [order[i]]) := by
        unfold next put
        rw [if_neg (by omega), List.getD_eq_getElem?_getD, List.getElem?_eq_getElem hf]; rfl
      rw [hn] at ih ⊢
      rw [if_pos c, rdL bars _ hf, Int.toNat_natCast]
      have hx := (hg.2 _ (List.getElem_mem hf)).2.1
      exact Ev.neg (by omega) (Ev.pos (by omega) (Ev.pos (by omega) (Ev.pos (by omega) ih)))
    · have hf : bars.findIdx (room a s p order[i]) = bars.length := by
        rw [List.findIdx_eq_length]
        intro x hx
        rw [Bool.not_eq_true, List.any_eq_false] at c
        simpa using c x hx
      have hn : next a s p bars order[i] = bars ++ [[order[i]]] := by
        unfold next put
        rw [if_pos hf]
      rw [hn] at ih ⊢
      rw [if_neg c]
      exact Ev.pos (by decide) (Ev.pos (by omega) ih)
/-! ### the reference's rounds -/
theorem specPut (bars : List (List Int)) (at_ : Nat) (q : Int) (hl : bars.length ≤ 1000) (hb : ∀ b ∈ bars, b.length ≤ 1000) (ha : at_ ≤ bars.length) : Ev (fun k => spec_l04Put.f k bars (at_ : Int) q) (put bars at_ q) := by
  unfold spec_l04Put.f
  have hs : (bars.set at_ (bars.getD at_ [] ++ [q])).length = bars.length := List.length_set
  have key : ∀ (d i : Nat), i + d = bars.length → Ev (fun k => spec_l04Put.l0 k bars (at_ : Int) q ((bars.set at_ (bars.getD at_ [] ++ [q])).take i) (i : Int)) (put bars at_ q) := by
    intro d
    induction d with
    | zero =>
      intro i h
      obtain rfl : i = bars.length := by omega
      refine Ev.step (fun k => by rw [spec_l04Put.l0]) (Ev.neg (by omega) ?_)
      rw [List.take_of_length_le (by omega)]
      unfold put
      refine Ev.ite (fun e => ?_) (fun e => ?_)
      · rw [if_pos (show at_ = bars.length by omega), List.set_eq_of_length_le (by omega)]
        exact Ev.pos (by omega) (Ev.fin rfl)
      · rw [if_neg (by omega)]; exact Ev.fin rfl
    | succ d ih =>
      intro i h
      have hi : i < bars.length := by omega
      have hbi := hb _ (List.getElem_mem hi)
      have ih := ih (i + 1) (by omega)
      rw [List.take_succ_eq_append_getElem (by omega), List.getElem_set] at ih
      refine Ev.step (fun k => by rw [spec_l04Put.l0]) (Ev.pos (by omega) ?_)
      refine Ev.nobind rfl (Ev.pos (by omega) ?_)
      rw [rdL bars i hi, w64 (x := (i : Int) + 1) (by omega) (by omega), List.nil_append]
      refine Ev.pos (by rw [List.length_nil]; omega) (Ev.nobind rfl (Ev.ite (fun e => ?_) (fun e => ?_)))
      · have e' : at_ = i := by omega
        subst e'
        rw [if_pos rfl, List.getD_eq_getElem?_getD, List.getElem?_eq_getElem hi, Option.getD_some] at ih
        rw [List.getD_eq_getElem?_getD, List.getElem?_eq_getElem hi, Option.getD_some]
        exact Ev.pos (by omega) (Ev.pos (by rw [List.length_take]; omega) ih)
      · rw [if_neg (by omega)] at ih
        exact Ev.pos (by rw [List.length_take]; omega) ih
  have := key bars.length 0 (by omega)
  rw [List.take_zero] at this
  exact this
theorem specFind {a s : Int} {p : List Int} (ha : a ≤ 10000) (hp : Small p s) (order : List Int) (i : Nat) (hi : i < order.length) (ho : order.length ≤ 14) (hq : 0 ≤ order[i] ∧ order[i] < (p.length : Int)) (bars : List (List Int)) (hg : Good p.length i bars) (r : List (List Int) × Int)
    (h : Ev (fun k => spec_FirstBars.l0 k a s p (next a s p bars order[i]) order ((i + 1 : Nat) : Int)) r) :
    ∀ (d j : Nat), j + d = bars.length → (∀ x ∈ bars.take j, room a s p order[i] x = false) → Ev (fun k => spec_FirstBars.l1 k a s p bars order (i : Int) (j : Int)) r := by
  have hL := hg.1
  have hput : ∀ j : Nat, j ≤ bars.length → bars.findIdx (room a s p order[i]) = j → Ev (fun k => (spec_l04Put.f k bars (j : Int) order[i]).bind fun t => spec_FirstBars.l0 k a s p t order ((i + 1 : Nat) : Int)) r := by
    intro j hj hf
    refine Ev.bind (specPut bars j order[i] (by omega) (fun b hb => by have := (hg.2 b hb).2.1; omega) hj) ?_
    unfold next at h
    rw [hf] at h
    exact h
  intro d
  induction d with
  | zero =>
    intro j hj hm
    obtain rfl : j = bars.length := by omega
    rw [List.take_length] at hm
    refine Ev.step (fun k => by rw [spec_FirstBars.l1]) (Ev.neg (by omega) (Ev.pos (by omega) (Ev.pos (by omega) ?_)))
    rw [rd_nat order i hi, w64 (x := (i : Int) + 1) (by omega) (by omega)]
    exact hput bars.length (Nat.le_refl _) (List.findIdx_eq_length.2 hm)
  | succ d ih =>
    intro j hj hm
    have hjl : j < bars.length := by omega
    have hb := hg.2 _ (List.getElem_mem hjl)
    have hu := specUse hp bars[j] (by omega) (ix_good hb.2.2)
    have hmore := use_more p s order[i] bars[j] hb.1
    obtain ⟨q, hqn⟩ : ∃ q : Nat, order[i] = (q : Int) := ⟨order[i].toNat, by omega⟩
    have hv := hp.2.2 q
    have hs := hp.1
    have hu0 : 0 ≤ use p s bars[j] ∧ use p s bars[j] ≤ 1000000 := by
      have hsum : ∀ l : List Int, 0 ≤ (l.map fun y => p.getD y.toNat 0).sum ∧ (l.map fun y => p.getD y.toNat 0).sum ≤ 10000 * (l.length : Int) := by
        intro l
        induction l with
        | nil => simp
        | cons y ys ihy =>
          have := hp.2.2 y.toNat
          rw [List.map_cons, List.sum_cons, List.length_cons]
          omega
      have h1 := hsum bars[j]
      unfold use
      rw [if_neg (fun e => hb.1 (List.eq_nil_of_length_eq_zero e)), useS_sum p bars[j] _ 0 (by simp), List.drop_zero]
      have hbl : 1 ≤ bars[j].length := Nat.pos_of_ne_zero (fun e => hb.1 (List.eq_nil_of_length_eq_zero e))
      have m0 : 0 ≤ ((bars[j].length : Int) - 1) * s := Int.mul_nonneg (by omega) hs.1
      have m1 : ((bars[j].length : Int) - 1) * s ≤ 14 * 10000 := Int.mul_le_mul (by omega) hs.2 hs.1 (by omega)
      omega
    refine Ev.step (fun k => by rw [spec_FirstBars.l1]) (Ev.pos (by omega) (Ev.pos (by omega) ?_))
    rw [rdL bars j hjl, rd_nat order i hi, w64 (x := (i : Int) + 1) (by omega) (by omega), w64 (x := (j : Int) + 1) (by omega) (by omega)]
    refine Ev.bind hu (Ev.pos (by omega) (Ev.pos (by omega) (Ev.pos hq.1 (Ev.pos hq.2 ?_))))
    have hrq : rd p order[i] = p.getD order[i].toNat 0 := by rw [hqn, rdI, Int.toNat_natCast]
    have hvq : 0 ≤ p.getD order[i].toNat 0 ∧ p.getD order[i].toNat 0 ≤ 10000 := hp.2.2 _
    rw [hrq, w64 (x := use p s bars[j] + s) (by omega) (by omega), w64 (x := use p s bars[j] + s + p.getD order[i].toNat 0) (by omega) (by omega), ← hmore]
    refine Ev.ite (fun c => ?_) (fun c => ?_)
    · refine ih (j + 1) (by omega) (take_miss_at hjl hm ?_)
      unfold room
      rw [decide_eq_false (by omega)]
    · refine hput j (by omega) ?_
      rw [List.findIdx_eq hjl]
      refine ⟨by unfold room; rw [decide_eq_true (by omega)], fun z hz => ?_⟩
      have hzl : z < (bars.take j).length := by rw [List.length_take]; omega
      have := hm (bars.take j)[z] (List.getElem_mem hzl)
      simpa using this
theorem specLoop {a s : Int} {p : List Int} (ha : a ≤ 10000) (hp : Small p s) (order : List Int) (ho : ∀ q ∈ order, 0 ≤ q ∧ q < (p.length : Int)) (hl : order.length ≤ 14) : ∀ (d i : Nat) (bars : List (List Int)), i + d = order.length → Good p.length i bars →
    Ev (fun k => spec_FirstBars.l0 k a s p bars order (i : Int)) ((order.drop i).foldl (next a s p) bars, 0)
  | 0, i, bars, h, hg => by
    refine Ev.step (fun k => by rw [spec_FirstBars.l0]) (Ev.neg (by omega) (Ev.fin ?_))
    rw [List.drop_of_length_le (by omega)]; rfl
  | d + 1, i, bars, h, hg => by
    have hi : i < order.length := by omega
    have hq := ho order[i] (List.getElem_mem hi)
    refine Ev.step (fun k => by rw [spec_FirstBars.l0]) (Ev.pos (by omega) ?_)
    rw [drop_at order i hi, List.foldl_cons]
    exact specFind ha hp order i hi hl hq bars hg _ (specLoop ha hp order ho hl d (i + 1) _ (by omega) (good_put hg hq _ List.findIdx_le_length)) bars.length 0 (by omega) (by simp)
theorem good_fold {a s : Int} {p : List Int} : ∀ (l : List Int) (m : Nat) (bars : List (List Int)), (∀ q ∈ l, 0 ≤ q ∧ q < (p.length : Int)) → Good p.length m bars → Good p.length (m + l.length) (l.foldl (next a s p) bars)
  | [], m, bars, _, hg => hg
  | q :: l, m, bars, ho, hg => by
    rw [List.foldl_cons, List.length_cons, show m + (l.length + 1) = m + 1 + l.length by omega]
    exact good_fold l (m + 1) _ (fun x hx => ho x (List.mem_cons_of_mem _ hx)) (good_put hg (ho q List.mem_cons_self) _ List.findIdx_le_length)
def res (a s : Int) (p : List Int) : List (List Int) × Int := if barB a s p then ((srt (rd p) p.length).foldl (next a s p) [], 0) else ([], 2)
theorem res_good (a s : Int) (p : List Int) : Good p.length 14 (res a s p).1 := by
  unfold res
  cases e : barB a s p with
  | false => exact ⟨Nat.zero_le _, fun b hb => by cases hb⟩
  | true =>
    have hl := (bar_of e).2.2.1
    rw [if_pos rfl]
    have := good_fold (a := a) (s := s) (p := p) (srt (rd p) p.length) 0 [] (fun q hq => srt_mem _ _ _ hq) ⟨Nat.le_refl _, fun b hb => by cases hb⟩
    rw [srt_length, Nat.zero_add] at this
    refine ⟨Nat.le_trans this.1 hl, fun b hb => ?_⟩
    have := this.2 b hb
    exact ⟨this.1, by omega, this.2.2⟩
theorem specRes (a s : Int) (p : List Int) (hl : p.length ≤ 1048576) : Ev (fun k => spec_FirstBars.f k a s p) (res a s p) := by
  unfold spec_FirstBars.f res
  refine Ev.bind (specBars a s p hl) ?_
  cases e : barB a s p with
  | false => exact Ev.neg (by simp) (Ev.fin rfl)
  | true =>
    have hb := bar_of e
    rw [if_pos rfl]
    refine Ev.pos rfl (Ev.bind (specLongest p hl) ?_)
    have hs := srt_length (rd p) p.length
    exact specLoop (by omega) (small_of e) (srt (rd p) p.length) (fun q hq => srt_mem _ _ _ hq) (by omega) (srt (rd p) p.length).length 0 [] (by omega) ⟨Nat.le_refl _, fun b hb => by cases hb⟩
theorem implRes (a s : Int) (p : List Int) : Ev (fun k => impl_FirstBars.f k a s p) (res a s p) := by
  unfold impl_FirstBars.f res
  refine Ev.nobind (implBars a s p) ?_
  cases e : barB a s p with
  | false => exact Ev.neg (by simp) (Ev.fin rfl)
  | true =>
    have hb := bar_of e
    have hsm := small_of e
    rw [if_pos rfl]
    refine Ev.pos rfl (Ev.bind (implLongest p hb.2.2.1 hsm.2.2) ?_)
    have hs := srt_length (rd p) p.length
    exact implLoop hsm (srt (rd p) p.length) (fun q hq => srt_mem _ _ _ hq) (by omega) (srt (rd p) p.length).length 0 [] (by omega) ⟨Nat.le_refl _, fun b hb => by cases hb⟩
/-! ### the law's own functions -/
theorem markRow (l : List Int) (j : Int) (h : l.length ≤ 1048577) (h0 : 0 ≤ j) (h1 : j ≤ 1000000000000000) : Ev (fun k => laws_markInt64S.f k l j) (j + (l.length : Int), marks (fun j => j) l.length j) := by
  unfold laws_markInt64S.f
  exact Ev.to (mark_loop (fun j => j) (fun k x j i => laws_markInt64S.l0 k x j i) (fun k x j i => by rw [laws_markInt64S.l0]) l.length 0 j l (by omega) (by omega) h0 (by omega)) (by simp)
theorem heldRow (n : Nat) (j : Int) (h : n ≤ 1048577) (h0 : 0 ≤ j) (h1 : j ≤ 1000000000000000) : Ev (fun k => laws_heldInt64S.f k (marks (fun j => j) n j) j) (j + (n : Int)) := by
  unfold laws_heldInt64S.f
  have hn := marks_length (fun j => j) n j
  exact held_loop (fun j => j) (marks (fun j => j) n j) (fun k j' i => laws_heldInt64S.l0 k (marks (fun j => j) n j) j' i) (by omega) (fun k j i => by rw [laws_heldInt64S.l0]) n 0 j (by omega) h0 (by omega) (by simp)
theorem eqRow (l : List Int) (h : l.length ≤ 1048577) : Ev (fun k => laws_eqInt64S.f k l l) true := by
  unfold laws_eqInt64S.f
  refine Ev.pos rfl (Ev.to (eq_loop (x0 := l) (x1 := l) (laws_eqInt64S.l0 · l l ·) (by omega) rfl (fun k i => by rw [laws_eqInt64S.l0]) l.length 0 (by omega)) (by simp))
def marksS : List Nat → Int → List (List Int)
  | [], _ => []
  | n :: ns, j => marks (fun j => j) n j :: marksS ns (j + (n : Int))
theorem marksS_length : ∀ (ns : List Nat) (j : Int), (marksS ns j).length = ns.length
  | [], _ => rfl
  | n :: ns, j => by rw [marksS, List.length_cons, List.length_cons, marksS_length ns]
def small (ns : List Nat) : Prop := ∀ n ∈ ns, n ≤ 1048577
theorem sum_le : ∀ (ns : List Nat), small ns → ns.sum ≤ ns.length * 1048577
  | [], _ => Nat.zero_le _
  | n :: ns, h => by
    have := sum_le ns (fun m hm => h m (List.mem_cons_of_mem _ hm))
    have := h n List.mem_cons_self
    rw [List.sum_cons, List.length_cons]
    omega
theorem markLoop (d : Nat) : ∀ (i : Nat) (j : Int) (x : List (List Int)), i + d = x.length → x.length ≤ 1048577 → small ((x.drop i).map (·.length)) → 0 ≤ j → j ≤ 1000000000000000 - 1048577 * (d : Int) →
    Ev (fun k => laws_markInt64SS.l0 k x j (i : Int)) (j + ((((x.drop i).map (·.length)).sum : Nat) : Int), x.take i ++ marksS ((x.drop i).map (·.length)) j) := by
  induction d with
  | zero =>
    intro i j x h hx hs h0 h1
    refine Ev.step (fun k => by rw [laws_markInt64SS.l0]) (Ev.neg (by omega) (Ev.fin ?_))
    rw [List.drop_of_length_le (by omega), List.take_of_length_le (by omega)]
    simp [marksS]
  | succ d ih =>
    intro i j x h hx hs h0 h1
    have hi : i < x.length := by omega
    rw [drop_at x i hi, List.map_cons] at hs
    have hn : x[i].length ≤ 1048577 := hs _ List.mem_cons_self
    refine Ev.step (fun k => by rw [laws_markInt64SS.l0]) (Ev.pos (by omega) (Ev.pos (by omega) ?_))
    rw [rdL x i hi, w64 (x := (i : Int) + 1) (by omega) (by omega), Int.toNat_natCast]
    refine Ev.bind (markRow x[i] j hn h0 (by omega)) ?_
    have hd : (x.set i (marks (fun j => j) x[i].length j)).drop (i + 1) = x.drop (i + 1) := List.drop_set_of_lt (by omega)
    have ht : (x.set i (marks (fun j => j) x[i].length j)).take (i + 1) = x.take i ++ [marks (fun j => j) x[i].length j] := by
      rw [List.take_succ_eq_append_getElem (by rw [List.length_set]; exact hi), List.take_set_of_le (by omega), List.getElem_set_self]
    have ih := ih (i + 1) (j + (x[i].length : Int)) (x.set i (marks (fun j => j) x[i].length j)) (by rw [List.length_set]; omega) (by rw [List.length_set]; exact hx) (by rw [hd]; exact fun n hn => hs n (List.mem_cons_of_mem _ hn)) (by omega) (by omega)
    rw [hd, ht] at ih
    refine Ev.to ih ?_
    rw [drop_at x i hi, List.map_cons, List.sum_cons, marksS, List.append_assoc]
    simp only [Prod.mk.injEq, List.singleton_append, and_true]
    omega
theorem markRows (x : List (List Int)) (hx : x.length ≤ 1048577) (hs : small (x.map (·.length))) : Ev (fun k => laws_markInt64SS.f k x 1) (1 + (((x.map (·.length)).sum : Nat) : Int), marksS (x.map (·.length)) 1) := by
  unfold laws_markInt64SS.f
  have := markLoop x.length 0 1 x (by omega) hx (by simpa using hs) (by omega) (by omega)
  simpa using this
theorem heldLoop (y : List (List Int)) (hy : y.length ≤ 1048577) (ns : List Nat) : ∀ (i : Nat) (j : Int), i + ns.length = y.length → y.drop i = marksS ns j → small ns → 0 ≤ j → j ≤ 1000000000000000 - 1048577 * (ns.length : Int) → Ev (fun k => laws_heldInt64SS.l0 k y j (i : Int)) (j + ((ns.sum : Nat) : Int)) := by
  induction ns with
  | nil =>
    intro i j h hd hs h0 h1
    rw [List.length_nil] at h
    refine Ev.step (fun k => by rw [laws_heldInt64SS.l0]) (Ev.neg (by omega) (Ev.fin (by simp)))
  | cons n ns ih =>
    intro i j h hd hs h0 h1
    rw [List.length_cons] at h h1
    have hi : i < y.length := by omega
    have hn := hs n List.mem_cons_self
    rw [drop_at y i hi, marksS] at hd
    obtain ⟨e1, e2⟩ := List.cons.inj hd
    refine Ev.step (fun k => by rw [laws_heldInt64SS.l0]) (Ev.pos (by omega) (Ev.pos (by omega) ?_))
    rw [rdL y i hi, w64 (x := (i : Int) + 1) (by omega) (by omega), e1]
    refine Ev.bind (heldRow n j hn h0 (by omega)) (Ev.neg (by omega) ?_)
    refine Ev.to (ih (i + 1) (j + (n : Int)) (by omega) e2 (fun m hm => hs m (List.mem_cons_of_mem _ hm)) (by omega) (by omega)) ?_
    rw [List.sum_cons]
    omega
theorem heldRows (ns : List Nat) (hl : ns.length ≤ 1048577) (hs : small ns) : Ev (fun k => laws_heldInt64SS.f k (marksS ns 1) 1) (1 + ((ns.sum : Nat) : Int)) := by
  unfold laws_heldInt64SS.f
  have hm := marksS_length ns 1
  exact heldLoop (marksS ns 1) (by omega) ns 0 1 (by omega) rfl hs (by omega) (by omega)
theorem eqRows (x : List (List Int)) (hx : x.length ≤ 1048577) (hs : small (x.map (·.length))) : Ev (fun k => laws_eqInt64SS.f k x x) true := by
  unfold laws_eqInt64SS.f
  refine Ev.pos rfl ?_
  have key : ∀ (d i : Nat), i + d = x.length → Ev (fun k => laws_eqInt64SS.l0 k x x (i : Int)) true := by
    intro d
    induction d with
    | zero =>
      intro i h
      exact Ev.step (fun k => by rw [laws_eqInt64SS.l0]) (Ev.neg (by omega) (Ev.fin rfl))
    | succ d ih =>
      intro i h
      have hi : i < x.length := by omega
      have hn : x[i].length ≤ 1048577 := hs _ (List.mem_map.2 ⟨_, List.getElem_mem hi, rfl⟩)
      refine Ev.step (fun k => by rw [laws_eqInt64SS.l0]) (Ev.pos (by omega) (Ev.pos (by omega) (Ev.pos (by omega) ?_)))
      rw [rdL x i hi, w64 (x := (i : Int) + 1) (by omega) (by omega)]
      exact Ev.bind (eqRow x[i] hn) (Ev.pos rfl (ih (i + 1) (by omega)))
  exact key x.length 0 (by omega)
theorem markInts (l : List Int) (h : l.length ≤ 281474976710656) : Ev (fun k => laws_markInt64S.f k l 1) (1 + (l.length : Int), marks (fun j => j) l.length 1) := by
  unfold laws_markInt64S.f
  exact Ev.to (mark_loop (fun j => j) (fun k x j i => laws_markInt64S.l0 k x j i) (fun k x j i => by rw [laws_markInt64S.l0]) l.length 0 1 l (by omega) (by omega) (by omega) (by omega)) (by simp)
theorem FnExactFirstBars : laws_FnExactFirstBars.Pure := by
  intro a0 a1 l2 w0 w1 m2 y2 w2
  refine Ev.rounds (g := fun k => laws_FnExactFirstBars.f k a0 a1 l2) ?_
  unfold laws_FnExactFirstBars.f
  refine Ev.ite (fun _ => Ev.fin rfl) (fun h0 => ?_)
  have t2 := toInts l2 (by omega)
  have hg := res_good a0 a1 l2
  have hs := specRes a0 a1 l2 (by omega)
  have hi := implRes a0 a1 l2
  generalize res a0 a1 l2 = v at hg hs hi
  have hL := hg.1
  have hsm : small (v.1.map (·.length)) := fun n hn => by
    obtain ⟨b, hb, rfl⟩ := List.mem_map.1 hn
    have := (hg.2 b hb).2.1
    omega
  have hlen : (v.1.map (·.length)).length ≤ 1048577 := by rw [List.length_map]; omega
  have hq := eqRows v.1 (by omega) hsm
  refine Ev.bind t2 (Ev.bind hs (Ev.bind t2 (Ev.bind hi (Ev.bind hq (Ev.pos (by simp) ?_)))))
  refine Ev.step (fun k => by rw [laws_FnExactFirstBars.j0]) ?_
  refine Ev.neg (by simp) (Ev.bind t2 (Ev.bind (eqInts l2 l2 (by omega)) (Ev.pos (by simp) ?_)))
  refine Ev.bind (markInts l2 (by omega)) (Ev.neg (by simp only []; omega) (Ev.bind hq (Ev.pos (by simp) ?_)))
  refine Ev.step (fun k => by rw [laws_FnExactFirstBars.j1]) ?_
  refine Ev.neg (by simp) (Ev.bind (markRows v.1 (by omega) hsm) (Ev.bind (heldRows _ hlen hsm) (Ev.neg (by omega) (Ev.pos rfl ?_))))
  refine Ev.bind t2 (Ev.bind hi (Ev.bind hq (Ev.pos (by simp) ?_)))
  refine Ev.step (fun k => by rw [laws_FnExactFirstBars.j2]) ?_
  refine Ev.neg (by simp) (Ev.bind (heldRows _ hlen hsm) (Ev.neg (by omega) ?_))
  exact Ev.pos rfl (Ev.fin rfl)
end Go.Proofs.Ytadighbpjanjbaa.Pure
