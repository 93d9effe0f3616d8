/- The program's BestLengths answers what the reference's BestLengths answers, at all numbers and lists; no condition. -/
import Derived.Test.YtabflbpcdkhnaaaUseKit
import Derived.Test.YtabflbpcdkhnaaaPAxf11
import Derived.Test.YtabflbpcdkhnaaaPAxf12
import Derived.Test.YtabflbpcdkhnaaaPAxf13
import Derived.Test.YtabflbpcdkhnaaaPAxf14
import Derived.Test.YtabflbpcdkhnaaaPAxf28
import Derived.Test.YtabflbpcdkhnaaaPAxf29
import Derived.Test.YtabflbpcdkhnaaaPAxf4
import Derived.Test.YtabflbpcdkhnaaaPAxf41
namespace Go.Proofs.Ytabflbpcdkhnaaa.Pure
set_option linter.unusedSimpArgs false
set_option linter.unusedVariables false
open Go.RowKit Go.Proofs.Ytabflbpcdkhnaaa.PA Go.Proofs.Ytabflbpcdkhnaaa.Base Go.Proofs.Ytabflbpcdkhnaaa.BarsKit Go.Proofs.Ytabflbpcdkhnaaa.UseKit Go.Proofs.YtabflbpcdkhnaaaW.PrintWords Go.Proofs.YtabflbpcdkhnaaaW.PrintLast Go.Proofs.YtabflbpcdkhnaaaW.PrintMore

/-! ### lists that come before others -/
def before : List Int → List Int → Bool
  | [], [] => false
  | [], _ :: _ => true
  | _ :: _, [] => false
  | x :: xs, y :: ys => if x = y then before xs ys else decide (x < y)
theorem before_at (a b : List Int) (i : Nat) (h0 : i < a.length) (h1 : i < b.length) : before (a.drop i) (b.drop i) = if a.getD i 0 = b.getD i 0 then before (a.drop (i + 1)) (b.drop (i + 1)) else decide (a.getD i 0 < b.getD i 0) := by
  rw [drop_at a i h0, drop_at b i h1, before, List.getD_eq_getElem?_getD, List.getD_eq_getElem?_getD, List.getElem?_eq_getElem h0, List.getElem?_eq_getElem h1]; rfl
theorem before_end (a b : List Int) (i : Nat) (h0 : i ≤ a.length) (h1 : i ≤ b.length) (h : i = a.length ∨ i = b.length) : before (a.drop i) (b.drop i) = decide ((a.length : Int) < (b.length : Int)) := by
  by_cases e : i = a.length
  · rw [List.drop_of_length_le (by omega : a.length ≤ i)]
    by_cases e2 : i = b.length
    · rw [List.drop_of_length_le (by omega : b.length ≤ i), before, decide_eq_false (by omega)]
    · rw [drop_at b i (by omega), before, decide_eq_true (by omega)]
  · rw [List.drop_of_length_le (by omega : b.length ≤ i), drop_at a i (by omega), before, decide_eq_false (by omega)]
theorem specBefore (a b : List Int) (ha : a.length ≤ 1048576) (hb : b.length ≤ 1048576) : Ev (fun k => spec_l04Before.f k a b) (before a b) := by
  unfold spec_l04Before.f
  have key : ∀ d i : Nat, i + d = a.length → i ≤ b.length → Ev (fun k => spec_l04Before.l0 k a b (i : Int)) (before (a.drop i) (b.drop i)) := by
    intro d
    induction d with
    | zero =>
      intro i h hi
      refine Ev.step (fun k => by rw [spec_l04Before.l0]) ?_
      refine Ev.neg (by omega) (Ev.step (fun k => by rw [spec_l04Before.j1]) ?_)
      exact Ev.neg (by simp) (Ev.fin (before_end a b i (by omega) hi (Or.inl (by omega))).symm)
    | succ d ih =>
      intro i h hi
      refine Ev.step (fun k => by rw [spec_l04Before.l0]) ?_
      refine Ev.pos (by omega) (Ev.step (fun k => by rw [spec_l04Before.j1]) ?_)
      by_cases e : i = b.length
      · exact Ev.neg (by simp; omega) (Ev.fin (before_end a b i (by omega) hi (Or.inr e)).symm)
      · rw [rdI a i, rdI b i, w64 (x := (i : Int) + 1) (by omega) (by omega), before_at a b i (by omega) (by omega)]
        refine Ev.pos (by simp; omega) (Ev.pos (by omega) (Ev.pos (by omega) (Ev.pos (by omega) (Ev.ite (fun q => ?_) (fun q => ?_)))))
        · rw [if_pos q]; exact ih (i + 1) (by omega) (by omega)
        · rw [if_neg q]; exact Ev.fin rfl
  exact key a.length 0 (by omega) (by omega)
theorem cmp (x y : Int) : cmp_Compare_int64.f x y = some (if x < y then -1 else if x > y then 1 else 0) := by
  unfold cmp_Compare_int64.f cmp_isNaN_int64.f
  have h : ∀ z : Int, (z != z) = false := fun z => by simp
  rw [h, h, Option.bind_some, Option.bind_some, if_neg (by decide), if_neg (by decide)]
  by_cases c : x < y
  · rw [if_pos c, if_pos c]
  · rw [if_neg c, if_neg c]
    by_cases d : x > y
    · rw [if_pos d, if_pos d]
    · rw [if_neg d, if_neg d]
theorem implBefore (a b : List Int) (ha : a.length ≤ 1048576) (hb : b.length ≤ 1048576) : ∃ v, Ev (fun k => slices_Compare_int64_int64.f k a b) v ∧ decide (v < 0) = before a b := by
  unfold slices_Compare_int64_int64.f
  have key : ∀ d i : Nat, i + d = a.length → i ≤ b.length → ∃ v, Ev (fun k => slices_Compare_int64_int64.l0 k a b a (a.length : Int) (i : Int)) v ∧ decide (v < 0) = before (a.drop i) (b.drop i) := by
    intro d
    induction d with
    | zero =>
      intro i h hi
      refine ⟨if (a.length : Int) < (b.length : Int) then -1 else 0, ?_, ?_⟩
      · refine Ev.step (fun k => by rw [slices_Compare_int64_int64.l0]) ?_
        refine Ev.neg (by omega) (Ev.ite (fun q => ?_) (fun q => ?_))
        · rw [if_pos q]; exact Ev.fin rfl
        · rw [if_neg q]; exact Ev.fin rfl
      · rw [before_end a b i (by omega) hi (Or.inl (by omega))]
        by_cases q : (a.length : Int) < (b.length : Int)
        · rw [if_pos q, decide_eq_true q]; rfl
        · rw [if_neg q, decide_eq_false q]; rfl
    | succ d ih =>
      intro i h hi
      by_cases e : i = b.length
      · refine ⟨1, ?_, ?_⟩
        · refine Ev.step (fun k => by rw [slices_Compare_int64_int64.l0]) ?_
          exact Ev.pos (by omega) (Ev.pos (by omega) (Ev.pos (by omega) (Ev.pos (by omega) (Ev.fin rfl))))
        · rw [before_end a b i (by omega) hi (Or.inr e), decide_eq_false (by omega : ¬ (a.length : Int) < (b.length : Int))]; rfl
      · rw [before_at a b i (by omega) (by omega)]
        by_cases q : a.getD i 0 = b.getD i 0
        · obtain ⟨v, h1, h2⟩ := ih (i + 1) (by omega) (by omega)
          refine ⟨v, ?_, by rw [if_pos q]; exact h2⟩
          refine Ev.step (fun k => by rw [slices_Compare_int64_int64.l0]) ?_
          rw [rdI a i, rdI b i, w64 (x := (i : Int) + 1) (by omega) (by omega)]
          refine Ev.pos (by omega) (Ev.pos (by omega) (Ev.pos (by omega) (Ev.neg (by omega) (Ev.pos (by omega) (Ev.nobind (cmp _ _) ?_)))))
          rw [if_neg (by omega), if_neg (by omega)]
          exact Ev.pos rfl h1
        · rw [if_neg q]
          by_cases c : a.getD i 0 < b.getD i 0
          · refine ⟨-1, ?_, by rw [decide_eq_true c]; rfl⟩
            refine Ev.step (fun k => by rw [slices_Compare_int64_int64.l0]) ?_
            rw [rdI a i, rdI b i]
            refine Ev.pos (by omega) (Ev.pos (by omega) (Ev.pos (by omega) (Ev.neg (by omega) (Ev.pos (by omega) (Ev.nobind (cmp _ _) ?_)))))
            rw [if_pos c]
            exact Ev.neg (by decide) (Ev.fin rfl)
          · refine ⟨1, ?_, by rw [decide_eq_false c]; rfl⟩
            refine Ev.step (fun k => by rw [slices_Compare_int64_int64.l0]) ?_
            rw [rdI a i, rdI b i]
            refine Ev.pos (by omega) (Ev.pos (by omega) (Ev.pos (by omega) (Ev.neg (by omega) (Ev.pos (by omega) (Ev.nobind (cmp _ _) ?_)))))
            rw [if_neg c, if_pos (by omega)]
            exact Ev.neg (by decide) (Ev.fin rfl)
  exact key a.length 0 (by omega) (by omega)

/-! ### the pieces that a number tells -/
def bitB (set : Int) (i : Nat) : Bool := decide ((Go.bits .and .i64 (shr .i64 set (i : Int)) 1) = 1)
def add (set : Int) (i : Nat) (o : List Int) : List Int := if bitB set i = true then o ++ [(i : Int)] else o
def own (n : Nat) (set : Int) : List Int := iter (add set) n 0 []
def OwnI (i : Nat) (o : List Int) : Prop := o.length ≤ i ∧ ∀ x ∈ o, 0 ≤ x ∧ x < (i : Int)
theorem own_step (set : Int) (o : List Int) (i : Nat) (h : OwnI i o) : OwnI (i + 1) (add set i o) := by
  unfold add
  split
  · refine ⟨by have := h.1; simp; omega, fun x hx => ?_⟩
    rw [List.mem_append, List.mem_singleton] at hx
    rcases hx with hx | hx
    · have := h.2 x hx; omega
    · omega
  · exact ⟨by have := h.1; omega, fun x hx => by have := h.2 x hx; omega⟩
theorem own_inv (n : Nat) (set : Int) : OwnI n (own n set) := by
  have := iter_inv (f := add set) (Inv := OwnI) n 0 [] (fun s j _ _ h => own_step set s j h) ⟨by simp, by simp⟩
  rw [Nat.zero_add] at this; exact this
theorem own_ix {n : Nat} {o : List Int} (h : OwnI n o) : ∀ i, i < o.length → 0 ≤ o.getD i 0 ∧ o.getD i 0 < (n : Int) := by
  intro i hi
  rw [List.getD_eq_getElem?_getD, List.getElem?_eq_getElem hi]
  exact h.2 _ (List.getElem_mem hi)
theorem own_zero : ∀ d i, iter (add 0) d i [] = []
  | 0, i => rfl
  | d + 1, i => by
    have hb : bitB 0 i = false := by
      have hs : shr .i64 0 (i : Int) = 0 := by unfold shr; simp
      unfold bitB; rw [hs]; rfl
    rw [iter, add, hb, if_neg (by decide)]; exact own_zero d (i + 1)
def upd (a s : Int) (p : List Int) (i : Nat) (st : List Int × Int) : List Int × Int :=
  if use p s (own p.length (i : Int)) ≤ a then
    (if use p s (own p.length (i : Int)) > st.2 then (own p.length (i : Int), use p s (own p.length (i : Int)))
     else if use p s (own p.length (i : Int)) = st.2 then (if before (own p.length (i : Int)) st.1 = true then (own p.length (i : Int), use p s (own p.length (i : Int))) else st) else st)
  else st
theorem upd_len (a s : Int) (p : List Int) (i : Nat) (st : List Int × Int) (h : st.1.length ≤ p.length) : (upd a s p i st).1.length ≤ p.length := by
  have ho := (own_inv p.length (i : Int)).1
  unfold upd
  split
  · split
    · exact ho
    · split
      · split
        · exact ho
        · exact h
      · exact h
  · exact h
theorem upd_zero (a s : Int) (p : List Int) : upd a s p 0 ([], 0) = ([], 0) := by
  have ho : own p.length ((0 : Nat) : Int) = [] := own_zero p.length 0
  have hu : use p s [] = 0 := by unfold use; simp
  have hb : before [] [] = false := rfl
  unfold upd
  rw [ho, hu]
  simp [hb]
theorem shl_ok : ∀ n : Nat, n < 15 → 1 ≤ shl .i64 1 (n : Int) ∧ shl .i64 1 (n : Int) ≤ 16384 := by decide
theorem u64 {x : Int} (h : 0 ≤ x) (h2 : x ≤ 1048576) : IntKind.u64.wrap x = x := IntWalk.u64_in x ⟨h, by omega⟩
theorem specStep {a s : Int} {p : List Int} (hs : Small p s) (hl : p.length ≤ 14) (st : List Int × Int) (hb : st.1.length ≤ p.length) (i : Nat) (hi : (i : Int) < shl .i64 1 (p.length : Int)) (hi2 : i ≤ 16384) (r : List Int × Int × Int)
    (h : Ev (fun k => spec_BestLengths.l0 k a s p (upd a s p i st).1 (upd a s p i st).2 ((i + 1 : Nat) : Int)) r) : Ev (fun k => spec_BestLengths.l0 k a s p st.1 st.2 (i : Int)) r := by
  refine Ev.step (fun k => by rw [spec_BestLengths.l0]) ?_
  rw [u64 (x := (p.length : Int)) (by omega) (by omega)]
  refine Ev.pos (by omega) (Ev.pos hi ?_)
  refine iter_cps0 p.length (add (i : Int)) (fun k o j => spec_BestLengths.l1 k a s p st.1 st.2 (i : Int) o j) r OwnI [] ⟨by simp, by simp⟩ (fun o j _ h => own_step (i : Int) o j h) ?_ ?_
  · intro o j hj hv hr
    have hol := hv.1
    refine Ev.step (fun k => by rw [spec_BestLengths.l1]) ?_
    rw [u64 (x := (j : Int)) (by omega) (by omega), w64 (x := (j : Int) + 1) (by omega) (by omega)]
    refine Ev.pos (by omega) (Ev.pos (by omega) ?_)
    unfold add at hr
    by_cases c : (Go.bits .and .i64 (shr .i64 (i : Int) (j : Int)) 1) = 1
    · rw [if_pos (show bitB (i : Int) j = true from decide_eq_true c)] at hr
      exact Ev.pos c (Ev.pos (by omega) hr)
    · rw [if_neg (show ¬ bitB (i : Int) j = true from by unfold bitB; rw [decide_eq_false c]; decide)] at hr
      exact Ev.neg c hr
  · intro hv
    have hv' : OwnI p.length (own p.length (i : Int)) := hv
    have ho : (own p.length (i : Int)).length ≤ 14 := by have := hv'.1; omega
    have hu := specUse hs (own p.length (i : Int)) (by omega) (own_ix hv')
    have hbf := specBefore (own p.length (i : Int)) st.1 (by omega) (by omega)
    show Ev (fun k => spec_BestLengths.l1 k a s p st.1 st.2 (i : Int) (own p.length (i : Int)) (p.length : Int)) r
    refine Ev.step (fun k => by rw [spec_BestLengths.l1]) ?_
    rw [w64 (x := (i : Int) + 1) (by omega) (by omega)]
    refine Ev.neg (by omega) (Ev.bind hu ?_)
    unfold upd at h
    generalize use p s (own p.length (i : Int)) = u at h ⊢
    refine Ev.ite (fun c => ?_) (fun c => ?_)
    · rw [if_pos c] at h
      refine Ev.ite (fun c2 => ?_) (fun c2 => ?_)
      · rw [if_pos c2] at h; exact h
      · rw [if_neg c2] at h
        refine Ev.ite (fun c3 => ?_) (fun c3 => ?_)
        · rw [if_pos c3] at h
          refine Ev.bind hbf (Ev.ite (fun c4 => ?_) (fun c4 => ?_))
          · rw [if_pos c4] at h; exact h
          · rw [if_neg c4] at h; exact h
        · rw [if_neg c3] at h; exact h
    · rw [if_neg c] at h; exact h
theorem implStep {a s N : Int} {p : List Int} (hs : Small p s) (hl : p.length ≤ 14) (st : List Int × Int) (hb : st.1.length ≤ p.length) (i : Nat) (hi : (i : Int) < N) (hi2 : i ≤ 16384) (r : List Int × Int × Int)
    (h : Ev (fun k => impl_BestLengths.l0 k a s p (upd a s p i st).1 (upd a s p i st).2 N ((i + 1 : Nat) : Int)) r) : Ev (fun k => impl_BestLengths.l0 k a s p st.1 st.2 N (i : Int)) r := by
  refine Ev.step (fun k => by rw [impl_BestLengths.l0]) ?_
  refine Ev.pos hi ?_
  refine iter_cps0 p.length (add (i : Int)) (fun k o j => impl_BestLengths.l1 k a s p st.1 st.2 (i : Int) o N (i : Int) (p.length : Int) j) r OwnI [] ⟨by simp, by simp⟩ (fun o j _ h => own_step (i : Int) o j h) ?_ ?_
  · intro o j hj hv hr
    have hol := hv.1
    refine Ev.step (fun k => by rw [impl_BestLengths.l1]) ?_
    rw [w64 (x := (j : Int) + 1) (by omega) (by omega)]
    refine Ev.pos (by omega) (Ev.pos (by omega) ?_)
    unfold add at hr
    by_cases c : (Go.bits .and .i64 (shr .i64 (i : Int) (j : Int)) 1) = 1
    · rw [if_pos (show bitB (i : Int) j = true from decide_eq_true c)] at hr
      exact Ev.pos c (Ev.pos (by omega) hr)
    · rw [if_neg (show ¬ bitB (i : Int) j = true from by unfold bitB; rw [decide_eq_false c]; decide)] at hr
      exact Ev.neg c hr
  · intro hv
    have hv' : OwnI p.length (own p.length (i : Int)) := hv
    have ho : (own p.length (i : Int)).length ≤ 14 := by have := hv'.1; omega
    have hu := implUse hs (own p.length (i : Int)) (by omega) (own_ix hv')
    obtain ⟨v, hbf, hbv⟩ := implBefore (own p.length (i : Int)) st.1 (by omega) (by omega)
    show Ev (fun k => impl_BestLengths.l1 k a s p st.1 st.2 (i : Int) (own p.length (i : Int)) N (i : Int) (p.length : Int) (p.length : Int)) r
    refine Ev.step (fun k => by rw [impl_BestLengths.l1]) ?_
    rw [w64 (x := (i : Int) + 1) (by omega) (by omega)]
    refine Ev.neg (by omega) (Ev.bind hu ?_)
    unfold upd at h
    rw [← hbv] at h
    generalize use p s (own p.length (i : Int)) = u at h ⊢
    refine Ev.ite (fun c => ?_) (fun c => ?_)
    · rw [if_pos c] at h
      refine Ev.ite (fun c2 => ?_) (fun c2 => ?_)
      · rw [if_pos c2] at h; exact h
      · rw [if_neg c2] at h
        refine Ev.ite (fun c3 => ?_) (fun c3 => ?_)
        · rw [if_pos c3] at h
          refine Ev.bind hbf (Ev.ite (fun c4 => ?_) (fun c4 => ?_))
          · rw [if_pos (decide_eq_true c4)] at h; exact h
          · rw [if_neg (by rw [decide_eq_false c4]; decide)] at h; exact h
        · rw [if_neg c3] at h; exact h
    · rw [if_neg c] at h; exact h
def fin (a s : Int) (p : List Int) : List Int × Int := iter (upd a s p) (shl .i64 1 (p.length : Int)).toNat 0 ([], 0)
def res (a s : Int) (p : List Int) : List Int × Int × Int := if barB a s p then ((fin a s p).1, (fin a s p).2, 0) else ([], 0, 2)
theorem res_len (a s : Int) (p : List Int) : (res a s p).1.length ≤ 14 := by
  unfold res
  cases e : barB a s p with
  | false => simp
  | true =>
    have hl := (bar_of e).2.2.1
    rw [if_pos rfl]
    have := iter_inv (f := upd a s p) (Inv := fun _ st => st.1.length ≤ p.length) (shl .i64 1 (p.length : Int)).toNat 0 ([], 0) (fun st j _ _ h => upd_len a s p j st h) (by simp)
    exact Nat.le_trans this hl
theorem specRes (a s : Int) (p : List Int) (hp : p.length ≤ 1048576) : Ev (fun k => spec_BestLengths.f k a s p) (res a s p) := by
  unfold spec_BestLengths.f res
  refine Ev.bind (specBars a s p hp) ?_
  cases e : barB a s p with
  | false => exact Ev.neg (by simp) (Ev.fin rfl)
  | true =>
    have hl := (bar_of e).2.2.1
    have hN := shl_ok p.length (by omega)
    have hsm := small_of e
    refine Ev.pos rfl ?_
    rw [if_pos rfl]
    unfold fin
    obtain ⟨n, hn⟩ : ∃ n : Nat, shl .i64 1 (p.length : Int) = ((n + 1 : Nat) : Int) := ⟨((shl .i64 1 (p.length : Int)) - 1).toNat, by omega⟩
    rw [hn, Int.toNat_natCast, iter, upd_zero]
    refine iter_cps (n + 1) (upd a s p) (fun k st j => spec_BestLengths.l0 k a s p st.1 st.2 j) _ (fun _ st => st.1.length ≤ p.length) (fun st i _ h => upd_len a s p i st h) ?_ n 1 ([], 0) (by omega) (by simp) ?_
    · intro st i hi hv h
      exact specStep hsm hl st hv i (by rw [hn]; omega) (by omega) _ h
    · intro hv
      refine Ev.step (fun k => by rw [spec_BestLengths.l0]) ?_
      rw [u64 (x := (p.length : Int)) (by omega) (by omega), hn]
      exact Ev.pos (by omega) (Ev.neg (by omega) (Ev.fin rfl))
theorem implRes (a s : Int) (p : List Int) (hp : p.length ≤ 1048576) : Ev (fun k => impl_BestLengths.f k a s p) (res a s p) := by
  unfold impl_BestLengths.f res
  refine Ev.nobind (implBars a s p) ?_
  cases e : barB a s p with
  | false => exact Ev.neg (by simp) (Ev.fin rfl)
  | true =>
    have hl := (bar_of e).2.2.1
    have hN := shl_ok p.length (by omega)
    have hsm := small_of e
    refine Ev.pos rfl ?_
    rw [if_pos rfl]
    unfold fin
    obtain ⟨n, hn⟩ : ∃ n : Nat, shl .i64 1 (p.length : Int) = (n : Int) := ⟨(shl .i64 1 (p.length : Int)).toNat, by omega⟩
    rw [hn, Int.toNat_natCast]
    refine iter_cps0 n (upd a s p) (fun k st j => impl_BestLengths.l0 k a s p st.1 st.2 (n : Int) j) _ (fun _ st => st.1.length ≤ p.length) ([], 0) (by simp) (fun st i _ h => upd_len a s p i st h) ?_ ?_
    · intro st i hi hv h
      exact implStep hsm hl st hv i (by omega) (by omega) _ h
    · intro hv
      refine Ev.step (fun k => by rw [impl_BestLengths.l0]) ?_
      exact Ev.neg (by omega) (Ev.fin rfl)
theorem markInts (l : List Int) (h : l.length ≤ 281474976710656) : Ev (fun k => laws_markInt64S.f k l 1) (1 + (l.length : Int), marks (fun j => j) l.length 1) := by
  unfold laws_markInt64S.f
  exact Ev.to (mark_loop (fun j => j) (fun k x j i => laws_markInt64S.l0 k x j i) (fun k x j i => by rw [laws_markInt64S.l0]) l.length 0 1 l (by omega) (by omega) (by omega) (by omega)) (by simp)
theorem heldInts (n : Nat) (h : n ≤ 281474976710656) : Ev (fun k => laws_heldInt64S.f k (marks (fun j => j) n 1) 1) (1 + (n : Int)) := by
  unfold laws_heldInt64S.f
  have hn := marks_length (fun j => j) n 1
  exact held_loop (fun j => j) (marks (fun j => j) n 1) (fun k j i => laws_heldInt64S.l0 k (marks (fun j => j) n 1) j i) (by omega) (fun k j i => by rw [laws_heldInt64S.l0]) n 0 1 (by omega) (by omega) (by omega) (by simp)
theorem FnExactBestLengths : laws_FnExactBestLengths.Pure := by
  intro a0 a1 l2 w0 w1 m2 y2 w2
  refine Ev.rounds (g := fun k => laws_FnExactBestLengths.f k a0 a1 l2) ?_
  unfold laws_FnExactBestLengths.f
  refine Ev.ite (fun _ => Ev.fin rfl) (fun h0 => ?_)
  have t2 := toInts l2 (by omega)
  have hl := res_len a0 a1 l2
  have hs := specRes a0 a1 l2 (by omega)
  have hi := implRes a0 a1 l2 (by omega)
  generalize res a0 a1 l2 = v at hl hs hi
  have hq := eqInts v.1 v.1 (by omega)
  refine Ev.bind t2 (Ev.bind hs (Ev.bind t2 (Ev.bind hi (Ev.bind hq (Ev.pos (by simp) (Ev.pos rfl ?_))))))
  refine Ev.step (fun k => by rw [laws_FnExactBestLengths.j0]) ?_
  refine Ev.neg (by simp) (Ev.bind t2 (Ev.bind (eqInts l2 l2 (by omega)) (Ev.pos (by simp) ?_)))
  refine Ev.bind (markInts l2 (by omega)) (Ev.neg (by simp only []; omega) (Ev.bind hq (Ev.pos (by simp) (Ev.pos rfl ?_))))
  refine Ev.step (fun k => by rw [laws_FnExactBestLengths.j1]) ?_
  refine Ev.neg (by simp) (Ev.bind (markInts v.1 (by omega)) (Ev.bind (heldInts v.1.length (by omega)) (Ev.neg (by omega) (Ev.pos rfl ?_))))
  refine Ev.bind t2 (Ev.bind hi (Ev.bind hq (Ev.pos (by simp) (Ev.pos rfl ?_))))
  refine Ev.step (fun k => by rw [laws_FnExactBestLengths.j2]) ?_
  refine Ev.neg (by simp) (Ev.bind (heldInts v.1.length (by omega)) (Ev.neg (by omega) ?_))
  exact Ev.pos rfl (Ev.fin rfl)

end Go.Proofs.Ytabflbpcdkhnaaa.Pure
