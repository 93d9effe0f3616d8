/- The program's FirstStone answers what the reference's FirstStone answers, at all lists of corners; no condition. -/
import Derived.Test.YtohhcomokcdbfaaStonesKit
import Derived.Test.YtohhcomokcdbfaaStonesMarks
import Derived.Test.YtohhcomokcdbfaaLoops2
import Derived.Test.YtohhcomokcdbfaaPAxf21
import Derived.Test.YtohhcomokcdbfaaPAxf22
import Derived.Test.YtohhcomokcdbfaaPAxf34
import Derived.Test.YtohhcomokcdbfaaPAxf35
import Derived.Test.YtohhcomokcdbfaaPAxf36
import Derived.Test.YtohhcomokcdbfaaPAxf5
import Derived.Test.YtohhcomokcdbfaaPAxf51
import Derived.Test.YtohhcomokcdbfaaPAxf52
import Derived.Test.YtohhcomokcdbfaaPAxf68
namespace Go.Proofs.Ytohhcomokcdbfaa.Pure
set_option linter.unusedSimpArgs false
set_option linter.unusedVariables false
open Go.RowKit Go.Proofs.Ytohhcomokcdbfaa.PA Go.Proofs.Ytohhcomokcdbfaa.Base Go.Proofs.Ytohhcomokcdbfaa.StonesKit Go.Proofs.YtohhcomokcdbfaaW.PrintWords Go.Proofs.YtohhcomokcdbfaaW.PrintLast Go.Proofs.YtohhcomokcdbfaaW.PrintMore

/-! ### all corners in one row -/
theorem rdS (xs : List (List S55)) (i : Nat) : rd_L4 xs (i : Int) = xs.getD i [] := by simp [rd_L4]
theorem getS {xs : List (List S55)} {i : Nat} (h : i < xs.length) : xs.getD i [] = xs[i] := by
  rw [List.getD_eq_getElem?_getD, List.getElem?_eq_getElem h]; rfl
theorem flat_take (bars : List (List S55)) (i : Nat) (h : i < bars.length) : (bars.take (i + 1)).flatten = (bars.take i).flatten ++ bars.getD i [] := by
  rw [List.take_succ_eq_append_getElem h, List.flatten_append, getS h]; simp
theorem flat_le (bars : List (List S55)) (i : Nat) : (bars.take i).flatten.length ≤ bars.flatten.length := by
  have : bars.flatten = (bars.take i).flatten ++ (bars.drop i).flatten := by rw [← List.flatten_append, List.take_append_drop]
  rw [this, List.length_append]; omega
theorem flat_all (bars : List (List S55)) : (bars.take bars.length).flatten = bars.flatten := by rw [List.take_length]
theorem concat (bars : List (List S55)) (hl : bars.length ≤ 1048576) (hf : bars.flatten.length < 1048576) : Ev (fun k => impl_Corner_52.f k bars) bars.flatten := by
  unfold impl_Corner_52.f
  have key2 : ∀ d i : Nat, i + d = bars.length → Ev (fun k => impl_Corner_52.l1 k (bars.take i).flatten bars (bars.length : Int) (i : Int)) bars.flatten := by
    intro d
    induction d with
    | zero =>
      intro i h
      obtain rfl : i = bars.length := by omega
      refine Ev.step (fun k => by rw [impl_Corner_52.l1]) ?_
      exact Ev.neg (by omega) (Ev.fin (flat_all bars))
    | succ d ih =>
      intro i h
      have h1 := flat_le bars (i + 1)
      have h2 := flat_take bars i (by omega)
      have h3 : (bars.take i).flatten.length + (bars.getD i []).length = (bars.take (i + 1)).flatten.length := by rw [h2, List.length_append]
      have ha := w64 (x := (i : Int) + 1) (by omega) (by omega)
      refine Ev.step (fun k => by rw [impl_Corner_52.l1]) ?_
      rw [rdS bars i, ha, ← h2]
      exact Ev.pos (by omega) (Ev.pos (by omega) (Ev.pos (by omega) (Ev.pos (by omega) (ih (i + 1) (by omega)))))
  have key1 : ∀ d i : Nat, i + d = bars.length → Ev (fun k => impl_Corner_52.l0 k bars ((bars.take i).flatten.length : Int) bars (bars.length : Int) (i : Int)) bars.flatten := by
    intro d
    induction d with
    | zero =>
      intro i h
      obtain rfl : i = bars.length := by omega
      refine Ev.step (fun k => by rw [impl_Corner_52.l0]) ?_
      rw [flat_all]
      refine Ev.neg (by omega) (Ev.nobind (a := []) ?_ ?_)
      · unfold impl_Corner_68.f
        rw [if_pos (by omega), if_pos (by omega)]
      · have := key2 bars.length 0 (by omega)
        simpa using this
    | succ d ih =>
      intro i h
      have h1 := flat_le bars (i + 1)
      have h2 := flat_take bars i (by omega)
      have h3 : (bars.take i).flatten.length + (bars.getD i []).length = (bars.take (i + 1)).flatten.length := by rw [h2, List.length_append]
      have ha := w64 (x := (i : Int) + 1) (by omega) (by omega)
      have hb : wrap64 (((bars.take i).flatten.length : Int) + ((bars.getD i []).length : Int)) = ((bars.take (i + 1)).flatten.length : Int) := by
        rw [w64 (by omega) (by omega)]; omega
      refine Ev.step (fun k => by rw [impl_Corner_52.l0]) ?_
      rw [rdS bars i, ha, hb]
      exact Ev.pos (by omega) (Ev.pos (by omega) (Ev.pos (by omega) (Ev.neg (by omega) (ih (i + 1) (by omega)))))
  have := key1 bars.length 0 (by omega)
  simpa using this
/-! ### where the least corner is -/
def less (a b : S55) : Bool := decide (a.f0 < b.f0) || (decide (a.f0 = b.f0) && decide (a.f1 < b.f1))
theorem implLess (a b : S55) : impl_cornerLess.f a.f0 a.f1 b.f0 b.f1 = some (less a b) := by
  unfold impl_cornerLess.f less
  by_cases c : a.f0 < b.f0
  · rw [if_pos c, decide_eq_true c]; rfl
  · rw [if_neg c, decide_eq_false c]
    by_cases d : a.f0 = b.f0
    · rw [if_pos d, decide_eq_true d]; rfl
    · rw [if_neg d, decide_eq_false d]; rfl
theorem specLess (a b : S55) : spec_l03Before.f a.f0 a.f1 b.f0 b.f1 = some (less a b) := implLess a b
theorem less_self (a : S55) : less a a = false := by unfold less; simp
def step (l : List S55) (i : Nat) (at_' : Nat) : Nat := if less (l.getD i z55) (l.getD at_' z55) = true then i else at_'
def firstAt (l : List S55) : Nat := iter (step l) (l.length - 1) 1 0
theorem step_lt {l : List S55} {i s : Nat} (hi : i < l.length) (hs : s < l.length) : step l i s < l.length := by unfold step; split <;> assumption
def turned (l : List S55) : List S55 := l.drop (firstAt l) ++ l.take (firstAt l)
theorem turned_length (l : List S55) : (turned l).length ≤ l.length + l.length := by unfold turned; simp; omega
theorem first_lt {l : List S55} (hl : 1 ≤ l.length) : firstAt l < l.length := iter_inv (f := step l) (Inv := fun _ s => s < l.length) (l.length - 1) 1 0 (fun s j _ hj h => step_lt (by omega) h) (by omega)
theorem specFirst {l : List S55} (h1 : 1 ≤ l.length) (hl : l.length ≤ 8) : Ev (fun k => spec_l03First.f k l) (turned l) := by
  unfold spec_l03First.f
  refine iter_cps l.length (step l) (fun k s i => spec_l03First.l0 k l (s : Int) i) _ (fun _ s => s < l.length) (fun s i hi h => step_lt hi h) (fun s i hi h hr => ?_) (l.length - 1) 1 0 (by omega) (by omega) (fun hv => ?_)
  · refine Ev.step (fun k => by rw [spec_l03First.l0]) (Ev.pos (by omega) (Ev.pos (by omega) (Ev.pos (by omega) (Ev.pos (by omega) ?_))))
    rw [rdC' l i, rdC' l s, w64 (x := (i : Int) + 1) (by omega) (by omega)]
    refine Ev.nobind (specLess _ _) ?_
    unfold step at hr
    refine Ev.ite (fun c => ?_) (fun c => ?_)
    · rw [if_pos c] at hr; exact hr
    · rw [if_neg c] at hr; exact hr
  · have hf : iter (step l) (l.length - 1) 1 0 = firstAt l := rfl
    rw [hf] at hv ⊢
    unfold turned
    refine Ev.step (fun k => by rw [spec_l03First.l0]) (Ev.neg (by omega) ?_)
    rw [Int.toNat_natCast]
    exact Ev.nobind (a := []) rfl (Ev.pos (by omega) (Ev.pos (by omega) (Ev.nobind rfl (Ev.pos (by simp; omega) (Ev.nobind rfl (Ev.nobind rfl (Ev.pos (by simp; omega) (Ev.fin (by simp)))))))))
theorem implFirst {l : List S55} (h1 : 1 ≤ l.length) (hl : l.length ≤ 8) : Ev (fun k => impl_FirstStone.l0 k l 0 l (l.length : Int) 0) (turned l, 0) := by
  have h0 : step l 0 0 = 0 := by unfold step; rw [less_self, if_neg (by decide)]
  have hf : iter (step l) l.length 0 0 = firstAt l := by
    obtain ⟨n, hn⟩ : ∃ n, l.length = n + 1 := ⟨l.length - 1, by omega⟩
    unfold firstAt
    rw [hn, iter, h0]; rfl
  refine iter_cps0 l.length (step l) (fun k s i => impl_FirstStone.l0 k l (s : Int) l (l.length : Int) i) _ (fun _ s => s < l.length) 0 (by omega) (fun s i hi h => step_lt hi h) (fun s i hi h hr => ?_) (fun hv => ?_)
  · refine Ev.step (fun k => by rw [impl_FirstStone.l0]) (Ev.pos (by omega) (Ev.pos (by omega) (Ev.pos (by omega) (Ev.pos (by omega) (Ev.pos (by omega) ?_)))))
    rw [rdC' l i, rdC' l s, w64 (x := (i : Int) + 1) (by omega) (by omega)]
    refine Ev.nobind (implLess _ _) ?_
    unfold step at hr
    refine Ev.ite (fun c => ?_) (fun c => ?_)
    · rw [if_pos c] at hr; exact hr
    · rw [if_neg c] at hr; exact hr
  · rw [hf] at hv ⊢
    refine Ev.step (fun k => by rw [impl_FirstStone.l0]) (Ev.neg (by omega) ?_)
    have hfrom : Ev (fun k => impl_Stone_from.f k l (firstAt l : Int)) (turned l) := by
      unfold impl_Stone_from.f turned
      refine Ev.pos (by omega) (Ev.pos (by omega) ?_)
      rw [Int.toNat_natCast]
      have hc := concat [l.drop (firstAt l), l.take (firstAt l)] (by simp) (by simp; omega)
      refine Ev.bind hc (Ev.fin (by simp))
    exact Ev.bind hfrom (Ev.fin rfl)
def res (l : List S55) : List S55 × Int := if okS l then (turned l, 0) else ([], 1)
theorem res_len (l : List S55) : (res l).1.length ≤ 16 := by
  unfold res
  cases e : okS l with
  | false => simp
  | true =>
    have h := okS_len e
    have ht := turned_length l
    rw [if_pos rfl]
    exact Nat.le_trans ht (by omega)
theorem specRes {l : List S55} (hf : Fit l) : Ev (fun k => spec_FirstStone.f k l) (res l) := by
  unfold spec_FirstStone.f res
  refine Ev.bind (specOk hf) ?_
  cases e : okS l with
  | false => exact Ev.neg (by decide) (Ev.fin rfl)
  | true =>
    have h := okS_len e
    exact Ev.pos rfl (Ev.bind (specFirst (by omega) h.2) (Ev.fin rfl))
theorem implRes {l : List S55} (hf : Fit l) : Ev (fun k => impl_FirstStone.f k l) (res l) := by
  unfold impl_FirstStone.f res
  refine Ev.bind (implOk hf) ?_
  cases e : okS l with
  | false => exact Ev.neg (by decide) (Ev.fin rfl)
  | true =>
    have h := okS_len e
    exact Ev.pos rfl (implFirst (by omega) h.2)
theorem FnExactFirstStone : laws_FnExactFirstStone.Pure := by
  intro l0 w0
  have hf := fit_of w0
  refine Ev.rounds (g := fun k => laws_FnExactFirstStone.f k l0) ?_
  unfold laws_FnExactFirstStone.f
  refine Ev.nobind (szStone l0 w0.1) (Ev.ite (fun _ => Ev.fin rfl) (fun h0 => ?_))
  have hl : l0.length ≤ 1048576 := by split at h0 <;> omega
  have t0 := toStone l0 hl
  have hj := res_len (l0.map conv)
  have hs := specRes hf
  have hi := implRes hf
  have hm : (l0.map conv).length ≤ 1048576 := by simpa using hl
  generalize l0.map conv = l at t0 hs hi hj hm
  generalize res l = v at hj hs hi
  have hq := eqStone v.1 (by omega)
  refine Ev.bind t0 (Ev.bind hs (Ev.bind t0 (Ev.bind hi (Ev.bind hq (Ev.pos rfl ?_)))))
  refine Ev.step (fun k => by rw [laws_FnExactFirstStone.j0]) ?_
  refine Ev.neg (by simp) (Ev.bind t0 (Ev.bind (eqStone l hm) (Ev.pos rfl ?_)))
  refine Ev.bind (markStone l hm) (Ev.neg (by show ¬ (1 + 2 * (l.length : Int) < 0); omega) (Ev.bind hq (Ev.pos rfl ?_)))
  refine Ev.step (fun k => by rw [laws_FnExactFirstStone.j1]) ?_
  refine Ev.neg (by simp) ?_
  refine Ev.bind (markStone v.1 (by omega)) (Ev.bind (heldStone v.1.length (by omega)) ?_)
  refine Ev.neg (by omega) (Ev.pos rfl ?_)
  refine Ev.bind t0 (Ev.bind hi (Ev.bind hq (Ev.pos rfl ?_)))
  refine Ev.step (fun k => by rw [laws_FnExactFirstStone.j2]) ?_
  refine Ev.neg (by simp) (Ev.bind (heldStone v.1.length (by omega)) ?_)
  refine Ev.neg (by omega) ?_
  exact Ev.pos rfl (Ev.fin rfl)

end Go.Proofs.Ytohhcomokcdbfaa.Pure
