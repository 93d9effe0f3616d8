/- Stones that lie apart, stones that overlap: what the reference's and the program's functions come to. -/
import Derived.Test.YtohhcomokcdbfaaStonesKit
import Derived.Test.YtohhcomokcdbfaaPAxgImplO
import Derived.Test.YtohhcomokcdbfaaPAxgSpecO
namespace Go.Proofs.Ytohhcomokcdbfaa.LayKit
set_option linter.unusedSimpArgs false
set_option linter.unusedVariables false
open Go.RowKit Go.Proofs.Ytohhcomokcdbfaa.PA Go.Proofs.Ytohhcomokcdbfaa.Base Go.Proofs.Ytohhcomokcdbfaa.StonesKit Go.Proofs.YtohhcomokcdbfaaW.PrintWords Go.Proofs.YtohhcomokcdbfaaW.PrintLast Go.Proofs.YtohhcomokcdbfaaW.PrintMore

/-! ### stones that lie apart -/
def allF (p : Nat → Bool) : Nat → Nat → Bool
  | 0, _ => true
  | d + 1, i => p i && allF p d (i + 1)
def out (p q : S55) (st : Bool) (c : S55) : Bool := decide (0 < sd p q c) || (st && decide (sd p q c = 0))
def sdAny (a b : List S55) (st : Bool) (i : Nat) : Bool := b.any (out (at_ a i) (at_ a ((i + 1) % a.length)) st)
def cutB (a b : List S55) (st : Bool) : Bool := allF (sdAny a b st) a.length 0
theorem implParts (a b : List S55) (st : Bool) : impl_parts.f a b st = some (!cutB a b st) := by
  unfold impl_parts.f cutB
  have key : ∀ d i, impl_parts.l a b st d i = some (!allF (sdAny a b st) d i) := by
    intro d
    induction d with
    | zero => intro i; rfl
    | succ d ih =>
      intro i
      rw [impl_parts.l, allF]
      have hp : impl_parts.p a b st (i : Int) (((i + 1) % a.length : Nat) : Int) = some (sdAny a b st i) := by
        unfold impl_parts.p sdAny
        rw [rdC', rdC']
        refine idxO_any (q := out (at_ a i) (at_ a ((i + 1) % a.length)) st) b (fun c _ => ?_)
        unfold impl_parts_1.f
        have := implSide (at_ a i) (at_ a ((i + 1) % a.length)) c
        unfold at_ at this ⊢
        rw [this]; rfl
      rw [hp, Option.bind_some]
      cases sdAny a b st i with
      | true => rw [if_pos rfl, ih, Bool.true_and]
      | false => rw [if_neg (by decide), Bool.false_and]; rfl
  exact key a.length 0
theorem specApart (a b : List S55) (line : Bool) (ha : a.length ≤ 1048576) (hb : b.length ≤ 1048576) : Ev (fun k => spec_l03Apart.f k a b line) (!cutB a b (!line)) := by
  unfold spec_l03Apart.f cutB
  have inner : ∀ (i : Nat) (r : Bool), i < a.length → ∀ (d j : Nat) (fl : Bool), j + d = b.length →
      Ev (fun k => if (fl && !((b.drop j).any (out (at_ a i) (at_ a ((i + 1) % a.length)) (!line)))) = true then some true else spec_l03Apart.l0 k a b line ((i + 1 : Nat) : Int)) r → Ev (fun k => spec_l03Apart.l1 k a b line (i : Int) fl (j : Int)) r := by
    intro i r hi d
    have hn := nx_lt a i hi
    have ht := tm i a.length hi ha
    have hw := w64 (x := (i : Int) + 1) (by omega) (by omega)
    induction d with
    | zero =>
      intro j fl hj h
      rw [List.drop_of_length_le (by omega), List.any_nil, Bool.not_false, Bool.and_true] at h
      refine Ev.step (fun k => by rw [spec_l03Apart.l1]) (Ev.neg (by omega) ?_)
      rw [hw]; exact h
    | succ d ih =>
      intro j fl hj h
      have hj' : j < b.length := by omega
      rw [drop_at b j hj', List.any_cons] at h
      refine Ev.step (fun k => by rw [spec_l03Apart.l1]) (Ev.pos (by omega) (Ev.pos (by omega) (Ev.pos (by omega) ?_)))
      refine Ev.nobind (a := (((i + 1) % a.length : Nat) : Int)) (by unfold spec_l03Next.f; rw [if_neg (by omega), ht]) (Ev.pos (by omega) (Ev.pos (by omega) (Ev.pos (by omega) ?_)))
      rw [rdC', rdC', rdC b j hj', w64 (x := (j : Int) + 1) (by omega) (by omega)]
      refine Ev.nobind (specSide (at_ a i) (at_ a ((i + 1) % a.length)) b[j]) ?_
      have ihf := ih (j + 1) false (by omega)
      have iht := ih (j + 1) fl (by omega)
      rw [Bool.false_and] at ihf
      unfold out at h
      refine Ev.ite (fun e => ?_) (fun e => ?_)
      · rw [decide_eq_true (by omega : 0 < sd (at_ a i) (at_ a ((i + 1) % a.length)) b[j]), Bool.true_or, Bool.true_or, Bool.not_true, Bool.and_false] at h
        exact ihf h
      · rw [decide_eq_false (by omega : ¬ 0 < sd (at_ a i) (at_ a ((i + 1) % a.length)) b[j]), Bool.false_or] at h
        refine Ev.ite (fun e2 => ?_) (fun e2 => ?_)
        · rw [decide_eq_true e2, Bool.and_true] at h
          cases line with
          | true =>
            rw [Bool.not_true, Bool.false_or] at h
            exact Ev.pos rfl (iht h)
          | false =>
            rw [Bool.not_false, Bool.true_or, Bool.not_true, Bool.and_false] at h
            exact Ev.neg (by decide) (ihf h)
        · rw [decide_eq_false e2, Bool.and_false, Bool.false_or] at h
          exact iht h
  have key : ∀ d i : Nat, i + d = a.length → Ev (fun k => spec_l03Apart.l0 k a b line (i : Int)) (!allF (sdAny a b (!line)) d i) := by
    intro d
    induction d with
    | zero =>
      intro i h
      refine Ev.step (fun k => by rw [spec_l03Apart.l0]) ?_
      exact Ev.neg (by omega) (Ev.fin rfl)
    | succ d ih =>
      intro i h
      refine Ev.step (fun k => by rw [spec_l03Apart.l0]) (Ev.pos (by omega) ?_)
      refine inner i _ (by omega) b.length 0 true (by omega) ?_
      rw [List.drop_zero, Bool.true_and, allF]
      show Ev (fun k => if (!sdAny a b (!line) i) = true then some true else spec_l03Apart.l0 k a b line ((i + 1 : Nat) : Int)) _
      cases sdAny a b (!line) i with
      | true => exact Ev.neg (by decide) (Ev.to (ih (i + 1) (by omega)) (by simp))
      | false => exact Ev.pos rfl (Ev.fin rfl)
  exact key a.length 0 (by omega)
def overB (a b : List S55) : Bool := cutB a b false && cutB b a false
theorem implOver (a b : List S55) : impl_overlap.f a b = some (overB a b) := by
  unfold impl_overlap.f overB
  rw [implParts, implParts, Option.bind_some, Option.bind_some]
  cases cutB a b false <;> cases cutB b a false <;> rfl
theorem specOver (a b : List S55) (ha : a.length ≤ 1048576) (hb : b.length ≤ 1048576) : Ev (fun k => spec_l03Over.f k a b) (overB a b) := by
  unfold spec_l03Over.f overB
  refine Ev.bind (specApart a b true ha hb) ?_
  rw [Bool.not_true]
  cases cutB a b false with
  | false => exact Ev.pos rfl (Ev.fin rfl)
  | true => exact Ev.neg (by decide) (Ev.bind (specApart b a true hb ha) (Ev.fin (by simp)))
end Go.Proofs.Ytohhcomokcdbfaa.LayKit
