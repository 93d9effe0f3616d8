/- A few facts on lists and numbers on numbers, lists and rounds that the proofs of this seat use: no Go and no memory in them. -/
import Derived.Test.YthbogbaaikjhbaaGreatDoorWMore
import Derived.Test.YthbogbaaikjhbaaGreatDoorWWords
import Derived.IntWalk
namespace Go.Proofs.YthbogbaaikjhbaaGreatDoor.Base
open Go.RowKit Go.Proofs.YthbogbaaikjhbaaGreatDoorW.PrintWords Go.Proofs.YthbogbaaikjhbaaGreatDoorW.PrintLast Go.Proofs.YthbogbaaikjhbaaGreatDoorW.PrintMore
theorem getD_nat {α : Type} (xs : List α) (z : α) (i : Nat) (h : i < xs.length) : xs.getD (i : Int).toNat z = xs[i] := by
  simp [List.getD_eq_getElem?_getD, h]
/-- Where the first element is that answers yes; -1 if none does. -/
def idx {α : Type} (p : α → Bool) (l : List α) : Int := if l.any p then (l.findIdx p : Int) else -1
/-- Where the first element is that answers yes, of a predicate that may have no answer; -1 if none does. -/
def idxO {α : Type} (p : α → Option Bool) : List α → Int → Option Int
  | [], _ => some (-1)
  | x :: xs, i => (p x).bind fun b => if b = true then some i else idxO p xs (i + 1)
theorem idxO_step {α : Type} {p : α → Option Bool} {l : List α} {k : Nat} {r : Int} (hlt : k < l.length) (h : idxO p (l.drop k) (k : Int) = some r) :
    ∃ b, p l[k] = some b ∧ (b = true → (k : Int) = r) ∧ (b = false → idxO p (l.drop (k + 1)) ((k + 1 : Nat) : Int) = some r) := by
  rw [List.drop_eq_getElem_cons hlt, idxO] at h
  obtain ⟨b, hb, h⟩ := Option.bind_eq_some_iff.1 h
  refine ⟨b, hb, fun e => ?_, fun e => ?_⟩
  · rw [if_pos e] at h; exact Option.some.inj h
  · rw [e, if_neg (by decide)] at h; simpa using h
theorem idxO_end {α : Type} {p : α → Option Bool} {l : List α} {k : Nat} {r : Int} (hlt : ¬ k < l.length) (h : idxO p (l.drop k) (k : Int) = some r) : r = -1 := by
  rw [List.drop_of_length_le (by omega), idxO] at h
  exact (Option.some.inj h).symm
/-- Where the predicate has its answers, the place is the plain one. -/
theorem idxO_some {α : Type} {p : α → Option Bool} {q : α → Bool} : ∀ (l : List α) (i : Int), (∀ x ∈ l, p x = some (q x)) → idxO p l i = some (if l.any q then (l.findIdx q : Int) + i else -1)
  | [], i, _ => rfl
  | x :: xs, i, h => by
    rw [idxO, h x (by simp)]
    simp only [Option.bind_some, List.any_cons, List.findIdx_cons]
    cases hq : q x with
    | true => simp
    | false =>
      rw [if_neg (by decide), idxO_some xs (i + 1) (fun y hy => h y (by simp [hy]))]
      simp only [Bool.false_or, cond_false]
      split
      · congr 1; omega
      · rfl
theorem idxO_any {α : Type} {p : α → Option Bool} {q : α → Bool} (l : List α) (h : ∀ x ∈ l, p x = some (q x)) : ((idxO p l 0).bind fun i => some (decide (0 ≤ i))) = some (l.any q) := by
  rw [idxO_some l 0 h, Option.bind_some]
  congr 1
  split
  · rename_i e; rw [e]; simp <;> omega
  · rename_i e; rw [Bool.not_eq_true] at e; rw [e]; simp
end Go.Proofs.YthbogbaaikjhbaaGreatDoor.Base
