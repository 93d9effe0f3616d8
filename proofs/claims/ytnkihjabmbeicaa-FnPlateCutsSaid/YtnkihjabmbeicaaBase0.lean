/- A few facts on lists and numbers on numbers, lists and rounds that the proofs of this seat use: no Go and no memory in them. -/
import Derived.Test.YtnkihjabmbeicaaWMore
import Derived.Test.YtnkihjabmbeicaaWWords
import Derived.IntWalk
namespace Go.Proofs.Ytnkihjabmbeicaa.Base
open Go.RowKit Go.Proofs.YtnkihjabmbeicaaW.PrintWords Go.Proofs.YtnkihjabmbeicaaW.PrintLast Go.Proofs.YtnkihjabmbeicaaW.PrintMore
theorem rd_nat (xs : List Int) (i : Nat) (h : i < xs.length) : rd xs (i : Int) = xs[i] := by
  simp [rd, List.getD_eq_getElem?_getD, h]
theorem getD_nat {α : Type} (xs : List α) (z : α) (i : Nat) (h : i < xs.length) : xs.getD (i : Int).toNat z = xs[i] := by
  simp [List.getD_eq_getElem?_getD, h]
/-- Where the first element is that answers yes; -1 if none does. -/
def idx {α : Type} (p : α → Bool) (l : List α) : Int := if l.any p then (l.findIdx p : Int) else -1
theorem idx_none {α : Type} {p : α → Bool} {l : List α} (h : ∀ x ∈ l, p x = false) : idx p l = -1 := by
  unfold idx; rw [if_neg]; simpa using h
theorem idx_at {α : Type} {p : α → Bool} {l : List α} {k : Nat} (hlt : k < l.length) (h : ∀ x ∈ l.take k, p x = false) (hq : p l[k] = true) : idx p l = (k : Int) := by
  unfold idx
  rw [if_pos (by rw [List.any_eq_true]; exact ⟨_, List.getElem_mem hlt, hq⟩)]
  have : l.findIdx p = k := by
    rw [List.findIdx_eq hlt]
    refine ⟨hq, fun j hj => ?_⟩
    have hjl : j < (l.take k).length := by simp; omega
    have := h (l.take k)[j] (List.getElem_mem hjl)
    simpa using this
  omega
/-- Where the first element is that answers yes, of a predicate that may have no answer; -1 if none does. -/
def idxO {α : Type} (p : α → Option Bool) : List α → Int → Option Int
  | [], _ => some (-1)
  | x :: xs, i => (p x).bind fun b => if b = true then some i else idxO p xs (i + 1)
theorem idxO_step {α : Type} {p : α → Option Bool} {l : List α} {k : Nat} {r : Int} (hlt : k < l.length) (h : idxO p (l.drop k) (k : Int) = some r) :
    ∃ b, p l[k] = some b ∧ (b = true → (k : Int) = r) ∧ (b = false → idxO p (l.drop (k + 1)) ((k + 1 : Nat) : Int) = some r) := by
  rw [List.drop_eq_getElem_cons hlt, idxO] at h
  obtain ⟨b, hb, h⟩ := Option.bind_eq_some_iff.1 h
  refine ⟨b, hb, fun e => ?_, fun e => ?_⟩
  · rw [if_pos e] at h; exact Option.some.inj h
  · rw [e, if_neg (by decide)] at h; simpa using h
theorem idxO_end {α : Type} {p : α → Option Bool} {l : List α} {k : Nat} {r : Int} (hlt : ¬ k < l.length) (h : idxO p (l.drop k) (k : Int) = some r) : r = -1 := by
  rw [List.drop_of_length_le (by omega), idxO] at h
  exact (Option.some.inj h).symm
/-- Where the predicate has its answers, the place is the plain one. -/
theorem idxO_some {α : Type} {p : α → Option Bool} {q : α → Bool} : ∀ (l : List α) (i : Int), (∀ x ∈ l, p x = some (q x)) → idxO p l i = some (if l.any q then (l.findIdx q : Int) + i else -1)
  | [], i, _ => rfl
  | x :: xs, i, h => by
    rw [idxO, h x (by simp)]
    simp only [Option.bind_some, List.any_cons, List.findIdx_cons]
    cases hq : q x with
    | true => simp
    | false =>
      rw [if_neg (by decide), idxO_some xs (i + 1) (fun y hy => h y (by simp [hy]))]
      simp only [Bool.false_or, cond_false]
      split
      · congr 1; omega
      · rfl
theorem idxO_any {α : Type} {p : α → Option Bool} {q : α → Bool} (l : List α) (h : ∀ x ∈ l, p x = some (q x)) : ((idxO p l 0).bind fun i => some (decide (0 ≤ i))) = some (l.any q) := by
  rw [idxO_some l 0 h, Option.bind_some]
  congr 1
  split
  · rename_i e; rw [e]; simp <;> omega
  · rename_i e; rw [Bool.not_eq_true] at e; rw [e]; simp
theorem idxO_idx {α : Type} {p : α → Option Bool} {q : α → Bool} (l : List α) (h : ∀ x ∈ l, p x = some (q x)) : idxO p l 0 = some (idx q l) := by
  rw [idxO_some l 0 h]; unfold idx; simp
end Go.Proofs.Ytnkihjabmbeicaa.Base
