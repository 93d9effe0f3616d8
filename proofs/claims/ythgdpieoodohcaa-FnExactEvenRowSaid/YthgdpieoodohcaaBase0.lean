/- A few facts on lists and numbers on numbers, lists and rounds that the proofs of this seat use: no Go and no memory in them. -/
import Derived.Test.YthgdpieoodohcaaWMore
import Derived.Test.YthgdpieoodohcaaWWords
import Derived.IntWalk
namespace Go.Proofs.Ythgdpieoodohcaa.Base
open Go.RowKit Go.Proofs.YthgdpieoodohcaaW.PrintWords Go.Proofs.YthgdpieoodohcaaW.PrintLast Go.Proofs.YthgdpieoodohcaaW.PrintMore

theorem rd_nat (xs : List Int) (i : Nat) (h : i < xs.length) : rd xs (i : Int) = xs[i] := by
  simp [rd, List.getD_eq_getElem?_getD, h]
theorem rd_mem {xs : List Int} {i : Int} (h0 : 0 ≤ i) (h : i < (xs.length : Int)) : rd xs i ∈ xs := by
  obtain ⟨n, rfl⟩ := Int.eq_ofNat_of_zero_le h0
  rw [rd_nat xs n (by omega)]
  exact List.getElem_mem _
/-- Where the first element is that answers yes; -1 if none does. -/
def idx {α : Type} (p : α → Bool) (l : List α) : Int := if l.any p then (l.findIdx p : Int) else -1
theorem idx_any {α : Type} (p : α → Bool) (l : List α) : decide (0 ≤ idx p l) = l.any p := by
  unfold idx; split <;> simp_all
theorem idx_none {α : Type} {p : α → Bool} {l : List α} (h : ∀ x ∈ l, p x = false) : idx p l = -1 := by
  unfold idx; rw [if_neg]; simpa using h
theorem idx_at {α : Type} {p : α → Bool} {l : List α} {k : Nat} (hlt : k < l.length) (h : ∀ x ∈ l.take k, p x = false) (hq : p l[k] = true) : idx p l = (k : Int) := by
  unfold idx
  rw [if_pos (by rw [List.any_eq_true]; exact ⟨_, List.getElem_mem hlt, hq⟩)]
  have : l.findIdx p = k := by
    rw [List.findIdx_eq hlt]
    refine ⟨hq, fun j hj => ?_⟩
    have hjl : j < (l.take k).length := by simp; omega
    have := h (l.take k)[j] (List.getElem_mem hjl)
    simpa using this
  omega
theorem take_miss_at {α : Type} {p : α → Bool} {l : List α} {k : Nat} (hlt : k < l.length) (h : ∀ x ∈ l.take k, p x = false) (hq : p l[k] = false) : ∀ x ∈ l.take (k + 1), p x = false := by
  intro x hx
  rw [List.take_succ_eq_append_getElem hlt, List.mem_append] at hx
  rcases hx with hx | hx
  · exact h x hx
  · rw [List.mem_singleton] at hx
    rw [hx]; exact hq
theorem idx_hit {p : Int → Bool} {l : List Int} {k : Nat} (hlt : k < l.length) (h : ∀ x ∈ l.take k, p x = false) (hq : p (rd l (k : Int)) = true) : idx p l = (k : Int) :=
  idx_at hlt h (by rwa [rd_nat l k hlt] at hq)
theorem take_miss {p : Int → Bool} {l : List Int} {k : Nat} (hlt : k < l.length) (h : ∀ x ∈ l.take k, p x = false) (hq : p (rd l (k : Int)) = false) : ∀ x ∈ l.take (k + 1), p x = false :=
  take_miss_at hlt h (by rwa [rd_nat l k hlt] at hq)
theorem idx_miss {α : Type} {p : α → Bool} {l : List α} (h : ∀ x ∈ l, p x = false) : idx p l = -1 := idx_none h
end Go.Proofs.Ythgdpieoodohcaa.Base
