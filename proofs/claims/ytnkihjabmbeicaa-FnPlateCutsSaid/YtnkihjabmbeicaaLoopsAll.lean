/- Small facts on numbers, lists and rounds that the proofs of this seat use: no Go and no memory in them. · Loops over lists, told once: a state carried along, a list held against itself, places marked and found again. · Loops that count, told once: a state carried from number to number, whatever comes behind. -/
import Derived.Test.YtnkihjabmbeicaaWMore
import Derived.Test.YtnkihjabmbeicaaWWords
import Derived.IntWalk
import Derived.Test.YtnkihjabmbeicaaBase0
namespace Go.Proofs.Ytnkihjabmbeicaa.Base
set_option linter.unusedSimpArgs false
open Go.RowKit Go.Proofs.YtnkihjabmbeicaaW.PrintWords Go.Proofs.YtnkihjabmbeicaaW.PrintLast Go.Proofs.YtnkihjabmbeicaaW.PrintMore
theorem w64 {x : Int} (h : -9223372036854775808 ≤ x) (h2 : x ≤ 9223372036854775807) : wrap64 x = x := by unfold wrap64; omega
theorem w16_def (x : Int) : IntKind.i16.wrap x = (x + 32768) % 65536 - 32768 := by
 simp [IntKind.wrap, IntKind.signed, IntKind.bits]; split <;> omega
theorem w8_def (x : Int) : IntKind.i8.wrap x = (x + 128) % 256 - 128 := by
 simp [IntKind.wrap, IntKind.signed, IntKind.bits]; split <;> omega
theorem w16 {x : Int} (h : -32768 ≤ x) (h2 : x ≤ 32767) : IntKind.i16.wrap x = x := by rw [w16_def]; omega
theorem w8 {x : Int} (h : -128 ≤ x) (h2 : x ≤ 127) : IntKind.i8.wrap x = x := by rw [w8_def]; omega
theorem Ev.pos {α : Type} {c : Prop} [Decidable c] {f g : Nat → Option α} {r : α} (h : c) (e : Ev f r) : Ev (fun k => if c then f k else g k) r := by
 simpa only [if_pos h] using e
theorem Ev.neg {α : Type} {c : Prop} [Decidable c] {f g : Nat → Option α} {r : α} (h : ¬ c) (e : Ev g r) : Ev (fun k => if c then f k else g k) r := by
 simpa only [if_neg h] using e
theorem Ev.ite {α : Type} {c : Prop} [Decidable c] {f g : Nat → Option α} {r : α} (h : c → Ev f r) (h' : ¬ c → Ev g r) : Ev (fun k => if c then f k else g k) r := by
 by_cases hc : c
 ·
  exact Ev.pos hc (h hc)
 ·
  exact Ev.neg hc (h' hc)
theorem Ev.fin {α : Type} {r r' : α} (h : r = r') : Ev (fun _ => some r) r' := h ▸ Ev.now r
theorem Ev.nobind {α β : Type} {g : Option α} {f : Nat → α → Option β} {a : α} {r : β} (h : g = some a) (k : Ev (fun n => f n a) r) : Ev (fun n => g.bind (f n)) r := by
 subst h; exact k
theorem Ev.to {α : Type} {g : Nat → Option α} {r r' : α} (h : Ev g r) (e : r = r') : Ev g r' := e ▸ h
theorem drop_at {α : Type} (xs : List α) (i : Nat) (h : i < xs.length) : xs.drop i = xs[i] :: xs.drop (i + 1) := by
 exact List.drop_eq_getElem_cons h
/-- n lies between b and c. -/
def inB (n b c : Int) : Bool := decide (b ≤ n) && decide (n ≤ c)
theorem inB_iff {n b c : Int} : inB n b c = true ↔ b ≤ n ∧ n ≤ c := by simp [inB]
theorem inB_ite {n b c : Int} : (if n ≥ b then some (decide (n ≤ c)) else some false) = some (inB n b c) := by
 unfold inB; split <;> simp_all <;> omega
end Go.Proofs.Ytnkihjabmbeicaa.Base
namespace Go.Proofs.Ytnkihjabmbeicaa.Base
set_option linter.unusedSimpArgs false
set_option linter.unusedVariables false
open Go.RowKit Go.Proofs.YtnkihjabmbeicaaW.PrintWords Go.Proofs.YtnkihjabmbeicaaW.PrintLast Go.Proofs.YtnkihjabmbeicaaW.PrintMore
/-- A loop that ends at the first number that answers no. -/
theorem rangeAll_ev {ρ : Type} (g : Nat → Int → Option ρ) (n : Nat) (p : Nat → Bool) (r rF : ρ) (hs : ∀ j, j < n → p j = true → ∀ r', Ev (fun k => g k ((j + 1 : Nat) : Int)) r' → Ev (fun k => g k (j : Int)) r')
  (hF : ∀ j, j < n → p j = false → Ev (fun k => g k (j : Int)) rF) (he : (List.range n).all p = true → Ev (fun k => g k (n : Int)) r) :
  ∀ d i : Nat, i + d = n → (∀ j, j < i → p j = true) → Ev (fun k => g k (i : Int)) (if (List.range n).all p = true then r else rF)
 | 0, i, h, hp => by
  obtain rfl : i = n := by omega
  have ha : (List.range i).all p = true := by rw [List.all_eq_true]; intro x hx; exact hp x (by simpa using hx)
  rw [if_pos ha]; exact he ha
 | d + 1, i, h, hp => by
  cases hq : p i with
  | true => exact hs i (by omega) hq _ (rangeAll_ev g n p r rF hs hF he d (i + 1) (by omega) (fun j hj => by
    by_cases e : j = i
    ·
     rw [e]; exact hq
    ·
     exact hp j (by omega)))
  | false =>
   have ha : ¬ (List.range n).all p = true := by
    rw [List.all_eq_true]; intro hh; have := hh i (by simp; omega); rw [hq] at this; cases this
   rw [if_neg ha]; exact hF i (by omega) hq
theorem rangeAll_ev0 {ρ : Type} (g : Nat → Int → Option ρ) (n : Nat) (p : Nat → Bool) (r rF : ρ) (hs : ∀ j, j < n → p j = true → ∀ r', Ev (fun k => g k ((j + 1 : Nat) : Int)) r' → Ev (fun k => g k (j : Int)) r')
  (hF : ∀ j, j < n → p j = false → Ev (fun k => g k (j : Int)) rF) (he : (List.range n).all p = true → Ev (fun k => g k (n : Int)) r) : Ev (fun k => g k 0) (if (List.range n).all p = true then r else rF) :=
 rangeAll_ev g n p r rF hs hF he n 0 (by omega) (fun j hj => by omega)
end Go.Proofs.Ytnkihjabmbeicaa.Base
namespace Go.Proofs.Ytnkihjabmbeicaa.Base
set_option linter.unusedSimpArgs false
set_option linter.unusedVariables false
open Go.RowKit Go.Proofs.YtnkihjabmbeicaaW.PrintWords Go.Proofs.YtnkihjabmbeicaaW.PrintLast Go.Proofs.YtnkihjabmbeicaaW.PrintMore
end Go.Proofs.Ytnkihjabmbeicaa.Base
