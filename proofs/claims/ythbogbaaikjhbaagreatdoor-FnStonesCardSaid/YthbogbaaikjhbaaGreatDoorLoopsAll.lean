/- Small facts on numbers, lists and rounds that the proofs of this seat use: no Go and no memory in them. · Loops over lists, told once: a state carried along, a list held against itself, places marked and found again. · Loops that count, told once: a state carried from number to number, whatever comes behind. -/
import Derived.Test.YthbogbaaikjhbaaGreatDoorWMore
import Derived.Test.YthbogbaaikjhbaaGreatDoorWWords
import Derived.IntWalk
import Derived.Test.YthbogbaaikjhbaaGreatDoorBase0
namespace Go.Proofs.YthbogbaaikjhbaaGreatDoor.Base
set_option linter.unusedSimpArgs false
open Go.RowKit Go.Proofs.YthbogbaaikjhbaaGreatDoorW.PrintWords Go.Proofs.YthbogbaaikjhbaaGreatDoorW.PrintLast Go.Proofs.YthbogbaaikjhbaaGreatDoorW.PrintMore
theorem w64 {x : Int} (h : -9223372036854775808 ≤ x) (h2 : x ≤ 9223372036854775807) : wrap64 x = x := by unfold wrap64; omega
theorem w16_def (x : Int) : IntKind.i16.wrap x = (x + 32768) % 65536 - 32768 := by
 simp [IntKind.wrap, IntKind.signed, IntKind.bits]; split <;> omega
theorem w8_def (x : Int) : IntKind.i8.wrap x = (x + 128) % 256 - 128 := by
 simp [IntKind.wrap, IntKind.signed, IntKind.bits]; split <;> omega
theorem w16 {x : Int} (h : -32768 ≤ x) (h2 : x ≤ 32767) : IntKind.i16.wrap x = x := by rw [w16_def]; omega
theorem w8 {x : Int} (h : -128 ≤ x) (h2 : x ≤ 127) : IntKind.i8.wrap x = x := by rw [w8_def]; omega
theorem Ev.pos {α : Type} {c : Prop} [Decidable c] {f g : Nat → Option α} {r : α} (h : c) (e : Ev f r) : Ev (fun k => if c then f k else g k) r := by
 simpa only [if_pos h] using e
theorem Ev.neg {α : Type} {c : Prop} [Decidable c] {f g : Nat → Option α} {r : α} (h : ¬ c) (e : Ev g r) : Ev (fun k => if c then f k else g k) r := by
 simpa only [if_neg h] using e
theorem Ev.ite {α : Type} {c : Prop} [Decidable c] {f g : Nat → Option α} {r : α} (h : c → Ev f r) (h' : ¬ c → Ev g r) : Ev (fun k => if c then f k else g k) r := by
 by_cases hc : c
 ·
  exact Ev.pos hc (h hc)
 ·
  exact Ev.neg hc (h' hc)
theorem Ev.fin {α : Type} {r r' : α} (h : r = r') : Ev (fun _ => some r) r' := h ▸ Ev.now r
theorem Ev.nobind {α β : Type} {g : Option α} {f : Nat → α → Option β} {a : α} {r : β} (h : g = some a) (k : Ev (fun n => f n a) r) : Ev (fun n => g.bind (f n)) r := by
 subst h; exact k
theorem Ev.to {α : Type} {g : Nat → Option α} {r r' : α} (h : Ev g r) (e : r = r') : Ev g r' := e ▸ h
theorem drop_at {α : Type} (xs : List α) (i : Nat) (h : i < xs.length) : xs.drop i = xs[i] :: xs.drop (i + 1) := by
 exact List.drop_eq_getElem_cons h
/-- n lies between b and c. -/
def inB (n b c : Int) : Bool := decide (b ≤ n) && decide (n ≤ c)
theorem inB_iff {n b c : Int} : inB n b c = true ↔ b ≤ n ∧ n ≤ c := by simp [inB]
theorem inB_ite {n b c : Int} : (if n ≥ b then some (decide (n ≤ c)) else some false) = some (inB n b c) := by
 unfold inB; split <;> simp_all <;> omega
end Go.Proofs.YthbogbaaikjhbaaGreatDoor.Base
namespace Go.Proofs.YthbogbaaikjhbaaGreatDoor.Base
set_option linter.unusedSimpArgs false
set_option linter.unusedVariables false
open Go.RowKit Go.Proofs.YthbogbaaikjhbaaGreatDoorW.PrintWords Go.Proofs.YthbogbaaikjhbaaGreatDoorW.PrintLast Go.Proofs.YthbogbaaikjhbaaGreatDoorW.PrintMore
/-- A loop over a list that carries a state, whatever its rounds do. -/
def scanG {α σ ρ : Type} (f : Int → α → σ → ρ ⊕ σ) (fin : σ → ρ) : List α → Int → σ → ρ
 | [], _, s => fin s
 | x :: xs, i, s => match f i x s with | .inl r => r | .inr s' => scanG f fin xs (i + 1) s'
theorem scan_ev {α σ ρ : Type} (x0 : List α) (f : Int → α → σ → ρ ⊕ σ) (fin : σ → ρ) (g : Nat → σ → Int → Option ρ) (Inv : Nat → σ → Prop)
  (hs : ∀ s (i : Nat) (h : i < x0.length) r, Inv i s → (∀ r', f i x0[i] s = .inl r' → r' = r) → (∀ s', f i x0[i] s = .inr s' → Inv (i + 1) s' → Ev (fun k => g k s' ((i + 1 : Nat) : Int)) r) → Ev (fun k => g k s (i : Int)) r)
  (hI : ∀ s (i : Nat) (h : i < x0.length) s', Inv i s → f i x0[i] s = .inr s' → Inv (i + 1) s')
  (he : ∀ s, Inv x0.length s → Ev (fun k => g k s (x0.length : Int)) (fin s)) :
  ∀ (d i : Nat) (s : σ), i + d = x0.length → Inv i s → Ev (fun k => g k s (i : Int)) (scanG f fin (x0.drop i) i s)
 | 0, i, s, h, hi => by
  obtain rfl : i = x0.length := by omega
  rw [List.drop_of_length_le (by omega)]
  exact he s hi
 | d + 1, i, s, h, hi => by
  have h0 : i < x0.length := by omega
  rw [drop_at x0 i h0, scanG]
  refine hs s i h0 _ hi (fun r' e => by rw [e]) (fun s' e hi' => ?_)
  rw [e]
  exact scan_ev x0 f fin g Inv hs hI he d (i + 1) s' (by omega) hi'
theorem scan_ev0 {α σ ρ : Type} (x0 : List α) (f : Int → α → σ → ρ ⊕ σ) (fin : σ → ρ) (g : Nat → σ → Int → Option ρ) (Inv : Nat → σ → Prop) (s : σ) (h0 : Inv 0 s)
  (hI : ∀ s (i : Nat) (h : i < x0.length) s', Inv i s → f i x0[i] s = .inr s' → Inv (i + 1) s')
  (hs : ∀ s (i : Nat) (h : i < x0.length) r, Inv i s → (∀ r', f i x0[i] s = .inl r' → r' = r) → (∀ s', f i x0[i] s = .inr s' → Inv (i + 1) s' → Ev (fun k => g k s' ((i + 1 : Nat) : Int)) r) → Ev (fun k => g k s (i : Int)) r)
  (he : ∀ s, Inv x0.length s → Ev (fun k => g k s (x0.length : Int)) (fin s)) :
  Ev (fun k => g k s 0) (scanG f fin x0 0 s) := scan_ev x0 f fin g Inv hs hI he x0.length 0 s (by omega) h0
/-- A loop that ends at the first number that answers no. -/
theorem rangeAll_ev {ρ : Type} (g : Nat → Int → Option ρ) (n : Nat) (p : Nat → Bool) (r rF : ρ) (hs : ∀ j, j < n → p j = true → ∀ r', Ev (fun k => g k ((j + 1 : Nat) : Int)) r' → Ev (fun k => g k (j : Int)) r')
  (hF : ∀ j, j < n → p j = false → Ev (fun k => g k (j : Int)) rF) (he : (List.range n).all p = true → Ev (fun k => g k (n : Int)) r) :
  ∀ d i : Nat, i + d = n → (∀ j, j < i → p j = true) → Ev (fun k => g k (i : Int)) (if (List.range n).all p = true then r else rF)
 | 0, i, h, hp => by
  obtain rfl : i = n := by omega
  have ha : (List.range i).all p = true := by rw [List.all_eq_true]; intro x hx; exact hp x (by simpa using hx)
  rw [if_pos ha]; exact he ha
 | d + 1, i, h, hp => by
  cases hq : p i with
  | true => exact hs i (by omega) hq _ (rangeAll_ev g n p r rF hs hF he d (i + 1) (by omega) (fun j hj => by
    by_cases e : j = i
    ·
     rw [e]; exact hq
    ·
     exact hp j (by omega)))
  | false =>
   have ha : ¬ (List.range n).all p = true := by
    rw [List.all_eq_true]; intro hh; have := hh i (by simp; omega); rw [hq] at this; cases this
   rw [if_neg ha]; exact hF i (by omega) hq
theorem rangeAll_ev0 {ρ : Type} (g : Nat → Int → Option ρ) (n : Nat) (p : Nat → Bool) (r rF : ρ) (hs : ∀ j, j < n → p j = true → ∀ r', Ev (fun k => g k ((j + 1 : Nat) : Int)) r' → Ev (fun k => g k (j : Int)) r')
  (hF : ∀ j, j < n → p j = false → Ev (fun k => g k (j : Int)) rF) (he : (List.range n).all p = true → Ev (fun k => g k (n : Int)) r) : Ev (fun k => g k 0) (if (List.range n).all p = true then r else rF) :=
 rangeAll_ev g n p r rF hs hF he n 0 (by omega) (fun j hj => by omega)
/-- A loop that folds a list, whatever comes behind it. -/
theorem fold_cps {α σ ρ : Type} (x0 : List α) (f : α → σ → σ) (g : Nat → σ → Int → Option ρ) (r : ρ) (Inv : Nat → σ → Prop)
  (hI : ∀ s (i : Nat) (h : i < x0.length), Inv i s → Inv (i + 1) (f x0[i] s))
  (hs : ∀ s (i : Nat) (h : i < x0.length), Inv i s → Ev (fun k => g k (f x0[i] s) ((i + 1 : Nat) : Int)) r → Ev (fun k => g k s (i : Int)) r) :
  ∀ (d i : Nat) (s : σ), i + d = x0.length → Inv i s → (Inv x0.length ((x0.drop i).foldl (fun s x => f x s) s) → Ev (fun k => g k ((x0.drop i).foldl (fun s x => f x s) s) (x0.length : Int)) r) → Ev (fun k => g k s (i : Int)) r
 | 0, i, s, h, hi, hk => by
  obtain rfl : i = x0.length := by omega
  rw [List.drop_of_length_le (by omega)] at hk
  exact hk hi
 | d + 1, i, s, h, hi, hk => by
  have h0 : i < x0.length := by omega
  rw [drop_at x0 i h0] at hk
  exact hs s i h0 hi (fold_cps x0 f g r Inv hI hs d (i + 1) _ (by omega) (hI s i h0 hi) hk)
theorem fold_cps0 {α σ ρ : Type} (x0 : List α) (f : α → σ → σ) (g : Nat → σ → Int → Option ρ) (r : ρ) (Inv : Nat → σ → Prop) (s : σ) (h0 : Inv 0 s)
  (hI : ∀ s (i : Nat) (h : i < x0.length), Inv i s → Inv (i + 1) (f x0[i] s))
  (hs : ∀ s (i : Nat) (h : i < x0.length), Inv i s → Ev (fun k => g k (f x0[i] s) ((i + 1 : Nat) : Int)) r → Ev (fun k => g k s (i : Int)) r)
  (hk : Inv x0.length (x0.foldl (fun s x => f x s) s) → Ev (fun k => g k (x0.foldl (fun s x => f x s) s) (x0.length : Int)) r) : Ev (fun k => g k s 0) r :=
 fold_cps x0 f g r Inv hI hs x0.length 0 s (by omega) h0 hk
end Go.Proofs.YthbogbaaikjhbaaGreatDoor.Base
namespace Go.Proofs.YthbogbaaikjhbaaGreatDoor.Base
set_option linter.unusedSimpArgs false
set_option linter.unusedVariables false
open Go.RowKit Go.Proofs.YthbogbaaikjhbaaGreatDoorW.PrintWords Go.Proofs.YthbogbaaikjhbaaGreatDoorW.PrintLast Go.Proofs.YthbogbaaikjhbaaGreatDoorW.PrintMore
/-- d rounds from the number i on. -/
def iter {σ : Type} (f : Nat → σ → σ) : Nat → Nat → σ → σ
 | 0, _, s => s
 | d + 1, i, s => iter f d (i + 1) (f i s)
theorem iter_inv {σ : Type} {f : Nat → σ → σ} {Inv : Nat → σ → Prop} : ∀ (d i : Nat) (s : σ), (∀ s j, i ≤ j → j < i + d → Inv j s → Inv (j + 1) (f j s)) → Inv i s → Inv (i + d) (iter f d i s)
 | 0, i, s, _, h => h
 | d + 1, i, s, hI, h => by
  have := iter_inv d (i + 1) (f i s) (fun s j h1 h2 => hI s j (by omega) (by omega)) (hI s i (by omega) (by omega) h)
  rw [show i + (d + 1) = i + 1 + d by omega]; exact this
theorem iter_cps {σ ρ : Type} (n : Nat) (f : Nat → σ → σ) (g : Nat → σ → Int → Option ρ) (r : ρ) (Inv : Nat → σ → Prop)
  (hI : ∀ s (i : Nat) (h : i < n), Inv i s → Inv (i + 1) (f i s))
  (hs : ∀ s (i : Nat) (h : i < n), Inv i s → Ev (fun k => g k (f i s) ((i + 1 : Nat) : Int)) r → Ev (fun k => g k s (i : Int)) r) :
  ∀ (d i : Nat) (s : σ), i + d = n → Inv i s → (Inv n (iter f d i s) → Ev (fun k => g k (iter f d i s) (n : Int)) r) → Ev (fun k => g k s (i : Int)) r
 | 0, i, s, h, hi, hk => by
  obtain rfl : i = n := by omega
  exact hk hi
 | d + 1, i, s, h, hi, hk => hs s i (by omega) hi (iter_cps n f g r Inv hI hs d (i + 1) _ (by omega) (hI s i (by omega) hi) hk)
theorem iter_cps0 {σ ρ : Type} (n : Nat) (f : Nat → σ → σ) (g : Nat → σ → Int → Option ρ) (r : ρ) (Inv : Nat → σ → Prop) (s : σ) (h0 : Inv 0 s)
  (hI : ∀ s (i : Nat) (h : i < n), Inv i s → Inv (i + 1) (f i s))
  (hs : ∀ s (i : Nat) (h : i < n), Inv i s → Ev (fun k => g k (f i s) ((i + 1 : Nat) : Int)) r → Ev (fun k => g k s (i : Int)) r)
  (hk : Inv n (iter f n 0 s) → Ev (fun k => g k (iter f n 0 s) (n : Int)) r) : Ev (fun k => g k s 0) r :=
 iter_cps n f g r Inv hI hs n 0 s (by omega) h0 hk
end Go.Proofs.YthbogbaaikjhbaaGreatDoor.Base
