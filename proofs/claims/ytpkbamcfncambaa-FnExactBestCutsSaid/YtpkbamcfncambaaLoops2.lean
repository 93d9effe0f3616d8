/- Loops that count, told once: a state carried from number to number, whatever comes behind. -/
import Derived.Test.YtpkbamcfncambaaLoops
namespace Go.Proofs.Ytpkbamcfncambaa.Base
set_option linter.unusedSimpArgs false
set_option linter.unusedVariables false
open Go.RowKit Go.Proofs.YtpkbamcfncambaaW.PrintWords Go.Proofs.YtpkbamcfncambaaW.PrintLast Go.Proofs.YtpkbamcfncambaaW.PrintMore

/-- d rounds from the number i on. -/
def iter {σ : Type} (f : Nat → σ → σ) : Nat → Nat → σ → σ
  | 0, _, s => s
  | d + 1, i, s => iter f d (i + 1) (f i s)
theorem iter_inv {σ : Type} {f : Nat → σ → σ} {Inv : Nat → σ → Prop} : ∀ (d i : Nat) (s : σ), (∀ s j, i ≤ j → j < i + d → Inv j s → Inv (j + 1) (f j s)) → Inv i s → Inv (i + d) (iter f d i s)
  | 0, i, s, _, h => h
  | d + 1, i, s, hI, h => by
    have := iter_inv d (i + 1) (f i s) (fun s j h1 h2 => hI s j (by omega) (by omega)) (hI s i (by omega) (by omega) h)
    rw [show i + (d + 1) = i + 1 + d by omega]; exact this
theorem iter_cps {σ ρ : Type} (n : Nat) (f : Nat → σ → σ) (g : Nat → σ → Int → Option ρ) (r : ρ) (Inv : Nat → σ → Prop)
    (hI : ∀ s (i : Nat) (h : i < n), Inv i s → Inv (i + 1) (f i s))
    (hs : ∀ s (i : Nat) (h : i < n), Inv i s → Ev (fun k => g k (f i s) ((i + 1 : Nat) : Int)) r → Ev (fun k => g k s (i : Int)) r) :
    ∀ (d i : Nat) (s : σ), i + d = n → Inv i s → (Inv n (iter f d i s) → Ev (fun k => g k (iter f d i s) (n : Int)) r) → Ev (fun k => g k s (i : Int)) r
  | 0, i, s, h, hi, hk => by
    obtain rfl : i = n := by omega
    exact hk hi
  | d + 1, i, s, h, hi, hk => hs s i (by omega) hi (iter_cps n f g r Inv hI hs d (i + 1) _ (by omega) (hI s i (by omega) hi) hk)
theorem iter_cps0 {σ ρ : Type} (n : Nat) (f : Nat → σ → σ) (g : Nat → σ → Int → Option ρ) (r : ρ) (Inv : Nat → σ → Prop) (s : σ) (h0 : Inv 0 s)
    (hI : ∀ s (i : Nat) (h : i < n), Inv i s → Inv (i + 1) (f i s))
    (hs : ∀ s (i : Nat) (h : i < n), Inv i s → Ev (fun k => g k (f i s) ((i + 1 : Nat) : Int)) r → Ev (fun k => g k s (i : Int)) r)
    (hk : Inv n (iter f n 0 s) → Ev (fun k => g k (iter f n 0 s) (n : Int)) r) : Ev (fun k => g k s 0) r :=
  iter_cps n f g r Inv hI hs n 0 s (by omega) h0 hk
/-- A loop that keeps what is said of its state. -/
theorem inv_cps {σ ρ : Type} (n : Nat) (g : Nat → σ → Int → Option ρ) (r : ρ) (Inv : Nat → σ → Prop)
    (hs : ∀ s (i : Nat) (h : i < n), Inv i s → (∀ s', Inv (i + 1) s' → Ev (fun k => g k s' ((i + 1 : Nat) : Int)) r) → Ev (fun k => g k s (i : Int)) r)
    (he : ∀ s, Inv n s → Ev (fun k => g k s (n : Int)) r) :
    ∀ (d i : Nat) (s : σ), i + d = n → Inv i s → Ev (fun k => g k s (i : Int)) r
  | 0, i, s, h, hi => by
    obtain rfl : i = n := by omega
    exact he s hi
  | d + 1, i, s, h, hi => hs s i (by omega) hi (fun s' h' => inv_cps n g r Inv hs he d (i + 1) s' (by omega) h')
theorem inv_cps0 {σ ρ : Type} (n : Nat) (g : Nat → σ → Int → Option ρ) (r : ρ) (Inv : Nat → σ → Prop) (s : σ) (h0 : Inv 0 s)
    (hs : ∀ s (i : Nat) (h : i < n), Inv i s → (∀ s', Inv (i + 1) s' → Ev (fun k => g k s' ((i + 1 : Nat) : Int)) r) → Ev (fun k => g k s (i : Int)) r)
    (he : ∀ s, Inv n s → Ev (fun k => g k s (n : Int)) r) : Ev (fun k => g k s 0) r := inv_cps n g r Inv hs he n 0 s (by omega) h0
end Go.Proofs.Ytpkbamcfncambaa.Base
