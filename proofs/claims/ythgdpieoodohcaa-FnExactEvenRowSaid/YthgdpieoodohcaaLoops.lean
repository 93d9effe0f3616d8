/- Loops over lists, told once: a state carried along, a list held against itself, places marked and found again. -/
import Derived.Test.YthgdpieoodohcaaBase
namespace Go.Proofs.Ythgdpieoodohcaa.Base
set_option linter.unusedSimpArgs false
set_option linter.unusedVariables false
open Go.RowKit Go.Proofs.YthgdpieoodohcaaW.PrintWords Go.Proofs.YthgdpieoodohcaaW.PrintLast Go.Proofs.YthgdpieoodohcaaW.PrintMore

theorem getD_nat {α : Type} (xs : List α) (z : α) (i : Nat) (h : i < xs.length) : xs.getD (i : Int).toNat z = xs[i] := by
  simp [List.getD_eq_getElem?_getD, h]
theorem Ev.step1 {α : Type} {g f : Nat → Option α} {r : α} (h : ∀ k, g (k + 1) = f k) (k : Ev f r) : Ev g r := Ev.step h k
/-- A loop that counts to n. -/
theorem count_ev {ρ : Type} (g : Nat → Int → Option ρ) (n : Nat) (r : ρ) (hs : ∀ i : Nat, i < n → Ev (fun k => g k ((i + 1 : Nat) : Int)) r → Ev (fun k => g k (i : Int)) r) (he : Ev (fun k => g k (n : Int)) r) :
    ∀ d i : Nat, i + d = n → Ev (fun k => g k (i : Int)) r
  | 0, i, h => by obtain rfl : i = n := by omega
                  exact he
  | d + 1, i, h => hs i (by omega) (count_ev g n r hs he d (i + 1) (by omega))
theorem count_ev0 {ρ : Type} (g : Nat → Int → Option ρ) (n : Nat) (r : ρ) (hs : ∀ i : Nat, i < n → Ev (fun k => g k ((i + 1 : Nat) : Int)) r → Ev (fun k => g k (i : Int)) r) (he : Ev (fun k => g k (n : Int)) r) :
    Ev (fun k => g k 0) r := count_ev g n r hs he n 0 (by omega)
/-- A loop over a list that carries a state, whatever its rounds do. -/
def scanG {α σ ρ : Type} (f : Int → α → σ → ρ ⊕ σ) (fin : σ → ρ) : List α → Int → σ → ρ
  | [], _, s => fin s
  | x :: xs, i, s => match f i x s with | .inl r => r | .inr s' => scanG f fin xs (i + 1) s'
theorem scan_ev {α σ ρ : Type} (x0 : List α) (f : Int → α → σ → ρ ⊕ σ) (fin : σ → ρ) (g : Nat → σ → Int → Option ρ) (Inv : Nat → σ → Prop)
    (hs : ∀ s (i : Nat) (h : i < x0.length) r, Inv i s → (∀ r', f i x0[i] s = .inl r' → r' = r) → (∀ s', f i x0[i] s = .inr s' → Inv (i + 1) s' → Ev (fun k => g k s' ((i + 1 : Nat) : Int)) r) → Ev (fun k => g k s (i : Int)) r)
    (hI : ∀ s (i : Nat) (h : i < x0.length) s', Inv i s → f i x0[i] s = .inr s' → Inv (i + 1) s')
    (he : ∀ s, Inv x0.length s → Ev (fun k => g k s (x0.length : Int)) (fin s)) :
    ∀ (d i : Nat) (s : σ), i + d = x0.length → Inv i s → Ev (fun k => g k s (i : Int)) (scanG f fin (x0.drop i) i s)
  | 0, i, s, h, hi => by
    obtain rfl : i = x0.length := by omega
    rw [List.drop_of_length_le (by omega)]
    exact he s hi
  | d + 1, i, s, h, hi => by
    have h0 : i < x0.length := by omega
    rw [drop_at x0 i h0, scanG]
    refine hs s i h0 _ hi (fun r' e => by rw [e]) (fun s' e hi' => ?_)
    rw [e]
    exact scan_ev x0 f fin g Inv hs hI he d (i + 1) s' (by omega) hi'
theorem scan_ev0 {α σ ρ : Type} (x0 : List α) (f : Int → α → σ → ρ ⊕ σ) (fin : σ → ρ) (g : Nat → σ → Int → Option ρ) (Inv : Nat → σ → Prop) (s : σ) (h0 : Inv 0 s)
    (hI : ∀ s (i : Nat) (h : i < x0.length) s', Inv i s → f i x0[i] s = .inr s' → Inv (i + 1) s')
    (hs : ∀ s (i : Nat) (h : i < x0.length) r, Inv i s → (∀ r', f i x0[i] s = .inl r' → r' = r) → (∀ s', f i x0[i] s = .inr s' → Inv (i + 1) s' → Ev (fun k => g k s' ((i + 1 : Nat) : Int)) r) → Ev (fun k => g k s (i : Int)) r)
    (he : ∀ s, Inv x0.length s → Ev (fun k => g k s (x0.length : Int)) (fin s)) :
    Ev (fun k => g k s 0) (scanG f fin x0 0 s) := scan_ev x0 f fin g Inv hs hI he x0.length 0 s (by omega) h0
/-- Each place is written by what the counter makes. -/
def marksG {α : Type} (mk : Int → α) (c : Int) : Nat → Int → List α
  | 0, _ => []
  | n + 1, k => mk k :: marksG mk c n (k + c)
theorem marksG_length {α : Type} (mk : Int → α) (c : Int) : ∀ n k, (marksG mk c n k).length = n
  | 0, _ => rfl
  | n + 1, k => by simp [marksG, marksG_length mk c n]
theorem mark_ev {α : Type} (mk : Int → α) (c : Int) (g : Nat → List α → Int → Int → Option (Int × List α)) (hc : 0 ≤ c) (hc4 : c ≤ 8)
    (hs : ∀ (x : List α) (j : Int) (i : Nat) (h : i < x.length) r, 0 ≤ j → j ≤ 4611686018427387904 → x.length ≤ 281474976710656 → Ev (fun k => g k (x.set i (mk j)) (j + c) ((i + 1 : Nat) : Int)) r → Ev (fun k => g k x j (i : Int)) r)
    (he : ∀ (x : List α) (j : Int), Ev (fun k => g k x j (x.length : Int)) (j, x)) :
    ∀ (d i : Nat) (j : Int) (x : List α), i + d = x.length → x.length ≤ 281474976710656 → 0 ≤ j → j + c * d ≤ 4611686018427387904 → Ev (fun k => g k x j (i : Int)) (j + c * d, x.take i ++ marksG mk c d j)
  | 0, i, j, x, h, hn, hj, hm => by
    obtain rfl : i = x.length := by omega
    refine Ev.to (he x j) ?_
    simp [marksG]
  | d + 1, i, j, x, h, hn, hj, hm => by
    have h0 : i < x.length := by omega
    have hcd : c * ((d + 1 : Nat) : Int) = c * (d : Int) + c := by rw [Int.natCast_add, Int.mul_add]; simp
    have hcd0 : 0 ≤ c * (d : Int) := Int.mul_nonneg hc (by omega)
    refine hs x j i h0 _ hj (by omega) hn (Ev.to (mark_ev mk c g hc hc4 hs he d (i + 1) (j + c) _ (by simp; omega) (by simpa using hn) (by omega) (by omega)) ?_)
    rw [List.take_add_one, List.take_set_of_le (by omega), marksG]
    have hcd2 : c * ((d : Int) + 1) = c * (d : Int) + c := by rw [Int.mul_add]; simp
    simp [h0]; omega
theorem held_ev {α : Type} (mk : Int → α) (c : Int) (n : Nat) (g : Nat → Int → Int → Option Int) (hc : 0 ≤ c) (hc4 : c ≤ 8)
    (hs : ∀ (j : Int) (i : Nat) (h : i < (marksG mk c n 1).length) r, (marksG mk c n 1)[i] = mk j → 0 ≤ j → j ≤ 4611686018427387904 → Ev (fun k => g k (j + c) ((i + 1 : Nat) : Int)) r → Ev (fun k => g k j (i : Int)) r)
    (he : ∀ (j : Int), Ev (fun k => g k j (n : Int)) j) :
    ∀ (d i : Nat) (j : Int), i + d = n → 0 ≤ j → j + c * d ≤ 4611686018427387904 → (marksG mk c n 1).drop i = marksG mk c d j → Ev (fun k => g k j (i : Int)) (j + c * d)
  | 0, i, j, h, hj, hm, hx => by
    obtain rfl : i = n := by omega
    exact Ev.to (he j) (by simp)
  | d + 1, i, j, h, hj, hm, hx => by
    have h0 : i < (marksG mk c n 1).length := by rw [marksG_length]; omega
    have hcd : c * ((d + 1 : Nat) : Int) = c * (d : Int) + c := by rw [Int.natCast_add, Int.mul_add]; simp
    have hcd0 : 0 ≤ c * (d : Int) := Int.mul_nonneg hc (by omega)
    rw [drop_at _ i h0, marksG] at hx
    obtain ⟨h1, h2⟩ := List.cons.inj hx
    exact hs j i h0 _ h1 hj (by omega) (Ev.to (held_ev mk c n g hc hc4 hs he d (i + 1) (j + c) (by omega) (by omega) (by omega) h2) (by omega))
theorem mark_ev0 {α : Type} (mk : Int → α) (c : Int) (x : List α) (g : Nat → List α → Int → Int → Option (Int × List α)) (hc : 0 ≤ c) (hc4 : c ≤ 8) (hn : x.length ≤ 281474976710656)
    (hs : ∀ (x : List α) (j : Int) (i : Nat) (h : i < x.length) r, 0 ≤ j → j ≤ 4611686018427387904 → x.length ≤ 281474976710656 → Ev (fun k => g k (x.set i (mk j)) (j + c) ((i + 1 : Nat) : Int)) r → Ev (fun k => g k x j (i : Int)) r)
    (he : ∀ (x : List α) (j : Int), Ev (fun k => g k x j (x.length : Int)) (j, x)) : Ev (fun k => g k x 1 0) (1 + c * (x.length : Int), marksG mk c x.length 1) := by
  have hm : c * (x.length : Int) ≤ 8 * 281474976710656 := Int.mul_le_mul hc4 (by omega) (by omega) (by omega)
  exact Ev.to (mark_ev mk c g hc hc4 hs he x.length 0 1 x (by omega) hn (by omega) (by omega)) (by simp)
theorem held_ev0 {α : Type} (mk : Int → α) (c : Int) (n : Nat) (g : Nat → Int → Int → Option Int) (hc : 0 ≤ c) (hc4 : c ≤ 8) (hn : n ≤ 281474976710656)
    (hs : ∀ (j : Int) (i : Nat) (h : i < (marksG mk c n 1).length) r, (marksG mk c n 1)[i] = mk j → 0 ≤ j → j ≤ 4611686018427387904 → Ev (fun k => g k (j + c) ((i + 1 : Nat) : Int)) r → Ev (fun k => g k j (i : Int)) r)
    (he : ∀ (j : Int), Ev (fun k => g k j (n : Int)) j) : Ev (fun k => g k 1 0) (1 + c * (n : Int)) := by
  have hm : c * (n : Int) ≤ 8 * 281474976710656 := Int.mul_le_mul hc4 (by omega) (by omega) (by omega)
  exact held_ev mk c n g hc hc4 hs he n 0 1 (by omega) (by omega) (by omega) (by simp)
end Go.Proofs.Ythgdpieoodohcaa.Base
