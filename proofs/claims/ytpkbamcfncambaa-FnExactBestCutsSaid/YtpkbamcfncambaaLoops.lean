/- Loops over lists, told once: a state carried along, a list held against itself, places marked and found again. -/
import Derived.Test.YtpkbamcfncambaaBase
namespace Go.Proofs.Ytpkbamcfncambaa.Base
set_option linter.unusedSimpArgs false
set_option linter.unusedVariables false
open Go.RowKit Go.Proofs.YtpkbamcfncambaaW.PrintWords Go.Proofs.YtpkbamcfncambaaW.PrintLast Go.Proofs.YtpkbamcfncambaaW.PrintMore

theorem Ev.step1 {α : Type} {g f : Nat → Option α} {r : α} (h : ∀ k, g (k + 1) = f k) (k : Ev f r) : Ev g r := Ev.step h k
/-- A loop that counts to n. -/
theorem count_ev {ρ : Type} (g : Nat → Int → Option ρ) (n : Nat) (r : ρ) (hs : ∀ i : Nat, i < n → Ev (fun k => g k ((i + 1 : Nat) : Int)) r → Ev (fun k => g k (i : Int)) r) (he : Ev (fun k => g k (n : Int)) r) :
    ∀ d i : Nat, i + d = n → Ev (fun k => g k (i : Int)) r
  | 0, i, h => by obtain rfl : i = n := by omega
                  exact he
  | d + 1, i, h => hs i (by omega) (count_ev g n r hs he d (i + 1) (by omega))
theorem count_ev0 {ρ : Type} (g : Nat → Int → Option ρ) (n : Nat) (r : ρ) (hs : ∀ i : Nat, i < n → Ev (fun k => g k ((i + 1 : Nat) : Int)) r → Ev (fun k => g k (i : Int)) r) (he : Ev (fun k => g k (n : Int)) r) :
    Ev (fun k => g k 0) r := count_ev g n r hs he n 0 (by omega)
/-- A loop over a list that carries a state, whatever its rounds do. -/
def scanG {α σ ρ : Type} (f : Int → α → σ → ρ ⊕ σ) (fin : σ → ρ) : List α → Int → σ → ρ
  | [], _, s => fin s
  | x :: xs, i, s => match f i x s with | .inl r => r | .inr s' => scanG f fin xs (i + 1) s'
theorem scan_ev {α σ ρ : Type} (x0 : List α) (f : Int → α → σ → ρ ⊕ σ) (fin : σ → ρ) (g : Nat → σ → Int → Option ρ) (Inv : Nat → σ → Prop)
    (hs : ∀ s (i : Nat) (h : i < x0.length) r, Inv i s → (∀ r', f i x0[i] s = .inl r' → r' = r) → (∀ s', f i x0[i] s = .inr s' → Inv (i + 1) s' → Ev (fun k => g k s' ((i + 1 : Nat) : Int)) r) → Ev (fun k => g k s (i : Int)) r)
    (hI : ∀ s (i : Nat) (h : i < x0.length) s', Inv i s → f i x0[i] s = .inr s' → Inv (i + 1) s')
    (he : ∀ s, Inv x0.length s → Ev (fun k => g k s (x0.length : Int)) (fin s)) :
    ∀ (d i : Nat) (s : σ), i + d = x0.length → Inv i s → Ev (fun k => g k s (i : Int)) (scanG f fin (x0.drop i) i s)
  | 0, i, s, h, hi => by
    obtain rfl : i = x0.length := by omega
    rw [List.drop_of_length_le (by omega)]
    exact he s hi
  | d + 1, i, s, h, hi => by
    have h0 : i < x0.length := by omega
    rw [drop_at x0 i h0, scanG]
    refine hs s i h0 _ hi (fun r' e => by rw [e]) (fun s' e hi' => ?_)
    rw [e]
    exact scan_ev x0 f fin g Inv hs hI he d (i + 1) s' (by omega) hi'
theorem scan_ev0 {α σ ρ : Type} (x0 : List α) (f : Int → α → σ → ρ ⊕ σ) (fin : σ → ρ) (g : Nat → σ → Int → Option ρ) (Inv : Nat → σ → Prop) (s : σ) (h0 : Inv 0 s)
    (hI : ∀ s (i : Nat) (h : i < x0.length) s', Inv i s → f i x0[i] s = .inr s' → Inv (i + 1) s')
    (hs : ∀ s (i : Nat) (h : i < x0.length) r, Inv i s → (∀ r', f i x0[i] s = .inl r' → r' = r) → (∀ s', f i x0[i] s = .inr s' → Inv (i + 1) s' → Ev (fun k => g k s' ((i + 1 : Nat) : Int)) r) → Ev (fun k => g k s (i : Int)) r)
    (he : ∀ s, Inv x0.length s → Ev (fun k => g k s (x0.length : Int)) (fin s)) :
    Ev (fun k => g k s 0) (scanG f fin x0 0 s) := scan_ev x0 f fin g Inv hs hI he x0.length 0 s (by omega) h0
/-- Each place is written by what the counter makes. -/
def marksG {α : Type} (mk : Int → α) (c : Int) : Nat → Int → List α
  | 0, _ => []
  | n + 1, k => mk k :: marksG mk c n (k + c)
theorem marksG_length {α : Type} (mk : Int → α) (c : Int) : ∀ n k, (marksG mk c n k).length = n
  | 0, _ => rfl
  | n + 1, k => by simp [marksG, marksG_length mk c n]
theorem mark_ev {α : Type} (mk : Int → α) (c : Int) (g : Nat → List α → Int → Int → Option (Int × List α)) (hc : 0 ≤ c) (hc4 : c ≤ 8)
    (hs : ∀ (x : List α) (j : Int) (i : Nat) (h : i < x.length) r, 0 ≤ j → j ≤ 4611686018427387904 → x.length ≤ 281474976710656 → Ev (fun k => g k (x.set i (mk j)) (j + c) ((i + 1 : Nat) : Int)) r → Ev (fun k => g k x j (i : Int)) r)
    (he : ∀ (x : List α) (j : Int), Ev (fun k => g k x j (x.length : Int)) (j, x)) :
    ∀ (d i : Nat) (j : Int) (x : List α), i + d = x.length → x.length ≤ 281474976710656 → 0 ≤ j → j + c * d ≤ 4611686018427387904 → Ev (fun k => g k x j (i : Int)) (j + c * d, x.take i ++ marksG mk c d j)
  | 0, i, j, x, h, hn, hj, hm => by
    obtain rfl : i = x.length := by omega
    refine Ev.to (he x j) ?_
    simp [marksG]
  | d + 1, i, j, x, h, hn, hj, hm => by
    have h0 : i < x.length := by omega
    have hcd : c * ((d + 1 : Nat) : Int) = c * (d : Int) + c := by rw [Int.natCast_add, Int.mul_add]; simp
    have hcd0 : 0 ≤ c * (d : Int) := Int.mul_nonneg hc (by omega)
    refine hs x j i h0 _ hj (by omega) hn (Ev.to (mark_ev mk c g hc hc4 hs he d (i + 1) (j + c) _ (by simp; omega) (by simpa using hn) (by omega) (by omega)) ?_)
    rw [List.take_add_one, List.take_set_of_le (by omega), marksG]
    have hcd2 : c * ((d : Int) + 1) = c * (d : Int) + c := by rw [Int.mul_add]; simp
    simp [h0]; omega
theorem held_ev {α : Type} (mk : Int → α) (c : Int) (n : Nat) (g : Nat → Int → Int → Option Int) (hc : 0 ≤ c) (hc4 : c ≤ 8)
    (hs : ∀ (j : Int) (i : Nat) (h : i < (marksG mk c n 1).length) r, (marksG mk c n 1)[i] = mk j → 0 ≤ j → j ≤ 4611686018427387904 → Ev (fun k => g k (j + c) ((i + 1 : Nat) : Int)) r → Ev (fun k => g k j (i : Int)) r)
    (he : ∀ (j : Int), Ev (fun k => g k j (n : Int)) j) :
    ∀ (d i : Nat) (j : Int), i + d = n → 0 ≤ j → j + c * d ≤ 4611686018427387904 → (marksG mk c n 1).drop i = marksG mk c d j → Ev (fun k => g k j (i : Int)) (j + c * d)
  | 0, i, j, h, hj, hm, hx => by
    obtain rfl : i = n := by omega
    exact Ev.to (he j) (by simp)
  | d + 1, i, j, h, hj, hm, hx => by
    have h0 : i < (marksG mk c n 1).length := by rw [marksG_length]; omega
    have hcd : c * ((d + 1 : Nat) : Int) = c * (d : Int) + c := by rw [Int.natCast_add, Int.mul_add]; simp
    have hcd0 : 0 ≤ c * (d : Int) := Int.mul_nonneg hc (by omega)
    rw [drop_at _ i h0, marksG] at hx
    obtain ⟨h1, h2⟩ := List.cons.inj hx
    exact hs j i h0 _ h1 hj (by omega) (Ev.to (held_ev mk c n g hc hc4 hs he d (i + 1) (j + c) (by omega) (by omega) (by omega) h2) (by omega))
theorem mark_ev0 {α : Type} (mk : Int → α) (c : Int) (x : List α) (g : Nat → List α → Int → Int → Option (Int × List α)) (hc : 0 ≤ c) (hc4 : c ≤ 8) (hn : x.length ≤ 281474976710656)
    (hs : ∀ (x : List α) (j : Int) (i : Nat) (h : i < x.length) r, 0 ≤ j → j ≤ 4611686018427387904 → x.length ≤ 281474976710656 → Ev (fun k => g k (x.set i (mk j)) (j + c) ((i + 1 : Nat) : Int)) r → Ev (fun k => g k x j (i : Int)) r)
    (he : ∀ (x : List α) (j : Int), Ev (fun k => g k x j (x.length : Int)) (j, x)) : Ev (fun k => g k x 1 0) (1 + c * (x.length : Int), marksG mk c x.length 1) := by
  have hm : c * (x.length : Int) ≤ 8 * 281474976710656 := Int.mul_le_mul hc4 (by omega) (by omega) (by omega)
  exact Ev.to (mark_ev mk c g hc hc4 hs he x.length 0 1 x (by omega) hn (by omega) (by omega)) (by simp)
theorem held_ev0 {α : Type} (mk : Int → α) (c : Int) (n : Nat) (g : Nat → Int → Int → Option Int) (hc : 0 ≤ c) (hc4 : c ≤ 8) (hn : n ≤ 281474976710656)
    (hs : ∀ (j : Int) (i : Nat) (h : i < (marksG mk c n 1).length) r, (marksG mk c n 1)[i] = mk j → 0 ≤ j → j ≤ 4611686018427387904 → Ev (fun k => g k (j + c) ((i + 1 : Nat) : Int)) r → Ev (fun k => g k j (i : Int)) r)
    (he : ∀ (j : Int), Ev (fun k => g k j (n : Int)) j) : Ev (fun k => g k 1 0) (1 + c * (n : Int)) := by
  have hm : c * (n : Int) ≤ 8 * 281474976710656 := Int.mul_le_mul hc4 (by omega) (by omega) (by omega)
  exact held_ev mk c n g hc hc4 hs he n 0 1 (by omega) (by omega) (by omega) (by simp)
theorem held_evx {α : Type} (mk : Int → α) (c : Int) (x : List α) (g : Nat → Int → Int → Option Int) (hc : 0 ≤ c) (hc4 : c ≤ 8)
    (hs : ∀ (j : Int) (i : Nat) (h : i < x.length) r, x[i] = mk j → 0 ≤ j → j ≤ 4611686018427387904 → Ev (fun k => g k (j + c) ((i + 1 : Nat) : Int)) r → Ev (fun k => g k j (i : Int)) r)
    (he : ∀ (j : Int), Ev (fun k => g k j (x.length : Int)) j) :
    ∀ (d i : Nat) (j : Int), i + d = x.length → 0 ≤ j → j + c * d ≤ 4611686018427387904 → x.drop i = marksG mk c d j → Ev (fun k => g k j (i : Int)) (j + c * d)
  | 0, i, j, h, hj, hm, hx => by
    obtain rfl : i = x.length := by omega
    exact Ev.to (he j) (by simp)
  | d + 1, i, j, h, hj, hm, hx => by
    have h0 : i < x.length := by omega
    have hcd : c * ((d + 1 : Nat) : Int) = c * (d : Int) + c := by rw [Int.natCast_add, Int.mul_add]; simp
    have hcd0 : 0 ≤ c * (d : Int) := Int.mul_nonneg hc (by omega)
    rw [drop_at _ i h0, marksG] at hx
    obtain ⟨h1, h2⟩ := List.cons.inj hx
    exact hs j i h0 _ h1 hj (by omega) (Ev.to (held_evx mk c x g hc hc4 hs he d (i + 1) (j + c) (by omega) (by omega) (by omega) h2) (by omega))
/-- A list made place by place out of another one. -/
theorem copy_ev {α β : Type} (x0 : List α) (φ : α → β) (g : Nat → List β → Int → Option (List β))
    (hs : ∀ (x3 : List β) (i : Nat) (h : i < x0.length) r, x3.length = x0.length → Ev (fun k => g k (x3.set i (φ x0[i])) ((i + 1 : Nat) : Int)) r → Ev (fun k => g k x3 (i : Int)) r)
    (he : ∀ x3 : List β, Ev (fun k => g k x3 (x0.length : Int)) x3) :
    ∀ (d i : Nat) (x3 : List β), i + d = x0.length → x3.length = x0.length → x3.take i = (x0.map φ).take i → Ev (fun k => g k x3 (i : Int)) (x0.map φ)
  | 0, i, x3, h, h3, ht => by
    obtain rfl : i = x0.length := by omega
    rw [List.take_of_length_le (by omega), List.take_of_length_le (by simp)] at ht
    exact Ev.to (he x3) ht
  | d + 1, i, x3, h, h3, ht => by
    have h0 : i < x0.length := by omega
    refine hs x3 i h0 _ h3 (copy_ev x0 φ g hs he d (i + 1) _ (by omega) (by simpa using h3) ?_)
    rw [List.take_add_one, List.take_add_one, List.take_set_of_le (by omega), ht]
    simp [h3, h0]
theorem copy_ev0 {α β : Type} (x0 : List α) (φ : α → β) (z : β) (g : Nat → List β → Int → Option (List β))
    (hs : ∀ (x3 : List β) (i : Nat) (h : i < x0.length) r, x3.length = x0.length → Ev (fun k => g k (x3.set i (φ x0[i])) ((i + 1 : Nat) : Int)) r → Ev (fun k => g k x3 (i : Int)) r)
    (he : ∀ x3 : List β, Ev (fun k => g k x3 (x0.length : Int)) x3) : Ev (fun k => g k (List.replicate x0.length z) 0) (x0.map φ) :=
  copy_ev x0 φ g hs he x0.length 0 _ (by omega) (by simp) (by simp)
/-- A loop that ends at the first number that answers no. -/
theorem rangeAll_ev {ρ : Type} (g : Nat → Int → Option ρ) (n : Nat) (p : Nat → Bool) (r rF : ρ) (hs : ∀ j, j < n → p j = true → ∀ r', Ev (fun k => g k ((j + 1 : Nat) : Int)) r' → Ev (fun k => g k (j : Int)) r')
    (hF : ∀ j, j < n → p j = false → Ev (fun k => g k (j : Int)) rF) (he : (List.range n).all p = true → Ev (fun k => g k (n : Int)) r) :
    ∀ d i : Nat, i + d = n → (∀ j, j < i → p j = true) → Ev (fun k => g k (i : Int)) (if (List.range n).all p = true then r else rF)
  | 0, i, h, hp => by
    obtain rfl : i = n := by omega
    have ha : (List.range i).all p = true := by rw [List.all_eq_true]; intro x hx; exact hp x (by simpa using hx)
    rw [if_pos ha]; exact he ha
  | d + 1, i, h, hp => by
    cases hq : p i with
    | true => exact hs i (by omega) hq _ (rangeAll_ev g n p r rF hs hF he d (i + 1) (by omega) (fun j hj => by
        by_cases e : j = i
        · rw [e]; exact hq
        · exact hp j (by omega)))
    | false =>
      have ha : ¬ (List.range n).all p = true := by
        rw [List.all_eq_true]; intro hh; have := hh i (by simp; omega); rw [hq] at this; cases this
      rw [if_neg ha]; exact hF i (by omega) hq
theorem rangeAll_ev0 {ρ : Type} (g : Nat → Int → Option ρ) (n : Nat) (p : Nat → Bool) (r rF : ρ) (hs : ∀ j, j < n → p j = true → ∀ r', Ev (fun k => g k ((j + 1 : Nat) : Int)) r' → Ev (fun k => g k (j : Int)) r')
    (hF : ∀ j, j < n → p j = false → Ev (fun k => g k (j : Int)) rF) (he : (List.range n).all p = true → Ev (fun k => g k (n : Int)) r) : Ev (fun k => g k 0) (if (List.range n).all p = true then r else rF) :=
  rangeAll_ev g n p r rF hs hF he n 0 (by omega) (fun j hj => by omega)
/-- A loop that folds a list, whatever comes behind it. -/
theorem fold_cps {α σ ρ : Type} (x0 : List α) (f : α → σ → σ) (g : Nat → σ → Int → Option ρ) (r : ρ) (Inv : Nat → σ → Prop)
    (hI : ∀ s (i : Nat) (h : i < x0.length), Inv i s → Inv (i + 1) (f x0[i] s))
    (hs : ∀ s (i : Nat) (h : i < x0.length), Inv i s → Ev (fun k => g k (f x0[i] s) ((i + 1 : Nat) : Int)) r → Ev (fun k => g k s (i : Int)) r) :
    ∀ (d i : Nat) (s : σ), i + d = x0.length → Inv i s → (Inv x0.length ((x0.drop i).foldl (fun s x => f x s) s) → Ev (fun k => g k ((x0.drop i).foldl (fun s x => f x s) s) (x0.length : Int)) r) → Ev (fun k => g k s (i : Int)) r
  | 0, i, s, h, hi, hk => by
    obtain rfl : i = x0.length := by omega
    rw [List.drop_of_length_le (by omega)] at hk
    exact hk hi
  | d + 1, i, s, h, hi, hk => by
    have h0 : i < x0.length := by omega
    rw [drop_at x0 i h0] at hk
    exact hs s i h0 hi (fold_cps x0 f g r Inv hI hs d (i + 1) _ (by omega) (hI s i h0 hi) hk)
theorem fold_cps0 {α σ ρ : Type} (x0 : List α) (f : α → σ → σ) (g : Nat → σ → Int → Option ρ) (r : ρ) (Inv : Nat → σ → Prop) (s : σ) (h0 : Inv 0 s)
    (hI : ∀ s (i : Nat) (h : i < x0.length), Inv i s → Inv (i + 1) (f x0[i] s))
    (hs : ∀ s (i : Nat) (h : i < x0.length), Inv i s → Ev (fun k => g k (f x0[i] s) ((i + 1 : Nat) : Int)) r → Ev (fun k => g k s (i : Int)) r)
    (hk : Inv x0.length (x0.foldl (fun s x => f x s) s) → Ev (fun k => g k (x0.foldl (fun s x => f x s) s) (x0.length : Int)) r) : Ev (fun k => g k s 0) r :=
  fold_cps x0 f g r Inv hI hs x0.length 0 s (by omega) h0 hk
end Go.Proofs.Ytpkbamcfncambaa.Base
