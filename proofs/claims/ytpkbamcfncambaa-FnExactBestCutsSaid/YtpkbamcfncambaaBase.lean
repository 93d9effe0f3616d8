/- Small facts on numbers, lists and rounds that the proofs of this seat use: no Go and no memory in them. -/
import Derived.Test.YtpkbamcfncambaaWMore
import Derived.Test.YtpkbamcfncambaaWWords
import Derived.IntWalk
import Derived.Test.YtpkbamcfncambaaBase0
namespace Go.Proofs.Ytpkbamcfncambaa.Base
set_option linter.unusedSimpArgs false
open Go.RowKit Go.Proofs.YtpkbamcfncambaaW.PrintWords Go.Proofs.YtpkbamcfncambaaW.PrintLast Go.Proofs.YtpkbamcfncambaaW.PrintMore

theorem w64 {x : Int} (h : -9223372036854775808 ≤ x) (h2 : x ≤ 9223372036854775807) : wrap64 x = x := by unfold wrap64; omega
theorem wf8 {x : Int} (h : (Lit.int .i8 x).wf = true) : -128 ≤ x ∧ x ≤ 127 := by
  simp [Lit.wf, IntKind.min, IntKind.max, IntKind.signed, IntKind.bits] at h; omega
theorem wf16 {x : Int} (h : (Lit.int .i16 x).wf = true) : -32768 ≤ x ∧ x ≤ 32767 := by
  simp [Lit.wf, IntKind.min, IntKind.max, IntKind.signed, IntKind.bits] at h; omega
theorem wf64 {x : Int} (h : (Lit.int .i64 x).wf = true) : -9223372036854775808 ≤ x ∧ x ≤ 9223372036854775807 := by
  simp [Lit.wf, IntKind.min, IntKind.max, IntKind.signed, IntKind.bits] at h; omega
theorem w16_def (x : Int) : IntKind.i16.wrap x = (x + 32768) % 65536 - 32768 := by
  simp [IntKind.wrap, IntKind.signed, IntKind.bits]; split <;> omega
theorem w8_def (x : Int) : IntKind.i8.wrap x = (x + 128) % 256 - 128 := by
  simp [IntKind.wrap, IntKind.signed, IntKind.bits]; split <;> omega
theorem w16 {x : Int} (h : -32768 ≤ x) (h2 : x ≤ 32767) : IntKind.i16.wrap x = x := by rw [w16_def]; omega
theorem w8 {x : Int} (h : -128 ≤ x) (h2 : x ≤ 127) : IntKind.i8.wrap x = x := by rw [w8_def]; omega

/-! ### rounds -/
theorem Ev.pos {α : Type} {c : Prop} [Decidable c] {f g : Nat → Option α} {r : α} (h : c) (e : Ev f r) : Ev (fun k => if c then f k else g k) r := by
  simpa only [if_pos h] using e
theorem Ev.neg {α : Type} {c : Prop} [Decidable c] {f g : Nat → Option α} {r : α} (h : ¬ c) (e : Ev g r) : Ev (fun k => if c then f k else g k) r := by
  simpa only [if_neg h] using e
theorem Ev.ite {α : Type} {c : Prop} [Decidable c] {f g : Nat → Option α} {r : α} (h : c → Ev f r) (h' : ¬ c → Ev g r) : Ev (fun k => if c then f k else g k) r := by
  by_cases hc : c
  · exact Ev.pos hc (h hc)
  · exact Ev.neg hc (h' hc)
theorem Ev.fin {α : Type} {r r' : α} (h : r = r') : Ev (fun _ => some r) r' := h ▸ Ev.now r
theorem Ev.nobind {α β : Type} {g : Option α} {f : Nat → α → Option β} {a : α} {r : β} (h : g = some a) (k : Ev (fun n => f n a) r) : Ev (fun n => g.bind (f n)) r := by
  subst h; exact k
theorem Ev.to {α : Type} {g : Nat → Option α} {r r' : α} (h : Ev g r) (e : r = r') : Ev g r' := e ▸ h

/-! ### lists read by a number -/
theorem drop_at {α : Type} (xs : List α) (i : Nat) (h : i < xs.length) : xs.drop i = xs[i] :: xs.drop (i + 1) := by
  exact List.drop_eq_getElem_cons h

/-- Two lists held against each other from place i on. -/
theorem eq_loop {x0 x1 : List Int} (g : Nat → Int → Option Bool) (hn : x0.length ≤ 9223372036854775806) (hl : x0.length = x1.length)
    (hg : ∀ k i, g (k + 1) i = if i < (x0.length : Int) then (if 0 ≤ i then (if i < (x1.length : Int) then (if (rd x0 i) = (rd x1 i) then (g k (wrap64 (i + 1))) else (some false)) else none) else none) else (some true)) :
    ∀ d i : Nat, i + d = x0.length → Ev (fun k => g k (i : Int)) (decide (x0.drop i = x1.drop i))
  | 0, i, h => by
    refine Ev.step (fun k => hg k _) (Ev.neg (by omega) (Ev.fin ?_))
    rw [List.drop_of_length_le (by omega), List.drop_of_length_le (by omega)]; simp
  | d + 1, i, h => by
    have h0 : i < x0.length := by omega
    have h1 : i < x1.length := by omega
    refine Ev.step (fun k => hg k _) (Ev.pos (by omega) (Ev.pos (by omega) (Ev.pos (by omega) ?_)))
    rw [rd_nat x0 i h0, rd_nat x1 i h1, w64 (by omega) (by omega), drop_at x0 i h0, drop_at x1 i h1]
    refine Ev.ite (fun he => ?_) (fun he => ?_)
    · refine Ev.to (eq_loop g hn hl hg d (i + 1) (by omega)) ?_
      rw [he]; simp only [List.cons.injEq, true_and]
    · refine Ev.fin ?_
      simp only [List.cons.injEq, he, false_and, decide_false]
/-- slices.Equal's loop. -/
theorem equal_loop {x0 x1 : List Int} (g : Nat → Int → Option Bool) (hn : x0.length ≤ 9223372036854775806) (hl : x0.length = x1.length)
    (hg : ∀ k i, g (k + 1) i = if i < (x0.length : Int) then (if 0 ≤ i then (if i < (x0.length : Int) then (if i < (x1.length : Int) then (if (rd x0 i) = (rd x1 i) then (g k (wrap64 (i + 1))) else (some false)) else none) else none) else none) else (some true)) :
    Ev (fun k => g k 0) (decide (x0 = x1)) :=
  Ev.to (eq_loop g hn hl (fun k i => by rw [hg]; by_cases h : i < (x0.length : Int) <;> simp only [h, if_true, if_false]) x0.length 0 (by omega)) (by simp)
/-- A list copied, place by place, into zeros. -/
theorem copy_loop {x0 : List Int} (g : Nat → List Int → Int → Option (List Int)) (hn : x0.length ≤ 9223372036854775806)
    (hg : ∀ k x3 i, g (k + 1) x3 i = if i < (x0.length : Int) then (if 0 ≤ i then (if i < (x3.length : Int) then (g k (x3.set (i : Int).toNat (rd x0 i)) (wrap64 (i + 1))) else none) else none) else (some x3)) :
    ∀ (d i : Nat) (x3 : List Int), i + d = x0.length → x3.length = x0.length → x3.take i = x0.take i → Ev (fun k => g k x3 (i : Int)) x0
  | 0, i, x3, h, h3, ht => by
    refine Ev.step (fun k => hg k _ _) (Ev.neg (by omega) (Ev.fin ?_))
    rwa [List.take_of_length_le (by omega), List.take_of_length_le (by omega)] at ht
  | d + 1, i, x3, h, h3, ht => by
    have h0 : i < x0.length := by omega
    refine Ev.step (fun k => hg k _ _) (Ev.pos (by omega) (Ev.pos (by omega) (Ev.pos (by omega) ?_)))
    rw [rd_nat x0 i h0, w64 (by omega) (by omega)]
    refine copy_loop g hn hg d (i + 1) _ (by omega) (by simpa using h3) ?_
    rw [Int.toNat_natCast, List.take_add_one, List.take_add_one, List.take_set_of_le (by omega), ht]
    simp [h3, h0]
/-- Each place is written by the next number. -/
def marks (w : Int → Int) : Nat → Int → List Int
  | 0, _ => []
  | n + 1, k => w k :: marks w n (k + 1)
theorem marks_length (w : Int → Int) : ∀ n k, (marks w n k).length = n
  | 0, _ => rfl
  | n + 1, k => by simp [marks, marks_length w n]
theorem mark_loop (w : Int → Int) (g : Nat → List Int → Int → Int → Option (Int × List Int))
    (hg : ∀ k x j i, g (k + 1) x j i = if i < (x.length : Int) then (if 0 ≤ i then (g k (x.set (i : Int).toNat (w j)) (wrap64 (j + 1)) (wrap64 (i + 1))) else none) else (some (j, x))) :
    ∀ (d i : Nat) (j : Int) (x : List Int), i + d = x.length → x.length ≤ 4611686018427387904 → 0 ≤ j → j + d ≤ 9223372036854775807 → Ev (fun k => g k x j (i : Int)) (j + d, x.take i ++ marks w d j)
  | 0, i, j, x, h, hn, hj, hm => by
    refine Ev.step (fun k => hg k _ _ _) (Ev.neg (by omega) (Ev.fin ?_))
    rw [List.take_of_length_le (by omega)]; simp [marks]
  | d + 1, i, j, x, h, hn, hj, hm => by
    have h0 : i < x.length := by omega
    refine Ev.step (fun k => hg k _ _ _) (Ev.pos (by omega) (Ev.pos (by omega) ?_))
    rw [w64 (x := (i : Int) + 1) (by omega) (by omega), w64 (x := j + 1) (by omega) (by omega), Int.toNat_natCast]
    refine Ev.to (mark_loop w g hg d (i + 1) (j + 1) _ (by simp; omega) (by simpa using hn) (by omega) (by omega)) ?_
    rw [List.take_add_one, List.take_set_of_le (by omega)]
    simp [marks, h0]; omega
/-- What was written is found again. -/
theorem held_loop (w : Int → Int) (x : List Int) (g : Nat → Int → Int → Option Int) (hn : x.length ≤ 4611686018427387904)
    (hg : ∀ k j i, g (k + 1) j i = if i < (x.length : Int) then (if 0 ≤ i then (if (rd x i) = (w j) then (g k (wrap64 (j + 1)) (wrap64 (i + 1))) else (some (-1))) else none) else (some j)) :
    ∀ (d i : Nat) (j : Int), i + d = x.length → 0 ≤ j → j + d ≤ 9223372036854775807 → x.drop i = marks w d j → Ev (fun k => g k j (i : Int)) (j + d)
  | 0, i, j, h, hj, hm, hx => by
    refine Ev.step (fun k => hg k _ _) (Ev.neg (by omega) (Ev.fin (by simp)))
  | d + 1, i, j, h, hj, hm, hx => by
    have h0 : i < x.length := by omega
    rw [drop_at x i h0, marks] at hx
    obtain ⟨h1, h2⟩ := List.cons.inj hx
    refine Ev.step (fun k => hg k _ _) (Ev.pos (by omega) (Ev.pos (by omega) ?_))
    rw [rd_nat x i h0]
    refine Ev.pos h1 ?_
    rw [w64 (x := (i : Int) + 1) (by omega) (by omega), w64 (x := j + 1) (by omega) (by omega)]
    refine Ev.to (held_loop w x g hn hg d (i + 1) (j + 1) (by omega) (by omega) (by omega) h2) (by omega)
/-- n lies between b and c. -/
def inB (n b c : Int) : Bool := decide (b ≤ n) && decide (n ≤ c)
theorem inB_iff {n b c : Int} : inB n b c = true ↔ b ≤ n ∧ n ≤ c := by simp [inB]
theorem inB_ite {n b c : Int} : (if n ≥ b then some (decide (n ≤ c)) else some false) = some (inB n b c) := by
  unfold inB; split <;> simp_all <;> omega
/-- A loop that ends at the first element that answers no. -/
theorem all_loop {x0 : List Int} (p : Int → Bool) (g : Nat → Int → Option Bool) (hn : x0.length ≤ 9223372036854775806)
    (hg : ∀ k i, 0 ≤ i → i < (x0.length : Int) → g (k + 1) i = if p (rd x0 i) = true then g k (wrap64 (i + 1)) else some false)
    (he : ∀ k i, ¬ i < (x0.length : Int) → g (k + 1) i = some true) :
    ∀ d i : Nat, i + d = x0.length → Ev (fun k => g k (i : Int)) ((x0.drop i).all p)
  | 0, i, h => by
    refine Ev.step (fun k => he k _ (by omega)) (Ev.fin ?_)
    rw [List.drop_of_length_le (by omega)]; rfl
  | d + 1, i, h => by
    have h0 : i < x0.length := by omega
    refine Ev.step (fun k => hg k _ (by omega) (by omega)) ?_
    rw [rd_nat x0 i h0, w64 (by omega) (by omega), drop_at x0 i h0, List.all_cons]
    refine Ev.ite (fun hp => ?_) (fun hp => Ev.fin ?_)
    · rw [hp]; exact Ev.to (all_loop p g hn hg he d (i + 1) (by omega)) (by simp)
    · rw [Bool.not_eq_true] at hp; rw [hp]; rfl
/-- A loop over a row that carries a state: it answers at an element, or goes on. -/
def scan {σ ρ : Type} (f : Int → Int → σ → ρ ⊕ σ) (fin : σ → ρ) : List Int → Int → σ → ρ
  | [], _, s => fin s
  | x :: xs, i, s => match f i x s with | .inl r => r | .inr s' => scan f fin xs (i + 1) s'
theorem scan_loop {σ ρ : Type} {x0 : List Int} (f : Int → Int → σ → ρ ⊕ σ) (fin : σ → ρ) (g : Nat → σ → Int → Option ρ) (hn : x0.length ≤ 9223372036854775806)
    (hg : ∀ k s i, 0 ≤ i → i < (x0.length : Int) → g (k + 1) s i = match f i (rd x0 i) s with | .inl r => some r | .inr s' => g k s' (wrap64 (i + 1)))
    (he : ∀ k s i, ¬ i < (x0.length : Int) → g (k + 1) s i = some (fin s)) :
    ∀ (d i : Nat) (s : σ), i + d = x0.length → Ev (fun k => g k s (i : Int)) (scan f fin (x0.drop i) i s)
  | 0, i, s, h => by
    refine Ev.step (fun k => he k _ _ (by omega)) (Ev.fin ?_)
    rw [List.drop_of_length_le (by omega)]; rfl
  | d + 1, i, s, h => by
    have h0 : i < x0.length := by omega
    refine Ev.step (fun k => hg k _ _ (by omega) (by omega)) ?_
    rw [rd_nat x0 i h0, w64 (by omega) (by omega), drop_at x0 i h0, scan]
    cases f (i : Int) x0[i] s with
    | inl r => exact Ev.fin rfl
    | inr s' => exact scan_loop f fin g hn hg he d (i + 1) s' (by omega)
theorem all_loop0 (x0 : List Int) (p : Int → Bool) (g : Nat → Int → Option Bool) (hn : x0.length ≤ 9223372036854775806)
    (hg : ∀ k i, 0 ≤ i → i < (x0.length : Int) → g (k + 1) i = if p (rd x0 i) = true then g k (wrap64 (i + 1)) else some false)
    (he : ∀ k i, ¬ i < (x0.length : Int) → g (k + 1) i = some true) : Ev (fun k => g k 0) (x0.all p) :=
  all_loop p g hn hg he x0.length 0 (by omega)
theorem scan_loop0 {σ ρ : Type} (x0 : List Int) (f : Int → Int → σ → ρ ⊕ σ) (fin : σ → ρ) (g : Nat → σ → Int → Option ρ) (s : σ) (hn : x0.length ≤ 9223372036854775806)
    (hg : ∀ k s i, 0 ≤ i → i < (x0.length : Int) → g (k + 1) s i = match f i (rd x0 i) s with | .inl r => some r | .inr s' => g k s' (wrap64 (i + 1)))
    (he : ∀ k s i, ¬ i < (x0.length : Int) → g (k + 1) s i = some (fin s)) : Ev (fun k => g k s 0) (scan f fin x0 0 s) :=
  scan_loop f fin g hn hg he x0.length 0 s (by omega)
end Go.Proofs.Ytpkbamcfncambaa.Base
