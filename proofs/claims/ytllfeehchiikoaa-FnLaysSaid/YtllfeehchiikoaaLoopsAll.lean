/- Small facts on numbers, lists and rounds that the proofs of this seat use: no Go and no memory in them. · Loops over lists, told once: a state carried along, a list held against itself, places marked and found again. · Loops that count, told once: a state carried from number to number, whatever comes behind. -/
import Derived.Test.YtllfeehchiikoaaWMore
import Derived.Test.YtllfeehchiikoaaWWords
import Derived.IntWalk
import Derived.Test.YtllfeehchiikoaaBase0
namespace Go.Proofs.Ytllfeehchiikoaa.Base
set_option linter.unusedSimpArgs false
open Go.RowKit Go.Proofs.YtllfeehchiikoaaW.PrintWords Go.Proofs.YtllfeehchiikoaaW.PrintLast Go.Proofs.YtllfeehchiikoaaW.PrintMore

theorem w64 {x : Int} (h : -9223372036854775808 ≤ x) (h2 : x ≤ 9223372036854775807) : wrap64 x = x := by unfold wrap64; omega
theorem wf8 {x : Int} (h : (Lit.int .i8 x).wf = true) : -128 ≤ x ∧ x ≤ 127 := by
  simp [Lit.wf, IntKind.min, IntKind.max, IntKind.signed, IntKind.bits] at h; omega
theorem wf16 {x : Int} (h : (Lit.int .i16 x).wf = true) : -32768 ≤ x ∧ x ≤ 32767 := by
  simp [Lit.wf, IntKind.min, IntKind.max, IntKind.signed, IntKind.bits] at h; omega
theorem wf64 {x : Int} (h : (Lit.int .i64 x).wf = true) : -9223372036854775808 ≤ x ∧ x ≤ 9223372036854775807 := by
  simp [Lit.wf, IntKind.min, IntKind.max, IntKind.signed, IntKind.bits] at h; omega
theorem w16_def (x : Int) : IntKind.i16.wrap x = (x + 32768) % 65536 - 32768 := by
  simp [IntKind.wrap, IntKind.signed, IntKind.bits]; split <;> omega
theorem w8_def (x : Int) : IntKind.i8.wrap x = (x + 128) % 256 - 128 := by
  simp [IntKind.wrap, IntKind.signed, IntKind.bits]; split <;> omega
theorem w16 {x : Int} (h : -32768 ≤ x) (h2 : x ≤ 32767) : IntKind.i16.wrap x = x := by rw [w16_def]; omega
theorem w8 {x : Int} (h : -128 ≤ x) (h2 : x ≤ 127) : IntKind.i8.wrap x = x := by rw [w8_def]; omega

/-! ### rounds -/
theorem Ev.pos {α : Type} {c : Prop} [Decidable c] {f g : Nat → Option α} {r : α} (h : c) (e : Ev f r) : Ev (fun k => if c then f k else g k) r := by
  simpa only [if_pos h] using e
theorem Ev.neg {α : Type} {c : Prop} [Decidable c] {f g : Nat → Option α} {r : α} (h : ¬ c) (e : Ev g r) : Ev (fun k => if c then f k else g k) r := by
  simpa only [if_neg h] using e
theorem Ev.ite {α : Type} {c : Prop} [Decidable c] {f g : Nat → Option α} {r : α} (h : c → Ev f r) (h' : ¬ c → Ev g r) : Ev (fun k => if c then f k else g k) r := by
  by_cases hc : c
  · exact Ev.pos hc (h hc)
  · exact Ev.neg hc (h' hc)
theorem Ev.fin {α : Type} {r r' : α} (h : r = r') : Ev (fun _ => some r) r' := h ▸ Ev.now r
theorem Ev.nobind {α β : Type} {g : Option α} {f : Nat → α → Option β} {a : α} {r : β} (h : g = some a) (k : Ev (fun n => f n a) r) : Ev (fun n => g.bind (f n)) r := by
  subst h; exact k
theorem Ev.to {α : Type} {g : Nat → Option α} {r r' : α} (h : Ev g r) (e : r = r') : Ev g r' := e ▸ h

/-! ### lists read by a number -/
theorem drop_at {α : Type} (xs : List α) (i : Nat) (h : i < xs.length) : xs.drop i = xs[i] :: xs.drop (i + 1) := by
  exact List.drop_eq_getElem_cons h

/-- Two lists held against each other from place i on. -/
theorem eq_loop {x0 x1 : List Int} (g : Nat → Int → Option Bool) (hn : x0.length ≤ 9223372036854775806) (hl : x0.length = x1.length)
    (hg : ∀ k i, g (k + 1) i = if i < (x0.length : Int) then (if 0 ≤ i then (if i < (x1.length : Int) then (if (rd x0 i) = (rd x1 i) then (g k (wrap64 (i + 1))) else (some false)) else none) else none) else (some true)) :
    ∀ d i : Nat, i + d = x0.length → Ev (fun k => g k (i : Int)) (decide (x0.drop i = x1.drop i))
  | 0, i, h => by
    refine Ev.step (fun k => hg k _) (Ev.neg (by omega) (Ev.fin ?_))
    rw [List.drop_of_length_le (by omega), List.drop_of_length_le (by omega)]; simp
  | d + 1, i, h => by
    have h0 : i < x0.length := by omega
    have h1 : i < x1.length := by omega
    refine Ev.step (fun k => hg k _) (Ev.pos (by omega) (Ev.pos (by omega) (Ev.pos (by omega) ?_)))
    rw [rd_nat x0 i h0, rd_nat x1 i h1, w64 (by omega) (by omega), drop_at x0 i h0, drop_at x1 i h1]
    refine Ev.ite (fun he => ?_) (fun he => ?_)
    · refine Ev.to (eq_loop g hn hl hg d (i + 1) (by omega)) ?_
      rw [he]; simp only [List.cons.injEq, true_and]
    · refine Ev.fin ?_
      simp only [List.cons.injEq, he, false_and, decide_false]
/-- slices.Equal's loop. -/
theorem equal_loop {x0 x1 : List Int} (g : Nat → Int → Option Bool) (hn : x0.length ≤ 9223372036854775806) (hl : x0.length = x1.length)
    (hg : ∀ k i, g (k + 1) i = if i < (x0.length : Int) then (if 0 ≤ i then (if i < (x0.length : Int) then (if i < (x1.length : Int) then (if (rd x0 i) = (rd x1 i) then (g k (wrap64 (i + 1))) else (some false)) else none) else none) else none) else (some true)) :
    Ev (fun k => g k 0) (decide (x0 = x1)) :=
  Ev.to (eq_loop g hn hl (fun k i => by rw [hg]; by_cases h : i < (x0.length : Int) <;> simp only [h, if_true, if_false]) x0.length 0 (by omega)) (by simp)
/-- A list copied, place by place, into zeros. -/
theorem copy_loop {x0 : List Int} (g : Nat → List Int → Int → Option (List Int)) (hn : x0.length ≤ 9223372036854775806)
    (hg : ∀ k x3 i, g (k + 1) x3 i = if i < (x0.length : Int) then (if 0 ≤ i then (if i < (x3.length : Int) then (g k (x3.set (i : Int).toNat (rd x0 i)) (wrap64 (i + 1))) else none) else none) else (some x3)) :
    ∀ (d i : Nat) (x3 : List Int), i + d = x0.length → x3.length = x0.length → x3.take i = x0.take i → Ev (fun k => g k x3 (i : Int)) x0
  | 0, i, x3, h, h3, ht => by
    refine Ev.step (fun k => hg k _ _) (Ev.neg (by omega) (Ev.fin ?_))
    rwa [List.take_of_length_le (by omega), List.take_of_length_le (by omega)] at ht
  | d + 1, i, x3, h, h3, ht => by
    have h0 : i < x0.length := by omega
    refine Ev.step (fun k => hg k _ _) (Ev.pos (by omega) (Ev.pos (by omega) (Ev.pos (by omega) ?_)))
    rw [rd_nat x0 i h0, w64 (by omega) (by omega)]
    refine copy_loop g hn hg d (i + 1) _ (by omega) (by simpa using h3) ?_
    rw [Int.toNat_natCast, List.take_add_one, List.take_add_one, List.take_set_of_le (by omega), ht]
    simp [h3, h0]
/-- Each place is written by the next number. -/
def marks (w : Int → Int) : Nat → Int → List Int
  | 0, _ => []
  | n + 1, k => w k :: marks w n (k + 1)
theorem marks_length (w : Int → Int) : ∀ n k, (marks w n k).length = n
  | 0, _ => rfl
  | n + 1, k => by simp [marks, marks_length w n]
theorem mark_loop (w : Int → Int) (g : Nat → List Int → Int → Int → Option (Int × List Int))
    (hg : ∀ k x j i, g (k + 1) x j i = if i < (x.length : Int) then (if 0 ≤ i then (g k (x.set (i : Int).toNat (w j)) (wrap64 (j + 1)) (wrap64 (i + 1))) else none) else (some (j, x))) :
    ∀ (d i : Nat) (j : Int) (x : List Int), i + d = x.length → x.length ≤ 4611686018427387904 → 0 ≤ j → j + d ≤ 9223372036854775807 → Ev (fun k => g k x j (i : Int)) (j + d, x.take i ++ marks w d j)
  | 0, i, j, x, h, hn, hj, hm => by
    refine Ev.step (fun k => hg k _ _ _) (Ev.neg (by omega) (Ev.fin ?_))
    rw [List.take_of_length_le (by omega)]; simp [marks]
  | d + 1, i, j, x, h, hn, hj, hm => by
    have h0 : i < x.length := by omega
    refine Ev.step (fun k => hg k _ _ _) (Ev.pos (by omega) (Ev.pos (by omega) ?_))
    rw [w64 (x := (i : Int) + 1) (by omega) (by omega), w64 (x := j + 1) (by omega) (by omega), Int.toNat_natCast]
    refine Ev.to (mark_loop w g hg d (i + 1) (j + 1) _ (by simp; omega) (by simpa using hn) (by omega) (by omega)) ?_
    rw [List.take_add_one, List.take_set_of_le (by omega)]
    simp [marks, h0]; omega
/-- What was written is found again. -/
theorem held_loop (w : Int → Int) (x : List Int) (g : Nat → Int → Int → Option Int) (hn : x.length ≤ 4611686018427387904)
    (hg : ∀ k j i, g (k + 1) j i = if i < (x.length : Int) then (if 0 ≤ i then (if (rd x i) = (w j) then (g k (wrap64 (j + 1)) (wrap64 (i + 1))) else (some (-1))) else none) else (some j)) :
    ∀ (d i : Nat) (j : Int), i + d = x.length → 0 ≤ j → j + d ≤ 9223372036854775807 → x.drop i = marks w d j → Ev (fun k => g k j (i : Int)) (j + d)
  | 0, i, j, h, hj, hm, hx => by
    refine Ev.step (fun k => hg k _ _) (Ev.neg (by omega) (Ev.fin (by simp)))
  | d + 1, i, j, h, hj, hm, hx => by
    have h0 : i < x.length := by omega
    rw [drop_at x i h0, marks] at hx
    obtain ⟨h1, h2⟩ := List.cons.inj hx
    refine Ev.step (fun k => hg k _ _) (Ev.pos (by omega) (Ev.pos (by omega) ?_))
    rw [rd_nat x i h0]
    refine Ev.pos h1 ?_
    rw [w64 (x := (i : Int) + 1) (by omega) (by omega), w64 (x := j + 1) (by omega) (by omega)]
    refine Ev.to (held_loop w x g hn hg d (i + 1) (j + 1) (by omega) (by omega) (by omega) h2) (by omega)
/-- n lies between b and c. -/
def inB (n b c : Int) : Bool := decide (b ≤ n) && decide (n ≤ c)
theorem inB_iff {n b c : Int} : inB n b c = true ↔ b ≤ n ∧ n ≤ c := by simp [inB]
theorem inB_ite {n b c : Int} : (if n ≥ b then some (decide (n ≤ c)) else some false) = some (inB n b c) := by
  unfold inB; split <;> simp_all <;> omega
/-- A loop that ends at the first element that answers no. -/
theorem all_loop {x0 : List Int} (p : Int → Bool) (g : Nat → Int → Option Bool) (hn : x0.length ≤ 9223372036854775806)
    (hg : ∀ k i, 0 ≤ i → i < (x0.length : Int) → g (k + 1) i = if p (rd x0 i) = true then g k (wrap64 (i + 1)) else some false)
    (he : ∀ k i, ¬ i < (x0.length : Int) → g (k + 1) i = some true) :
    ∀ d i : Nat, i + d = x0.length → Ev (fun k => g k (i : Int)) ((x0.drop i).all p)
  | 0, i, h => by
    refine Ev.step (fun k => he k _ (by omega)) (Ev.fin ?_)
    rw [List.drop_of_length_le (by omega)]; rfl
  | d + 1, i, h => by
    have h0 : i < x0.length := by omega
    refine Ev.step (fun k => hg k _ (by omega) (by omega)) ?_
    rw [rd_nat x0 i h0, w64 (by omega) (by omega), drop_at x0 i h0, List.all_cons]
    refine Ev.ite (fun hp => ?_) (fun hp => Ev.fin ?_)
    · rw [hp]; exact Ev.to (all_loop p g hn hg he d (i + 1) (by omega)) (by simp)
    · rw [Bool.not_eq_true] at hp; rw [hp]; rfl
/-- A loop over a row that carries a state: it answers at an element, or goes on. -/
def scan {σ ρ : Type} (f : Int → Int → σ → ρ ⊕ σ) (fin : σ → ρ) : List Int → Int → σ → ρ
  | [], _, s => fin s
  | x :: xs, i, s => match f i x s with | .inl r => r | .inr s' => scan f fin xs (i + 1) s'
theorem scan_loop {σ ρ : Type} {x0 : List Int} (f : Int → Int → σ → ρ ⊕ σ) (fin : σ → ρ) (g : Nat → σ → Int → Option ρ) (hn : x0.length ≤ 9223372036854775806)
    (hg : ∀ k s i, 0 ≤ i → i < (x0.length : Int) → g (k + 1) s i = match f i (rd x0 i) s with | .inl r => some r | .inr s' => g k s' (wrap64 (i + 1)))
    (he : ∀ k s i, ¬ i < (x0.length : Int) → g (k + 1) s i = some (fin s)) :
    ∀ (d i : Nat) (s : σ), i + d = x0.length → Ev (fun k => g k s (i : Int)) (scan f fin (x0.drop i) i s)
  | 0, i, s, h => by
    refine Ev.step (fun k => he k _ _ (by omega)) (Ev.fin ?_)
    rw [List.drop_of_length_le (by omega)]; rfl
  | d + 1, i, s, h => by
    have h0 : i < x0.length := by omega
    refine Ev.step (fun k => hg k _ _ (by omega) (by omega)) ?_
    rw [rd_nat x0 i h0, w64 (by omega) (by omega), drop_at x0 i h0, scan]
    cases f (i : Int) x0[i] s with
    | inl r => exact Ev.fin rfl
    | inr s' => exact scan_loop f fin g hn hg he d (i + 1) s' (by omega)
theorem all_loop0 (x0 : List Int) (p : Int → Bool) (g : Nat → Int → Option Bool) (hn : x0.length ≤ 9223372036854775806)
    (hg : ∀ k i, 0 ≤ i → i < (x0.length : Int) → g (k + 1) i = if p (rd x0 i) = true then g k (wrap64 (i + 1)) else some false)
    (he : ∀ k i, ¬ i < (x0.length : Int) → g (k + 1) i = some true) : Ev (fun k => g k 0) (x0.all p) :=
  all_loop p g hn hg he x0.length 0 (by omega)
theorem scan_loop0 {σ ρ : Type} (x0 : List Int) (f : Int → Int → σ → ρ ⊕ σ) (fin : σ → ρ) (g : Nat → σ → Int → Option ρ) (s : σ) (hn : x0.length ≤ 9223372036854775806)
    (hg : ∀ k s i, 0 ≤ i → i < (x0.length : Int) → g (k + 1) s i = match f i (rd x0 i) s with | .inl r => some r | .inr s' => g k s' (wrap64 (i + 1)))
    (he : ∀ k s i, ¬ i < (x0.length : Int) → g (k + 1) s i = some (fin s)) : Ev (fun k => g k s 0) (scan f fin x0 0 s) :=
  scan_loop f fin g hn hg he x0.length 0 s (by omega)
end Go.Proofs.Ytllfeehchiikoaa.Base
namespace Go.Proofs.Ytllfeehchiikoaa.Base
set_option linter.unusedSimpArgs false
set_option linter.unusedVariables false
open Go.RowKit Go.Proofs.YtllfeehchiikoaaW.PrintWords Go.Proofs.YtllfeehchiikoaaW.PrintLast Go.Proofs.YtllfeehchiikoaaW.PrintMore

theorem Ev.step1 {α : Type} {g f : Nat → Option α} {r : α} (h : ∀ k, g (k + 1) = f k) (k : Ev f r) : Ev g r := Ev.step h k
/-- A loop that counts to n. -/
theorem count_ev {ρ : Type} (g : Nat → Int → Option ρ) (n : Nat) (r : ρ) (hs : ∀ i : Nat, i < n → Ev (fun k => g k ((i + 1 : Nat) : Int)) r → Ev (fun k => g k (i : Int)) r) (he : Ev (fun k => g k (n : Int)) r) :
    ∀ d i : Nat, i + d = n → Ev (fun k => g k (i : Int)) r
  | 0, i, h => by obtain rfl : i = n := by omega
                  exact he
  | d + 1, i, h => hs i (by omega) (count_ev g n r hs he d (i + 1) (by omega))
theorem count_ev0 {ρ : Type} (g : Nat → Int → Option ρ) (n : Nat) (r : ρ) (hs : ∀ i : Nat, i < n → Ev (fun k => g k ((i + 1 : Nat) : Int)) r → Ev (fun k => g k (i : Int)) r) (he : Ev (fun k => g k (n : Int)) r) :
    Ev (fun k => g k 0) r := count_ev g n r hs he n 0 (by omega)
/-- A loop over a list that carries a state, whatever its rounds do. -/
def scanG {α σ ρ : Type} (f : Int → α → σ → ρ ⊕ σ) (fin : σ → ρ) : List α → Int → σ → ρ
  | [], _, s => fin s
  | x :: xs, i, s => match f i x s with | .inl r => r | .inr s' => scanG f fin xs (i + 1) s'
theorem scan_ev {α σ ρ : Type} (x0 : List α) (f : Int → α → σ → ρ ⊕ σ) (fin : σ → ρ) (g : Nat → σ → Int → Option ρ) (Inv : Nat → σ → Prop)
    (hs : ∀ s (i : Nat) (h : i < x0.length) r, Inv i s → (∀ r', f i x0[i] s = .inl r' → r' = r) → (∀ s', f i x0[i] s = .inr s' → Inv (i + 1) s' → Ev (fun k => g k s' ((i + 1 : Nat) : Int)) r) → Ev (fun k => g k s (i : Int)) r)
    (hI : ∀ s (i : Nat) (h : i < x0.length) s', Inv i s → f i x0[i] s = .inr s' → Inv (i + 1) s')
    (he : ∀ s, Inv x0.length s → Ev (fun k => g k s (x0.length : Int)) (fin s)) :
    ∀ (d i : Nat) (s : σ), i + d = x0.length → Inv i s → Ev (fun k => g k s (i : Int)) (scanG f fin (x0.drop i) i s)
  | 0, i, s, h, hi => by
    obtain rfl : i = x0.length := by omega
    rw [List.drop_of_length_le (by omega)]
    exact he s hi
  | d + 1, i, s, h, hi => by
    have h0 : i < x0.length := by omega
    rw [drop_at x0 i h0, scanG]
    refine hs s i h0 _ hi (fun r' e => by rw [e]) (fun s' e hi' => ?_)
    rw [e]
    exact scan_ev x0 f fin g Inv hs hI he d (i + 1) s' (by omega) hi'
theorem scan_ev0 {α σ ρ : Type} (x0 : List α) (f : Int → α → σ → ρ ⊕ σ) (fin : σ → ρ) (g : Nat → σ → Int → Option ρ) (Inv : Nat → σ → Prop) (s : σ) (h0 : Inv 0 s)
    (hI : ∀ s (i : Nat) (h : i < x0.length) s', Inv i s → f i x0[i] s = .inr s' → Inv (i + 1) s')
    (hs : ∀ s (i : Nat) (h : i < x0.length) r, Inv i s → (∀ r', f i x0[i] s = .inl r' → r' = r) → (∀ s', f i x0[i] s = .inr s' → Inv (i + 1) s' → Ev (fun k => g k s' ((i + 1 : Nat) : Int)) r) → Ev (fun k => g k s (i : Int)) r)
    (he : ∀ s, Inv x0.length s → Ev (fun k => g k s (x0.length : Int)) (fin s)) :
    Ev (fun k => g k s 0) (scanG f fin x0 0 s) := scan_ev x0 f fin g Inv hs hI he x0.length 0 s (by omega) h0
/-- Each place is written by what the counter makes. -/
def marksG {α : Type} (mk : Int → α) (c : Int) : Nat → Int → List α
  | 0, _ => []
  | n + 1, k => mk k :: marksG mk c n (k + c)
theorem marksG_length {α : Type} (mk : Int → α) (c : Int) : ∀ n k, (marksG mk c n k).length = n
  | 0, _ => rfl
  | n + 1, k => by simp [marksG, marksG_length mk c n]
theorem mark_ev {α : Type} (mk : Int → α) (c : Int) (g : Nat → List α → Int → Int → Option (Int × List α)) (hc : 0 ≤ c) (hc4 : c ≤ 8)
    (hs : ∀ (x : List α) (j : Int) (i : Nat) (h : i < x.length) r, 0 ≤ j → j ≤ 4611686018427387904 → x.length ≤ 281474976710656 → Ev (fun k => g k (x.set i (mk j)) (j + c) ((i + 1 : Nat) : Int)) r → Ev (fun k => g k x j (i : Int)) r)
    (he : ∀ (x : List α) (j : Int), Ev (fun k => g k x j (x.length : Int)) (j, x)) :
    ∀ (d i : Nat) (j : Int) (x : List α), i + d = x.length → x.length ≤ 281474976710656 → 0 ≤ j → j + c * d ≤ 4611686018427387904 → Ev (fun k => g k x j (i : Int)) (j + c * d, x.take i ++ marksG mk c d j)
  | 0, i, j, x, h, hn, hj, hm => by
    obtain rfl : i = x.length := by omega
    refine Ev.to (he x j) ?_
    simp [marksG]
  | d + 1, i, j, x, h, hn, hj, hm => by
    have h0 : i < x.length := by omega
    have hcd : c * ((d + 1 : Nat) : Int) = c * (d : Int) + c := by rw [Int.natCast_add, Int.mul_add]; simp
    have hcd0 : 0 ≤ c * (d : Int) := Int.mul_nonneg hc (by omega)
    refine hs x j i h0 _ hj (by omega) hn (Ev.to (mark_ev mk c g hc hc4 hs he d (i + 1) (j + c) _ (by simp; omega) (by simpa using hn) (by omega) (by omega)) ?_)
    rw [List.take_add_one, List.take_set_of_le (by omega), marksG]
    have hcd2 : c * ((d : Int) + 1) = c * (d : Int) + c := by rw [Int.mul_add]; simp
    simp [h0]; omega
theorem held_ev {α : Type} (mk : Int → α) (c : Int) (n : Nat) (g : Nat → Int → Int → Option Int) (hc : 0 ≤ c) (hc4 : c ≤ 8)
    (hs : ∀ (j : Int) (i : Nat) (h : i < (marksG mk c n 1).length) r, (marksG mk c n 1)[i] = mk j → 0 ≤ j → j ≤ 4611686018427387904 → Ev (fun k => g k (j + c) ((i + 1 : Nat) : Int)) r → Ev (fun k => g k j (i : Int)) r)
    (he : ∀ (j : Int), Ev (fun k => g k j (n : Int)) j) :
    ∀ (d i : Nat) (j : Int), i + d = n → 0 ≤ j → j + c * d ≤ 4611686018427387904 → (marksG mk c n 1).drop i = marksG mk c d j → Ev (fun k => g k j (i : Int)) (j + c * d)
  | 0, i, j, h, hj, hm, hx => by
    obtain rfl : i = n := by omega
    exact Ev.to (he j) (by simp)
  | d + 1, i, j, h, hj, hm, hx => by
    have h0 : i < (marksG mk c n 1).length := by rw [marksG_length]; omega
    have hcd : c * ((d + 1 : Nat) : Int) = c * (d : Int) + c := by rw [Int.natCast_add, Int.mul_add]; simp
    have hcd0 : 0 ≤ c * (d : Int) := Int.mul_nonneg hc (by omega)
    rw [drop_at _ i h0, marksG] at hx
    obtain ⟨h1, h2⟩ := List.cons.inj hx
    exact hs j i h0 _ h1 hj (by omega) (Ev.to (held_ev mk c n g hc hc4 hs he d (i + 1) (j + c) (by omega) (by omega) (by omega) h2) (by omega))
theorem mark_ev0 {α : Type} (mk : Int → α) (c : Int) (x : List α) (g : Nat → List α → Int → Int → Option (Int × List α)) (hc : 0 ≤ c) (hc4 : c ≤ 8) (hn : x.length ≤ 281474976710656)
    (hs : ∀ (x : List α) (j : Int) (i : Nat) (h : i < x.length) r, 0 ≤ j → j ≤ 4611686018427387904 → x.length ≤ 281474976710656 → Ev (fun k => g k (x.set i (mk j)) (j + c) ((i + 1 : Nat) : Int)) r → Ev (fun k => g k x j (i : Int)) r)
    (he : ∀ (x : List α) (j : Int), Ev (fun k => g k x j (x.length : Int)) (j, x)) : Ev (fun k => g k x 1 0) (1 + c * (x.length : Int), marksG mk c x.length 1) := by
  have hm : c * (x.length : Int) ≤ 8 * 281474976710656 := Int.mul_le_mul hc4 (by omega) (by omega) (by omega)
  exact Ev.to (mark_ev mk c g hc hc4 hs he x.length 0 1 x (by omega) hn (by omega) (by omega)) (by simp)
theorem held_ev0 {α : Type} (mk : Int → α) (c : Int) (n : Nat) (g : Nat → Int → Int → Option Int) (hc : 0 ≤ c) (hc4 : c ≤ 8) (hn : n ≤ 281474976710656)
    (hs : ∀ (j : Int) (i : Nat) (h : i < (marksG mk c n 1).length) r, (marksG mk c n 1)[i] = mk j → 0 ≤ j → j ≤ 4611686018427387904 → Ev (fun k => g k (j + c) ((i + 1 : Nat) : Int)) r → Ev (fun k => g k j (i : Int)) r)
    (he : ∀ (j : Int), Ev (fun k => g k j (n : Int)) j) : Ev (fun k => g k 1 0) (1 + c * (n : Int)) := by
  have hm : c * (n : Int) ≤ 8 * 281474976710656 := Int.mul_le_mul hc4 (by omega) (by omega) (by omega)
  exact held_ev mk c n g hc hc4 hs he n 0 1 (by omega) (by omega) (by omega) (by simp)
theorem held_evx {α : Type} (mk : Int → α) (c : Int) (x : List α) (g : Nat → Int → Int → Option Int) (hc : 0 ≤ c) (hc4 : c ≤ 8)
    (hs : ∀ (j : Int) (i : Nat) (h : i < x.length) r, x[i] = mk j → 0 ≤ j → j ≤ 4611686018427387904 → Ev (fun k => g k (j + c) ((i + 1 : Nat) : Int)) r → Ev (fun k => g k j (i : Int)) r)
    (he : ∀ (j : Int), Ev (fun k => g k j (x.length : Int)) j) :
    ∀ (d i : Nat) (j : Int), i + d = x.length → 0 ≤ j → j + c * d ≤ 4611686018427387904 → x.drop i = marksG mk c d j → Ev (fun k => g k j (i : Int)) (j + c * d)
  | 0, i, j, h, hj, hm, hx => by
    obtain rfl : i = x.length := by omega
    exact Ev.to (he j) (by simp)
  | d + 1, i, j, h, hj, hm, hx => by
    have h0 : i < x.length := by omega
    have hcd : c * ((d + 1 : Nat) : Int) = c * (d : Int) + c := by rw [Int.natCast_add, Int.mul_add]; simp
    have hcd0 : 0 ≤ c * (d : Int) := Int.mul_nonneg hc (by omega)
    rw [drop_at _ i h0, marksG] at hx
    obtain ⟨h1, h2⟩ := List.cons.inj hx
    exact hs j i h0 _ h1 hj (by omega) (Ev.to (held_evx mk c x g hc hc4 hs he d (i + 1) (j + c) (by omega) (by omega) (by omega) h2) (by omega))
/-- A list made place by place out of another one. -/
theorem copy_ev {α β : Type} (x0 : List α) (φ : α → β) (g : Nat → List β → Int → Option (List β))
    (hs : ∀ (x3 : List β) (i : Nat) (h : i < x0.length) r, x3.length = x0.length → Ev (fun k => g k (x3.set i (φ x0[i])) ((i + 1 : Nat) : Int)) r → Ev (fun k => g k x3 (i : Int)) r)
    (he : ∀ x3 : List β, Ev (fun k => g k x3 (x0.length : Int)) x3) :
    ∀ (d i : Nat) (x3 : List β), i + d = x0.length → x3.length = x0.length → x3.take i = (x0.map φ).take i → Ev (fun k => g k x3 (i : Int)) (x0.map φ)
  | 0, i, x3, h, h3, ht => by
    obtain rfl : i = x0.length := by omega
    rw [List.take_of_length_le (by omega), List.take_of_length_le (by simp)] at ht
    exact Ev.to (he x3) ht
  | d + 1, i, x3, h, h3, ht => by
    have h0 : i < x0.length := by omega
    refine hs x3 i h0 _ h3 (copy_ev x0 φ g hs he d (i + 1) _ (by omega) (by simpa using h3) ?_)
    rw [List.take_add_one, List.take_add_one, List.take_set_of_le (by omega), ht]
    simp [h3, h0]
theorem copy_ev0 {α β : Type} (x0 : List α) (φ : α → β) (z : β) (g : Nat → List β → Int → Option (List β))
    (hs : ∀ (x3 : List β) (i : Nat) (h : i < x0.length) r, x3.length = x0.length → Ev (fun k => g k (x3.set i (φ x0[i])) ((i + 1 : Nat) : Int)) r → Ev (fun k => g k x3 (i : Int)) r)
    (he : ∀ x3 : List β, Ev (fun k => g k x3 (x0.length : Int)) x3) : Ev (fun k => g k (List.replicate x0.length z) 0) (x0.map φ) :=
  copy_ev x0 φ g hs he x0.length 0 _ (by omega) (by simp) (by simp)
/-- A loop that ends at the first number that answers no. -/
theorem rangeAll_ev {ρ : Type} (g : Nat → Int → Option ρ) (n : Nat) (p : Nat → Bool) (r rF : ρ) (hs : ∀ j, j < n → p j = true → ∀ r', Ev (fun k => g k ((j + 1 : Nat) : Int)) r' → Ev (fun k => g k (j : Int)) r')
    (hF : ∀ j, j < n → p j = false → Ev (fun k => g k (j : Int)) rF) (he : (List.range n).all p = true → Ev (fun k => g k (n : Int)) r) :
    ∀ d i : Nat, i + d = n → (∀ j, j < i → p j = true) → Ev (fun k => g k (i : Int)) (if (List.range n).all p = true then r else rF)
  | 0, i, h, hp => by
    obtain rfl : i = n := by omega
    have ha : (List.range i).all p = true := by rw [List.all_eq_true]; intro x hx; exact hp x (by simpa using hx)
    rw [if_pos ha]; exact he ha
  | d + 1, i, h, hp => by
    cases hq : p i with
    | true => exact hs i (by omega) hq _ (rangeAll_ev g n p r rF hs hF he d (i + 1) (by omega) (fun j hj => by
        by_cases e : j = i
        · rw [e]; exact hq
        · exact hp j (by omega)))
    | false =>
      have ha : ¬ (List.range n).all p = true := by
        rw [List.all_eq_true]; intro hh; have := hh i (by simp; omega); rw [hq] at this; cases this
      rw [if_neg ha]; exact hF i (by omega) hq
theorem rangeAll_ev0 {ρ : Type} (g : Nat → Int → Option ρ) (n : Nat) (p : Nat → Bool) (r rF : ρ) (hs : ∀ j, j < n → p j = true → ∀ r', Ev (fun k => g k ((j + 1 : Nat) : Int)) r' → Ev (fun k => g k (j : Int)) r')
    (hF : ∀ j, j < n → p j = false → Ev (fun k => g k (j : Int)) rF) (he : (List.range n).all p = true → Ev (fun k => g k (n : Int)) r) : Ev (fun k => g k 0) (if (List.range n).all p = true then r else rF) :=
  rangeAll_ev g n p r rF hs hF he n 0 (by omega) (fun j hj => by omega)
/-- A loop that folds a list, whatever comes behind it. -/
theorem fold_cps {α σ ρ : Type} (x0 : List α) (f : α → σ → σ) (g : Nat → σ → Int → Option ρ) (r : ρ) (Inv : Nat → σ → Prop)
    (hI : ∀ s (i : Nat) (h : i < x0.length), Inv i s → Inv (i + 1) (f x0[i] s))
    (hs : ∀ s (i : Nat) (h : i < x0.length), Inv i s → Ev (fun k => g k (f x0[i] s) ((i + 1 : Nat) : Int)) r → Ev (fun k => g k s (i : Int)) r) :
    ∀ (d i : Nat) (s : σ), i + d = x0.length → Inv i s → (Inv x0.length ((x0.drop i).foldl (fun s x => f x s) s) → Ev (fun k => g k ((x0.drop i).foldl (fun s x => f x s) s) (x0.length : Int)) r) → Ev (fun k => g k s (i : Int)) r
  | 0, i, s, h, hi, hk => by
    obtain rfl : i = x0.length := by omega
    rw [List.drop_of_length_le (by omega)] at hk
    exact hk hi
  | d + 1, i, s, h, hi, hk => by
    have h0 : i < x0.length := by omega
    rw [drop_at x0 i h0] at hk
    exact hs s i h0 hi (fold_cps x0 f g r Inv hI hs d (i + 1) _ (by omega) (hI s i h0 hi) hk)
theorem fold_cps0 {α σ ρ : Type} (x0 : List α) (f : α → σ → σ) (g : Nat → σ → Int → Option ρ) (r : ρ) (Inv : Nat → σ → Prop) (s : σ) (h0 : Inv 0 s)
    (hI : ∀ s (i : Nat) (h : i < x0.length), Inv i s → Inv (i + 1) (f x0[i] s))
    (hs : ∀ s (i : Nat) (h : i < x0.length), Inv i s → Ev (fun k => g k (f x0[i] s) ((i + 1 : Nat) : Int)) r → Ev (fun k => g k s (i : Int)) r)
    (hk : Inv x0.length (x0.foldl (fun s x => f x s) s) → Ev (fun k => g k (x0.foldl (fun s x => f x s) s) (x0.length : Int)) r) : Ev (fun k => g k s 0) r :=
  fold_cps x0 f g r Inv hI hs x0.length 0 s (by omega) h0 hk
end Go.Proofs.Ytllfeehchiikoaa.Base
namespace Go.Proofs.Ytllfeehchiikoaa.Base
set_option linter.unusedSimpArgs false
set_option linter.unusedVariables false
open Go.RowKit Go.Proofs.YtllfeehchiikoaaW.PrintWords Go.Proofs.YtllfeehchiikoaaW.PrintLast Go.Proofs.YtllfeehchiikoaaW.PrintMore

/-- d rounds from the number i on. -/
def iter {σ : Type} (f : Nat → σ → σ) : Nat → Nat → σ → σ
  | 0, _, s => s
  | d + 1, i, s => iter f d (i + 1) (f i s)
theorem iter_inv {σ : Type} {f : Nat → σ → σ} {Inv : Nat → σ → Prop} : ∀ (d i : Nat) (s : σ), (∀ s j, i ≤ j → j < i + d → Inv j s → Inv (j + 1) (f j s)) → Inv i s → Inv (i + d) (iter f d i s)
  | 0, i, s, _, h => h
  | d + 1, i, s, hI, h => by
    have := iter_inv d (i + 1) (f i s) (fun s j h1 h2 => hI s j (by omega) (by omega)) (hI s i (by omega) (by omega) h)
    rw [show i + (d + 1) = i + 1 + d by omega]; exact this
theorem iter_cps {σ ρ : Type} (n : Nat) (f : Nat → σ → σ) (g : Nat → σ → Int → Option ρ) (r : ρ) (Inv : Nat → σ → Prop)
    (hI : ∀ s (i : Nat) (h : i < n), Inv i s → Inv (i + 1) (f i s))
    (hs : ∀ s (i : Nat) (h : i < n), Inv i s → Ev (fun k => g k (f i s) ((i + 1 : Nat) : Int)) r → Ev (fun k => g k s (i : Int)) r) :
    ∀ (d i : Nat) (s : σ), i + d = n → Inv i s → (Inv n (iter f d i s) → Ev (fun k => g k (iter f d i s) (n : Int)) r) → Ev (fun k => g k s (i : Int)) r
  | 0, i, s, h, hi, hk => by
    obtain rfl : i = n := by omega
    exact hk hi
  | d + 1, i, s, h, hi, hk => hs s i (by omega) hi (iter_cps n f g r Inv hI hs d (i + 1) _ (by omega) (hI s i (by omega) hi) hk)
theorem iter_cps0 {σ ρ : Type} (n : Nat) (f : Nat → σ → σ) (g : Nat → σ → Int → Option ρ) (r : ρ) (Inv : Nat → σ → Prop) (s : σ) (h0 : Inv 0 s)
    (hI : ∀ s (i : Nat) (h : i < n), Inv i s → Inv (i + 1) (f i s))
    (hs : ∀ s (i : Nat) (h : i < n), Inv i s → Ev (fun k => g k (f i s) ((i + 1 : Nat) : Int)) r → Ev (fun k => g k s (i : Int)) r)
    (hk : Inv n (iter f n 0 s) → Ev (fun k => g k (iter f n 0 s) (n : Int)) r) : Ev (fun k => g k s 0) r :=
  iter_cps n f g r Inv hI hs n 0 s (by omega) h0 hk
/-- A loop that keeps what is said of its state. -/
theorem inv_cps {σ ρ : Type} (n : Nat) (g : Nat → σ → Int → Option ρ) (r : ρ) (Inv : Nat → σ → Prop)
    (hs : ∀ s (i : Nat) (h : i < n), Inv i s → (∀ s', Inv (i + 1) s' → Ev (fun k => g k s' ((i + 1 : Nat) : Int)) r) → Ev (fun k => g k s (i : Int)) r)
    (he : ∀ s, Inv n s → Ev (fun k => g k s (n : Int)) r) :
    ∀ (d i : Nat) (s : σ), i + d = n → Inv i s → Ev (fun k => g k s (i : Int)) r
  | 0, i, s, h, hi => by
    obtain rfl : i = n := by omega
    exact he s hi
  | d + 1, i, s, h, hi => hs s i (by omega) hi (fun s' h' => inv_cps n g r Inv hs he d (i + 1) s' (by omega) h')
theorem inv_cps0 {σ ρ : Type} (n : Nat) (g : Nat → σ → Int → Option ρ) (r : ρ) (Inv : Nat → σ → Prop) (s : σ) (h0 : Inv 0 s)
    (hs : ∀ s (i : Nat) (h : i < n), Inv i s → (∀ s', Inv (i + 1) s' → Ev (fun k => g k s' ((i + 1 : Nat) : Int)) r) → Ev (fun k => g k s (i : Int)) r)
    (he : ∀ s, Inv n s → Ev (fun k => g k s (n : Int)) r) : Ev (fun k => g k s 0) r := inv_cps n g r Inv hs he n 0 s (by omega) h0
end Go.Proofs.Ytllfeehchiikoaa.Base
