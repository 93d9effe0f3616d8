/- The places of pieces, the longest first: what the reference's and the program's functions come to. -/
import Derived.Test.YtadighbpjanjbaaRoomKit
import Derived.Test.YtadighbpjanjbaaPAxf13
import Derived.Test.YtadighbpjanjbaaPAxf17
namespace Go.Proofs.Ytadighbpjanjbaa.LongestKit
set_option linter.unusedSimpArgs false
set_option linter.unusedVariables false
open Go.RowKit Go.Proofs.Ytadighbpjanjbaa.PA Go.Proofs.Ytadighbpjanjbaa.Base Go.Proofs.Ytadighbpjanjbaa.BarsKit Go.Proofs.YtadighbpjanjbaaW.PrintWords Go.Proofs.YtadighbpjanjbaaW.PrintLast Go.Proofs.YtadighbpjanjbaaW.PrintMore

/-- x goes into a list, told backwards, behind all that are not shorter. -/
def insR (p : Int → Int) (x : Int) : List Int → List Int
  | [] => [x]
  | y :: ys => if p y < p x then y :: insR p x ys else x :: y :: ys
theorem insR_length (p : Int → Int) (x : Int) : ∀ R, (insR p x R).length = R.length + 1
  | [] => rfl
  | y :: ys => by
    rw [insR]; split
    · rw [List.length_cons, insR_length p x ys, List.length_cons]
    · rfl
theorem insR_mem (p : Int → Int) (x z : Int) : ∀ R, z ∈ insR p x R → z = x ∨ z ∈ R
  | [], h => by rw [insR, List.mem_singleton] at h; exact Or.inl h
  | y :: ys, h => by
    rw [insR] at h
    split at h
    · rcases List.mem_cons.1 h with h | h
      · exact Or.inr (h ▸ List.mem_cons_self)
      · rcases insR_mem p x z ys h with h | h
        · exact Or.inl h
        · exact Or.inr (List.mem_cons_of_mem _ h)
    · rcases List.mem_cons.1 h with h | h
      · exact Or.inl h
      · exact Or.inr h
/-- The first n places, the longest first. -/
def srt (p : Int → Int) : Nat → List Int
  | 0 => []
  | n + 1 => (insR p (n : Int) (srt p n).reverse).reverse
theorem srt_length (p : Int → Int) : ∀ n, (srt p n).length = n
  | 0 => rfl
  | n + 1 => by rw [srt, List.length_reverse, insR_length, List.length_reverse, srt_length p n]
theorem srt_mem (p : Int → Int) : ∀ n, ∀ z ∈ srt p n, 0 ≤ z ∧ z < (n : Int)
  | 0, z, h => by rw [srt] at h; cases h
  | n + 1, z, h => by
    rw [srt, List.mem_reverse] at h
    rcases insR_mem _ _ _ _ h with h | h
    · omega
    · have := srt_mem p n z (List.mem_reverse.1 h); omega

/-! ### the reference's -/
theorem specIns (l : List Int) (hl : l.length ≤ 1048576) (x : Nat) (hx : x < l.length) (r : List Int) : ∀ (R B : List Int) (j : Int), R.length ≤ 1048576 → (∀ y ∈ R, 0 ≤ y ∧ y < (l.length : Int)) →
    Ev (fun k => spec_l04Longest.l0 k l ((insR (rd l) (x : Int) R).reverse ++ B) ((x + 1 : Nat) : Int)) r → Ev (fun k => spec_l04Longest.l1 k l (R.reverse ++ (j :: B)) (x : Int) (R.length : Int)) r
  | [], B, j, hR, hy, h => by
    have hn : (([] : List Int).reverse ++ j :: B).length = B.length + 1 := by simp
    have hw := w64 (x := (x : Int) + 1) (by omega) (by omega)
    refine Ev.step (fun k => by rw [spec_l04Longest.l1]) ?_
    rw [hw]
    refine Ev.neg (by simp) (Ev.pos (by simp) (Ev.pos (by rw [hn]; simp) ?_))
    exact h
  | y :: ys, B, j, hR, hy, h => by
    have hn : ((y :: ys).reverse ++ j :: B).length = ys.length + B.length + 2 := by simp; omega
    rw [List.length_cons] at hR
    have hwx := w64 (x := (x : Int) + 1) (by omega) (by omega)
    have hwj := w64 (x := (((y :: ys).length : Nat) : Int) - 1) (by rw [List.length_cons]; omega) (by rw [List.length_cons]; omega)
    have ej : (((y :: ys).length : Nat) : Int) - 1 = (ys.length : Int) := by rw [List.length_cons]; omega
    have hrd : rd ((y :: ys).reverse ++ j :: B) (ys.length : Int) = y := by
      rw [rdI, List.getD_eq_getElem?_getD, List.reverse_cons, List.append_assoc, List.getElem?_append_right (by simp), List.length_reverse, Nat.sub_self]
      rfl
    have h0 := hy y List.mem_cons_self
    refine Ev.step (fun k => by rw [spec_l04Longest.l1]) ?_
    rw [hwj, ej, hrd, hwx]
    refine Ev.pos (by rw [List.length_cons]; omega) (Ev.pos (by omega) (Ev.pos (by omega) (Ev.pos h0.1 (Ev.pos h0.2 (Ev.pos (by omega) (Ev.pos (by omega) (Ev.ite (fun c => ?_) (fun c => ?_))))))))
    · rw [insR, if_pos c] at h
      refine Ev.pos (by omega) (Ev.pos (by rw [hn, List.length_cons]; omega) ?_)
      have e : ((y :: ys).reverse ++ j :: B).set ((((y :: ys).length : Nat) : Int)).toNat y = ys.reverse ++ (y :: (y :: B)) := by
        rw [Int.toNat_natCast, List.length_cons, List.set_append_right _ _ (by simp)]
        simp
      rw [e]
      refine specIns l hl x hx r ys (y :: B) y (by omega) (fun z hz => hy z (List.mem_cons_of_mem _ hz)) ?_
      rw [List.reverse_cons, List.append_assoc] at h
      exact h
    · rw [insR, if_neg c] at h
      refine Ev.pos (by omega) (Ev.pos (by rw [hn, List.length_cons]; omega) ?_)
      have e : ((y :: ys).reverse ++ j :: B).set ((((y :: ys).length : Nat) : Int)).toNat (x : Int) = ((x : Int) :: y :: ys).reverse ++ B := by
        rw [Int.toNat_natCast, List.length_cons, List.set_append_right _ _ (by simp)]
        simp
      rw [e]; exact h
theorem specLongest (l : List Int) (hl : l.length ≤ 1048576) : Ev (fun k => spec_l04Longest.f k l) (srt (rd l) l.length) := by
  unfold spec_l04Longest.f
  have key : ∀ d i : Nat, i + d = l.length → Ev (fun k => spec_l04Longest.l0 k l (srt (rd l) i) (i : Int)) (srt (rd l) l.length) := by
    intro d
    induction d with
    | zero =>
      intro i h
      obtain rfl : i = l.length := by omega
      exact Ev.step (fun k => by rw [spec_l04Longest.l0]) (Ev.neg (by omega) (Ev.fin rfl))
    | succ d ih =>
      intro i h
      have hs := srt_length (rd l) i
      refine Ev.step (fun k => by rw [spec_l04Longest.l0]) (Ev.pos (by omega) (Ev.pos (by omega) ?_))
      have := specIns l hl i (by omega) (srt (rd l) l.length) (srt (rd l) i).reverse [] (i : Int) (by simp; omega) (fun y hy => by have := srt_mem _ _ _ (List.mem_reverse.1 hy); omega) (by
        rw [List.append_nil]; exact ih (i + 1) (by omega))
      rw [List.reverse_reverse, List.length_reverse] at this
      exact this
  exact key l.length 0 (by omega)

/-! ### the program's -/
open Go.Shelf in
def insF {α : Type} (lt : α → α → Bool) (x : α) : List α → List α
  | [] => [x]
  | y :: ys => if lt x y = true then y :: insF lt x ys else x :: y :: ys
theorem insF_length {α : Type} (lt : α → α → Bool) (x : α) : ∀ R, (insF lt x R).length = R.length + 1
  | [] => rfl
  | y :: ys => by
    rw [insF]; split
    · rw [List.length_cons, insF_length lt x ys, List.length_cons]
    · rfl
theorem at_l {α : Type} [Inhabited α] (d : Array α) (A B : List α) (x : α) (h : d.toList = A ++ x :: B) : d[A.length]! = x := by
  rw [getElem!_def, ← Array.getElem?_toList, h, List.getElem?_append_right (Nat.le_refl _), Nat.sub_self]
  rfl
theorem inner {α : Type} [Inhabited α] (lt : α → α → Bool) (x : α) : ∀ (R B : List α) (d : Array α), d.toList = R.reverse ++ x :: B → (Sort.insInner lt 0 R.length d).toList = (insF lt x R).reverse ++ B
  | [], B, d, h => by
    rw [show ([] : List α).length = 0 from rfl, Sort.insInner, h]; rfl
  | y :: ys, B, d, h => by
    have h1 : d.toList = ys.reverse ++ y :: (x :: B) := by rw [h, List.reverse_cons, List.append_assoc]; rfl
    have hx : d[ys.length + 1]! = x := by
      have := at_l d (y :: ys).reverse B x h
      rwa [List.length_reverse, List.length_cons] at this
    have hy : d[ys.length]! = y := by
      have := at_l d ys.reverse (x :: B) y h1
      rwa [List.length_reverse] at this
    rw [List.length_cons, Sort.insInner, hx, hy, insF]
    by_cases c : lt x y = true
    · rw [if_pos (by simp [c]), if_pos c]
      have hs : (Sort.swp d (ys.length + 1) ys.length).toList = ys.reverse ++ x :: (y :: B) := by
        unfold Sort.swp
        rw [hx, hy, Array.toList_setIfInBounds, Array.toList_setIfInBounds, h1]
        rw [List.set_append_right _ _ (by simp), List.set_append_right _ _ (by simp)]
        simp
      rw [inner lt x ys (y :: B) _ hs, List.reverse_cons, List.append_assoc]
      rfl
    · rw [if_neg (by simp [c]), if_neg c, h, List.reverse_cons, List.reverse_cons, List.append_assoc, List.append_assoc]
      simp
def foldF {α : Type} (lt : α → α → Bool) : List α → List α → List α
  | S, [] => S
  | S, x :: xs => foldF lt (insF lt x S.reverse).reverse xs
theorem outer {α : Type} [Inhabited α] (lt : α → α → Bool) : ∀ (xs S : List α) (d : Array α), d.toList = S ++ xs → (Sort.insOuter lt 0 (S.length + xs.length) S.length d).toList = foldF lt S xs
  | [], S, d, h => by
    rw [Sort.insOuter, if_neg (by simp), h, foldF, List.append_nil]
  | x :: xs, S, d, h => by
    rw [Sort.insOuter, if_pos (by simp), foldF]
    have hi := inner lt x S.reverse xs d (by rw [h, List.reverse_reverse])
    rw [List.length_reverse] at hi
    have := outer lt xs (insF lt x S.reverse).reverse _ hi
    rw [List.length_reverse, insF_length, List.length_reverse] at this
    have e : S.length + (x :: xs).length = S.length + 1 + xs.length := by rw [List.length_cons]; omega
    rw [e]; exact this
theorem sorted {α : Type} [Inhabited α] (lt : α → α → Bool) (xs : List α) : (Sort.insertionSort lt xs.toArray 0 xs.toArray.size).toList = foldF lt [] xs := by
  unfold Sort.insertionSort
  cases xs with
  | nil => rw [Sort.insOuter, if_neg (by simp)]; rfl
  | cons x xs =>
    have := outer lt xs [x] (x :: xs).toArray (by simp)
    rw [foldF, List.reverse_nil, insF, List.reverse_singleton, ← this]
    simp [Nat.add_comm]
def foldR (p : Int → Int) : List Int → List Int → List Int
  | S, [] => S
  | S, x :: xs => foldR p (insR p x S.reverse).reverse xs
theorem foldR_snoc (p : Int → Int) (x : Int) : ∀ (xs S : List Int), foldR p S (xs ++ [x]) = (insR p x (foldR p S xs).reverse).reverse
  | [], S => rfl
  | y :: ys, S => by rw [List.cons_append, foldR, foldR_snoc p x ys, foldR]
theorem foldR_range (p : Int → Int) : ∀ n : Nat, foldR p [] ((List.range n).map fun (i : Nat) => (i : Int)) = srt p n
  | 0 => rfl
  | n + 1 => by rw [List.range_succ, List.map_append, List.map_singleton, foldR_snoc, foldR_range p n, srt]
theorem insF_map {α : Type} (lt : α → α → Bool) (f : α → Int) (p : Int → Int) (x : α) (h : ∀ y, lt x y = true ↔ p (f y) < p (f x)) : ∀ R, (insF lt x R).map f = insR p (f x) (R.map f)
  | [] => rfl
  | y :: ys => by
    rw [insF, List.map_cons, insR]
    by_cases c : lt x y = true
    · rw [if_pos c, if_pos ((h y).1 c), List.map_cons, insF_map lt f p x h ys]
    · rw [if_neg c, if_neg (fun c' => c ((h y).2 c')), List.map_cons, List.map_cons]
theorem foldF_map {α : Type} (lt : α → α → Bool) (f : α → Int) (p : Int → Int) (h : ∀ x y, lt x y = true ↔ p (f y) < p (f x)) : ∀ (xs S : List α), (foldF lt S xs).map f = foldR p (S.map f) (xs.map f)
  | [], S => rfl
  | x :: xs, S => by rw [foldF, foldF_map lt f p h xs, List.map_cons, foldR, List.map_reverse, insF_map lt f p x (h x), List.map_reverse]
theorem srt_eq (l : List Int) (hb : ∀ i : Nat, 0 ≤ l.getD i 0 ∧ l.getD i 0 ≤ 10000) : LF.srt l ((List.range l.length).map fun (i : Nat) => (i : Int)) = srt (rd l) l.length := by
  unfold LF.srt
  cases e : l.length with
  | zero => rfl
  | succ m =>
    show LF.srtF l m _ = _
    unfold LF.srtF
    rw [sorted, foldF_map (ltOf (LF.cf l m)) (fun i => ((i.val : Nat) : Int)) (rd l) ?_, List.map_nil, List.map_map, List.map_map]
    · rw [← foldR_range]
      congr 1
      refine List.map_congr_left (fun i hi => ?_)
      have := List.mem_range.1 hi
      show ((((LF.toF m (i : Int)).val : Nat)) : Int) = (i : Int)
      unfold LF.toF
      rw [Fin.val_ofNat, Nat.mod_eq_of_lt (by omega)]
      omega
    · intro x y
      have h1 := hb x.val
      have h2 := hb y.val
      unfold ltOf LF.cf
      rw [rdI, rdI, w64 (by omega) (by omega), decide_eq_true_eq]
      omega
theorem implLongest (l : List Int) (hl : l.length ≤ 14) (hb : ∀ i : Nat, 0 ≤ l.getD i 0 ∧ l.getD i 0 ≤ 10000) : Ev (fun k => impl_longestFirst.f k l) (srt (rd l) l.length) := by
  unfold impl_longestFirst.f
  have key : ∀ d i : Nat, i + d = l.length → Ev (fun k => impl_longestFirst.l0 k ((List.range i).map fun (i : Nat) => (i : Int)) (l.length : Int) (i : Int)) ((List.range l.length).map fun (i : Nat) => (i : Int)) := by
    intro d
    induction d with
    | zero =>
      intro i h
      obtain rfl : i = l.length := by omega
      exact Ev.step (fun k => by rw [impl_longestFirst.l0]) (Ev.neg (by omega) (Ev.fin rfl))
    | succ d ih =>
      intro i h
      have := ih (i + 1) (by omega)
      rw [List.range_succ, List.map_append, List.map_singleton] at this
      refine Ev.step (fun k => by rw [impl_longestFirst.l0]) (Ev.pos (by omega) (Ev.pos (by simp; omega) ?_))
      rw [w64 (x := (i : Int) + 1) (by omega) (by omega)]
      exact this
  refine Ev.bind (key l.length 0 (by omega)) ?_
  unfold impl_longestFirst.end_
  rw [srt_eq l hb]
  refine Ev.pos (by simp; omega) (Ev.pos ?_ (Ev.fin rfl))
  rw [List.all_eq_true]
  intro x hx
  obtain ⟨i, hi, rfl⟩ := List.mem_map.1 hx
  have := List.mem_range.1 hi
  simp only [Bool.and_eq_true, decide_eq_true_eq]
  omega
end Go.Proofs.Ytadighbpjanjbaa.LongestKit
