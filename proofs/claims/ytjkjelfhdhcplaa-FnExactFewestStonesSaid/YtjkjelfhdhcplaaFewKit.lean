/- The fewest stones of a row: the reference's and the program's tables are alike, and so is the way back. -/
import Derived.Test.YtjkjelfhdhcplaaSizesKit
import Derived.Test.YtjkjelfhdhcplaaPAxf20
import Derived.Test.YtjkjelfhdhcplaaPAxf22
import Derived.Test.YtjkjelfhdhcplaaPAxf53
namespace Go.Proofs.Ytjkjelfhdhcplaa.FewKit
set_option linter.unusedSimpArgs false
set_option linter.unusedVariables false
open Go.RowKit Go.Proofs.Ytjkjelfhdhcplaa.PA Go.Proofs.Ytjkjelfhdhcplaa.Base Go.Proofs.Ytjkjelfhdhcplaa.RowsFns Go.Proofs.Ytjkjelfhdhcplaa.SizesKit Go.Proofs.YtjkjelfhdhcplaaW.PrintWords Go.Proofs.YtjkjelfhdhcplaaW.PrintLast Go.Proofs.YtjkjelfhdhcplaaW.PrintMore

def Sz (s : Int) (sizes : List Int) : Prop := (0 ≤ s ∧ s ≤ 200) ∧ sizes.length ≤ 8 ∧ ∀ n ∈ sizes, 1 ≤ n ∧ n ≤ 200
theorem sz_of {a s : Int} {l : List Int} (h : szB a s l = true) : (1 ≤ a ∧ a ≤ 2000) ∧ Sz s l := by
  unfold szB at h
  rw [Bool.and_eq_true, Bool.and_eq_true, Bool.and_eq_true, inB_iff, inB_iff, inB_iff, List.all_eq_true] at h
  refine ⟨h.1.1, h.1.2, by omega, fun n hn => ?_⟩
  obtain ⟨i, hi, rfl⟩ := List.getElem_of_mem hn
  have := h.2.2 i (by simpa using hi)
  rw [Bool.and_eq_true, inB_iff, List.getD_eq_getElem?_getD, List.getElem?_eq_getElem hi] at this
  exact this.1
theorem sz_at {s : Int} {l : List Int} (h : Sz s l) {j : Nat} (hj : j < l.length) : 1 ≤ l.getD j 0 ∧ l.getD j 0 ≤ 200 := by
  rw [List.getD_eq_getElem?_getD, List.getElem?_eq_getElem hj]; exact h.2.2 _ (List.getElem_mem hj)
theorem getD_set (x : List Int) (t : Nat) (v : Int) (u : Nat) (ht : t < x.length) : (x.set t v).getD u 0 = if u = t then v else x.getD u 0 := by
  rw [List.getD_eq_getElem?_getD, List.getD_eq_getElem?_getD, List.getElem?_set]
  by_cases e : t = u
  · subst e; simp [ht]
  · rw [if_neg e, if_neg (fun h => e h.symm)]
/-- Both tables, told up to the place t. -/
structure Same (s : Int) (l : List Int) (N t : Nat) (x y : List Int) : Prop where
  lx : x.length = N
  ly : y.length = N
  eq : ∀ u, u < t → x.getD u 0 = y.getD u 0
  new : ∀ u, t ≤ u → u < N → y.getD u 0 = 61
  low : ∀ u, u < t → 0 ≤ x.getD u 0 ∧ x.getD u 0 ≤ 61
  zero : 0 < t → x.getD 0 0 = 0
  way : ∀ u, 0 < u → u < t → x.getD u 0 = 61 ∨ ∃ (j f : Nat), j < l.length ∧ (f : Int) = (u : Int) - l.getD j 0 - s ∧ x.getD f 0 + 1 = x.getD u 0
theorem same_set {s : Int} {l : List Int} {N t : Nat} {x y : List Int} (h : Same s l N (t + 1) x y) (ht : t < N) (h0 : 0 < t) {x' : List Int} {v : Int} (hx : x' = x.set t v) (hv : 0 ≤ v ∧ v ≤ 61) (hw : v = 61 ∨ ∃ (j f : Nat), j < l.length ∧ (f : Int) = (t : Int) - l.getD j 0 - s ∧ f < t ∧ x.getD f 0 + 1 = v) (hs : ∀ u, u < t → ∀ (j f : Nat), j < l.length → (f : Int) = (u : Int) - l.getD j 0 - s → f < u) : Same s l N (t + 1) x' (y.set t v) := by
  subst hx
  have gx := fun u => getD_set x t v u (by rw [h.lx]; exact ht)
  have gy := fun u => getD_set y t v u (by rw [h.ly]; exact ht)
  refine ⟨by rw [List.length_set]; exact h.lx, by rw [List.length_set]; exact h.ly, fun u hu => ?_, fun u h1 h2 => ?_, fun u hu => ?_, fun _ => ?_, fun u h1 h2 => ?_⟩
  · rw [gx, gy]; split
    · rfl
    · exact h.eq u hu
  · rw [gy, if_neg (by omega)]; exact h.new u h1 h2
  · rw [gx]; split
    · exact hv
    · exact h.low u hu
  · rw [gx, if_neg (by omega)]; exact h.zero (by omega)
  · by_cases e : u = t
    · subst e
      rw [gx u, if_pos rfl]
      rcases hw with hw | ⟨j, f, a1, a2, a3, a4⟩
      · exact Or.inl hw
      · exact Or.inr ⟨j, f, a1, a2, by rw [gx f, if_neg (by omega)]; exact a4⟩
    · rw [gx u, if_neg e]
      rcases h.way u h1 h2 with hw | ⟨j, f, a1, a2, a3⟩
      · exact Or.inl hw
      · have := hs u (by omega) j f a1 a2
        exact Or.inr ⟨j, f, a1, a2, by rw [gx f, if_neg (by omega)]; exact a3⟩
/-- One place: all sizes in turn. -/
theorem inner {s : Int} {l : List Int} (hz : Sz s l) {a : Int} {N t : Nat} (hN : N ≤ 3000) (ht : t < N) (h0 : 0 < t) {W : Int}
    (hr : ∀ x y, Same s l N (t + 1) x y → ∃ r : List Int × Int, r.1.length ≤ 3000 ∧ Ev (fun k => spec_FewestStones.l0 k a s l x ((t + 1 : Nat) : Int)) r ∧ Ev (fun k => impl_FewestStones.l0 k l ((t + 1 : Nat) : Int) s W y) r) :
    ∀ (d j : Nat) (x y : List Int), j + d = l.length → Same s l N (t + 1) x y →
      ∃ r : List Int × Int, r.1.length ≤ 3000 ∧ Ev (fun k => spec_FewestStones.l1 k a s l x (t : Int) (j : Int)) r ∧ Ev (fun k => impl_FewestStones.l1 k l (t : Int) l (l.length : Int) (j : Int) s W y) r
  | 0, j, x, y, hj, h => by
    have ha := w64 (x := (t : Int) + 1) (by omega) (by omega)
    obtain ⟨r, hr1, h1, h2⟩ := hr x y h
    refine ⟨r, hr1, ?_, ?_⟩
    · refine Ev.step (fun k => by rw [spec_FewestStones.l1]) (Ev.neg (by omega) ?_)
      rw [ha]; exact h1
    · refine Ev.step (fun k => by rw [impl_FewestStones.l1]) (Ev.neg (by omega) ?_)
      rw [ha]; exact h2
  | d + 1, j, x, y, hj, h => by
    have hj' : j < l.length := by omega
    have hn := sz_at hz hj'
    have hs1 := hz.1
    have hl8 := hz.2.1
    have hb := w64 (x := (j : Int) + 1) (by omega) (by omega)
    have w1 := w64 (x := (t : Int) - l.getD j 0) (by omega) (by omega)
    have w2 := w64 (x := (t : Int) - l.getD j 0 - s) (by omega) (by omega)
    have w3 := w64 (x := l.getD j 0 + s) (by omega) (by omega)
    have lx := h.lx
    have ly := h.ly
    by_cases c : 0 ≤ (t : Int) - l.getD j 0 - s
    · obtain ⟨f, hf⟩ : ∃ f : Nat, (t : Int) - l.getD j 0 - s = (f : Int) := ⟨((t : Int) - l.getD j 0 - s).toNat, by omega⟩
      have hft : f < t := by omega
      have lf := h.low f (by omega)
      have lt := h.low t (by omega)
      have ef := h.eq f (by omega)
      have et := h.eq t (by omega)
      have w4 := w64 (x := x.getD f 0 + 1) (by omega) (by omega)
      have hsm : ∀ u, u < t → ∀ (j f : Nat), j < l.length → (f : Int) = (u : Int) - l.getD j 0 - s → f < u := fun u _ j f h1 h2 => by have := sz_at hz h1; omega
      by_cases q : x.getD f 0 + 1 < x.getD t 0
      · have hset := same_set h ht h0 (x' := x.set t (x.getD f 0 + 1)) (v := x.getD f 0 + 1) rfl (by omega) (Or.inr ⟨j, f, hj', by omega, hft, rfl⟩) hsm
        obtain ⟨r, hr1, h1, h2⟩ := inner hz hN ht h0 hr d (j + 1) _ _ (by omega) hset
        refine ⟨r, hr1, ?_, ?_⟩
        · refine Ev.step (fun k => by rw [spec_FewestStones.l1]) (Ev.pos (by omega) (Ev.pos (by omega) ?_))
          rw [rdI l, w1, w2, hf, rdI x, rdI x, w4, hb, Int.toNat_natCast]
          exact Ev.pos (by omega) (Ev.pos (by omega) (Ev.pos (by omega) (Ev.pos (by omega) (Ev.pos (by omega) (Ev.pos q h1)))))
        · refine Ev.step (fun k => by rw [impl_FewestStones.l1]) (Ev.pos (by omega) (Ev.pos (by omega) (Ev.pos (by omega) ?_)))
          rw [rdI l, w1, w2, w3, hf, rdI y, rdI y, ← ef, ← et, w4, hb, Int.toNat_natCast, show mn (x.getD t 0) (x.getD f 0 + 1) = x.getD f 0 + 1 from if_pos q]
          exact Ev.pos (by omega) (Ev.pos (by omega) (Ev.pos (by omega) (Ev.pos (by omega) (Ev.pos (by omega) h2))))
      · have hwt := h.way t h0 (by omega)
        have hset := same_set h ht h0 (x' := x) (v := x.getD t 0) (by
          apply List.ext_getElem?
          intro u
          rw [List.getElem?_set]
          split
          · rename_i e; subst e; rw [if_pos (by omega), List.getD_eq_getElem?_getD, List.getElem?_eq_getElem (show t < x.length by omega)]; rfl
          · rfl) lt (by
          rcases hwt with e | ⟨j', f', a1, a2, a3⟩
          · exact Or.inl e
          · have := sz_at hz a1
            exact Or.inr ⟨j', f', a1, a2, by omega, a3⟩) hsm
        obtain ⟨r, hr1, h1, h2⟩ := inner hz hN ht h0 hr d (j + 1) _ _ (by omega) hset
        refine ⟨r, hr1, ?_, ?_⟩
        · refine Ev.step (fun k => by rw [spec_FewestStones.l1]) (Ev.pos (by omega) (Ev.pos (by omega) ?_))
          rw [rdI l, w1, w2, hf, rdI x, rdI x, w4, hb]
          exact Ev.pos (by omega) (Ev.pos (by omega) (Ev.pos (by omega) (Ev.pos (by omega) (Ev.pos (by omega) (Ev.neg q h1)))))
        · refine Ev.step (fun k => by rw [impl_FewestStones.l1]) (Ev.pos (by omega) (Ev.pos (by omega) (Ev.pos (by omega) ?_)))
          rw [rdI l, w1, w2, w3, hf, rdI y, rdI y, ← ef, ← et, w4, hb, Int.toNat_natCast, show mn (x.getD t 0) (x.getD f 0 + 1) = x.getD t 0 from if_neg q]
          exact Ev.pos (by omega) (Ev.pos (by omega) (Ev.pos (by omega) (Ev.pos (by omega) (Ev.pos (by omega) h2))))
    · obtain ⟨r, hr1, h1, h2⟩ := inner hz hN ht h0 hr d (j + 1) _ _ (by omega) h
      refine ⟨r, hr1, ?_, ?_⟩
      · refine Ev.step (fun k => by rw [spec_FewestStones.l1]) (Ev.pos (by omega) (Ev.pos (by omega) ?_))
        rw [rdI l, w1, w2, hb]
        exact Ev.neg (by omega) h1
      · refine Ev.step (fun k => by rw [impl_FewestStones.l1]) (Ev.pos (by omega) (Ev.pos (by omega) (Ev.pos (by omega) ?_)))
        rw [rdI l, w3, hb]
        exact Ev.neg (by omega) h2
end Go.Proofs.Ytjkjelfhdhcplaa.FewKit
