/- The fewest stones of a row: the tables from their start on, and the way back. -/
import Derived.Test.YtjkjelfhdhcplaaFewKit
namespace Go.Proofs.Ytjkjelfhdhcplaa.FewKit
set_option linter.unusedSimpArgs false
set_option linter.unusedVariables false
open Go.RowKit Go.Proofs.Ytjkjelfhdhcplaa.PA Go.Proofs.Ytjkjelfhdhcplaa.Base Go.Proofs.Ytjkjelfhdhcplaa.RowsFns Go.Proofs.Ytjkjelfhdhcplaa.SizesKit Go.Proofs.YtjkjelfhdhcplaaW.PrintWords Go.Proofs.YtjkjelfhdhcplaaW.PrintLast Go.Proofs.YtjkjelfhdhcplaaW.PrintMore

/-- A size that the way back may take at the place t. -/
def qs (y : List Int) (s : Int) (t : Nat) (n : Int) : Bool := if n + s ≤ (t : Int) then (y.getD ((t : Int) - n - s).toNat 0 == y.getD t 0 - 1) else false
theorem closure {s : Int} {l : List Int} (hz : Sz s l) {N : Nat} (hN : N ≤ 3000) {x y : List Int} (h : Same s l N N x y) {t : Nat} (ht : t < N) : ∀ n ∈ l, impl_FewestStones_1.f y s (t : Int) n = some (qs y s t n) := by
  intro n hn
  have h1 := hz.2.2 n hn
  have h2 := hz.1
  have ly := h.ly
  have lt := h.low t ht
  have et := h.eq t ht
  unfold impl_FewestStones_1.f qs
  rw [w64 (x := n + s) (by omega) (by omega), w64 (x := (t : Int) - n) (by omega) (by omega), w64 (x := (t : Int) - n - s) (by omega) (by omega)]
  by_cases c : n + s ≤ (t : Int)
  · obtain ⟨f, hf⟩ : ∃ f : Nat, (t : Int) - n - s = (f : Int) := ⟨((t : Int) - n - s).toNat, by omega⟩
    rw [if_pos c, if_pos c, hf, if_pos (by omega), if_pos (by omega), if_pos (by omega), if_pos (by omega), rdI, rdI, Int.toNat_natCast, w64 (x := y.getD t 0 - 1) (by omega) (by omega)]
  · rw [if_neg c, if_neg c]
theorem skip {s : Int} {l : List Int} (hz : Sz s l) {N : Nat} (hN : N ≤ 3000) {x y : List Int} (h : Same s l N N x y) {t : Nat} (ht : t < N) (out : List Int) (J : Nat) (hJ : J ≤ l.length) (hq : ∀ j, j < J → qs y s t (l.getD j 0) = false) (r : List Int × Int) (hr : Ev (fun k => spec_FewestStones.l3 k s l x (t : Int) out (J : Int)) r) :
    ∀ (d i : Nat), i + d = J → Ev (fun k => spec_FewestStones.l3 k s l x (t : Int) out (i : Int)) r
  | 0, i, hi => by
    obtain rfl : i = J := by omega
    exact hr
  | d + 1, i, hi => by
    have ih := skip hz hN h ht out J hJ hq r hr d (i + 1) (by omega)
    have hn := sz_at hz (show i < l.length by omega)
    have h2 := hz.1
    have hl8 := hz.2.1
    have lx := h.lx
    have lt := h.low t ht
    have et := h.eq t ht
    have hqi := hq i (by omega)
    unfold qs at hqi
    refine Ev.step (fun k => by rw [spec_FewestStones.l3]) (Ev.pos (by omega) (Ev.pos (by omega) ?_))
    rw [rdI l, w64 (x := (t : Int) - l.getD i 0) (by omega) (by omega), w64 (x := (t : Int) - l.getD i 0 - s) (by omega) (by omega), w64 (x := (i : Int) + 1) (by omega) (by omega)]
    by_cases c : l.getD i 0 + s ≤ (t : Int)
    · obtain ⟨f, hf⟩ : ∃ f : Nat, (t : Int) - l.getD i 0 - s = (f : Int) := ⟨((t : Int) - l.getD i 0 - s).toNat, by omega⟩
      have lf := h.low f (by omega)
      have ef := h.eq f (by omega)
      rw [if_pos c, hf, Int.toNat_natCast, beq_eq_false_iff_ne] at hqi
      rw [hf, rdI x, rdI x, w64 (x := x.getD f 0 + 1) (by omega) (by omega)]
      exact Ev.pos (by omega) (Ev.pos (by omega) (Ev.pos (by omega) (Ev.pos (by omega) (Ev.pos (by omega) (Ev.neg (by omega) ih)))))
    · exact Ev.neg (by omega) ih
theorem back {s : Int} {l : List Int} (hz : Sz s l) {N : Nat} (hN : N ≤ 3000) {x y : List Int} (h : Same s l N N x y) : ∀ (n t : Nat) (out : List Int), t ≤ n → t < N → out.length + t ≤ N → x.getD t 0 ≤ 60 →
    ∃ r : List Int × Int, r.1.length ≤ N ∧ Ev (fun k => spec_FewestStones.l2 k s l x (t : Int) out) r ∧ Ev (fun k => impl_FewestStones.l2 k l out s (t : Int) y) r := by
  intro n
  induction n with
  | zero =>
    intro t out hn ht ho hx
    obtain rfl : t = 0 := by omega
    refine ⟨(out, 0), by show out.length ≤ N; omega, ?_, ?_⟩
    · refine Ev.step (fun k => by rw [spec_FewestStones.l2]) ?_
      exact Ev.neg (by omega) (Ev.fin rfl)
    · refine Ev.step (fun k => by rw [impl_FewestStones.l2]) ?_
      exact Ev.neg (by omega) (Ev.fin rfl)
  | succ n ih =>
    intro t out hn ht ho hx
    by_cases h0 : t = 0
    · exact ih t out (by omega) ht ho hx
    · have h2 := hz.1
      have hl8 := hz.2.1
      have lx := h.lx
      have ly := h.ly
      have lt := h.low t ht
      have et := h.eq t ht
      have hany : l.any (qs y s t) = true := by
        rcases h.way t (by omega) ht with e | ⟨j, f, a1, a2, a3⟩
        · omega
        · rw [List.any_eq_true]
          have hs := sz_at hz a1
          refine ⟨l.getD j 0, by rw [List.getD_eq_getElem?_getD, List.getElem?_eq_getElem a1]; exact List.getElem_mem _, ?_⟩
          have ef := h.eq f (by omega)
          unfold qs
          rw [if_pos (by omega), ← a2, Int.toNat_natCast, beq_iff_eq]
          omega
      have hw : impl_FewestStones.w y s (t : Int) l = some ((l.findIdx (qs y s t) : Nat) : Int) := by
        have := idxO_some (p := fun n : Int => impl_FewestStones_1.f y s (t : Int) n) (q := qs y s t) l 0 (closure hz hN h ht)
        rw [if_pos hany, Int.add_zero] at this
        exact this
      have hlt : l.findIdx (qs y s t) < l.length := by
        rw [List.findIdx_lt_length]
        simpa using hany
      have hfound : qs y s t (l.getD (l.findIdx (qs y s t)) 0) = true := by
        rw [List.getD_eq_getElem?_getD, List.getElem?_eq_getElem hlt]
        exact List.findIdx_getElem (w := hlt)
      have hbefore : ∀ j, j < l.findIdx (qs y s t) → qs y s t (l.getD j 0) = false := by
        intro j hj
        rw [List.getD_eq_getElem?_getD, List.getElem?_eq_getElem (by omega)]
        have := List.not_of_lt_findIdx hj
        simpa using this
      generalize l.findIdx (qs y s t) = J at hw hlt hfound hbefore
      have hs := sz_at hz hlt
      have c : l.getD J 0 + s ≤ (t : Int) := by
        unfold qs at hfound
        split at hfound
        · assumption
        · cases hfound
      obtain ⟨f, hf⟩ : ∃ f : Nat, (t : Int) - l.getD J 0 - s = (f : Int) := ⟨((t : Int) - l.getD J 0 - s).toNat, by omega⟩
      have lf := h.low f (by omega)
      have ef := h.eq f (by omega)
      unfold qs at hfound
      rw [if_pos c, hf, Int.toNat_natCast, beq_iff_eq] at hfound
      obtain ⟨r, hr, h3, h4⟩ := ih f (out ++ [IntKind.i16.wrap (l.getD J 0)]) (by omega) (by omega) (by rw [List.length_append, List.length_singleton]; omega) (by omega)
      refine ⟨r, hr, ?_, ?_⟩
      · refine Ev.step (fun k => by rw [spec_FewestStones.l2]) (Ev.pos (by omega) ?_)
        refine skip hz hN h ht out J (by omega) hbefore r ?_ J 0 (by omega)
        refine Ev.step (fun k => by rw [spec_FewestStones.l3]) (Ev.pos (by omega) (Ev.pos (by omega) ?_))
        rw [rdI l, w64 (x := (t : Int) - l.getD J 0) (by omega) (by omega), w64 (x := (t : Int) - l.getD J 0 - s) (by omega) (by omega), hf, rdI x, rdI x, w64 (x := x.getD f 0 + 1) (by omega) (by omega)]
        exact Ev.pos (by omega) (Ev.pos (by omega) (Ev.pos (by omega) (Ev.pos (by omega) (Ev.pos (by omega) (Ev.pos (by omega) (Ev.pos (by omega) h3))))))
      · refine Ev.step (fun k => by rw [impl_FewestStones.l2]) (Ev.pos (by omega) ?_)
        refine Ev.nobind hw ?_
        refine Ev.pos (by omega) (Ev.pos (by omega) (Ev.pos (by omega) ?_))
        rw [rdI l, w64 (x := l.getD J 0 + s) (by omega) (by omega), w64 (x := (t : Int) - (l.getD J 0 + s)) (by omega) (by omega), show (t : Int) - (l.getD J 0 + s) = (f : Int) by omega]
        exact h4
/-- The tables, from the place t on. -/
theorem outer {s : Int} {l : List Int} (hz : Sz s l) {a : Int} {N : Nat} (hN : N ≤ 3000) {W : Int} (hW : W + 1 = (N : Int))
    (hr : ∀ x y, Same s l N N x y → ∃ r : List Int × Int, r.1.length ≤ 3000 ∧ Ev (fun k => spec_FewestStones.l0 k a s l x (N : Int)) r ∧ Ev (fun k => impl_FewestStones.l0 k l (N : Int) s W y) r) :
    ∀ (d t : Nat) (x y : List Int), t + d = N → 0 < t → Same s l N t x y → ∃ r : List Int × Int, r.1.length ≤ 3000 ∧ Ev (fun k => spec_FewestStones.l0 k a s l x (t : Int)) r ∧ Ev (fun k => impl_FewestStones.l0 k l (t : Int) s W y) r
  | 0, t, x, y, ht, h0, h => by
    obtain rfl : t = N := by omega
    exact hr x y h
  | d + 1, t, x, y, ht, h0, h => by
    have htN : t < N := by omega
    have lx := h.lx
    have ly := h.ly
    have gx := fun u => getD_set x t 61 u (by rw [lx]; exact htN)
    have hnew := h.new t (Nat.le_refl _) htN
    have h' : Same s l N (t + 1) (x.set t 61) y := by
      refine ⟨by rw [List.length_set]; exact lx, ly, fun u hu => ?_, fun u h1 h2 => h.new u (by omega) h2, fun u hu => ?_, fun _ => ?_, fun u h1 h2 => ?_⟩
      · rw [gx]; split
        · rename_i e; rw [e, hnew]
        · exact h.eq u (by omega)
      · rw [gx]; split
        · omega
        · exact h.low u (by omega)
      · rw [gx, if_neg (by omega)]; exact h.zero h0
      · by_cases e : u = t
        · rw [gx, if_pos e]; exact Or.inl rfl
        · rw [gx, if_neg e]
          rcases h.way u h1 (by omega) with q | ⟨j, f, a1, a2, a3⟩
          · exact Or.inl q
          · have := sz_at hz a1
            have := hz.1
            exact Or.inr ⟨j, f, a1, a2, by rw [gx, if_neg (by omega)]; exact a3⟩
    obtain ⟨r, hr1, h1, h2⟩ := inner hz (a := a) (W := W) hN htN h0 (fun x y hxy => outer hz hN hW hr d (t + 1) x y (by omega) (by omega) hxy) l.length 0 _ _ (by omega) h'
    refine ⟨r, hr1, ?_, ?_⟩
    · refine Ev.step (fun k => by rw [spec_FewestStones.l0]) (Ev.pos (by omega) (Ev.pos (by omega) ?_))
      rw [Int.toNat_natCast]; exact h1
    · refine Ev.step (fun k => by rw [impl_FewestStones.l0]) (Ev.pos (by omega) ?_)
      exact h2
theorem both (a s : Int) (l : List Int) (hl : l.length ≤ 1048576) : ∃ r : List Int × Int, r.1.length ≤ 3000 ∧ Ev (fun k => spec_FewestStones.f k a s l) r ∧ Ev (fun k => impl_FewestStones.f k a s l) r := by
  unfold spec_FewestStones.f impl_FewestStones.f
  have h1 := specSizes a s l
  have h2 := implSizes a s l hl
  cases e : szB a s l with
  | false =>
    rw [e] at h1 h2
    exact ⟨([], 2), by simp, Ev.bind h1 (Ev.neg (by decide) (Ev.fin rfl)), Ev.bind h2 (Ev.neg (by decide) (Ev.fin rfl))⟩
  | true =>
    rw [e] at h1 h2
    obtain ⟨ha, hz⟩ := sz_of e
    have hs := hz.1
    obtain ⟨L, hL⟩ : ∃ L : Nat, a + s = (L : Int) := ⟨(a + s).toNat, by omega⟩
    have w1 := w64 (x := a + s) (by omega) (by omega)
    have w2 := w64 (x := a + s + 1) (by omega) (by omega)
    have e1 : ((L : Int) + 1).toNat = L + 1 := by omega
    have g0 : ∀ u, u < L + 1 → (List.replicate (L + 1) (61 : Int)).getD u 0 = 61 := fun u hu => by rw [List.getD_eq_getElem?_getD, List.getElem?_replicate, if_pos hu]; rfl
    have gy := fun u => getD_set (List.replicate (L + 1) (61 : Int)) 0 0 u (by simp)
    have start : Same s l (L + 1) 1 (List.replicate (L + 1) 0) ((List.replicate (L + 1) 61).set 0 0) := by
      have z0 : ∀ u, (List.replicate (L + 1) (0 : Int)).getD u 0 = 0 := fun u => by
        rw [List.getD_eq_getElem?_getD, List.getElem?_replicate]; split <;> rfl
      refine ⟨by simp, by simp, fun u hu => ?_, fun u h1 h2 => ?_, fun u hu => ?_, fun _ => z0 0, fun u h1 h2 => by omega⟩
      · rw [gy, if_pos (by omega), z0]
      · rw [gy, if_neg (by omega)]; exact g0 u h2
      · rw [z0]; omega
    have fin : ∀ x y, Same s l (L + 1) (L + 1) x y → ∃ r : List Int × Int, r.1.length ≤ 3000 ∧ Ev (fun k => spec_FewestStones.l0 k a s l x ((L + 1 : Nat) : Int)) r ∧ Ev (fun k => impl_FewestStones.l0 k l ((L + 1 : Nat) : Int) s (L : Int) y) r := by
      intro x y h
      have lx := h.lx
      have ly := h.ly
      have eL := h.eq L (by omega)
      by_cases q : x.getD L 0 > 60
      · refine ⟨([], 6), by simp, ?_, ?_⟩
        · refine Ev.step (fun k => by rw [spec_FewestStones.l0]) (Ev.neg (by omega) ?_)
          rw [w1, hL, rdI x]
          exact Ev.pos (by omega) (Ev.pos (by omega) (Ev.pos q (Ev.fin rfl)))
        · refine Ev.step (fun k => by rw [impl_FewestStones.l0]) (Ev.neg (by omega) ?_)
          rw [rdI y, ← eL]
          exact Ev.pos (by omega) (Ev.pos (by omega) (Ev.pos q (Ev.fin rfl)))
      · obtain ⟨r, hr, h3, h4⟩ := back hz (by omega) h L L [] (by omega) (by omega) (by simp) (by omega)
        refine ⟨r, by omega, ?_, ?_⟩
        · refine Ev.step (fun k => by rw [spec_FewestStones.l0]) (Ev.neg (by omega) ?_)
          rw [w1, hL, rdI x]
          exact Ev.pos (by omega) (Ev.pos (by omega) (Ev.neg q h3))
        · refine Ev.step (fun k => by rw [impl_FewestStones.l0]) (Ev.neg (by omega) ?_)
          rw [rdI y, ← eL]
          exact Ev.pos (by omega) (Ev.pos (by omega) (Ev.neg q h4))
    have key : ∃ r : List Int × Int, (r.1.length ≤ 3000) ∧ Ev (fun k => spec_FewestStones.l0 k a s l (List.replicate (L + 1) 0) ((1 : Nat) : Int)) r ∧ Ev (fun k => impl_FewestStones.l0 k l ((1 : Nat) : Int) s (L : Int) ((List.replicate (L + 1) 61).set 0 0)) r := by
      exact outer hz (a := a) (by omega) (W := (L : Int)) (by omega) fin L 1 _ _ (by omega) (by omega) start
    obtain ⟨r, hr, h3, h4⟩ := key
    refine ⟨r, hr, Ev.bind h1 (Ev.pos rfl ?_), Ev.bind h2 (Ev.pos rfl ?_)⟩
    · rw [w1, w2, hL, e1]
      exact Ev.pos (by omega) (Ev.pos (by omega) h3)
    · rw [w1, w2, hL]
      refine Ev.nobind (a := List.replicate (L + 1) 61) ?_ (Ev.pos (by simp) h4)
      unfold slices_Repeat_int_int.f
      rw [if_pos ⟨rfl, by omega, by omega⟩, e1]
      rfl
end Go.Proofs.Ytjkjelfhdhcplaa.FewKit
