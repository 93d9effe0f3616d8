/- The program's FitRow answers what the reference's FitRow answers, at all numbers; no condition. -/
import Derived.Test.YtjkjelfhdhcplaaRowsKit
import Derived.Test.YtjkjelfhdhcplaaEvenKit
import Derived.Test.YtjkjelfhdhcplaaLoops2
import Derived.Test.YtjkjelfhdhcplaaPAxf15
import Derived.Test.YtjkjelfhdhcplaaPAxf16
import Derived.Test.YtjkjelfhdhcplaaPAxf4
import Derived.Test.YtjkjelfhdhcplaaPAxf42
import Derived.Test.YtjkjelfhdhcplaaPAxf43
import Derived.Test.YtjkjelfhdhcplaaPAxgSpec
namespace Go.Proofs.Ytjkjelfhdhcplaa.Pure
set_option linter.unusedSimpArgs false
set_option linter.unusedVariables false
open Go.RowKit Go.Proofs.Ytjkjelfhdhcplaa.PA Go.Proofs.Ytjkjelfhdhcplaa.Base Go.Proofs.Ytjkjelfhdhcplaa.RowsKit Go.Proofs.Ytjkjelfhdhcplaa.RowsFns Go.Proofs.Ytjkjelfhdhcplaa.EvenKit Go.Proofs.YtjkjelfhdhcplaaW.PrintWords Go.Proofs.YtjkjelfhdhcplaaW.PrintLast Go.Proofs.YtjkjelfhdhcplaaW.PrintMore

theorem rdI (xs : List Int) (i : Nat) (h : i < xs.length) : rd xs (i : Int) = xs[i] := rd_nat xs i h
def far (w x : Int) : Int := mx (wrap64 ((wrap64 x) - w)) (wrap64 (w - (wrap64 x)))
def apG (w : Int) : List Int → Int → Int
  | [], s => s
  | x :: xs, s => apG w xs (wrap64 (s + far w x))
theorem implApart (w : Int) (l : List Int) (hl : l.length ≤ 1048576) : Ev (fun k => impl_Row_apart.f k l w) (apG w l 0) := by
  unfold impl_Row_apart.f
  have key : ∀ (d i : Nat) (s : Int), i + d = l.length → Ev (fun k => impl_Row_apart.l0 k w s l (l.length : Int) (i : Int)) (apG w (l.drop i) s) := by
    intro d
    induction d with
    | zero =>
      intro i s h
      rw [List.drop_of_length_le (by omega)]
      refine Ev.step (fun k => by rw [impl_Row_apart.l0]) ?_
      exact Ev.neg (by omega) (Ev.fin rfl)
    | succ d ih =>
      intro i s h
      have hi : i < l.length := by omega
      rw [drop_at l i hi, apG]
      refine Ev.step (fun k => by rw [impl_Row_apart.l0]) (Ev.pos (by omega) (Ev.pos (by omega) (Ev.pos (by omega) ?_)))
      rw [rdI l i hi, w64 (x := (i : Int) + 1) (by omega) (by omega)]
      exact ih (i + 1) _ (by omega)
  exact key l.length 0 0 (by omega)
theorem specMax (x y : Int) : spec_l00Max.f x y = some (mx x y) := by
  unfold spec_l00Max.f mx
  by_cases c : x > y
  · rw [if_pos c]; split
    · omega
    · rfl
  · rw [if_neg c]; split
    · rfl
    · congr 1; omega
def bet (lo hi x : Int) : Bool := inB (wrap64 x) lo hi
theorem implBet (lo hi : Int) (l : List Int) : impl_Row_isBetween.f l lo hi = some (l.all (bet lo hi)) := by
  unfold impl_Row_isBetween.f
  rw [idxO_any (q := fun x => !bet lo hi x) l (fun x _ => by unfold impl_Row_isBetween_1.f; rw [implIn]; rfl), Option.bind_some]
  congr 1
  rw [Bool.eq_iff_iff]; simp [List.any_eq_true, List.all_eq_true]
/-- What was found so far, and how far its widths are from the one wanted. -/
structure St where
  best : List Int
  few : Int
def take (lo hi w : Int) (st : St) (r : List Int) : St := if r.all (bet lo hi) = true then (if st.best.length = 0 then ⟨r, apG w r 0⟩ else if apG w r 0 < st.few then ⟨r, apG w r 0⟩ else st) else st
def upd (a s lo hi w : Int) (n : Nat) (st : St) : St := match evenOf (a - ((n : Int) - 1) * s) (n : Int) with | none => st | some r => take lo hi w st r
def Inv (w : Int) (i : Nat) (st : St) : Prop := 1 ≤ i ∧ st.best.length ≤ 60 ∧ (st.best.length ≠ 0 → st.few = apG w st.best 0)
theorem even_len {sum n : Int} {r : List Int} (h : evenOf sum n = some r) : r.length = n.toNat := by
  unfold evenOf at h
  split at h
  · rw [← Option.some.inj h, evenL_length]
  · cases h
theorem take_inv {lo hi w : Int} {st : St} {r : List Int} {i : Nat} (h : Inv w i st) (hr : r.length ≤ 60) : Inv w (i + 1) (take lo hi w st r) := by
  unfold take
  split
  · split
    · exact ⟨by omega, hr, fun _ => rfl⟩
    · split
      · exact ⟨by omega, hr, fun _ => rfl⟩
      · exact ⟨by omega, h.2.1, h.2.2⟩
  · exact ⟨by omega, h.2.1, h.2.2⟩
theorem upd_inv {a s lo hi w : Int} {st : St} {i : Nat} (h : Inv w i st) (hi61 : i < 61) : Inv w (i + 1) (upd a s lo hi w i st) := by
  unfold upd
  cases e : evenOf (a - ((i : Int) - 1) * s) (i : Int) with
  | none => exact ⟨by omega, h.2.1, h.2.2⟩
  | some r => exact take_inv h (by rw [even_len e]; omega)
theorem rest_ok {a s n : Int} (h0 : 1 ≤ a ∧ a ≤ 2000) (h1 : 0 ≤ s ∧ s ≤ 200) (hn : 1 ≤ n ∧ n ≤ 60) : wrap64 (a - wrap64 (wrap64 (n - 1) * s)) = a - (n - 1) * s ∧ -100000 ≤ a - (n - 1) * s ∧ a - (n - 1) * s ≤ 100000 := by
  have hm : (n - 1) * s ≤ 59 * 200 := Int.mul_le_mul (by omega) h1.2 h1.1 (by omega)
  have hm0 : 0 ≤ (n - 1) * s := Int.mul_nonneg (by omega) h1.1
  rw [w64 (x := n - 1) (by omega) (by omega), w64 (x := (n - 1) * s) (by omega) (by omega), w64 (by omega) (by omega)]
  omega
theorem specIn1 (a s lo hi w : Int) (best : List Int) (few : Int) (n : Nat) (hn : n ≤ 60) (r : List Int) (hr : r.length ≤ 60) (res : List Int × Int) :
    ∀ (d j : Nat) (ok : Bool) (sum : Int), j + d = r.length →
      Ev (fun k => if (ok && (r.drop j).all (bet lo hi)) = true then (if (best.length : Int) = 0 then spec_FitRow.l0 k a s lo hi w r (apG w (r.drop j) sum) ((n + 1 : Nat) : Int) else if apG w (r.drop j) sum < few then spec_FitRow.l0 k a s lo hi w r (apG w (r.drop j) sum) ((n + 1 : Nat) : Int) else spec_FitRow.l0 k a s lo hi w best few ((n + 1 : Nat) : Int)) else spec_FitRow.l0 k a s lo hi w best few ((n + 1 : Nat) : Int)) res →
      Ev (fun k => spec_FitRow.l1 k a s lo hi w best few (n : Int) r ok sum (j : Int)) res := by
  intro d
  induction d with
  | zero =>
    intro j ok sum hj h
    rw [List.drop_of_length_le (by omega), List.all_nil, Bool.and_true] at h
    refine Ev.step (fun k => by rw [spec_FitRow.l1]) (Ev.neg (by omega) ?_)
    rw [w64 (x := (n : Int) + 1) (by omega) (by omega)]
    exact h
  | succ d ih =>
    intro j ok sum hj h
    have hj' : j < r.length := by omega
    rw [drop_at r j hj', List.all_cons] at h
    simp only [apG] at h
    have hm := specMax (wrap64 ((wrap64 r[j]) - w)) (wrap64 (w - (wrap64 r[j])))
    refine Ev.step (fun k => by rw [spec_FitRow.l1]) (Ev.pos (by omega) (Ev.pos (by omega) ?_))
    rw [rdI r j hj', w64 (x := (j : Int) + 1) (by omega) (by omega)]
    cases ok with
    | true =>
      rw [Bool.true_and] at h
      refine Ev.pos rfl (Ev.nobind (specIn _ _ _) (Ev.nobind hm ?_))
      exact ih (j + 1) (inB (wrap64 r[j]) lo hi) _ (by omega) h
    | false =>
      rw [Bool.false_and] at h
      refine Ev.neg (by decide) (Ev.nobind hm ?_)
      refine ih (j + 1) false _ (by omega) ?_
      rw [Bool.false_and]; exact h
theorem specStep {a s lo hi w : Int} (h0 : 1 ≤ a ∧ a ≤ 2000) (h1 : 0 ≤ s ∧ s ≤ 200) (st : St) (n : Nat) (hn : n < 61) (hv : Inv w n st) (res : List Int × Int)
    (h : Ev (fun k => spec_FitRow.l0 k a s lo hi w (upd a s lo hi w n st).best (upd a s lo hi w n st).few ((n + 1 : Nat) : Int)) res) : Ev (fun k => spec_FitRow.l0 k a s lo hi w st.best st.few (n : Int)) res := by
  have hn1 := hv.1
  refine Ev.step (fun k => by rw [spec_FitRow.l0]) (Ev.pos (by omega) (Ev.bind (specEven a s (n : Int) h0 h1 (by omega)) ?_))
  unfold upd at h
  cases e : evenOf (a - ((n : Int) - 1) * s) (n : Int) with
  | none =>
    rw [e] at h
    refine specIn1 a s lo hi w st.best st.few n (by omega) [] (by simp) res 0 0 false 0 (by simp) ?_
    rw [Bool.false_and]
    exact Ev.neg (by decide) h
  | some r =>
    rw [e] at h
    have hr := even_len e
    refine specIn1 a s lo hi w st.best st.few n (by omega) r (by omega) res r.length 0 true 0 (by omega) ?_
    rw [List.drop_zero, Bool.true_and]
    simp only [take] at h
    refine Ev.ite (fun c => ?_) (fun c => ?_)
    · rw [if_pos c] at h
      refine Ev.ite (fun c2 => ?_) (fun c2 => ?_)
      · rw [if_pos (by omega)] at h; exact h
      · rw [if_neg (by omega)] at h
        refine Ev.ite (fun c3 => ?_) (fun c3 => ?_)
        · rw [if_pos c3] at h; exact h
        · rw [if_neg c3] at h; exact h
    · rw [if_neg c] at h; exact h
theorem implStep {a s lo hi w : Int} (h0 : 1 ≤ a ∧ a ≤ 2000) (h1 : 0 ≤ s ∧ s ≤ 200) (st : St) (n : Nat) (hn : n < 61) (hv : Inv w n st) (res : List Int × Int)
    (h : Ev (fun k => impl_FitRow.l0 k a s lo hi w (upd a s lo hi w n st).best ((n + 1 : Nat) : Int)) res) : Ev (fun k => impl_FitRow.l0 k a s lo hi w st.best (n : Int)) res := by
  have hn1 := hv.1
  obtain ⟨r1, r2, r3⟩ := rest_ok h0 h1 (show 1 ≤ (n : Int) ∧ (n : Int) ≤ 60 by omega)
  refine Ev.step (fun k => by rw [impl_FitRow.l0]) (Ev.pos (by omega) ?_)
  rw [r1, w64 (x := (n : Int) + 1) (by omega) (by omega)]
  refine Ev.bind (implEven _ (n : Int) r2 r3 (by omega)) ?_
  unfold upd at h
  cases e : evenOf (a - ((n : Int) - 1) * s) (n : Int) with
  | none =>
    rw [e] at h
    exact Ev.neg (by simp [outE]) h
  | some r =>
    rw [e] at h
    have hr := even_len e
    have hap := implApart w r (by omega)
    refine Ev.pos rfl (Ev.nobind (implBet lo hi r) ?_)
    simp only [take] at h
    refine Ev.ite (fun c => ?_) (fun c => ?_)
    · rw [if_pos c] at h
      refine Ev.ite (fun c2 => ?_) (fun c2 => ?_)
      · rw [if_pos (by omega)] at h
        exact Ev.neg (by simp only [outE]; omega) h
      · rw [if_neg (by omega)] at h
        have hb := implApart w st.best (by have := hv.2.1; omega)
        rw [← hv.2.2 (by omega)] at hb
        refine Ev.bind hap (Ev.bind hb (Ev.ite (fun c3 => ?_) (fun c3 => ?_)))
        · rw [if_pos c3] at h
          exact Ev.neg (by simp only [outE]; omega) h
        · rw [if_neg c3] at h; exact h
    · rw [if_neg c] at h; exact h
def last (a s lo hi w : Int) : St := iter (upd a s lo hi w) 60 1 ⟨[], 0⟩
def fin (st : St) : List Int × Int := if st.best.length = 0 then ([], 6) else (st.best, 0)
def okP (a s lo hi w : Int) : Bool := (inB a 1 2000 && inB s 0 200) && (inB lo 1 200 && (inB hi 1 200 && inB w 1 200))
def res (a s lo hi w : Int) : List Int × Int := if okP a s lo hi w then (if lo > hi then ([], 4) else fin (last a s lo hi w)) else ([], 2)
theorem start_inv (w : Int) : Inv w 1 ⟨[], 0⟩ := ⟨by omega, by simp, fun h => absurd rfl h⟩
theorem res_len (a s lo hi w : Int) : (res a s lo hi w).1.length ≤ 60 := by
  unfold res
  split
  · split
    · simp
    · have := iter_inv (f := upd a s lo hi w) (Inv := Inv w) 60 1 ⟨[], 0⟩ (fun st j _ hj h => upd_inv h (by omega)) (start_inv w)
      unfold fin last
      split
      · simp
      · exact this.2.1
  · simp
theorem specRes (a s lo hi w : Int) : Ev (fun k => spec_FitRow.f k a s lo hi w) (res a s lo hi w) := by
  unfold spec_FitRow.f res okP
  have bad : ∀ r, ([], (2 : Int)) = r → Ev (fun k => spec_FitRow.j0 k a s lo hi w true) r := by
    intro r hr
    refine Ev.step (fun k => by rw [spec_FitRow.j0]) ?_
    exact Ev.pos rfl (Ev.fin hr)
  refine Ev.nobind (specLong a s) ?_
  cases e0 : inB a 1 2000 && inB s 0 200 with
  | false => exact Ev.neg (by decide) (bad _ rfl)
  | true =>
    rw [Bool.and_eq_true, inB_iff, inB_iff] at e0
    refine Ev.pos rfl (Ev.nobind (specWidth lo) ?_)
    cases inB lo 1 200 with
    | false => exact Ev.neg (by decide) (bad _ rfl)
    | true =>
      refine Ev.pos rfl (Ev.nobind (specWidth hi) ?_)
      cases inB hi 1 200 with
      | false => exact Ev.neg (by decide) (bad _ rfl)
      | true =>
        refine Ev.pos rfl (Ev.nobind (specWidth w) ?_)
        cases inB w 1 200 with
        | false => exact bad _ rfl
        | true =>
          refine Ev.step (fun k => by rw [spec_FitRow.j0]) (Ev.neg (by decide) ?_)
          refine Ev.to (r := if lo > hi then ([], 4) else fin (last a s lo hi w)) ?_ (by simp)
          refine Ev.ite (fun c => ?_) (fun c => ?_)
          · rw [if_pos c]; exact Ev.fin rfl
          · rw [if_neg c]
            refine iter_cps 61 (upd a s lo hi w) (fun k st i => spec_FitRow.l0 k a s lo hi w st.best st.few i) _ (Inv w) (fun st i h hv => upd_inv hv h) (fun st i h hv hr => specStep e0.1 e0.2 st i h hv _ hr) 60 1 ⟨[], 0⟩ (by omega) (start_inv w) (fun hv => ?_)
            refine Ev.step (fun k => by rw [spec_FitRow.l0]) (Ev.neg (by omega) ?_)
            unfold fin last
            refine Ev.ite (fun c2 => ?_) (fun c2 => ?_)
            · rw [if_pos (by omega)]; exact Ev.fin rfl
            · rw [if_neg (by omega)]; exact Ev.fin rfl
theorem implRes (a s lo hi w : Int) : Ev (fun k => impl_FitRow.f k a s lo hi w) (res a s lo hi w) := by
  unfold impl_FitRow.f res okP
  have bad : ∀ r, ([], (2 : Int)) = r → Ev (fun k => impl_FitRow.j0 k a s lo hi w true) r := by
    intro r hr
    refine Ev.step (fun k => by rw [impl_FitRow.j0]) ?_
    exact Ev.pos rfl (Ev.fin hr)
  refine Ev.nobind (implLong a) ?_
  cases e0 : inB a 1 2000 with
  | false => exact Ev.neg (by decide) (bad _ rfl)
  | true =>
    refine Ev.pos rfl (Ev.nobind (implSeam s) ?_)
    cases e1 : inB s 0 200 with
    | false => exact Ev.neg (by decide) (bad _ rfl)
    | true =>
      rw [inB_iff] at e0 e1
      refine Ev.pos rfl (Ev.nobind (implWidth [lo, hi, w]) ?_)
      simp only [List.all_cons, List.all_nil, Bool.and_true, Bool.true_and]
      cases inB lo 1 200 && (inB hi 1 200 && inB w 1 200) with
      | false => exact bad _ rfl
      | true =>
        refine Ev.step (fun k => by rw [impl_FitRow.j0]) (Ev.neg (by decide) ?_)
        rw [if_pos rfl]
        refine Ev.ite (fun c => ?_) (fun c => ?_)
        · rw [if_pos c]; exact Ev.fin rfl
        · rw [if_neg c]
          refine iter_cps 61 (upd a s lo hi w) (fun k st i => impl_FitRow.l0 k a s lo hi w st.best i) _ (Inv w) (fun st i h hv => upd_inv hv h) (fun st i h hv hr => implStep e0 e1 st i h hv _ hr) 60 1 ⟨[], 0⟩ (by omega) (start_inv w) (fun hv => ?_)
          refine Ev.step (fun k => by rw [impl_FitRow.l0]) (Ev.neg (by omega) ?_)
          unfold fin last
          refine Ev.ite (fun c2 => ?_) (fun c2 => ?_)
          · rw [if_pos (by omega)]; exact Ev.fin rfl
          · rw [if_neg (by omega)]; exact Ev.fin rfl
theorem FnExactFitRow : laws_FnExactFitRow.Pure := by
  intro a0 a1 a2 a3 a4 _ _ _ _ _
  refine Ev.rounds (g := fun k => laws_FnExactFitRow.f k a0 a1 a2 a3 a4) ?_
  unfold laws_FnExactFitRow.f
  have hl := res_len a0 a1 a2 a3 a4
  have hs := specRes a0 a1 a2 a3 a4
  have hi := implRes a0 a1 a2 a3 a4
  generalize res a0 a1 a2 a3 a4 = v at hl hs hi
  have hq := eqRow v.1 v.1 (by omega)
  refine Ev.bind hs (Ev.bind hi (Ev.bind hq (Ev.pos (by simp) ?_)))
  refine Ev.step (fun k => by rw [laws_FnExactFitRow.j0]) ?_
  refine Ev.neg (by simp) ?_
  refine Ev.bind (markRow v.1 (by omega)) (Ev.bind (heldRow v.1.length (by omega)) (Ev.neg (by omega) (Ev.pos rfl ?_)))
  refine Ev.bind hi (Ev.bind hq (Ev.pos (by simp) ?_))
  refine Ev.step (fun k => by rw [laws_FnExactFitRow.j1]) ?_
  refine Ev.neg (by simp) (Ev.bind (heldRow v.1.length (by omega)) (Ev.neg (by omega) ?_))
  exact Ev.pos rfl (Ev.fin rfl)

end Go.Proofs.Ytjkjelfhdhcplaa.Pure
