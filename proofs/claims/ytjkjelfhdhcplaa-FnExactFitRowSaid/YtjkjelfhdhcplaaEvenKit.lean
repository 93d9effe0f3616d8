/- The row of so many stones whose widths are nearly equal: what the reference's and the program's functions come to. -/
import Derived.Test.YtjkjelfhdhcplaaLoops
import Derived.Test.YtjkjelfhdhcplaaRowsFns
import Derived.Test.YtjkjelfhdhcplaaPAxgImpl
import Derived.Test.YtjkjelfhdhcplaaPAxgSpec
namespace Go.Proofs.Ytjkjelfhdhcplaa.EvenKit
set_option linter.unusedSimpArgs false
set_option linter.unusedVariables false
open Go.RowKit Go.Proofs.Ytjkjelfhdhcplaa.PA Go.Proofs.Ytjkjelfhdhcplaa.Base Go.Proofs.Ytjkjelfhdhcplaa.RowsFns Go.Proofs.YtjkjelfhdhcplaaW.PrintWords Go.Proofs.YtjkjelfhdhcplaaW.PrintLast Go.Proofs.YtjkjelfhdhcplaaW.PrintMore

/-- The widths from stone i on, d of them. -/
def evenL (sum n : Int) : Nat → Int → List Int
  | 0, _ => []
  | d + 1, i => (if i < sum % n then sum / n + 1 else sum / n) :: evenL sum n d (i + 1)
theorem evenL_length (sum n : Int) : ∀ d i, (evenL sum n d i).length = d
  | 0, _ => rfl
  | d + 1, i => by simp [evenL, evenL_length sum n d]
def evenOf (sum n : Int) : Option (List Int) := if n ≤ sum ∧ sum ≤ n * 200 then some (evenL sum n n.toNat 0) else none
def outE : Option (List Int) → List Int × Bool
  | some l => (l, true)
  | none => ([], false)
theorem div_facts {sum n : Int} (hn : 1 ≤ n) (hs : 0 ≤ sum) : 0 ≤ sum / n ∧ sum / n ≤ sum ∧ 0 ≤ sum % n ∧ sum % n < n ∧ n * (sum / n) + sum % n = sum := by
  refine ⟨Int.ediv_nonneg hs (by omega), ?_, Int.emod_nonneg _ (by omega), Int.emod_lt_of_pos _ (by omega), Int.mul_ediv_add_emod sum n⟩
  exact Int.ediv_le_self _ hs
theorem implEven (sum n : Int) (h0 : -100000 ≤ sum) (h1 : sum ≤ 100000) (hn : 1 ≤ n ∧ n ≤ 60) : Ev (fun k => impl_even.f k sum n) (outE (evenOf sum n)) := by
  unfold impl_even.f evenOf
  rw [w64 (x := n * 200) (by omega) (by omega)]
  refine Ev.ite (fun e => ?_) (fun e => Ev.step (fun k => by rw [impl_even.j0]) ?_)
  · rw [if_neg (by omega)]
    refine Ev.step (fun k => by rw [impl_even.j0]) ?_
    exact Ev.pos rfl (Ev.fin rfl)
  · by_cases e2 : sum > n * 200
    · rw [if_neg (by omega)]
      exact Ev.pos (by simpa using e2) (Ev.fin rfl)
    · rw [if_pos (by omega)]
      refine Ev.neg (by simpa using e2) ?_
      obtain ⟨d0, d1, m0, m1, -⟩ := div_facts hn.1 (show 0 ≤ sum by omega)
      have hq : sum / n ≤ 200 := by
        have : sum / n ≤ (n * 200) / n := Int.ediv_le_ediv (by omega) (by omega)
        rwa [Int.mul_ediv_cancel_left _ (by omega)] at this
      have key : ∀ (d : Nat) (i : Nat) (acc : List Int), (i : Int) + d = n → acc.length = i → Ev (fun k => impl_even.l0 k sum n acc n (i : Int)) (acc ++ evenL sum n d i, true) := by
        intro d
        induction d with
        | zero =>
          intro i acc hi ha
          exact Ev.step (fun k => by rw [impl_even.l0]) (Ev.neg (by omega) (Ev.fin (by simp [evenL])))
        | succ d ih =>
          intro i acc hi ha
          have hw := w64 (x := (i : Int) + 1) (by omega) (by omega)
          refine Ev.step (fun k => by rw [impl_even.l0]) (Ev.pos (by omega) (Ev.neg (by omega) ?_))
          rw [Int.tmod_eq_emod_of_nonneg (by omega), Int.tdiv_eq_ediv_of_nonneg (by omega), hw, w64 (x := sum / n) (by omega) (by omega), w64 (x := sum / n + 1) (by omega) (by omega), w16 (x := sum / n + 1) (by omega) (by omega), w16 (x := sum / n) (by omega) (by omega)]
          refine Ev.ite (fun c => Ev.pos (by omega) ?_) (fun c => Ev.pos (by omega) ?_)
          · refine Ev.to (ih (i + 1) _ (by omega) (by simp [ha])) ?_
            simp [evenL, c]
          · refine Ev.to (ih (i + 1) _ (by omega) (by simp [ha])) ?_
            simp [evenL, c]
      exact Ev.to (key n.toNat 0 [] (by omega) rfl) (by simp [outE])
theorem specEvenIn (sum n : Int) (h0 : n ≤ sum) (h1 : sum ≤ n * 200) (hn : 1 ≤ n ∧ n ≤ 60) : Ev (fun k => spec_l05Even.l0 k n sum [] 0) (evenL sum n n.toNat 0, true) := by
  obtain ⟨d0, d1, m0, m1, dm⟩ := div_facts hn.1 (show 0 ≤ sum by omega)
  have hq1 : 1 ≤ sum / n := by
    have : n / n ≤ sum / n := Int.ediv_le_ediv (by omega) (by omega)
    rwa [Int.ediv_self (by omega)] at this
  have hq : sum / n ≤ 200 := by
    have : sum / n ≤ (n * 200) / n := Int.ediv_le_ediv (by omega) (by omega)
    rwa [Int.mul_ediv_cancel_left _ (by omega)] at this
  have hq2 : sum / n = 200 → sum % n = 0 := by
    intro h; rw [h] at dm; omega
  have e1 : Int.tmod sum n = sum % n := Int.tmod_eq_emod_of_nonneg (by omega)
  have e2 : Int.tdiv sum n = sum / n := Int.tdiv_eq_ediv_of_nonneg (by omega)
  clear dm
  have key : ∀ (d : Nat) (i : Nat) (acc : List Int), (i : Int) + d = n → acc.length = i → Ev (fun k => spec_l05Even.l0 k n sum acc (i : Int)) (acc ++ evenL sum n d i, true) := by
    intro d
    induction d with
    | zero =>
      intro i acc hi ha
      refine Ev.step (fun k => by rw [spec_l05Even.l0]) (Ev.neg (by omega) ?_)
      exact Ev.fin (by simp [evenL])
    | succ d ih =>
      intro i acc hi ha
      have hw := w64 (x := (i : Int) + 1) (by omega) (by omega)
      have ih' := fun x => ih (i + 1) (acc ++ [x]) (by omega) (by simp [ha])
      refine Ev.step (fun k => by rw [spec_l05Even.l0]) (Ev.pos (by omega) (Ev.neg (by omega) ?_))
      have hev : evenL sum n (d + 1) (i : Int) = (if (i : Int) < sum % n then sum / n + 1 else sum / n) :: evenL sum n d ((i : Int) + 1) := rfl
      rw [e1, e2, hw]
      generalize sum / n = q at *
      generalize sum % n = m at *
      rw [w64 (x := q) (by omega) (by omega), w64 (x := q + 1) (by omega) (by omega), w16 (x := q + 1) (by omega) (by omega), w16 (x := q) (by omega) (by omega), specWidth, specWidth]
      refine Ev.ite (fun c => Ev.nobind rfl (Ev.pos (by rw [inB_iff]; omega) (Ev.pos (by omega) ?_))) (fun c => Ev.nobind rfl (Ev.pos (by rw [inB_iff]; omega) (Ev.pos (by omega) ?_)))
      · refine Ev.to (ih' _) ?_
        rw [hev]; simp [c]
      · refine Ev.to (ih' _) ?_
        rw [hev]; simp [c]
  exact Ev.to (key n.toNat 0 [] (by omega) rfl) (by simp)
theorem specEvenOut (sum n : Int) (h0 : n * 200 < sum) (h1 : sum ≤ 100000) (hn : 1 ≤ n ∧ n ≤ 60) : Ev (fun k => spec_l05Even.l0 k n sum [] 0) ([], false) := by
  obtain ⟨d0, d1, m0, m1, dm⟩ := div_facts hn.1 (show 0 ≤ sum by omega)
  have hq : 200 ≤ sum / n := by
    have : (n * 200) / n ≤ sum / n := Int.ediv_le_ediv (by omega) (by omega)
    rwa [Int.mul_ediv_cancel_left _ (by omega)] at this
  have hq2 : sum / n = 200 → 0 < sum % n := by
    intro h; rw [h] at dm; omega
  have e1 : Int.tmod sum n = sum % n := Int.tmod_eq_emod_of_nonneg (by omega)
  have e2 : Int.tdiv sum n = sum / n := Int.tdiv_eq_ediv_of_nonneg (by omega)
  clear dm
  refine Ev.step (fun k => by rw [spec_l05Even.l0]) (Ev.pos (by omega) (Ev.neg (by omega) ?_))
  rw [e1, e2]
  generalize sum / n = q at *
  generalize sum % n = m at *
  rw [w64 (x := q) (by omega) (by omega), w64 (x := q + 1) (by omega) (by omega), specWidth, specWidth]
  refine Ev.ite (fun c => Ev.nobind rfl (Ev.neg (by rw [inB_iff]; omega) (Ev.fin rfl))) (fun c => Ev.nobind rfl (Ev.neg (by rw [inB_iff]; omega) (Ev.fin rfl)))
theorem specEven (a s n : Int) (h0 : 1 ≤ a ∧ a ≤ 2000) (h1 : 0 ≤ s ∧ s ≤ 200) (hn : 1 ≤ n ∧ n ≤ 60) : Ev (fun k => spec_l05Even.f k a s n) (outE (evenOf (a - (n - 1) * s) n)) := by
  unfold spec_l05Even.f evenOf
  have hm : (n - 1) * s ≤ 59 * 200 := Int.mul_le_mul (by omega) h1.2 h1.1 (by omega)
  have hm0 : 0 ≤ (n - 1) * s := Int.mul_nonneg (by omega) h1.1
  rw [w64 (x := n - 1) (by omega) (by omega), Int.mul_comm s, w64 (x := (n - 1) * s) (by omega) (by omega), w64 (by omega) (by omega)]
  have hr : a - (n - 1) * s ≤ 100000 := by omega
  clear hm hm0
  generalize a - (n - 1) * s = sum at hr ⊢
  refine Ev.ite (fun e => ?_) (fun e => ?_)
  · rw [if_neg (by omega)]; exact Ev.fin rfl
  · by_cases e2 : sum ≤ n * 200
    · rw [if_pos ⟨by omega, e2⟩]
      exact specEvenIn sum n (by omega) e2 hn
    · rw [if_neg (by omega)]
      exact specEvenOut sum n (by omega) hr hn
end Go.Proofs.Ytjkjelfhdhcplaa.EvenKit
