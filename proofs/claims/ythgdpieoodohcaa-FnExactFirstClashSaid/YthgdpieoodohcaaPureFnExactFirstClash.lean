/- The program's FirstClash answers what the reference's FirstClash answers, at all lists of rows and all numbers; no condition. Ahead of it: the laws' own small functions over lists of rows. -/
import Derived.Test.YthgdpieoodohcaaRowsKit
import Derived.Test.YthgdpieoodohcaaClashKit
import Derived.Test.YthgdpieoodohcaaPAxf101
import Derived.Test.YthgdpieoodohcaaPAxf16
import Derived.Test.YthgdpieoodohcaaPAxf56
import Derived.Test.YthgdpieoodohcaaPAxf58
import Derived.Test.YthgdpieoodohcaaPAxf60
namespace Go.Proofs.Ythgdpieoodohcaa.RowSKit
set_option linter.unusedSimpArgs false
set_option linter.unusedVariables false
open Go.RowKit Go.Proofs.Ythgdpieoodohcaa.PA Go.Proofs.Ythgdpieoodohcaa.Base Go.Proofs.Ythgdpieoodohcaa.RowsKit Go.Proofs.YthgdpieoodohcaaW.PrintWords Go.Proofs.YthgdpieoodohcaaW.PrintLast Go.Proofs.YthgdpieoodohcaaW.PrintMore

theorem rdL (xs : List (List Int)) (i : Nat) (h : i < xs.length) : rd_L4 xs (i : Int) = xs[i] := getD_nat xs [] i h
def szF (_ : Int) (r : List Int) (s : Int) : Int ⊕ Int := if s - (r.length : Int) < 0 then .inl (-1) else .inr (s - (r.length : Int))
theorem szRow (l : List Int) (s : Int) (hl : l.length ≤ maxLen) (h : 0 ≤ s ∧ s ≤ 1048576) : laws_szRow.f l s = some (if s - (l.length : Int) < 0 then (-1 : Int) else s - (l.length : Int)) := by
  unfold maxLen at hl
  unfold laws_szRow.f
  rw [w64 (by omega) (by omega)]
  split <;> rfl
def szOf (l : List (List Int)) : Int := if (1048576 : Int) - (l.length : Int) < 0 then -1 else scanG szF id l 0 (1048576 - (l.length : Int))
theorem szRowS (l : List (List Int)) (hl : l.length ≤ maxLen ∧ ∀ r ∈ l, r.length ≤ maxLen) : Ev (fun k => laws_szRowS.f k l 1048576) (szOf l) := by
  unfold laws_szRowS.f szOf
  have h1 := hl.1
  unfold maxLen at h1
  rw [w64 (by omega) (by omega)]
  refine Ev.ite (fun e => by rw [if_pos e]; exact Ev.fin rfl) (fun e => ?_)
  rw [if_neg e]
  refine scan_ev0 l szF id (fun k s i => laws_szRowS.l0 k l s i) (fun _ s => 0 ≤ s ∧ s ≤ 1048576) _ (by omega) (fun s i h s' hi e => ?_) (fun s i h r hi h1 h2 => ?_) (fun s _ => ?_)
  · unfold szF at e; split at e
    · cases e
    · cases e; omega
  · have ha := w64 (x := (i : Int) + 1) (by omega) (by omega)
    refine Ev.step (fun k => by rw [laws_szRowS.l0]) (Ev.pos (by omega) (Ev.pos (by omega) ?_))
    rw [rdL l i h, ha]
    refine Ev.nobind (szRow _ _ (hl.2 _ (List.getElem_mem h)) hi) ?_
    unfold szF at h1 h2
    by_cases e : s - ((l[i]).length : Int) < 0
    · rw [if_pos e]
      exact Ev.pos (by omega) (Ev.fin (h1 _ (by rw [if_pos e])))
    · rw [if_neg e]
      exact Ev.neg (by omega) (h2 _ (by rw [if_neg e]) (by omega))
  · refine Ev.step (fun k => by rw [laws_szRowS.l0]) ?_
    exact Ev.neg (by omega) (Ev.fin rfl)
theorem sz_small : ∀ (l : List (List Int)) (i s : Int), 0 ≤ s → s ≤ 1048576 → 0 ≤ scanG szF id l i s → ∀ r ∈ l, r.length ≤ 1048576
  | [], _, _, _, _, _ => fun r h => by cases h
  | x :: xs, i, s, h0, h1, h => by
    intro r hr
    unfold scanG at h
    by_cases e : s - (x.length : Int) < 0
    · have : szF i x s = .inl (-1) := by unfold szF; rw [if_pos e]
      rw [this] at h; simp at h
    · have : szF i x s = .inr (s - (x.length : Int)) := by unfold szF; rw [if_neg e]
      rw [this] at h
      rcases List.mem_cons.1 hr with rfl | hr
      · omega
      · exact sz_small xs (i + 1) _ (by omega) (by omega) h r hr
theorem szOf_small {l : List (List Int)} (h : ¬ szOf l < 0) : l.length ≤ 1048576 ∧ ∀ r ∈ l, r.length ≤ 1048576 := by
  unfold szOf at h
  split at h
  · omega
  · exact ⟨by omega, sz_small l 0 ((1048576 : Int) - (l.length : Int)) (by omega) (by omega) (by omega)⟩
theorem toRowS (l : List (List Int)) (hl : l.length ≤ 1048576 ∧ ∀ r ∈ l, r.length ≤ 1048576) : Ev (fun k => laws_toRowS.f k l) l := by
  unfold laws_toRowS.f
  refine Ev.pos (by omega) (Ev.pos (by omega) ?_)
  refine Ev.to (copy_ev0 l id [] (fun k x i => laws_toRowS.l0 k l x i) (fun x3 i hi r h3 hr => ?_) (fun x3 => ?_)) (by simp)
  · have ha := w64 (x := (i : Int) + 1) (by omega) (by omega)
    refine Ev.step (fun k => by rw [laws_toRowS.l0]) (Ev.pos (by omega) (Ev.pos (by omega) ?_))
    rw [rdL l i hi, ha]
    exact Ev.bind (toRow l[i] (by have := hl.2 _ (List.getElem_mem hi); omega)) (Ev.pos (by omega) hr)
  · exact Ev.step (fun k => by rw [laws_toRowS.l0]) (Ev.neg (by omega) (Ev.fin rfl))
theorem eqRowS (l : List (List Int)) (hl : l.length ≤ 1048576 ∧ ∀ r ∈ l, r.length ≤ 1048576) : Ev (fun k => laws_eqRowS.f k l l) true := by
  unfold laws_eqRowS.f
  refine Ev.pos rfl ?_
  refine count_ev0 (laws_eqRowS.l0 · l l ·) l.length true (fun i hi hk => ?_) ?_
  · have ha := w64 (x := (i : Int) + 1) (by omega) (by omega)
    refine Ev.step (fun k => by rw [laws_eqRowS.l0]) (Ev.pos (by omega) (Ev.pos (by omega) (Ev.pos (by omega) ?_)))
    rw [rdL l i hi, ha]
    exact Ev.bind (eqRow l[i] l[i] (by have := hl.2 _ (List.getElem_mem hi); omega)) (Ev.pos (by simp) hk)
  · exact Ev.step (fun k => by rw [laws_eqRowS.l0]) (Ev.neg (by omega) (Ev.fin rfl))
end Go.Proofs.Ythgdpieoodohcaa.RowSKit
namespace Go.Proofs.Ythgdpieoodohcaa.Pure
set_option linter.unusedSimpArgs false
set_option linter.unusedVariables false
open Go.RowKit Go.Proofs.Ythgdpieoodohcaa.PA Go.Proofs.Ythgdpieoodohcaa.Base Go.Proofs.Ythgdpieoodohcaa.RowsKit Go.Proofs.Ythgdpieoodohcaa.RowsFns Go.Proofs.Ythgdpieoodohcaa.JointsKit Go.Proofs.Ythgdpieoodohcaa.ApartKit Go.Proofs.Ythgdpieoodohcaa.ClashKit Go.Proofs.Ythgdpieoodohcaa.RowSKit Go.Proofs.YthgdpieoodohcaaW.PrintWords Go.Proofs.YthgdpieoodohcaaW.PrintLast Go.Proofs.YthgdpieoodohcaaW.PrintMore

def clashAt (l : List (List Int)) (s near : Int) (i : Nat) : List S99 := cl near (jts (l.getD (i - 1) []) s) (jts (l.getD i []) s)
def fp (l : List (List Int)) (s near : Int) : Nat → Nat → Int × Int
  | 0, _ => (0, 6)
  | d + 1, i => if ((clashAt l s near i).length : Int) > 0 then ((i : Int), 0) else fp l s near d (i + 1)
def res (l : List (List Int)) (s near : Int) : Int × Int :=
  if l.all okB then (if inB s 0 200 && inB near 0 2000 then (if (l.length : Int) > 20 then (0, 3) else fp l s near (l.length - 1) 1) else (0, 2)) else (0, 1)
theorem okLen {l : List Int} (h : okB l = true) : 1 ≤ l.length ∧ l.length ≤ 60 := by
  unfold okB at h; rw [Bool.and_eq_true, inB_iff] at h; omega
theorem at_ok {l : List (List Int)} (h : l.all okB = true) {i : Nat} (hi : i < l.length) : 1 ≤ (l.getD i []).length ∧ (l.getD i []).length ≤ 60 := by
  rw [List.all_eq_true] at h
  rw [List.getD_eq_getElem?_getD, List.getElem?_eq_getElem hi]
  exact okLen (h _ (List.getElem_mem hi))
theorem rdL' (xs : List (List Int)) (i : Nat) : rd_L4 xs (i : Int) = xs.getD i [] := by simp [rd_L4]
theorem specFp {l : List (List Int)} (s near : Int) (h : l.all okB = true) (hl : l.length ≤ 20) : ∀ d i : Nat, 1 ≤ i → i + d = max 1 l.length → Ev (fun k => spec_FirstClash.l1 k l s near (i : Int)) (fp l s near d i)
  | 0, i, h1, h2 => by
    refine Ev.step (fun k => by rw [spec_FirstClash.l1]) ?_
    exact Ev.neg (by omega) (Ev.fin rfl)
  | d + 1, i, h1, h2 => by
    have ha := w64 (x := (i : Int) + 1) (by omega) (by omega)
    have hb := w64 (x := (i : Int) - 1) (by omega) (by omega)
    refine Ev.step (fun k => by rw [spec_FirstClash.l1]) ?_
    rw [ha, hb, rdL', show (i : Int) - 1 = ((i - 1 : Nat) : Int) by omega, rdL']
    refine Ev.pos (by omega) (Ev.pos (by omega) (Ev.pos (by omega) (Ev.pos (by omega) ?_)))
    refine Ev.bind (specCl s near (at_ok h (by omega)) (at_ok h (by omega))) ?_
    unfold fp
    refine Ev.ite (fun e => ?_) (fun e => ?_)
    · rw [if_pos (by exact e)]; exact Ev.fin rfl
    · rw [if_neg (by exact e)]
      exact specFp s near h hl d (i + 1) (by omega) (by omega)
theorem implFp {l : List (List Int)} (s near : Int) (h : l.all okB = true) (hl : l.length ≤ 20) : ∀ d i : Nat, 1 ≤ i → i + d = max 1 l.length → Ev (fun k => impl_FirstClash.l0 k l s near (i : Int)) (fp l s near d i)
  | 0, i, h1, h2 => by
    refine Ev.step (fun k => by rw [impl_FirstClash.l0]) ?_
    exact Ev.neg (by omega) (Ev.fin rfl)
  | d + 1, i, h1, h2 => by
    have ha := w64 (x := (i : Int) + 1) (by omega) (by omega)
    have hb := w64 (x := (i : Int) - 1) (by omega) (by omega)
    refine Ev.step (fun k => by rw [impl_FirstClash.l0]) ?_
    rw [ha, hb, rdL', show (i : Int) - 1 = ((i - 1 : Nat) : Int) by omega, rdL']
    refine Ev.pos (by omega) (Ev.pos (by omega) (Ev.pos (by omega) (Ev.pos (by omega) ?_)))
    refine Ev.bind (implCl s near (at_ok h (by omega)) (at_ok h (by omega))) ?_
    unfold fp
    refine Ev.ite (fun e => ?_) (fun e => ?_)
    · rw [if_pos (by exact e)]; exact Ev.fin rfl
    · rw [if_neg (by exact e)]
      exact implFp s near h hl d (i + 1) (by omega) (by omega)
theorem getD_all {l : List (List Int)} (hf : ∀ r ∈ l, Fit r) {i : Nat} (hi : i < l.length) : Fit (l.getD i []) := by
  rw [List.getD_eq_getElem?_getD, List.getElem?_eq_getElem hi]; exact hf _ (List.getElem_mem hi)
theorem all_getD (l : List (List Int)) (p : List Int → Bool) : ((List.range l.length).all fun i => p (l.getD i [])) = l.all p := by
  rw [Bool.eq_iff_iff, List.all_eq_true, List.all_eq_true]
  constructor
  · intro h x hx
    obtain ⟨i, hi, rfl⟩ := List.getElem_of_mem hx
    have := h i (by simpa using hi)
    simpa [List.getD_eq_getElem?_getD, hi] using this
  · intro h i hi
    have hi' : i < l.length := by simpa using hi
    rw [List.getD_eq_getElem?_getD, List.getElem?_eq_getElem hi']
    exact h _ (List.getElem_mem hi')
theorem specRes {l : List (List Int)} (hf : ∀ r ∈ l, Fit r) (hl : l.length ≤ 1048576) (s near : Int) : Ev (fun k => spec_FirstClash.f k l s near) (res l s near) := by
  unfold spec_FirstClash.f res
  have bad : Ev (fun k => spec_FirstClash.j1 k l s near true) (0, 2) := by
    refine Ev.step (fun k => by rw [spec_FirstClash.j1]) ?_
    exact Ev.pos rfl (Ev.fin rfl)
  refine Ev.to (rangeAll_ev0 (fun k i => spec_FirstClash.l0 k l s near i) l.length (fun i => okB (l.getD i [])) (if inB s 0 200 && inB near 0 2000 then (if (l.length : Int) > 20 then (0, 3) else fp l s near (l.length - 1) 1) else (0, 2)) (0, 1) ?_ ?_ ?_) (by rw [all_getD])
  · intro i hi hp r' hr
    have ha := w64 (x := (i : Int) + 1) (by omega) (by omega)
    refine Ev.step (fun k => by rw [spec_FirstClash.l0]) (Ev.pos (by omega) (Ev.pos (by omega) ?_))
    rw [rdL', ha]
    exact Ev.bind (specOk (getD_all hf hi)) (Ev.pos hp hr)
  · intro i hi hp
    refine Ev.step (fun k => by rw [spec_FirstClash.l0]) (Ev.pos (by omega) (Ev.pos (by omega) ?_))
    rw [rdL']
    exact Ev.bind (specOk (getD_all hf hi)) (Ev.neg (by rw [hp]; decide) (Ev.fin rfl))
  · intro hall
    rw [all_getD] at hall
    refine Ev.step (fun k => by rw [spec_FirstClash.l0]) (Ev.neg (by omega) (Ev.nobind (specSeam s) ?_))
    cases e1 : inB s 0 200 with
    | false => exact Ev.neg (by simp) bad
    | true =>
      refine Ev.pos rfl (Ev.nobind (a := inB near 0 2000) (by simp [spec_l05Near.f, specIn]) ?_)
      cases e2 : inB near 0 2000 with
      | false => exact bad
      | true =>
        refine Ev.step (fun k => by rw [spec_FirstClash.j1]) ?_
        refine Ev.neg (by simp) ?_
        rw [if_pos (by rfl)]
        refine Ev.ite (fun e => by rw [if_pos e]; exact Ev.fin rfl) (fun e => ?_)
        rw [if_neg e]
        exact specFp s near hall (by omega) _ 1 (by omega) (by omega)
theorem implRes {l : List (List Int)} (hf : ∀ r ∈ l, Fit r) (hl : l.length ≤ 1048576) (s near : Int) : Ev (fun k => impl_FirstClash.f k l s near) (res l s near) := by
  unfold impl_FirstClash.f res
  have bad : ∀ c : Int, c ≠ 0 → Ev (fun k => impl_FirstClash.j0 k l s near c) (0, c) := by
    intro c hc
    refine Ev.step (fun k => by rw [impl_FirstClash.j0]) ?_
    exact Ev.neg hc (Ev.fin rfl)
  have hany : impl_FirstClash_1_any.f l = some (!(l.all okB)) := by
    unfold impl_FirstClash_1_any.f
    rw [idxO_any (q := fun r => !okB r) l (fun r hr => by unfold impl_FirstClash_1.f; rw [implValid (hf r hr)]; rfl)]
    congr 1
    rw [Bool.eq_iff_iff]; simp [List.any_eq_true, List.all_eq_true]
  refine Ev.nobind hany (Ev.nobind (implSeam s) ?_)
  cases e1 : inB s 0 200 with
  | false =>
    refine Ev.neg (by simp) (Ev.nobind (codeOf _ _) ?_)
    cases l.all okB with
    | false => exact bad 1 (by decide)
    | true => exact bad 2 (by decide)
  | true =>
    refine Ev.pos rfl (Ev.nobind (implIn _ _ _) (Ev.nobind (codeOf _ _) ?_))
    cases hall : l.all okB with
    | false => exact bad 1 (by decide)
    | true =>
      cases e2 : inB near 0 2000 with
      | false => exact bad 2 (by decide)
      | true =>
        refine Ev.step (fun k => by rw [impl_FirstClash.j0]) ?_
        refine Ev.pos rfl ?_
        rw [if_pos (by rfl), if_pos (by rfl)]
        refine Ev.ite (fun e => by rw [if_pos e]; exact Ev.fin rfl) (fun e => ?_)
        rw [if_neg e]
        exact implFp s near hall (by omega) _ 1 (by omega) (by omega)
theorem FnExactFirstClash : laws_FnExactFirstClash.Pure := by
  intro l0 a1 a2 w0 w1 w2
  have hf : ∀ r ∈ l0, Fit r := fun r hr => fit_of (w0.2 r hr).2
  refine Ev.rounds (g := fun k => laws_FnExactFirstClash.f k l0 a1 a2) ?_
  unfold laws_FnExactFirstClash.f
  refine Ev.bind (szRowS l0 ⟨w0.1, fun r hr => (w0.2 r hr).1⟩) (Ev.ite (fun _ => Ev.fin rfl) (fun h0 => ?_))
  have hl := szOf_small h0
  have t0 := toRowS l0 hl
  refine Ev.bind t0 (Ev.bind (specRes hf hl.1 a1 a2) (Ev.bind t0 (Ev.bind (implRes hf hl.1 a1 a2) (Ev.pos rfl ?_))))
  refine Ev.step (fun k => by rw [laws_FnExactFirstClash.j0]) ?_
  exact Ev.neg (by simp) (Ev.bind t0 (Ev.bind (eqRowS l0 hl) (Ev.pos rfl (Ev.fin rfl))))

end Go.Proofs.Ythgdpieoodohcaa.Pure
