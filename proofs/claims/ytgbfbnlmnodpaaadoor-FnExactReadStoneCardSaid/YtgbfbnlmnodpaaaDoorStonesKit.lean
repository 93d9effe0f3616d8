/- What the functions on stones come to, the reference's and the program's; the laws' own small functions over lists of corners. -/
import Derived.Test.YtgbfbnlmnodpaaaDoorLoops
import Derived.Test.YtgbfbnlmnodpaaaDoorPAxgImpl
import Derived.Test.YtgbfbnlmnodpaaaDoorPAxgLaw
import Derived.Test.YtgbfbnlmnodpaaaDoorPAxgSpec
namespace Go.Proofs.YtgbfbnlmnodpaaaDoor.StonesKit
set_option linter.unusedSimpArgs false
set_option linter.unusedVariables false
open Go.RowKit Go.Proofs.YtgbfbnlmnodpaaaDoor.PA Go.Proofs.YtgbfbnlmnodpaaaDoor.Base Go.Proofs.YtgbfbnlmnodpaaaDoorW.PrintWords Go.Proofs.YtgbfbnlmnodpaaaDoorW.PrintLast Go.Proofs.YtgbfbnlmnodpaaaDoorW.PrintMore

def Fit (l : List S48) : Prop := ∀ c ∈ l, (-32768 ≤ c.f0 ∧ c.f0 ≤ 32767) ∧ (-32768 ≤ c.f1 ∧ c.f1 ≤ 32767)
theorem rdC (xs : List S48) (i : Nat) (h : i < xs.length) : rd_T48 xs (i : Int) = xs[i] := getD_nat xs z48 i h
theorem rdC' (xs : List S48) (i : Nat) : rd_T48 xs (i : Int) = xs.getD i z48 := by simp [rd_T48]
theorem specIn (n b c : Int) : spec_l00In.f n b c = some (inB n b c) := inB_ite
theorem implIn (n b c : Int) : impl_within.f n b c = some (inB n b c) := inB_ite
theorem tm (i n : Nat) (h : i < n) (hn : n ≤ 1048576) : Int.tmod (wrap64 ((i : Int) + 1)) (n : Int) = (((i + 1) % n : Nat) : Int) := by
  rw [w64 (by omega) (by omega), Int.tmod_eq_emod_of_nonneg (by omega)]; simp
/-- The side of c beside a and b. -/
def sd (a b c : S48) : Int := (impl_side.f a.f0 a.f1 b.f0 b.f1 c.f0 c.f1).getD 0
theorem implSide (a b c : S48) : impl_side.f a.f0 a.f1 b.f0 b.f1 c.f0 c.f1 = some (sd a b c) := rfl
theorem specSide (a b c : S48) : spec_l03Side.f a.f0 a.f1 b.f0 b.f1 c.f0 c.f1 = some (sd a b c) := rfl
def at_ (l : List S48) (i : Nat) : S48 := l.getD i z48
def cvx (l : List S48) (i j : Nat) : Bool := decide (j = i) || decide (j = (i + 1) % l.length) || decide (0 < sd (at_ l i) (at_ l ((i + 1) % l.length)) (at_ l j))
def convB (l : List S48) : Bool := (List.range l.length).all fun i => (List.range l.length).all fun j => cvx l i j
def placed (c : S48) : Bool := inB c.f0 (-1000) 1000 && inB c.f1 (-1000) 1000
def okS (l : List S48) : Bool := inB (l.length : Int) 3 8 && l.all placed && convB l
theorem all_range {α : Type} (l : List α) (z : α) (p : α → Bool) : (List.range l.length).all (fun j => p (l.getD j z)) = l.all p := by
  rw [Bool.eq_iff_iff, List.all_eq_true, List.all_eq_true]
  constructor
  · intro h x hx
    obtain ⟨i, hi, rfl⟩ := List.getElem_of_mem hx
    have := h i (by simpa using hi)
    simpa [List.getD_eq_getElem?_getD, hi] using this
  · intro h i hi
    have hi' : i < l.length := by simpa using hi
    rw [List.getD_eq_getElem?_getD, List.getElem?_eq_getElem hi']
    exact h _ (List.getElem_mem hi')
theorem specPlace (n : Int) : spec_l03Place.f n = some (inB n (-1000) 1000) := by simp [spec_l03Place.f, specIn]
theorem specCorner {c : S48} (h : (-32768 ≤ c.f0 ∧ c.f0 ≤ 32767) ∧ (-32768 ≤ c.f1 ∧ c.f1 ≤ 32767)) : spec_l03Corner.f c.f0 c.f1 = some (placed c) := by
  unfold spec_l03Corner.f placed
  rw [w64 (by omega) (by omega), w64 (by omega) (by omega), specPlace, specPlace, Option.bind_some]
  cases inB c.f0 (-1000) 1000 <;> simp
theorem implPlaced {c : S48} (h : (-32768 ≤ c.f0 ∧ c.f0 ≤ 32767) ∧ (-32768 ≤ c.f1 ∧ c.f1 ≤ 32767)) : impl_isPlaced.f c.f0 c.f1 = some (placed c) := by
  unfold impl_isPlaced.f placed
  rw [w64 (by omega) (by omega), w64 (by omega) (by omega), implIn, implIn, Option.bind_some]
  cases inB c.f0 (-1000) 1000 <;> simp
theorem ite_b (b : Bool) : (if b = true then true else false) = b := by cases b <;> rfl
theorem nx_lt (l : List S48) (i : Nat) (h : i < l.length) : (i + 1) % l.length < l.length := Nat.mod_lt _ (by omega)
theorem specConvex (l : List S48) (hl : l.length ≤ 1048576) : Ev (fun k => spec_l03Convex.f k l) (decide (3 ≤ (l.length : Int)) && convB l) := by
  unfold spec_l03Convex.f
  refine Ev.ite (fun e => Ev.fin ?_) (fun e => ?_)
  · rw [decide_eq_false (by omega)]; rfl
  · rw [decide_eq_true (by omega), Bool.true_and]
    refine Ev.to (rangeAll_ev0 (fun k i => spec_l03Convex.l0 k l i) l.length (fun i => (List.range l.length).all fun j => cvx l i j) true false ?_ ?_ ?_) (ite_b _)
    all_goals first
      | (intro i hi hp r' hr)
      | (intro i hi hp)
      | (intro hp)
    · have hn := nx_lt l i hi
      have ht := tm i l.length hi hl
      refine Ev.step (fun k => by rw [spec_l03Convex.l0]) (Ev.pos (by omega) ?_)
      refine Ev.nobind (a := (((i + 1) % l.length : Nat) : Int)) (by unfold spec_l03Next.f; rw [if_neg (by omega), ht]) ?_
      refine Ev.to (rangeAll_ev0 (fun k j => spec_l03Convex.l1 k l i (((i + 1) % l.length : Nat) : Int) j) l.length (fun j => cvx l i j) r' r' ?_ ?_ ?_) (by simp)
      · intro j hj hq r2 hr2
        have ha := w64 (x := (j : Int) + 1) (by omega) (by omega)
        have hq' := hq
        unfold cvx at hq'
        simp only [Bool.or_eq_true, decide_eq_true_eq] at hq'
        refine Ev.step (fun k => by rw [spec_l03Convex.l1]) (Ev.pos (by omega) ?_)
        rw [ha]
        refine Ev.ite (fun _ => hr2) (fun e1 => Ev.ite (fun _ => hr2) (fun e2 => ?_))
        refine Ev.pos (by omega) (Ev.pos (by omega) (Ev.pos (by omega) (Ev.pos (by omega) (Ev.pos (by omega) ?_))))
        refine Ev.nobind (specSide _ _ _) (Ev.neg ?_ hr2)
        rw [rdC', rdC', rdC']
        have : 0 < sd (at_ l i) (at_ l ((i + 1) % l.length)) (at_ l j) := by
          rcases hq' with (h | h) | h
          · omega
          · omega
          · exact h
        unfold at_ at this; omega
      · intro j hj hq
        exfalso
        rw [List.all_eq_true] at hp
        have := hp j (by simpa using hj)
        rw [hq] at this; cases this
      · intro _
        have ha := w64 (x := (i : Int) + 1) (by omega) (by omega)
        refine Ev.step (fun k => by rw [spec_l03Convex.l1]) (Ev.neg (by omega) ?_)
        rw [ha]; exact hr
    · have hn := nx_lt l i hi
      have ht := tm i l.length hi hl
      refine Ev.step (fun k => by rw [spec_l03Convex.l0]) (Ev.pos (by omega) ?_)
      refine Ev.nobind (a := (((i + 1) % l.length : Nat) : Int)) (by unfold spec_l03Next.f; rw [if_neg (by omega), ht]) ?_
      refine Ev.to (rangeAll_ev0 (fun k j => spec_l03Convex.l1 k l i (((i + 1) % l.length : Nat) : Int) j) l.length (fun j => cvx l i j) false false ?_ ?_ ?_) (by simp)
      · intro j hj hq r2 hr2
        have ha := w64 (x := (j : Int) + 1) (by omega) (by omega)
        have hq' := hq
        unfold cvx at hq'
        simp only [Bool.or_eq_true, decide_eq_true_eq] at hq'
        refine Ev.step (fun k => by rw [spec_l03Convex.l1]) (Ev.pos (by omega) ?_)
        rw [ha]
        refine Ev.ite (fun _ => hr2) (fun e1 => Ev.ite (fun _ => hr2) (fun e2 => ?_))
        refine Ev.pos (by omega) (Ev.pos (by omega) (Ev.pos (by omega) (Ev.pos (by omega) (Ev.pos (by omega) ?_))))
        refine Ev.nobind (specSide _ _ _) (Ev.neg ?_ hr2)
        rw [rdC', rdC', rdC']
        have : 0 < sd (at_ l i) (at_ l ((i + 1) % l.length)) (at_ l j) := by
          rcases hq' with (h | h) | h
          · omega
          · omega
          · exact h
        unfold at_ at this; omega
      · intro j hj hq
        unfold cvx at hq
        simp only [Bool.or_eq_false_iff, decide_eq_false_iff_not] at hq
        obtain ⟨⟨q1, q2⟩, q3⟩ := hq
        refine Ev.step (fun k => by rw [spec_l03Convex.l1]) (Ev.pos (by omega) (Ev.neg (by omega) (Ev.neg (by omega) ?_)))
        refine Ev.pos (by omega) (Ev.pos (by omega) (Ev.pos (by omega) (Ev.pos (by omega) (Ev.pos (by omega) ?_))))
        refine Ev.nobind (specSide _ _ _) (Ev.pos ?_ (Ev.fin rfl))
        rw [rdC', rdC', rdC']
        unfold at_ at q3; omega
      · intro h; rw [h] at hp; cases hp
    · exact Ev.step (fun k => by rw [spec_l03Convex.l0]) (Ev.neg (by omega) (Ev.fin rfl))
theorem specOk {l : List S48} (hf : Fit l) : Ev (fun k => spec_l03Ok.f k l) (okS l) := by
  unfold spec_l03Ok.f okS
  refine Ev.nobind (specIn _ _ _) (Ev.ite (fun e => ?_) (fun e => ?_))
  · rw [e]
    rw [inB_iff] at e
    refine Ev.to (rangeAll_ev0 (fun k i => spec_l03Ok.l0 k l i) l.length (fun i => placed (l.getD i z48)) (decide (3 ≤ (l.length : Int)) && convB l) false ?_ ?_ ?_) ?_
    · intro i hi hp r' hr
      have ha := w64 (x := (i : Int) + 1) (by omega) (by omega)
      refine Ev.step (fun k => by rw [spec_l03Ok.l0]) (Ev.pos (by omega) (Ev.pos (by omega) ?_))
      rw [rdC l i hi, ha]
      refine Ev.nobind (specCorner (hf _ (List.getElem_mem hi))) (Ev.pos ?_ hr)
      simpa [List.getD_eq_getElem?_getD, hi] using hp
    · intro i hi hp
      refine Ev.step (fun k => by rw [spec_l03Ok.l0]) (Ev.pos (by omega) (Ev.pos (by omega) ?_))
      rw [rdC l i hi]
      refine Ev.nobind (specCorner (hf _ (List.getElem_mem hi))) (Ev.neg ?_ (Ev.fin rfl))
      have : placed l[i] = false := by simpa [List.getD_eq_getElem?_getD, hi] using hp
      rw [this]; decide
    · intro _
      refine Ev.step (fun k => by rw [spec_l03Ok.l0]) (Ev.neg (by omega) ?_)
      exact Ev.bind (specConvex l (by omega)) (Ev.now _)
    · rw [all_range l z48 placed, decide_eq_true e.1]
      cases l.all placed <;> rfl
  · rw [Bool.not_eq_true] at e; rw [e]; exact Ev.fin rfl
theorem implConvexL {l : List S48} (hf : Fit l) (hl : l.length ≤ 1048575) : Ev (fun k => impl_isConvex.f k l) (convB l && (decide (3 ≤ (l.length : Int)) && l.all placed)) := by
  unfold impl_isConvex.f
  have fin0 : impl_isConvex_1_any.f l = some (!(l.all placed)) := by
    unfold impl_isConvex_1_any.f
    rw [idxO_any (q := fun c => !placed c) l (fun c hc => by unfold impl_isConvex_1.f; rw [implPlaced (hf c hc)]; rfl)]
    congr 1
    rw [Bool.eq_iff_iff]; simp [List.any_eq_true, List.all_eq_true]
  refine Ev.to (rangeAll_ev0 (fun k i => impl_isConvex.l0 k l (l.length : Int) l (l.length : Int) i) l.length (fun i => (List.range l.length).all fun j => cvx l i j) (decide (3 ≤ (l.length : Int)) && l.all placed) false ?_ ?_ ?_) (by unfold convB; cases ((List.range l.length).all fun i => (List.range l.length).all fun j => cvx l i j) <;> rfl)
  · intro i hi hp r' hr
    have hn := nx_lt l i hi
    have ht := tm i l.length hi (by omega)
    refine Ev.step (fun k => by rw [impl_isConvex.l0]) (Ev.pos (by omega) (Ev.pos (by omega) (Ev.pos (by omega) (Ev.neg (by omega) ?_))))
    rw [ht]
    refine Ev.pos (by omega) (Ev.pos (by omega) ?_)
    refine Ev.to (rangeAll_ev0 (fun k j => impl_isConvex.l1 k l (l.length : Int) i l (l.length : Int) i l (l.length : Int) j ((rd_T48 l i).f0) ((rd_T48 l i).f1) ((rd_T48 l (((i + 1) % l.length : Nat) : Int)).f0) ((rd_T48 l (((i + 1) % l.length : Nat) : Int)).f1)) l.length (fun j => cvx l i j) r' r' ?_ ?_ ?_) (by simp)
    · intro j hj hq r2 hr2
      have ha := w64 (x := (j : Int) + 1) (by omega) (by omega)
      have hq' := hq
      unfold cvx at hq'
      simp only [Bool.or_eq_true, decide_eq_true_eq] at hq'
      refine Ev.step (fun k => by rw [impl_isConvex.l1]) (Ev.pos (by omega) (Ev.pos (by omega) (Ev.pos (by omega) ?_)))
      rw [ha]
      refine Ev.ite (fun _ => hr2) (fun e1 => Ev.neg (by omega) ?_)
      rw [ht]
      refine Ev.ite (fun _ => hr2) (fun e2 => ?_)
      refine Ev.nobind (implSide _ _ _) (Ev.neg ?_ hr2)
      rw [rdC', rdC', rdC']
      have : 0 < sd (at_ l i) (at_ l ((i + 1) % l.length)) (at_ l j) := by
        rcases hq' with (h | h) | h
        · omega
        · omega
        · exact h
      unfold at_ at this; omega
    · intro j hj hq
      exfalso
      rw [List.all_eq_true] at hp
      have := hp j (by simpa using hj)
      rw [hq] at this; cases this
    · intro _
      have ha := w64 (x := (i : Int) + 1) (by omega) (by omega)
      refine Ev.step (fun k => by rw [impl_isConvex.l1]) (Ev.neg (by omega) ?_)
      rw [ha]; exact hr
  · intro i hi hp
    have hn := nx_lt l i hi
    have ht := tm i l.length hi (by omega)
    refine Ev.step (fun k => by rw [impl_isConvex.l0]) (Ev.pos (by omega) (Ev.pos (by omega) (Ev.pos (by omega) (Ev.neg (by omega) ?_))))
    rw [ht]
    refine Ev.pos (by omega) (Ev.pos (by omega) ?_)
    refine Ev.to (rangeAll_ev0 (fun k j => impl_isConvex.l1 k l (l.length : Int) i l (l.length : Int) i l (l.length : Int) j ((rd_T48 l i).f0) ((rd_T48 l i).f1) ((rd_T48 l (((i + 1) % l.length : Nat) : Int)).f0) ((rd_T48 l (((i + 1) % l.length : Nat) : Int)).f1)) l.length (fun j => cvx l i j) false false ?_ ?_ ?_) (by simp)
    · intro j hj hq r2 hr2
      have ha := w64 (x := (j : Int) + 1) (by omega) (by omega)
      have hq' := hq
      unfold cvx at hq'
      simp only [Bool.or_eq_true, decide_eq_true_eq] at hq'
      refine Ev.step (fun k => by rw [impl_isConvex.l1]) (Ev.pos (by omega) (Ev.pos (by omega) (Ev.pos (by omega) ?_)))
      rw [ha]
      refine Ev.ite (fun _ => hr2) (fun e1 => Ev.neg (by omega) ?_)
      rw [ht]
      refine Ev.ite (fun _ => hr2) (fun e2 => ?_)
      refine Ev.nobind (implSide _ _ _) (Ev.neg ?_ hr2)
      rw [rdC', rdC', rdC']
      have : 0 < sd (at_ l i) (at_ l ((i + 1) % l.length)) (at_ l j) := by
        rcases hq' with (h | h) | h
        · omega
        · omega
        · exact h
      unfold at_ at this; omega
    · intro j hj hq
      unfold cvx at hq
      simp only [Bool.or_eq_false_iff, decide_eq_false_iff_not] at hq
      obtain ⟨⟨q1, q2⟩, q3⟩ := hq
      refine Ev.step (fun k => by rw [impl_isConvex.l1]) (Ev.pos (by omega) (Ev.pos (by omega) (Ev.pos (by omega) (Ev.neg (by omega) (Ev.neg (by omega) ?_)))))
      rw [ht]
      refine Ev.neg (by omega) ?_
      refine Ev.nobind (implSide _ _ _) (Ev.pos ?_ (Ev.fin rfl))
      rw [rdC', rdC', rdC']
      unfold at_ at q3; omega
    · intro h; rw [h] at hp; cases hp
  · intro _
    refine Ev.step (fun k => by rw [impl_isConvex.l0]) (Ev.neg (by omega) ?_)
    rw [fin0]
    refine Ev.ite (fun e => ?_) (fun e => ?_)
    · rw [decide_eq_true (by omega)]; exact Ev.fin (by simp)
    · rw [decide_eq_false (by omega)]; exact Ev.fin rfl
theorem implConvex {l : List S48} (hf : Fit l) (hl : l.length ≤ 8) : Ev (fun k => impl_isConvex.f k l) (convB l && (decide (3 ≤ (l.length : Int)) && l.all placed)) := implConvexL hf (by omega)
theorem implOk {l : List S48} (hf : Fit l) : Ev (fun k => impl_ValidStone.f k l) (okS l) := by
  unfold impl_ValidStone.f
  refine Ev.ite (fun e => ?_) (fun e => Ev.fin ?_)
  · refine Ev.bind (implConvex hf (by omega)) (Ev.fin ?_)
    unfold okS inB
    rw [decide_eq_true e]
    cases convB l <;> cases decide (3 ≤ (l.length : Int)) <;> cases l.all placed <;> rfl
  · unfold okS inB; rw [decide_eq_false e]; simp
theorem eqStone (l : List S48) (h : l.length ≤ 1048576) : Ev (fun k => laws_eqStone.f k l l) true := by
  unfold laws_eqStone.f
  refine Ev.pos rfl ?_
  refine count_ev0 (laws_eqStone.l0 · l l ·) l.length true (fun i hi hk => ?_) ?_
  · have ha := w64 (x := (i : Int) + 1) (by omega) (by omega)
    refine Ev.step (fun k => by rw [laws_eqStone.l0]) (Ev.pos (by omega) (Ev.pos (by omega) (Ev.pos (by omega) ?_)))
    refine Ev.nobind (a := true) (by simp [laws_eqCorner.f]) (Ev.pos rfl ?_)
    rw [ha]; exact hk
  · exact Ev.step (fun k => by rw [laws_eqStone.l0]) (Ev.neg (by omega) (Ev.fin rfl))
theorem okS_len {l : List S48} (h : okS l = true) : 3 ≤ l.length ∧ l.length ≤ 8 := by
  unfold okS at h
  rw [Bool.and_eq_true, Bool.and_eq_true, inB_iff] at h
  omega
end Go.Proofs.YtgbfbnlmnodpaaaDoor.StonesKit
