/- What the functions on stones come to, the reference's and the program's; the laws' own small functions over lists of corners. · The program's code of two answers. · Edges on one line: what they have in common, told in two ways. No Go and no memory in it. · Seams of stones: what the reference's and the program's functions come to. · Hulls: an edge that has all corners on its one side; which corner comes next; that such corners make a stone. No Go and no memory in it. · Going round a list of corners, from each to the one that has all others on its one side: it comes back to the first, and what it passes is a stone. No Go and no memory in it. · Half a hull: corners in their order, each pushed onto a pile from which those are taken that do not turn left. No Go and no memory in it. · Both halves of a hull, one behind the other, are what going round comes to. No Go and no memory in it. · What the reference's HullOf comes to. · The laws' generator: it draws numbers in their range. · Stones that are drawn: valid ones, near to their place. · Where a point lies to a stone: both sides come to one scan. · Areas of stones: both sides sum the edges. · Mirrored and turned stones: what both sides come to. · Moved stones, boxes, first corners: what the program and the reference come to. · Stones that are turned, mirrored or moved are stones with the same area; an area is at least one. · Texts cut at a byte; numerals in decimal: plain laws of lists of bytes, no program in sight. · A stone's text is read back as the stone. · What the program's HullOf comes to. · Where corners lie, boxes, first corners, equal lists, hulls: what the law asks of them. · The law FnStones says true at all codes. -/
import Derived.Test.YthbogbaaikjhbaaGreatDoorLoopsAll
import Derived.Test.YthbogbaaikjhbaaGreatDoorPAxgImpl
import Derived.Test.YthbogbaaikjhbaaGreatDoorPAxgSpec
import Derived.Test.YthbogbaaikjhbaaGreatDoorPAxm17
import Derived.Test.YthbogbaaikjhbaaGreatDoorPAxf59
import Derived.Test.YthbogbaaikjhbaaGreatDoorPAxm21
import Derived.Test.YthbogbaaikjhbaaGreatDoorPAxf25
import Derived.Test.YthbogbaaikjhbaaGreatDoorPAxm25
import Derived.Test.YthbogbaaikjhbaaGreatDoorPAxm28
import Derived.Test.YthbogbaaikjhbaaGreatDoorPAxf28
import Derived.Test.YthbogbaaikjhbaaGreatDoorPAxf46
import Derived.Test.YthbogbaaikjhbaaGreatDoorPAxm22
import Derived.Test.YthbogbaaikjhbaaGreatDoorPAxm20
import Derived.Test.YthbogbaaikjhbaaGreatDoorPAxm24
import Derived.Test.YthbogbaaikjhbaaGreatDoorPAxm26
import Derived.Test.YthbogbaaikjhbaaGreatDoorPAxf18
import Derived.Test.YthbogbaaikjhbaaGreatDoorPAxf19
import Derived.Test.YthbogbaaikjhbaaGreatDoorPAxf20
import Derived.Test.YthbogbaaikjhbaaGreatDoorPAxf45
import Derived.Test.YthbogbaaikjhbaaGreatDoorPAxm29
import Derived.Lib.SplitLaws
import Derived.Lib.ParseIntBCases
import Derived.Lib.ParseIntBTie
import Derived.Lib.ItoaNum
import Derived.Lib.IndexMore
import Derived.Test.YthbogbaaikjhbaaGreatDoorPAxm23
import Derived.Test.YthbogbaaikjhbaaGreatDoorPAxf6
import Derived.Test.YthbogbaaikjhbaaGreatDoorPAxf24
import Derived.Test.YthbogbaaikjhbaaGreatDoorPAxm27
import Derived.Test.YthbogbaaikjhbaaGreatDoorPAxf54
import Derived.Test.YthbogbaaikjhbaaGreatDoorPAxf3
namespace Go.Proofs.YthbogbaaikjhbaaGreatDoor.StonesKit
set_option linter.unusedSimpArgs false
set_option linter.unusedVariables false
open Go.RowKit Go.Proofs.YthbogbaaikjhbaaGreatDoor.PA Go.Proofs.YthbogbaaikjhbaaGreatDoor.Base Go.Proofs.YthbogbaaikjhbaaGreatDoorW.PrintWords Go.Proofs.YthbogbaaikjhbaaGreatDoorW.PrintLast Go.Proofs.YthbogbaaikjhbaaGreatDoorW.PrintMore
def Fit (l : List S43) : Prop := ∀ c ∈ l, (-32768 ≤ c.f0 ∧ c.f0 ≤ 32767) ∧ (-32768 ≤ c.f1 ∧ c.f1 ≤ 32767)
theorem rdC (xs : List S43) (i : Nat) (h : i < xs.length) : rd_T43 xs (i : Int) = xs[i] := getD_nat xs z43 i h
theorem rdC' (xs : List S43) (i : Nat) : rd_T43 xs (i : Int) = xs.getD i z43 := by simp [rd_T43]
theorem specIn (n b c : Int) : spec_l00In.f n b c = some (inB n b c) := inB_ite
theorem implIn (n b c : Int) : impl_within.f n b c = some (inB n b c) := inB_ite
theorem tm (i n : Nat) (h : i < n) (hn : n ≤ 1048576) : Int.tmod (wrap64 ((i : Int) + 1)) (n : Int) = (((i + 1) % n : Nat) : Int) := by
 rw [w64 (by omega) (by omega), Int.tmod_eq_emod_of_nonneg (by omega)]; simp
/-- The side of c beside a and b. -/
def sd (a b c : S43) : Int := (impl_side.f a.f0 a.f1 b.f0 b.f1 c.f0 c.f1).getD 0
theorem implSide (a b c : S43) : impl_side.f a.f0 a.f1 b.f0 b.f1 c.f0 c.f1 = some (sd a b c) := rfl
theorem specSide (a b c : S43) : spec_l03Side.f a.f0 a.f1 b.f0 b.f1 c.f0 c.f1 = some (sd a b c) := rfl
def at_ (l : List S43) (i : Nat) : S43 := l.getD i z43
def cvx (l : List S43) (i j : Nat) : Bool := decide (j = i) || decide (j = (i + 1) % l.length) || decide (0 < sd (at_ l i) (at_ l ((i + 1) % l.length)) (at_ l j))
def convB (l : List S43) : Bool := (List.range l.length).all fun i => (List.range l.length).all fun j => cvx l i j
def placed (c : S43) : Bool := inB c.f0 (-1000) 1000 && inB c.f1 (-1000) 1000
def okS (l : List S43) : Bool := inB (l.length : Int) 3 8 && l.all placed && convB l
theorem all_range {α : Type} (l : List α) (z : α) (p : α → Bool) : (List.range l.length).all (fun j => p (l.getD j z)) = l.all p := by
 rw [Bool.eq_iff_iff, List.all_eq_true, List.all_eq_true]
 constructor
 ·
  intro h x hx
  obtain ⟨i, hi, rfl⟩ := List.getElem_of_mem hx
  have := h i (by simpa using hi)
  simpa [List.getD_eq_getElem?_getD, hi] using this
 ·
  intro h i hi
  have hi' : i < l.length := by simpa using hi
  rw [List.getD_eq_getElem?_getD, List.getElem?_eq_getElem hi']
  exact h _ (List.getElem_mem hi')
theorem specPlace (n : Int) : spec_l03Place.f n = some (inB n (-1000) 1000) := by simp [spec_l03Place.f, specIn]
theorem specCorner {c : S43} (h : (-32768 ≤ c.f0 ∧ c.f0 ≤ 32767) ∧ (-32768 ≤ c.f1 ∧ c.f1 ≤ 32767)) : spec_l03Corner.f c.f0 c.f1 = some (placed c) := by
 unfold spec_l03Corner.f placed
 rw [w64 (by omega) (by omega), w64 (by omega) (by omega), specPlace, specPlace, Option.bind_some]
 cases inB c.f0 (-1000) 1000 <;> simp
theorem implPlaced {c : S43} (h : (-32768 ≤ c.f0 ∧ c.f0 ≤ 32767) ∧ (-32768 ≤ c.f1 ∧ c.f1 ≤ 32767)) : impl_isPlaced.f c.f0 c.f1 = some (placed c) := by
 unfold impl_isPlaced.f placed
 rw [w64 (by omega) (by omega), w64 (by omega) (by omega), implIn, implIn, Option.bind_some]
 cases inB c.f0 (-1000) 1000 <;> simp
theorem ite_b (b : Bool) : (if b = true then true else false) = b := by cases b <;> rfl
theorem nx_lt (l : List S43) (i : Nat) (h : i < l.length) : (i + 1) % l.length < l.length := Nat.mod_lt _ (by omega)
theorem specConvex (l : List S43) (hl : l.length ≤ 1048576) : Ev (fun k => spec_l03Convex.f k l) (decide (3 ≤ (l.length : Int)) && convB l) := by
 unfold spec_l03Convex.f
 refine Ev.ite (fun e => Ev.fin ?_) (fun e => ?_)
 ·
  rw [decide_eq_false (by omega)]; rfl
 ·
  rw [decide_eq_true (by omega), Bool.true_and]
  refine Ev.to (rangeAll_ev0 (fun k i => spec_l03Convex.l0 k l i) l.length (fun i => (List.range l.length).all fun j => cvx l i j) true false ?_ ?_ ?_) (ite_b _)
  all_goals first
   | (intro i hi hp r' hr)
   | (intro i hi hp)
   | (intro hp)
  ·
   have hn := nx_lt l i hi
   have ht := tm i l.length hi hl
   refine Ev.step (fun k => by rw [spec_l03Convex.l0]) (Ev.pos (by omega) ?_)
   refine Ev.nobind (a := (((i + 1) % l.length : Nat) : Int)) (by unfold spec_l03Next.f; rw [if_neg (by omega), ht]) ?_
   refine Ev.to (rangeAll_ev0 (fun k j => spec_l03Convex.l1 k l i (((i + 1) % l.length : Nat) : Int) j) l.length (fun j => cvx l i j) r' r' ?_ ?_ ?_) (by simp)
   ·
    intro j hj hq r2 hr2
    have ha := w64 (x := (j : Int) + 1) (by omega) (by omega)
    have hq' := hq
    unfold cvx at hq'
    simp only [Bool.or_eq_true, decide_eq_true_eq] at hq'
    refine Ev.step (fun k => by rw [spec_l03Convex.l1]) (Ev.pos (by omega) ?_)
    rw [ha]
    refine Ev.ite (fun _ => hr2) (fun e1 => Ev.ite (fun _ => hr2) (fun e2 => ?_))
    refine Ev.pos (by omega) (Ev.pos (by omega) (Ev.pos (by omega) (Ev.pos (by omega) (Ev.pos (by omega) ?_))))
    refine Ev.nobind (specSide _ _ _) (Ev.neg ?_ hr2)
    rw [rdC', rdC', rdC']
    have : 0 < sd (at_ l i) (at_ l ((i + 1) % l.length)) (at_ l j) := by
     rcases hq' with (h | h) | h
     ·
      omega
     ·
      omega
     ·
      exact h
    unfold at_ at this; omega
   ·
    intro j hj hq
    exfalso
    rw [List.all_eq_true] at hp
    have := hp j (by simpa using hj)
    rw [hq] at this; cases this
   ·
    intro _
    have ha := w64 (x := (i : Int) + 1) (by omega) (by omega)
    refine Ev.step (fun k => by rw [spec_l03Convex.l1]) (Ev.neg (by omega) ?_)
    rw [ha]; exact hr
  ·
   have hn := nx_lt l i hi
   have ht := tm i l.length hi hl
   refine Ev.step (fun k => by rw [spec_l03Convex.l0]) (Ev.pos (by omega) ?_)
   refine Ev.nobind (a := (((i + 1) % l.length : Nat) : Int)) (by unfold spec_l03Next.f; rw [if_neg (by omega), ht]) ?_
   refine Ev.to (rangeAll_ev0 (fun k j => spec_l03Convex.l1 k l i (((i + 1) % l.length : Nat) : Int) j) l.length (fun j => cvx l i j) false false ?_ ?_ ?_) (by simp)
   ·
    intro j hj hq r2 hr2
    have ha := w64 (x := (j : Int) + 1) (by omega) (by omega)
    have hq' := hq
    unfold cvx at hq'
    simp only [Bool.or_eq_true, decide_eq_true_eq] at hq'
    refine Ev.step (fun k => by rw [spec_l03Convex.l1]) (Ev.pos (by omega) ?_)
    rw [ha]
    refine Ev.ite (fun _ => hr2) (fun e1 => Ev.ite (fun _ => hr2) (fun e2 => ?_))
    refine Ev.pos (by omega) (Ev.pos (by omega) (Ev.pos (by omega) (Ev.pos (by omega) (Ev.pos (by omega) ?_))))
    refine Ev.nobind (specSide _ _ _) (Ev.neg ?_ hr2)
    rw [rdC', rdC', rdC']
    have : 0 < sd (at_ l i) (at_ l ((i + 1) % l.length)) (at_ l j) := by
     rcases hq' with (h | h) | h
     ·
      omega
     ·
      omega
     ·
      exact h
    unfold at_ at this; omega
   ·
    intro j hj hq
    unfold cvx at hq
    simp only [Bool.or_eq_false_iff, decide_eq_false_iff_not] at hq
    obtain ⟨⟨q1, q2⟩, q3⟩ := hq
    refine Ev.step (fun k => by rw [spec_l03Convex.l1]) (Ev.pos (by omega) (Ev.neg (by omega) (Ev.neg (by omega) ?_)))
    refine Ev.pos (by omega) (Ev.pos (by omega) (Ev.pos (by omega) (Ev.pos (by omega) (Ev.pos (by omega) ?_))))
    refine Ev.nobind (specSide _ _ _) (Ev.pos ?_ (Ev.fin rfl))
    rw [rdC', rdC', rdC']
    unfold at_ at q3; omega
   ·
    intro h; rw [h] at hp; cases hp
  ·
   exact Ev.step (fun k => by rw [spec_l03Convex.l0]) (Ev.neg (by omega) (Ev.fin rfl))
theorem specOk {l : List S43} (hf : Fit l) : Ev (fun k => spec_l03Ok.f k l) (okS l) := by
 unfold spec_l03Ok.f okS
 refine Ev.nobind (specIn _ _ _) (Ev.ite (fun e => ?_) (fun e => ?_))
 ·
  rw [e]
  rw [inB_iff] at e
  refine Ev.to (rangeAll_ev0 (fun k i => spec_l03Ok.l0 k l i) l.length (fun i => placed (l.getD i z43)) (decide (3 ≤ (l.length : Int)) && convB l) false ?_ ?_ ?_) ?_
  ·
   intro i hi hp r' hr
   have ha := w64 (x := (i : Int) + 1) (by omega) (by omega)
   refine Ev.step (fun k => by rw [spec_l03Ok.l0]) (Ev.pos (by omega) (Ev.pos (by omega) ?_))
   rw [rdC l i hi, ha]
   refine Ev.nobind (specCorner (hf _ (List.getElem_mem hi))) (Ev.pos ?_ hr)
   simpa [List.getD_eq_getElem?_getD, hi] using hp
  ·
   intro i hi hp
   refine Ev.step (fun k => by rw [spec_l03Ok.l0]) (Ev.pos (by omega) (Ev.pos (by omega) ?_))
   rw [rdC l i hi]
   refine Ev.nobind (specCorner (hf _ (List.getElem_mem hi))) (Ev.neg ?_ (Ev.fin rfl))
   have : placed l[i] = false := by simpa [List.getD_eq_getElem?_getD, hi] using hp
   rw [this]; decide
  ·
   intro _
   refine Ev.step (fun k => by rw [spec_l03Ok.l0]) (Ev.neg (by omega) ?_)
   exact Ev.bind (specConvex l (by omega)) (Ev.now _)
  ·
   rw [all_range l z43 placed, decide_eq_true e.1]
   cases l.all placed <;> rfl
 ·
  rw [Bool.not_eq_true] at e; rw [e]; exact Ev.fin rfl
theorem implConvexL {l : List S43} (hf : Fit l) (hl : l.length ≤ 1048575) : Ev (fun k => impl_isConvex.f k l) (convB l && (decide (3 ≤ (l.length : Int)) && l.all placed)) := by
 unfold impl_isConvex.f
 have fin0 : impl_isConvex_1_any.f l = some (!(l.all placed)) := by
  unfold impl_isConvex_1_any.f
  rw [idxO_any (q := fun c => !placed c) l (fun c hc => by unfold impl_isConvex_1.f; rw [implPlaced (hf c hc)]; rfl)]
  congr 1
  rw [Bool.eq_iff_iff]; simp [List.any_eq_true, List.all_eq_true]
 refine Ev.to (rangeAll_ev0 (fun k i => impl_isConvex.l0 k l (l.length : Int) l (l.length : Int) i) l.length (fun i => (List.range l.length).all fun j => cvx l i j) (decide (3 ≤ (l.length : Int)) && l.all placed) false ?_ ?_ ?_) (by unfold convB; cases ((List.range l.length).all fun i => (List.range l.length).all fun j => cvx l i j) <;> rfl)
 ·
  intro i hi hp r' hr
  have hn := nx_lt l i hi
  have ht := tm i l.length hi (by omega)
  refine Ev.step (fun k => by rw [impl_isConvex.l0]) (Ev.pos (by omega) (Ev.pos (by omega) (Ev.pos (by omega) (Ev.neg (by omega) ?_))))
  rw [ht]
  refine Ev.pos (by omega) (Ev.pos (by omega) ?_)
  refine Ev.to (rangeAll_ev0 (fun k j => impl_isConvex.l1 k l (l.length : Int) i l (l.length : Int) i l (l.length : Int) j ((rd_T43 l i).f0) ((rd_T43 l i).f1) ((rd_T43 l (((i + 1) % l.length : Nat) : Int)).f0) ((rd_T43 l (((i + 1) % l.length : Nat) : Int)).f1)) l.length (fun j => cvx l i j) r' r' ?_ ?_ ?_) (by simp)
  ·
   intro j hj hq r2 hr2
   have ha := w64 (x := (j : Int) + 1) (by omega) (by omega)
   have hq' := hq
   unfold cvx at hq'
   simp only [Bool.or_eq_true, decide_eq_true_eq] at hq'
   refine Ev.step (fun k => by rw [impl_isConvex.l1]) (Ev.pos (by omega) (Ev.pos (by omega) (Ev.pos (by omega) ?_)))
   rw [ha]
   refine Ev.ite (fun _ => hr2) (fun e1 => Ev.neg (by omega) ?_)
   rw [ht]
   refine Ev.ite (fun _ => hr2) (fun e2 => ?_)
   refine Ev.nobind (implSide _ _ _) (Ev.neg ?_ hr2)
   rw [rdC', rdC', rdC']
   have : 0 < sd (at_ l i) (at_ l ((i + 1) % l.length)) (at_ l j) := by
    rcases hq' with (h | h) | h
    ·
     omega
    ·
     omega
    ·
     exact h
   unfold at_ at this; omega
  ·
   intro j hj hq
   exfalso
   rw [List.all_eq_true] at hp
   have := hp j (by simpa using hj)
   rw [hq] at this; cases this
  ·
   intro _
   have ha := w64 (x := (i : Int) + 1) (by omega) (by omega)
   refine Ev.step (fun k => by rw [impl_isConvex.l1]) (Ev.neg (by omega) ?_)
   rw [ha]; exact hr
 ·
  intro i hi hp
  have hn := nx_lt l i hi
  have ht := tm i l.length hi (by omega)
  refine Ev.step (fun k => by rw [impl_isConvex.l0]) (Ev.pos (by omega) (Ev.pos (by omega) (Ev.pos (by omega) (Ev.neg (by omega) ?_))))
  rw [ht]
  refine Ev.pos (by omega) (Ev.pos (by omega) ?_)
  refine Ev.to (rangeAll_ev0 (fun k j => impl_isConvex.l1 k l (l.length : Int) i l (l.length : Int) i l (l.length : Int) j ((rd_T43 l i).f0) ((rd_T43 l i).f1) ((rd_T43 l (((i + 1) % l.length : Nat) : Int)).f0) ((rd_T43 l (((i + 1) % l.length : Nat) : Int)).f1)) l.length (fun j => cvx l i j) false false ?_ ?_ ?_) (by simp)
  ·
   intro j hj hq r2 hr2
   have ha := w64 (x := (j : Int) + 1) (by omega) (by omega)
   have hq' := hq
   unfold cvx at hq'
   simp only [Bool.or_eq_true, decide_eq_true_eq] at hq'
   refine Ev.step (fun k => by rw [impl_isConvex.l1]) (Ev.pos (by omega) (Ev.pos (by omega) (Ev.pos (by omega) ?_)))
   rw [ha]
   refine Ev.ite (fun _ => hr2) (fun e1 => Ev.neg (by omega) ?_)
   rw [ht]
   refine Ev.ite (fun _ => hr2) (fun e2 => ?_)
   refine Ev.nobind (implSide _ _ _) (Ev.neg ?_ hr2)
   rw [rdC', rdC', rdC']
   have : 0 < sd (at_ l i) (at_ l ((i + 1) % l.length)) (at_ l j) := by
    rcases hq' with (h | h) | h
    ·
     omega
    ·
     omega
    ·
     exact h
   unfold at_ at this; omega
  ·
   intro j hj hq
   unfold cvx at hq
   simp only [Bool.or_eq_false_iff, decide_eq_false_iff_not] at hq
   obtain ⟨⟨q1, q2⟩, q3⟩ := hq
   refine Ev.step (fun k => by rw [impl_isConvex.l1]) (Ev.pos (by omega) (Ev.pos (by omega) (Ev.pos (by omega) (Ev.neg (by omega) (Ev.neg (by omega) ?_)))))
   rw [ht]
   refine Ev.neg (by omega) ?_
   refine Ev.nobind (implSide _ _ _) (Ev.pos ?_ (Ev.fin rfl))
   rw [rdC', rdC', rdC']
   unfold at_ at q3; omega
  ·
   intro h; rw [h] at hp; cases hp
 ·
  intro _
  refine Ev.step (fun k => by rw [impl_isConvex.l0]) (Ev.neg (by omega) ?_)
  rw [fin0]
  refine Ev.ite (fun e => ?_) (fun e => ?_)
  ·
   rw [decide_eq_true (by omega)]; exact Ev.fin (by simp)
  ·
   rw [decide_eq_false (by omega)]; exact Ev.fin rfl
theorem implConvex {l : List S43} (hf : Fit l) (hl : l.length ≤ 8) : Ev (fun k => impl_isConvex.f k l) (convB l && (decide (3 ≤ (l.length : Int)) && l.all placed)) := implConvexL hf (by omega)
theorem implOk {l : List S43} (hf : Fit l) : Ev (fun k => impl_ValidStone.f k l) (okS l) := by
 unfold impl_ValidStone.f
 refine Ev.ite (fun e => ?_) (fun e => Ev.fin ?_)
 ·
  refine Ev.bind (implConvex hf (by omega)) (Ev.fin ?_)
  unfold okS inB
  rw [decide_eq_true e]
  cases convB l <;> cases decide (3 ≤ (l.length : Int)) <;> cases l.all placed <;> rfl
 ·
  unfold okS inB; rw [decide_eq_false e]; simp
theorem okS_len {l : List S43} (h : okS l = true) : 3 ≤ l.length ∧ l.length ≤ 8 := by
 unfold okS at h
 rw [Bool.and_eq_true, Bool.and_eq_true, inB_iff] at h
 omega
end Go.Proofs.YthbogbaaikjhbaaGreatDoor.StonesKit
namespace Go.Proofs.YthbogbaaikjhbaaGreatDoor.StonesKit
set_option linter.unusedSimpArgs false
set_option linter.unusedVariables false
open Go.RowKit Go.Proofs.YthbogbaaikjhbaaGreatDoor.PA Go.Proofs.YthbogbaaikjhbaaGreatDoor.Base Go.Proofs.YthbogbaaikjhbaaGreatDoorW.PrintWords Go.Proofs.YthbogbaaikjhbaaGreatDoorW.PrintLast Go.Proofs.YthbogbaaikjhbaaGreatDoorW.PrintMore
theorem codeOf (a b : Bool) : impl_codeOf.f a b = some (if a then (if b then 0 else 2) else 1) := by
 cases a <;> cases b <;> rfl
end Go.Proofs.YthbogbaaikjhbaaGreatDoor.StonesKit
namespace Go.Proofs.YthbogbaaikjhbaaGreatDoor.Geo
set_option linter.unusedSimpArgs false
set_option linter.unusedVariables false
open Go.Proofs.YthbogbaaikjhbaaGreatDoor.PA
def Sm (a : S43) : Prop := (-1000 ≤ a.f0 ∧ a.f0 ≤ 1000) ∧ (-1000 ≤ a.f1 ∧ a.f1 ≤ 1000)
/-- The order of corners, as one number. -/
def key (a : S43) : Int := 2001 * a.f0 + a.f1
def cr (p q c : S43) : Int := (q.f0 - p.f0) * (c.f1 - p.f1) - (q.f1 - p.f1) * (c.f0 - p.f0)
def lt (a b : S43) : Bool := decide (a.f0 < b.f0) || (decide (a.f0 = b.f0) && decide (a.f1 < b.f1))
theorem lt_iff {a b : S43} (ha : Sm a) (hb : Sm b) : lt a b = true ↔ key a < key b := by
 unfold lt key
 unfold Sm at ha hb
 simp only [Bool.or_eq_true, Bool.and_eq_true, decide_eq_true_eq]
 omega
theorem key_inj {a b : S43} (ha : Sm a) (hb : Sm b) (h : key a = key b) : a = b := by
 unfold key at h
 unfold Sm at ha hb
 cases a; cases b
 simp only [S43.mk.injEq]
 dsimp only at h ha hb
 omega
/-- Two points, one beside the other in a direction whose key is K. -/
structure Al (dx dy K : Int) (u v : S43) : Prop where
 hx : (u.f0 - v.f0) * K = dx * (key u - key v)
 hy : (u.f1 - v.f1) * K = dy * (key u - key v)
theorem Al.sub {dx dy K : Int} {u v p : S43} (hu : Al dx dy K u p) (hv : Al dx dy K v p) : Al dx dy K u v := by
 obtain ⟨a, b⟩ := hu
 obtain ⟨c, d⟩ := hv
 constructor
 ·
  have e : (u.f0 - v.f0) * K = (u.f0 - p.f0) * K - (v.f0 - p.f0) * K := by grind
  rw [e, a, c]; grind
 ·
  have e : (u.f1 - v.f1) * K = (u.f1 - p.f1) * K - (v.f1 - p.f1) * K := by grind
  rw [e, b, d]; grind
theorem Al.neg {dx dy K : Int} {u v : S43} (h : Al dx dy K u v) : Al (-dx) (-dy) (-K) u v := by
 obtain ⟨a, b⟩ := h
 constructor <;> grind
def Box (c u v : S43) : Prop := (min u.f0 v.f0 ≤ c.f0 ∧ c.f0 ≤ max u.f0 v.f0) ∧ (min u.f1 v.f1 ≤ c.f1 ∧ c.f1 ≤ max u.f1 v.f1)
instance (c u v : S43) : Decidable (Box c u v) := by unfold Box; infer_instance
def endAt (l : List S43) (c u v : S43) : List S43 := if Box c u v then l ++ [c] else l
def ends (p q u v : S43) : List S43 := endAt (endAt (endAt (endAt [] p u v) q u v) u p q) v p q
theorem prod_small {a b : Int} (ha : -2000 ≤ a ∧ a ≤ 2000) (hb : -2000 ≤ b ∧ b ≤ 2000) : -4000000 ≤ a * b ∧ a * b ≤ 4000000 := by
 have h1 := Int.mul_nonneg (show 0 ≤ 2000 - a by omega) (show 0 ≤ 2000 + b by omega)
 have h2 := Int.mul_nonneg (show 0 ≤ 2000 + a by omega) (show 0 ≤ 2000 - b by omega)
 have h3 := Int.mul_nonneg (show 0 ≤ 2000 - a by omega) (show 0 ≤ 2000 - b by omega)
 have h4 := Int.mul_nonneg (show 0 ≤ 2000 + a by omega) (show 0 ≤ 2000 + b by omega)
 constructor <;> grind
end Go.Proofs.YthbogbaaikjhbaaGreatDoor.Geo
namespace Go.Proofs.YthbogbaaikjhbaaGreatDoor.SeamKit
set_option linter.unusedSimpArgs false
set_option linter.unusedVariables false
open Go.RowKit Go.Proofs.YthbogbaaikjhbaaGreatDoor.PA Go.Proofs.YthbogbaaikjhbaaGreatDoor.Base Go.Proofs.YthbogbaaikjhbaaGreatDoor.StonesKit Go.Proofs.YthbogbaaikjhbaaGreatDoor.Geo Go.Proofs.YthbogbaaikjhbaaGreatDoorW.PrintWords Go.Proofs.YthbogbaaikjhbaaGreatDoorW.PrintLast Go.Proofs.YthbogbaaikjhbaaGreatDoorW.PrintMore
theorem specMin (x y : Int) : spec_l00Min.f x y = some (min x y) := by
 unfold spec_l00Min.f
 by_cases c : x < y
 ·
  rw [if_pos c]; congr 1; omega
 ·
  rw [if_neg c]; congr 1; omega
theorem specMax (x y : Int) : spec_l00Max.f x y = some (max x y) := by
 unfold spec_l00Max.f
 by_cases c : x > y
 ·
  rw [if_pos c]; congr 1; omega
 ·
  rw [if_neg c]; congr 1; omega
theorem sd_cr {p q c : S43} (hp : Sm p) (hq : Sm q) (hc : Sm c) : sd p q c = cr p q c := by
 unfold Sm at hp hq hc
 have h1 := prod_small (a := q.f0 - p.f0) (b := c.f1 - p.f1) (by omega) (by omega)
 have h2 := prod_small (a := q.f1 - p.f1) (b := c.f0 - p.f0) (by omega) (by omega)
 unfold sd impl_side.f cr
 rw [Option.getD_some, w64 (x := p.f0) (by omega) (by omega), w64 (x := p.f1) (by omega) (by omega), w64 (x := q.f0) (by omega) (by omega), w64 (x := q.f1) (by omega) (by omega), w64 (x := c.f0) (by omega) (by omega), w64 (x := c.f1) (by omega) (by omega),
  w64 (x := q.f0 - p.f0) (by omega) (by omega), w64 (x := c.f1 - p.f1) (by omega) (by omega), w64 (x := q.f1 - p.f1) (by omega) (by omega), w64 (x := c.f0 - p.f0) (by omega) (by omega), w64 (x := (q.f0 - p.f0) * (c.f1 - p.f1)) (by omega) (by omega), w64 (x := (q.f1 - p.f1) * (c.f0 - p.f0)) (by omega) (by omega), w64 (by omega) (by omega)]
theorem implLess (a b : S43) : impl_cornerLess.f a.f0 a.f1 b.f0 b.f1 = some (lt a b) := by
 unfold impl_cornerLess.f lt
 by_cases c : a.f0 < b.f0
 ·
  rw [if_pos c, decide_eq_true c]; rfl
 ·
  rw [if_neg c, decide_eq_false c]
  by_cases d : a.f0 = b.f0
  ·
   rw [if_pos d, decide_eq_true d]; rfl
  ·
   rw [if_neg d, decide_eq_false d]; rfl
theorem specBetween {c u v : S43} (hc : Sm c) (hu : Sm u) (hv : Sm v) : spec_l03Between.f c.f0 c.f1 u.f0 u.f1 v.f0 v.f1 = some (decide (Box c u v)) := by
 unfold Sm at hc hu hv
 unfold spec_l03Between.f
 rw [w64 (x := c.f0) (by omega) (by omega), w64 (x := c.f1) (by omega) (by omega), w64 (x := u.f0) (by omega) (by omega), w64 (x := u.f1) (by omega) (by omega), w64 (x := v.f0) (by omega) (by omega), w64 (x := v.f1) (by omega) (by omega)]
 simp only [specMin, specMax, specIn, Option.bind_some]
 by_cases c0 : inB c.f0 (min u.f0 v.f0) (max u.f0 v.f0) = true
 ·
  rw [if_pos c0]
  rw [inB_iff] at c0
  congr 1
  rw [Bool.eq_iff_iff, inB_iff, decide_eq_true_eq]
  exact ⟨fun h => (⟨c0, h⟩ : Box c u v), fun h => h.2⟩
 ·
  rw [if_neg c0]
  congr 1
  rw [inB_iff] at c0
  exact (decide_eq_false (fun h : Box c u v => c0 h.1)).symm
theorem ok_sm {l : List S43} (h : okS l = true) : ∀ x ∈ l, Sm x := by
 intro x hx
 unfold okS at h
 rw [Bool.and_eq_true, Bool.and_eq_true, List.all_eq_true] at h
 have := h.1.2 x hx
 unfold placed at this
 rw [Bool.and_eq_true, inB_iff, inB_iff] at this
 exact this
theorem getC {l : List S43} {i : Nat} (h : i < l.length) : l.getD i z43 = l[i] := by
 rw [List.getD_eq_getElem?_getD, List.getElem?_eq_getElem h]; rfl
theorem at_sm {l : List S43} (h : okS l = true) {i : Nat} (hi : i < l.length) : Sm (l.getD i z43) := by
 rw [getC hi]; exact ok_sm h _ (List.getElem_mem hi)
end Go.Proofs.YthbogbaaikjhbaaGreatDoor.SeamKit
namespace Go.Proofs.YthbogbaaikjhbaaGreatDoor.HullGeo
set_option linter.unusedSimpArgs false
set_option linter.unusedVariables false
open Go.Proofs.YthbogbaaikjhbaaGreatDoor.PA Go.Proofs.YthbogbaaikjhbaaGreatDoor.Geo
theorem neg_of_mul_neg {A x B y : Int} (hA : 0 < A) (hB : 0 < B) (h : A * x = B * y) : (0 < y → 0 < x) ∧ (y < 0 → x < 0) ∧ (y = 0 → x = 0) := by
 refine ⟨fun hy => ?_, fun hy => ?_, fun hy => ?_⟩
 ·
  have := Int.mul_pos hB hy
  by_cases c : 0 < x
  ·
   exact c
  ·
   have := Int.mul_nonpos_of_nonneg_of_nonpos (Int.le_of_lt hA) (show x ≤ 0 by omega)
   omega
 ·
  have := Int.mul_neg_of_pos_of_neg hB hy
  rw [← h] at this
  by_cases c : x < 0
  ·
   exact c
  ·
   have := Int.mul_nonneg (Int.le_of_lt hA) (show 0 ≤ x by omega)
   omega
 ·
  rw [hy, Int.mul_zero] at h
  rcases Int.mul_eq_zero.1 h with h | h
  ·
   omega
  ·
   exact h
/-- A multiple by no more than one. -/
theorem scal {A B u v : Int} (hB : 0 < B) (hAB : B ≤ A) (h : A * v = B * u) : (0 ≤ u → 0 ≤ v ∧ v ≤ u) ∧ (u ≤ 0 → u ≤ v ∧ v ≤ 0) := by
 have hA : 0 < A := by omega
 obtain ⟨h1, h2, h3⟩ := neg_of_mul_neg hA hB h
 refine ⟨fun hu => ?_, fun hu => ?_⟩
 ·
  have h0 : 0 ≤ v := by
   rcases Int.lt_or_eq_of_le hu with hu | hu
   ·
    have := h1 hu; omega
   ·
    have := h3 hu.symm; omega
  refine ⟨h0, ?_⟩
  by_cases c : v ≤ u
  ·
   exact c
  ·
   have e1 : B * v ≤ A * v := Int.mul_le_mul_of_nonneg_right hAB h0
   have e2 : B * u < B * v := Int.mul_lt_mul_of_pos_left (by omega) hB
   omega
 ·
  have h0 : v ≤ 0 := by
   rcases Int.lt_or_eq_of_le hu with hu | hu
   ·
    have := h2 hu; omega
   ·
    have := h3 hu; omega
  refine ⟨?_, h0⟩
  by_cases c : u ≤ v
  ·
   exact c
  ·
   have e1 : A * v ≤ B * v := Int.mul_le_mul_of_nonpos_right hAB h0
   have e2 : B * v < B * u := Int.mul_lt_mul_of_pos_left (by omega) hB
   omega
/-- How far a corner lies beyond the line through o in the direction (a, b). -/
def off (a b : Int) (o c : S43) : Int := a * (c.f1 - o.f1) - b * (c.f0 - o.f0)
theorem off_plk (a b : Int) (o u v w : S43) : off a b o u * cr o v w = off a b o v * cr o u w - off a b o w * cr o u v := by
 unfold off cr; grind
theorem off_x (a b : Int) (o u v : S43) : off a b o u * (v.f0 - o.f0) = off a b o v * (u.f0 - o.f0) - cr o u v * a := by
 unfold off cr; grind
theorem off_y (a b : Int) (o u v : S43) : off a b o u * (v.f1 - o.f1) = off a b o v * (u.f1 - o.f1) - cr o u v * b := by
 unfold off cr; grind
theorem cr_swap (o u v : S43) : cr o u v = - cr o v u := by unfold cr; grind
theorem cr_self2 (o v : S43) : cr o v v = 0 := by unfold cr; grind
theorem cr_self3 (o v : S43) : cr o v o = 0 := by unfold cr; grind
/-- Seen from o, with all on the one side of a line, u comes first and lies behind v or beside it. -/
theorem turn {a b : Int} {o u v w : S43} (hu : 0 < off a b o u) (hv : 0 < off a b o v) (hw : 0 < off a b o w) (h1 : cr o u v ≤ 0) (h2 : 0 ≤ cr o u w) : 0 ≤ cr o v w := by
 have e := off_plk a b o u v w
 have e1 := Int.mul_nonneg (Int.le_of_lt hv) h2
 have e2 := Int.mul_nonneg (Int.le_of_lt hw) (show 0 ≤ - cr o u v by omega)
 rw [Int.mul_neg] at e2
 by_cases c : 0 ≤ cr o v w
 ·
  exact c
 ·
  have := Int.mul_neg_of_pos_of_neg hu (show cr o v w < 0 by omega)
  omega
theorem turn0 {a b : Int} {o u v w : S43} (hu : 0 < off a b o u) (hv : 0 < off a b o v) (hw : 0 < off a b o w) (h1 : cr o u v ≤ 0) (h2 : 0 ≤ cr o u w) (h : cr o v w = 0) : cr o u v = 0 ∧ cr o u w = 0 := by
 have e := off_plk a b o u v w
 have e1 := Int.mul_nonneg (Int.le_of_lt hv) h2
 have e2 := Int.mul_nonneg (Int.le_of_lt hw) (show 0 ≤ - cr o u v by omega)
 rw [Int.mul_neg] at e2
 rw [h, Int.mul_zero] at e
 have f1 : off a b o v * cr o u w = 0 := by omega
 have f2 : off a b o w * cr o u v = 0 := by omega
 rcases Int.mul_eq_zero.1 f1 with g | g
 ·
  omega
 ·
  rcases Int.mul_eq_zero.1 f2 with g' | g'
  ·
   omega
  ·
   exact ⟨g', g⟩
/-- Two in one direction: one of them lies before the other. -/
theorem near {a b : Int} {o u v : S43} (hu : 0 < off a b o u) (hv : 0 < off a b o v) (h : cr o u v = 0) : Box u o v ∨ Box v o u := by
 have ex := off_x a b o u v
 have ey := off_y a b o u v
 rw [h, Int.zero_mul, Int.sub_zero] at ex ey
 by_cases c : off a b o v ≤ off a b o u
 ·
  right
  have sx := scal hv c ex
  have sy := scal hv c ey
  unfold Box
  by_cases x : 0 ≤ u.f0 - o.f0 <;> by_cases y : 0 ≤ u.f1 - o.f1
  ·
   have := sx.1 x; have := sy.1 y; omega
  ·
   have := sx.1 x; have := sy.2 (by omega); omega
  ·
   have := sx.2 (by omega); have := sy.1 y; omega
  ·
   have := sx.2 (by omega); have := sy.2 (by omega); omega
 ·
  left
  have sx := scal hu (by omega) ex.symm
  have sy := scal hu (by omega) ey.symm
  unfold Box
  by_cases x : 0 ≤ v.f0 - o.f0 <;> by_cases y : 0 ≤ v.f1 - o.f1
  ·
   have := sx.1 x; have := sy.1 y; omega
  ·
   have := sx.1 x; have := sy.2 (by omega); omega
  ·
   have := sx.2 (by omega); have := sy.1 y; omega
  ·
   have := sx.2 (by omega); have := sy.2 (by omega); omega
theorem ext {u v : S43} (h : u.f0 = v.f0) (h2 : u.f1 = v.f1) : u = v := by cases u; cases v; simp_all
/-- From o, n has the corners of S to its one side; those in one line lie between. -/
def Sup (o n : S43) (S : List S43) : Prop := ∀ c ∈ S, 0 ≤ cr o n c ∧ (cr o n c = 0 → Box c o n)
def Side (a b : Int) (o : S43) (S : List S43) : Prop := ∀ c ∈ S, c = o ∨ 0 < off a b o c
theorem box_self (o n : S43) : Box o o n := by unfold Box; omega
theorem box_self2 (o n : S43) : Box n o n := by unfold Box; omega
theorem box_trans {c o n m : S43} (h : Box c o n) (h2 : Box n o m) : Box c o m := by
 unfold Box at *; omega
/-- The next corner is another one. -/
theorem sup_new {a b : Int} {o n c : S43} {S : List S43} (hn : 0 < off a b o n) (hc : 0 < off a b o c) (hS : Side a b o S) (h : Sup o n S) (hu : cr o n c < 0 ∨ (cr o n c = 0 ∧ Box n o c)) : Sup o c (S ++ [c]) := by
 intro x hx
 rcases List.mem_append.1 hx with hx | hx
 ·
  obtain ⟨h1, h2⟩ := h x hx
  rcases hS x hx with rfl | hox
  ·
   rw [cr_self3]; exact ⟨Int.le_refl _, fun _ => box_self _ _⟩
  ·
   refine ⟨turn hn hc hox (by omega) h1, fun e => ?_⟩
   obtain ⟨g1, g2⟩ := turn0 hn hc hox (by omega) h1 e
   rcases hu with hu | hu
   ·
    omega
   ·
    exact box_trans (h2 g2) hu.2
 ·
  rw [List.mem_singleton] at hx
  subst hx
  rw [cr_self2]; exact ⟨Int.le_refl _, fun _ => box_self2 _ _⟩
/-- The next corner stays. -/
theorem sup_old {a b : Int} {o n c : S43} {S : List S43} (hn : 0 < off a b o n) (hc : c = o ∨ 0 < off a b o c) (h : Sup o n S) (hu : c = o ∨ ¬ (cr o n c < 0 ∨ (cr o n c = 0 ∧ Box n o c))) : Sup o n (S ++ [c]) := by
 intro x hx
 rcases List.mem_append.1 hx with hx | hx
 ·
  exact h x hx
 ·
  rw [List.mem_singleton] at hx
  subst hx
  rcases hc with rfl | hc
  ·
   rw [cr_self3]; exact ⟨Int.le_refl _, fun _ => box_self _ _⟩
  ·
   have hu : ¬ (cr o n x < 0 ∨ (cr o n x = 0 ∧ Box n o x)) := by
    rcases hu with rfl | hu
    ·
     exfalso; unfold off at hc; rw [Int.sub_self, Int.sub_self, Int.mul_zero, Int.mul_zero] at hc; omega
    ·
     exact hu
   refine ⟨by omega, fun e => ?_⟩
   rcases near hn hc e with g | g
   ·
    exact absurd (Or.inr ⟨e, g⟩) hu
   ·
    exact g
/-- What is told of an edge. -/
structure Edg (o n : S43) (S : List S43) : Prop where
 ne : n ≠ o
 mem : n ∈ S
 sup : Sup o n S
theorem prod_le {a b A B : Int} (h1 : -A ≤ a) (h2 : a ≤ A) (h3 : -B ≤ b) (h4 : b ≤ B) (hA : 0 ≤ A) (hB : 0 ≤ B) : -(A * B) ≤ a * b ∧ a * b ≤ A * B := by
 have k1 := Int.mul_nonneg (show 0 ≤ A - a by omega) (show 0 ≤ B - b by omega)
 have k2 := Int.mul_nonneg (show 0 ≤ A + a by omega) (show 0 ≤ B + b by omega)
 have k3 := Int.mul_nonneg (show 0 ≤ A - a by omega) (show 0 ≤ B + b by omega)
 have k4 := Int.mul_nonneg (show 0 ≤ A + a by omega) (show 0 ≤ B - b by omega)
 have e1 : (A - a) * (B - b) = A * B - A * b - a * B + a * b := by grind
 have e2 : (A + a) * (B + b) = A * B + A * b + a * B + a * b := by grind
 have e3 : (A - a) * (B + b) = A * B + A * b - a * B - a * b := by grind
 have e4 : (A + a) * (B - b) = A * B - A * b + a * B - a * b := by grind
 rw [e1] at k1; rw [e2] at k2; rw [e3] at k3; rw [e4] at k4
 omega
/-- Behind an edge all corners lie on the one side of a line through its end. -/
theorem side_next {o n : S43} {S : List S43} (ho : Sm o) (hS : ∀ c ∈ S, Sm c) (h : Edg o n S) : ∃ a b, Side a b n S := by
 have hn := hS n h.mem
 refine ⟨10000000 * (n.f0 - o.f0) - (n.f1 - o.f1), 10000000 * (n.f1 - o.f1) + (n.f0 - o.f0), fun c hc => ?_⟩
 by_cases e : c = n
 ·
  exact Or.inl e
 ·
  right
  have hsc := hS c hc
  obtain ⟨h1, h2⟩ := h.sup c hc
  have id : off (10000000 * (n.f0 - o.f0) - (n.f1 - o.f1)) (10000000 * (n.f1 - o.f1) + (n.f0 - o.f0)) n c = 10000000 * cr o n c - ((n.f0 - o.f0) * (c.f0 - n.f0) + (n.f1 - o.f1) * (c.f1 - n.f1)) := by unfold off cr; grind
  rw [id]
  unfold Sm at ho hn hsc
  have p1 := prod_le (a := n.f0 - o.f0) (b := c.f0 - n.f0) (A := 2000) (B := 2000) (by omega) (by omega) (by omega) (by omega) (by omega) (by omega)
  have p2 := prod_le (a := n.f1 - o.f1) (b := c.f1 - n.f1) (A := 2000) (B := 2000) (by omega) (by omega) (by omega) (by omega) (by omega) (by omega)
  by_cases z : cr o n c = 0
  ·
   have hb := h2 z
   rw [z, Int.mul_zero, Int.zero_sub]
   unfold Box at hb
   have q : ∀ a b : Int, (0 < a → b ≤ 0) → (a < 0 → 0 ≤ b) → a * b ≤ 0 := by
    intro a b g1 g2
    rcases Int.lt_trichotomy a 0 with g | g | g
    ·
     exact Int.mul_nonpos_of_nonpos_of_nonneg (by omega) (g2 g)
    ·
     rw [g, Int.zero_mul]; exact Int.le_refl _
    ·
     exact Int.mul_nonpos_of_nonneg_of_nonpos (by omega) (g1 g)
   have q2 : ∀ a b : Int, b ≠ 0 → (0 < a → b ≤ 0) → (a < 0 → 0 ≤ b) → (a = 0 → b = 0) → a * b < 0 := by
    intro a b g0 g1 g2 g3
    rcases Int.lt_trichotomy a 0 with g | g | g
    ·
     exact Int.mul_neg_of_neg_of_pos g (by have := g2 g; omega)
    ·
     exact absurd (g3 g) g0
    ·
     exact Int.mul_neg_of_pos_of_neg g (by have := g1 g; omega)
   by_cases ex : c.f0 = n.f0
   ·
    have ey : c.f1 ≠ n.f1 := fun ey => e (ext ex ey)
    have := q (n.f0 - o.f0) (c.f0 - n.f0) (by omega) (by omega)
    have := q2 (n.f1 - o.f1) (c.f1 - n.f1) (by omega) (by omega) (by omega) (by omega)
    omega
   ·
    have := q2 (n.f0 - o.f0) (c.f0 - n.f0) (by omega) (by omega) (by omega) (by omega)
    have := q (n.f1 - o.f1) (c.f1 - n.f1) (by omega) (by omega)
    omega
  ·
   have : 1 ≤ cr o n c := by omega
   omega
/-- At the least corner, too. -/
theorem side_first {o : S43} {S : List S43} (hk : ∀ c ∈ S, c = o ∨ key o < key c) : Side 1 (-2001) o S := by
 intro c hc
 rcases hk c hc with h | h
 ·
  exact Or.inl h
 ·
  right
  unfold off; unfold key at h; omega
/-- No two edges end in one corner. -/
theorem edge_inj {u v w : S43} {S : List S43} (hu : u ∈ S) (hv : v ∈ S) (h1 : Edg u w S) (h2 : Edg v w S) : u = v := by
 obtain ⟨a1, a2⟩ := h1.sup v hv
 obtain ⟨b1, b2⟩ := h2.sup u hu
 have e : cr u w v = - cr v w u := by unfold cr; grind
 have z1 : cr u w v = 0 := by omega
 have z2 : cr v w u = 0 := by omega
 have c1 := a2 z1
 have c2 := b2 z2
 unfold Box at c1 c2
 exact ext (by omega) (by omega)
/-- One edge begins in a corner. -/
theorem edge_fun {u v w : S43} {S : List S43} {a b : Int} (hs : Side a b u S) (h1 : Edg u v S) (h2 : Edg u w S) : v = w := by
 obtain ⟨a1, a2⟩ := h1.sup w h2.mem
 obtain ⟨b1, b2⟩ := h2.sup v h1.mem
 have e : cr u w v = - cr u v w := cr_swap _ _ _
 have c1 := a2 (by omega)
 have c2 := b2 (by omega)
 unfold Box at c1 c2
 exact ext (by omega) (by omega)
/-- No corner at which an edge begins lies within another edge. -/
theorem edge_corner {o n v b : S43} {S : List S43} (ho : o ∈ S) (hn : n ∈ S) (h : Edg o n S) (hv : v ∈ S) (h2 : Edg v b S) (e1 : v ≠ o) (e2 : v ≠ n) : 0 < cr o n v := by
 obtain ⟨a1, a2⟩ := h.sup v hv
 by_cases z : cr o n v = 0
 ·
  exfalso
  have hb := a2 z
  obtain ⟨p1, p2⟩ := h2.sup o ho
  obtain ⟨q1, q2⟩ := h2.sup n hn
  have idx : cr v b o * (n.f0 - v.f0) = cr v b n * (o.f0 - v.f0) - cr o n v * (b.f0 - v.f0) := by unfold cr; grind
  have idy : cr v b o * (n.f1 - v.f1) = cr v b n * (o.f1 - v.f1) - cr o n v * (b.f1 - v.f1) := by unfold cr; grind
  rw [z, Int.zero_mul, Int.sub_zero] at idx idy
  unfold Box at hb
  -- both lie on the line of the second edge
  have opp : ∀ G1 G2 x y : Int, 0 < G1 → 0 ≤ G2 → G1 * x = G2 * y → (0 < x → y ≤ 0) → (x < 0 → 0 ≤ y) → x = 0 := by
   intro G1 G2 x y g1 g2 g g3 g4
   rcases Int.lt_trichotomy x 0 with c | c | c
   ·
    have := Int.mul_neg_of_pos_of_neg g1 c
    have := Int.mul_nonneg g2 (g4 c)
    omega
   ·
    exact c
   ·
    have := Int.mul_pos g1 c
    have := Int.mul_nonpos_of_nonneg_of_nonpos g2 (g3 c)
    omega
  have z1 : cr v b o = 0 := by
   by_cases c : cr v b o = 0
   ·
    exact c
   ·
    have x := opp _ _ _ _ (by omega) q1 idx (by omega) (by omega)
    have y := opp _ _ _ _ (by omega) q1 idy (by omega) (by omega)
    exact absurd (ext (by omega) (by omega)) e2
  have z2 : cr v b n = 0 := by
   by_cases c : cr v b n = 0
   ·
    exact c
   ·
    have x := opp _ _ _ _ (by omega) p1 idx.symm (by omega) (by omega)
    have y := opp _ _ _ _ (by omega) p1 idy.symm (by omega) (by omega)
    exact absurd (ext (by omega) (by omega)) e1
  have c1 := p2 z1
  have c2 := q2 z2
  unfold Box at c1 c2
  have ne1 : ¬ (v.f0 = o.f0 ∧ v.f1 = o.f1) := fun g => e1 (ext g.1 g.2)
  have ne2 : ¬ (v.f0 = n.f0 ∧ v.f1 = n.f1) := fun g => e2 (ext g.1 g.2)
  have nb : ¬ (b.f0 = v.f0 ∧ b.f1 = v.f1) := fun g => h2.ne (ext g.1 g.2)
  rw [z] at a1
  -- a coordinate that differs
  have X : o.f0 = v.f0 ∧ n.f0 = v.f0 ∨ (o.f0 = v.f0 ∧ n.f0 ≠ v.f0) ∨ (o.f0 ≠ v.f0 ∧ n.f0 = v.f0) := by omega
  have Y : o.f1 = v.f1 ∧ n.f1 = v.f1 ∨ (o.f1 = v.f1 ∧ n.f1 ≠ v.f1) ∨ (o.f1 ≠ v.f1 ∧ n.f1 = v.f1) := by omega
  unfold cr at z
  rcases X with X | X | X <;> rcases Y with Y | Y | Y <;> first
   | omega
   | (simp only [X.1, X.2, Y.1, Y.2] at *; omega)
   | skip
  all_goals
   exfalso
   have zz : (n.f0 - o.f0) * (v.f1 - o.f1) = (n.f1 - o.f1) * (v.f0 - o.f0) := by omega
   first
    | (rw [X.1, Y.2, Int.sub_self, Int.mul_zero] at zz; rcases Int.mul_eq_zero.1 zz with g | g <;> omega)
    | (rw [Y.1, X.2, Int.sub_self, Int.mul_zero] at zz; rcases Int.mul_eq_zero.1 zz.symm with g | g <;> omega)
 ·
  omega
end Go.Proofs.YthbogbaaikjhbaaGreatDoor.HullGeo
namespace Go.Proofs.YthbogbaaikjhbaaGreatDoor.HullWrap
set_option linter.unusedSimpArgs false
set_option linter.unusedVariables false
open Go.Proofs.YthbogbaaikjhbaaGreatDoor.PA Go.Proofs.YthbogbaaikjhbaaGreatDoor.Geo Go.Proofs.YthbogbaaikjhbaaGreatDoor.HullGeo
instance : DecidableEq S43 := fun a b => decidable_of_iff (a.f0 = b.f0 ∧ a.f1 = b.f1) ⟨fun h => ext h.1 h.2, fun h => h ▸ ⟨rfl, rfl⟩⟩
def better (o n c : S43) : Prop := n = o ∨ cr o n c < 0 ∨ (cr o n c = 0 ∧ Box n o c)
instance (o n c : S43) : Decidable (better o n c) := by unfold better; infer_instance
def upd (o c n : S43) : S43 := if c = o then n else if better o n c then c else n
/-- The corner that comes next behind o. -/
def nxt (l : List S43) (o : S43) : S43 := l.foldl (fun n c => upd o c n) o
def ScanI (o n : S43) (S : List S43) : Prop := (n = o ∧ ∀ c ∈ S, c = o) ∨ Edg o n S
theorem scan_step {a b : Int} {o n c : S43} {S : List S43} (hs : Side a b o (S ++ [c])) (h : ScanI o n S) : ScanI o (upd o c n) (S ++ [c]) := by
 have hsS : Side a b o S := fun x hx => hs x (List.mem_append_left _ hx)
 have hsc := hs c (List.mem_append_right _ List.mem_cons_self)
 unfold upd
 by_cases e : c = o
 ·
  rw [if_pos e]
  rcases h with h | h
  ·
   left
   refine ⟨h.1, fun x hx => ?_⟩
   rcases List.mem_append.1 hx with hx | hx
   ·
    exact h.2 x hx
   ·
    rw [List.mem_singleton] at hx; rw [hx, e]
  ·
   right
   have hn : 0 < off a b o n := by
    rcases hsS n h.mem with q | q
    ·
     exact absurd q h.ne
    ·
     exact q
   exact ⟨h.ne, List.mem_append_left _ h.mem, sup_old hn hsc h.sup (Or.inl e)⟩
 ·
  rw [if_neg e]
  have hoc : 0 < off a b o c := by
   rcases hsc with q | q
   ·
    exact absurd q e
   ·
    exact q
  rcases h with h | h
  ·
   rw [if_pos (show better o n c from Or.inl h.1)]
   right
   refine ⟨e, List.mem_append_right _ List.mem_cons_self, fun x hx => ?_⟩
   rcases List.mem_append.1 hx with hx | hx
   ·
    rw [h.2 x hx, cr_self3]; exact ⟨Int.le_refl _, fun _ => box_self _ _⟩
   ·
    rw [List.mem_singleton] at hx
    rw [hx, cr_self2]; exact ⟨Int.le_refl _, fun _ => box_self2 _ _⟩
  ·
   have hn : 0 < off a b o n := by
    rcases hsS n h.mem with q | q
    ·
     exact absurd q h.ne
    ·
     exact q
   right
   by_cases q : better o n c
   ·
    rw [if_pos q]
    rcases q with q | q
    ·
     exact absurd q h.ne
    ·
     exact ⟨e, List.mem_append_right _ List.mem_cons_self, sup_new hn hoc hsS h.sup q⟩
   ·
    rw [if_neg q]
    exact ⟨h.ne, List.mem_append_left _ h.mem, sup_old hn hsc h.sup (Or.inr (fun g => q (Or.inr g)))⟩
theorem scan_all {a b : Int} {o : S43} : ∀ (T S : List S43) (n : S43), Side a b o (S ++ T) → ScanI o n S → ScanI o (T.foldl (fun n c => upd o c n) n) (S ++ T)
 | [], S, n, hs, h => by rw [List.append_nil]; exact h
 | c :: T, S, n, hs, h => by
  have e : S ++ c :: T = (S ++ [c]) ++ T := by simp
  rw [e] at hs ⊢
  exact scan_all T (S ++ [c]) _ hs (scan_step (fun x hx => hs x (List.mem_append_left _ hx)) h)
theorem nxt_is {a b : Int} {o : S43} {l : List S43} (hs : Side a b o l) : (nxt l o = o ∧ ∀ c ∈ l, c = o) ∨ Edg o (nxt l o) l := by
 have := scan_all (a := a) (b := b) (o := o) l [] o (by simpa using hs) (Or.inl ⟨rfl, by simp⟩)
 rw [List.nil_append] at this
 exact this
def at_ (l : List S43) (i : Nat) : S43 := l.getD i z43
theorem at_get {l : List S43} {i : Nat} (h : i < l.length) : at_ l i = l[i] := by
 unfold at_
 rw [List.getD_eq_getElem?_getD, List.getElem?_eq_getElem h]; rfl
theorem at_mem {l : List S43} {i : Nat} (h : i < l.length) : at_ l i ∈ l := by rw [at_get h]; exact List.getElem_mem h
theorem at_snoc {l : List S43} {x : S43} : at_ (l ++ [x]) l.length = x := by
 unfold at_
 rw [List.getD_eq_getElem?_getD, List.getElem?_append_right (Nat.le_refl _), Nat.sub_self]; rfl
theorem at_left {l m : List S43} {i : Nat} (h : i < l.length) : at_ (l ++ m) i = at_ l i := by
 unfold at_
 rw [List.getD_eq_getElem?_getD, List.getD_eq_getElem?_getD, List.getElem?_append_left h]
/-- The round, from a corner on. -/
def wrapL (l : List S43) (first : S43) : Nat → S43 → List S43 → List S43
 | 0, _, out => out
 | d + 1, now, out => if nxt l now = first then out ++ [now] else wrapL l first d (nxt l now) (out ++ [now])
/-- What has been passed so far. -/
structure Pth (l : List S43) (first : S43) (vs : List S43) : Prop where
 pos : 0 < vs.length
 hd : at_ vs 0 = first
 nd : vs.Nodup
 mem : ∀ x ∈ vs, x ∈ l
 edge : ∀ i, i + 1 < vs.length → Edg (at_ vs i) (at_ vs (i + 1)) l
structure Hul (l : List S43) (first : S43) (vs : List S43) : Prop where
 path : Pth l first vs
 last : Edg (at_ vs (vs.length - 1)) first l
theorem nodup_le {l : List S43} : ∀ {vs : List S43}, vs.Nodup → (∀ x ∈ vs, x ∈ l) → vs.length ≤ l.length := by
 intro vs
 induction vs generalizing l with
 | nil => intro _ _; exact Nat.zero_le _
 | cons v vs ih =>
  intro hn hm
  rw [List.nodup_cons] at hn
  have h1 := ih (l := l.erase v) hn.2 (fun x hx => (List.mem_erase_of_ne (fun (e : x = v) => hn.1 (by rw [← e]; exact hx))).2 (hm x (List.mem_cons_of_mem _ hx)))
  have h2 := hm v List.mem_cons_self
  have h3 := List.length_erase_of_mem h2
  have h4 := List.length_pos_of_mem h2
  rw [List.length_cons]; omega
theorem at_inj {vs : List S43} (hn : vs.Nodup) {i j : Nat} (hi : i < vs.length) (hj : j < vs.length) (h : at_ vs i = at_ vs j) : i = j := by
 rw [at_get hi, at_get hj] at h
 exact (List.getElem_inj hn).1 h
theorem side_at {l : List S43} {first : S43} (hS : ∀ c ∈ l, Sm c) (hk : ∀ c ∈ l, c = first ∨ key first < key c) {vs : List S43} (h : Pth l first vs) : ∀ i, i < vs.length → ∃ a b, Side a b (at_ vs i) l
 | 0, hi => by rw [h.hd]; exact ⟨_, _, side_first hk⟩
 | i + 1, hi => side_next (hS _ (h.mem _ (at_mem (by omega)))) hS (h.edge i hi)
theorem path_snoc {l : List S43} {first n : S43} {vs : List S43} (h : Pth l first vs) (he : Edg (at_ vs (vs.length - 1)) n l) (hf : n ≠ first) : Pth l first (vs ++ [n]) := by
 have hp := h.pos
 have hnew : n ∉ vs := by
  intro hm
  obtain ⟨j, hj, e⟩ := List.getElem_of_mem hm
  rw [← at_get hj] at e
  cases j with
  | zero => exact hf (by rw [← e, h.hd])
  | succ j =>
   have h1 := h.edge j hj
   rw [e] at h1
   have h2 := edge_inj (h.mem _ (at_mem (by omega))) (h.mem _ (at_mem (by omega))) h1 he
   have := at_inj h.nd (by omega) (by omega) h2
   omega
 refine ⟨by simp, by rw [at_left hp]; exact h.hd, ?_, fun x hx => ?_, fun i hi => ?_⟩
 ·
  rw [List.nodup_append]
  refine ⟨h.nd, by simp, fun a ha b hb => ?_⟩
  rw [List.mem_singleton] at hb
  rw [hb]; exact fun e => hnew (e ▸ ha)
 ·
  rcases List.mem_append.1 hx with hx | hx
  ·
   exact h.mem x hx
  ·
   rw [List.mem_singleton] at hx
   rw [hx]; exact he.mem
 ·
  rw [List.length_append, List.length_singleton] at hi
  by_cases e : i + 1 < vs.length
  ·
   rw [at_left e, at_left (by omega)]; exact h.edge i e
  ·
   have e2 : i + 1 = vs.length := by omega
   rw [e2, at_snoc, at_left (by omega)]
   have e3 : i = vs.length - 1 := by omega
   rw [e3]; exact he
theorem wrap_is {l : List S43} {first : S43} (hS : ∀ c ∈ l, Sm c) (hk : ∀ c ∈ l, c = first ∨ key first < key c) (hm : ∃ c ∈ l, c ≠ first) : ∀ (d : Nat) (now : S43) (out : List S43), out.length + d = l.length → Pth l first (out ++ [now]) → Hul l first (wrapL l first d now out)
 | 0, now, out, h, hp => by
  have := nodup_le hp.nd hp.mem
  rw [List.length_append, List.length_singleton] at this
  omega
 | d + 1, now, out, h, hp => by
  obtain ⟨a, b, hs⟩ := side_at hS hk hp out.length (by simp)
  rw [at_snoc] at hs
  have hlast : at_ (out ++ [now]) ((out ++ [now]).length - 1) = now := by
   rw [List.length_append, List.length_singleton, Nat.add_sub_cancel, at_snoc]
  have he : Edg now (nxt l now) l := by
   rcases nxt_is hs with q | q
   ·
    exfalso
    obtain ⟨c, hc, hne⟩ := hm
    have hf : first ∈ l := by rw [← hp.hd]; exact hp.mem _ (at_mem hp.pos)
    exact hne ((q.2 c hc).trans (q.2 first hf).symm)
   ·
    exact q
  rw [wrapL]
  by_cases e : nxt l now = first
  ·
   rw [if_pos e]
   exact ⟨hp, by rw [hlast, ← e]; exact he⟩
  ·
   rw [if_neg e]
   exact wrap_is hS hk hm d _ _ (by rw [List.length_append, List.length_singleton]; omega) (path_snoc hp (by rw [hlast]; exact he) e)
/-- The least corner of a list. -/
def leastFrom (c : S43) (l : List S43) : S43 := l.foldl (fun m c => if lt c m = true then c else m) c
theorem least_is : ∀ (l : List S43) (c : S43), Sm c → (∀ x ∈ l, Sm x) → (leastFrom c l = c ∨ leastFrom c l ∈ l) ∧ (key (leastFrom c l) ≤ key c) ∧ ∀ x ∈ l, key (leastFrom c l) ≤ key x
 | [], c, hc, hl => ⟨Or.inl rfl, Int.le_refl _, fun x hx => by cases hx⟩
 | y :: l, c, hc, hl => by
  have hy := hl y List.mem_cons_self
  have hl' : ∀ x ∈ l, Sm x := fun x hx => hl x (List.mem_cons_of_mem _ hx)
  show (leastFrom (if lt y c = true then y else c) l = c ∨ leastFrom (if lt y c = true then y else c) l ∈ y :: l) ∧ (key (leastFrom (if lt y c = true then y else c) l) ≤ key c) ∧ ∀ x ∈ y :: l, key (leastFrom (if lt y c = true then y else c) l) ≤ key x
  by_cases e : lt y c = true
  ·
   rw [if_pos e]
   obtain ⟨h1, h2, h3⟩ := least_is l y hy hl'
   have := (lt_iff hy hc).1 e
   refine ⟨Or.inr ?_, by omega, fun x hx => ?_⟩
   ·
    rcases h1 with h1 | h1
    ·
     rw [h1]; exact List.mem_cons_self
    ·
     exact List.mem_cons_of_mem _ h1
   ·
    rcases List.mem_cons.1 hx with rfl | hx
    ·
     exact h2
    ·
     exact h3 x hx
  ·
   rw [if_neg e]
   obtain ⟨h1, h2, h3⟩ := least_is l c hc hl'
   have : ¬ key y < key c := fun g => e ((lt_iff hy hc).2 g)
   refine ⟨?_, h2, fun x hx => ?_⟩
   ·
    rcases h1 with h1 | h1
    ·
     exact Or.inl h1
    ·
     exact Or.inr (List.mem_cons_of_mem _ h1)
   ·
    rcases List.mem_cons.1 hx with rfl | hx
    ·
     omega
    ·
     exact h3 x hx
def first : List S43 → S43
 | [] => z43
 | c :: l => leastFrom c l
theorem first_is {l : List S43} (hS : ∀ c ∈ l, Sm c) (hne : l ≠ []) : first l ∈ l ∧ ∀ c ∈ l, c = first l ∨ key (first l) < key c := by
 cases l with
 | nil => exact absurd rfl hne
 | cons c l =>
  obtain ⟨h1, h2, h3⟩ := least_is l c (hS c List.mem_cons_self) (fun x hx => hS x (List.mem_cons_of_mem _ hx))
  have hm : leastFrom c l ∈ c :: l := by
   rcases h1 with h1 | h1
   ·
    rw [h1]; exact List.mem_cons_self
   ·
    exact List.mem_cons_of_mem _ h1
  refine ⟨hm, fun x hx => ?_⟩
  show x = leastFrom c l ∨ key (leastFrom c l) < key x
  have hle : key (leastFrom c l) ≤ key x := by
   rcases List.mem_cons.1 hx with rfl | hx
   ·
    exact h2
   ·
    exact h3 x hx
  by_cases e : key (leastFrom c l) < key x
  ·
   exact Or.inr e
  ·
   exact Or.inl (key_inj (hS x hx) (hS _ hm) (by omega))
/-- The corners round a list. -/
def round (l : List S43) : List S43 := wrapL l (first l) l.length (first l) []
theorem round_is {l : List S43} (hS : ∀ c ∈ l, Sm c) (hne : l ≠ []) (hm : ∃ c ∈ l, c ≠ first l) : Hul l (first l) (round l) := by
 obtain ⟨h1, h2⟩ := first_is hS hne
 refine wrap_is hS h2 hm l.length (first l) [] (by simp) ⟨by simp, rfl, by simp, fun x hx => ?_, fun i hi => ?_⟩
 ·
  rw [List.nil_append, List.mem_singleton] at hx
  rw [hx]; exact h1
 ·
  simp at hi
theorem round_one {l : List S43} (hS : ∀ c ∈ l, Sm c) (hne : l ≠ []) (hm : ¬ ∃ c ∈ l, c ≠ first l) : round l = [first l] := by
 obtain ⟨h1, h2⟩ := first_is hS hne
 have hs : Side 1 (-2001) (first l) l := side_first h2
 have hx : nxt l (first l) = first l := by
  rcases nxt_is hs with q | q
  ·
   exact q.1
  ·
   exact absurd ⟨_, q.mem, q.ne⟩ hm
 unfold round
 obtain ⟨n, hn⟩ : ∃ n, l.length = n + 1 := ⟨l.length - 1, by have := List.length_pos_iff.2 hne; omega⟩
 rw [hn, wrapL, if_pos hx]; rfl
/-- Each corner, and the one behind it. -/
theorem Hul.edge_at {l : List S43} {first : S43} {vs : List S43} (h : Hul l first vs) {i : Nat} (hi : i < vs.length) : Edg (at_ vs i) (at_ vs ((i + 1) % vs.length)) l := by
 by_cases e : i + 1 < vs.length
 ·
  rw [Nat.mod_eq_of_lt e]; exact h.path.edge i e
 ·
  have e2 : i = vs.length - 1 := by omega
  have e3 : i + 1 = vs.length := by omega
  rw [e3, Nat.mod_self, h.path.hd, e2]; exact h.last
theorem Hul.convex {l : List S43} {first : S43} {vs : List S43} (h : Hul l first vs) {i j : Nat} (hi : i < vs.length) (hj : j < vs.length) (h1 : j ≠ i) (h2 : j ≠ (i + 1) % vs.length) : 0 < cr (at_ vs i) (at_ vs ((i + 1) % vs.length)) (at_ vs j) := by
 have hn : (i + 1) % vs.length < vs.length := Nat.mod_lt _ (by omega)
 exact edge_corner (h.path.mem _ (at_mem hi)) (h.path.mem _ (at_mem hn)) (h.edge_at hi) (h.path.mem _ (at_mem hj)) (h.edge_at hj) (fun e => h1 (at_inj h.path.nd hj hi e)) (fun e => h2 (at_inj h.path.nd hj hn e))
end Go.Proofs.YthbogbaaikjhbaaGreatDoor.HullWrap
namespace Go.Proofs.YthbogbaaikjhbaaGreatDoor.ChainGeo
set_option linter.unusedSimpArgs false
set_option linter.unusedVariables false
open Go.Proofs.YthbogbaaikjhbaaGreatDoor.PA Go.Proofs.YthbogbaaikjhbaaGreatDoor.Geo Go.Proofs.YthbogbaaikjhbaaGreatDoor.HullGeo Go.Proofs.YthbogbaaikjhbaaGreatDoor.HullWrap
/-- The pile, the last one first. -/
def pop (c : S43) : List S43 → List S43
 | b :: a :: st => if cr a b c ≤ 0 then pop c (a :: st) else b :: a :: st
 | st => st
def push (st : List S43) (c : S43) : List S43 := c :: pop c st
/-- All corners of S come before c, in the direction (x, y). -/
def Before (x y : Int) (S : List S43) (c : S43) : Prop := ∀ q ∈ S, 0 < off x y q c
def Sorted (x y : Int) : List S43 → Prop
 | [] => True
 | c :: T => (∀ q ∈ T, 0 < off x y c q) ∧ Sorted x y T
theorem off_add (x y : Int) (o m c : S43) : off x y o c = off x y o m + off x y m c := by unfold off; grind
theorem off_self (x y : Int) (o : S43) : off x y o o = 0 := by unfold off; grind
theorem off_neg (x y : Int) (o c : S43) : off x y o c = - off x y c o := by unfold off; grind
/-- Two in one direction: the nearer one lies between. -/
theorem near_le {a b : Int} {o u v : S43} (hu : 0 < off a b o u) (h : cr o u v = 0) (hle : off a b o u ≤ off a b o v) : Box u o v := by
 have ex := off_x a b o u v
 have ey := off_y a b o u v
 rw [h, Int.zero_mul, Int.sub_zero] at ex ey
 have sx := scal hu hle ex.symm
 have sy := scal hu hle ey.symm
 unfold Box
 by_cases x : 0 ≤ v.f0 - o.f0 <;> by_cases y : 0 ≤ v.f1 - o.f1
 ·
  have := sx.1 x; have := sy.1 y; omega
 ·
  have := sx.1 x; have := sy.2 (by omega); omega
 ·
  have := sx.2 (by omega); have := sy.1 y; omega
 ·
  have := sx.2 (by omega); have := sy.2 (by omega); omega
/-- A pile over S: from each to the one above it an edge; all turn left. -/
def Pile (x y : Int) (S : List S43) : List S43 → Prop
 | [] => False
 | [b] => b ∈ S ∧ ∀ q ∈ S, q = b ∨ 0 < off x y b q
 | b :: a :: st => Edg a b S ∧ 0 < off x y a b ∧ (∀ a' st', st = a' :: st' → 0 < cr a' a b) ∧ Pile x y S (a :: st)
theorem pile_mem {x y : Int} {S : List S43} : ∀ {st : List S43}, Pile x y S st → ∀ q ∈ st, q ∈ S
 | [], h, q, hq => by cases hq
 | [b], h, q, hq => by rw [List.mem_singleton] at hq; rw [hq]; exact h.1
 | b :: a :: st, h, q, hq => by
  rcases List.mem_cons.1 hq with rfl | hq
  ·
   exact h.1.mem
  ·
   exact pile_mem h.2.2.2 q hq
theorem id1 (x y : Int) (a' a b c : S43) : off x y a b * (cr a' a c - cr a' a b) = off x y a' a * cr a b c + off x y b c * cr a' a b := by unfold off cr; grind
theorem id2 (x y : Int) (a b c q : S43) : off x y a b * cr b c q = off x y q b * cr a b c + off x y b c * cr a b q := by unfold off cr; grind
theorem pos_of {F z r : Int} (hF : 0 < F) (h : F * z = r) (hr : 0 < r) : 0 < z := by
 by_cases c : 0 < z
 ·
  exact c
 ·
  have := Int.mul_nonpos_of_nonneg_of_nonpos (Int.le_of_lt hF) (show z ≤ 0 by omega)
  omega
/-- Those that stay see c on their left. -/
theorem stay {x y : Int} {S : List S43} {c : S43} (hc : Before x y S c) : ∀ {st : List S43}, Pile x y S st → (∀ b a t, st = b :: a :: t → 0 < cr a b c) → Pile x y (S ++ [c]) st
 | [], h, _ => h
 | [b], h, _ => by
  refine ⟨List.mem_append_left _ h.1, fun q hq => ?_⟩
  rcases List.mem_append.1 hq with hq | hq
  ·
   exact h.2 q hq
  ·
   rw [List.mem_singleton] at hq
   rw [hq]; exact Or.inr (hc b h.1)
 | b :: a :: st, h, ht => by
  obtain ⟨h1, h2, h3, h4⟩ := h
  have hcr := ht b a st rfl
  refine ⟨⟨h1.ne, List.mem_append_left _ h1.mem, fun q hq => ?_⟩, h2, h3, ?_⟩
  ·
   rcases List.mem_append.1 hq with hq | hq
   ·
    exact h1.sup q hq
   ·
    rw [List.mem_singleton] at hq
    rw [hq]; exact ⟨by omega, fun e => by omega⟩
  ·
   refine stay hc h4 (fun b' a' t e => ?_)
   obtain ⟨e1, e2⟩ := List.cons.inj e
   subst e1
   have h3' := h3 a' t e2
   have hbS := h1.mem
   have haa : 0 < off x y a' a := by
    rw [e2] at h4
    exact h4.2.1
   have hbc := hc b hbS
   have id := id1 x y a' a b c
   have p1 := Int.mul_pos haa hcr
   have p2 := Int.mul_pos hbc h3'
   have := pos_of h2 id (by omega)
   omega
/-- What is taken away. -/
theorem pop_is {x y : Int} {S : List S43} {c : S43} : ∀ {st : List S43}, Pile x y S st → Pile x y S (pop c st) ∧ (∀ b a t, pop c st = b :: a :: t → 0 < cr a b c) ∧ (pop c st = st ∨ ∃ b t s, pop c st = b :: t ∧ Edg b s S ∧ 0 < off x y b s ∧ cr b s c ≤ 0)
 | [], h => h.elim
 | [b], h => ⟨h, fun _ _ _ e => by simp [pop] at e, Or.inl rfl⟩
 | b :: a :: st, h => by
  obtain ⟨h1, h2, h3, h4⟩ := h
  by_cases e : cr a b c ≤ 0
  ·
   have hp : pop c (b :: a :: st) = pop c (a :: st) := by rw [pop, if_pos e]
   obtain ⟨i1, i2, i3⟩ := pop_is (c := c) h4
   rw [hp]
   refine ⟨i1, i2, Or.inr ?_⟩
   rcases i3 with i3 | i3
   ·
    exact ⟨a, st, b, i3, h1, h2, e⟩
   ·
    exact i3
  ·
   have hp : pop c (b :: a :: st) = b :: a :: st := by rw [pop, if_neg e]
   rw [hp]
   refine ⟨⟨h1, h2, h3, h4⟩, fun b' a' t e' => ?_, Or.inl rfl⟩
   obtain ⟨g1, g2⟩ := List.cons.inj e'
   obtain ⟨g3, g4⟩ := List.cons.inj g2
   subst g1; subst g3; omega
theorem pop_head {c : S43} : ∀ {st : List S43}, st ≠ [] → pop c st ≠ []
 | [], h => absurd rfl h
 | [b], _ => by simp [pop]
 | b :: a :: st, _ => by
  rw [pop]
  split
  ·
   exact pop_head (by simp)
  ·
   simp
theorem push_is {x y : Int} {S : List S43} {c top : S43} {rest : List S43} (hc : Before x y S c) (hS : ∀ p ∈ S, ∀ q ∈ S, p = q ∨ 0 < off x y p q ∨ 0 < off x y q p) (htop : ∀ q ∈ S, q = top ∨ 0 < off x y q top) (h : Pile x y S (top :: rest)) : Pile x y (S ++ [c]) (push (top :: rest) c) := by
 obtain ⟨h1, h2, h3⟩ := pop_is (c := c) h
 have h4 := stay hc h1 h2
 unfold push
 cases hp : pop c (top :: rest) with
 | nil => exact absurd hp (pop_head (by simp))
 | cons b t =>
  rw [hp] at h1 h2 h3 h4
  have hb : b ∈ S := pile_mem h1 b List.mem_cons_self
  have hbc := hc b hb
  have hne : c ≠ b := fun e => by rw [e, off_self] at hbc; omega
  refine ⟨⟨hne, List.mem_append_right _ List.mem_cons_self, fun q hq => ?_⟩, hbc, fun a' st' e => h2 b a' st' (by rw [e]), h4⟩
  rcases List.mem_append.1 hq with hq | hq
  ·
   rcases hS b hb q hq with g | g | g
   ·
    rw [← g, cr_self3]; exact ⟨Int.le_refl _, fun _ => box_self _ _⟩
   ·
    -- q lies behind b
    rcases h3 with h3 | ⟨b', t', s, h3, h5, h6, h7⟩
    ·
     obtain ⟨e1, e2⟩ := List.cons.inj h3
     rcases htop q hq with k | k
     ·
      rw [k, ← e1, off_self] at g; omega
     ·
      rw [← e1, off_neg] at k; omega
    ·
     obtain ⟨e1, e2⟩ := List.cons.inj h3
     subst e1
     obtain ⟨k1, k2⟩ := h5.sup q hq
     refine ⟨turn h6 hbc g h7 k1, fun e => ?_⟩
     obtain ⟨g1, g2⟩ := turn0 h6 hbc g h7 k1 e
     have hsc := hc s h5.mem
     have := off_add x y b s c
     exact box_trans (k2 g2) (near_le h6 g1 (by omega))
   ·
    -- q lies ahead of b
    cases t with
    | nil =>
     rcases h1.2 q hq with k | k
     ·
      rw [k, off_self] at g; omega
     ·
      rw [off_neg] at k; omega
    | cons a t =>
     have h2' := h2 b a t rfl
     obtain ⟨k1, k2⟩ := h1.1.sup q hq
     have id := id2 x y a b c q
     have p1 := Int.mul_pos g h2'
     have p2 := Int.mul_nonneg (Int.le_of_lt hbc) k1
     have := pos_of h1.2.1 id (by omega)
     exact ⟨by omega, fun e => by omega⟩
  ·
   rw [List.mem_singleton] at hq
   rw [hq, cr_self2]; exact ⟨Int.le_refl _, fun _ => box_self2 _ _⟩
/-- The whole pile of a list. -/
def pile (T : List S43) : List S43 := T.foldl push []
theorem sorted_three {x y : Int} : ∀ {T : List S43}, Sorted x y T → ∀ p ∈ T, ∀ q ∈ T, p = q ∨ 0 < off x y p q ∨ 0 < off x y q p
 | [], _, p, hp, _, _ => by cases hp
 | c :: T, h, p, hp, q, hq => by
  rcases List.mem_cons.1 hp with e | hp'
  ·
   rcases List.mem_cons.1 hq with e2 | hq'
   ·
    exact Or.inl (e.trans e2.symm)
   ·
    exact Or.inr (Or.inl (e ▸ h.1 q hq'))
  ·
   rcases List.mem_cons.1 hq with e2 | hq'
   ·
    exact Or.inr (Or.inr (e2 ▸ h.1 p hp'))
   ·
    exact sorted_three h.2 p hp' q hq'
theorem sorted_split {x y : Int} : ∀ {S T : List S43}, Sorted x y (S ++ T) → Sorted x y S ∧ Sorted x y T ∧ ∀ p ∈ S, ∀ q ∈ T, 0 < off x y p q
 | [], T, h => ⟨trivial, h, fun p hp => by cases hp⟩
 | c :: S, T, h => by
  obtain ⟨h1, h2⟩ := h
  obtain ⟨g1, g2, g3⟩ := sorted_split h2
  refine ⟨⟨fun q hq => h1 q (List.mem_append_left _ hq), g1⟩, g2, fun p hp q hq => ?_⟩
  rcases List.mem_cons.1 hp with rfl | hp
  ·
   exact h1 q (List.mem_append_right _ hq)
  ·
   exact g3 p hp q hq
theorem pile_run {x y : Int} : ∀ (T S : List S43) (top : S43) (rest : List S43), Sorted x y (S ++ T) → (∀ q ∈ S, q = top ∨ 0 < off x y q top) → Pile x y S (top :: rest) → ∃ top' rest', T.foldl push (top :: rest) = top' :: rest' ∧ Pile x y (S ++ T) (top' :: rest') ∧ (∀ q ∈ S ++ T, q = top' ∨ 0 < off x y q top') ∧ top' ∈ S ++ T
 | [], S, top, rest, hs, ht, hp => ⟨top, rest, rfl, by rw [List.append_nil]; exact hp, by rw [List.append_nil]; exact ht, by rw [List.append_nil]; exact pile_mem hp _ List.mem_cons_self⟩
 | c :: T, S, top, rest, hs, ht, hp => by
  obtain ⟨g1, g2, g3⟩ := sorted_split hs
  have hc : Before x y S c := fun q hq => g3 q hq c List.mem_cons_self
  have e : S ++ c :: T = (S ++ [c]) ++ T := by simp
  have h1 := push_is hc (sorted_three g1) ht hp
  have hp' : push (top :: rest) c = c :: pop c (top :: rest) := rfl
  rw [hp'] at h1
  rw [e] at hs ⊢
  have := pile_run T (S ++ [c]) c (pop c (top :: rest)) hs (fun q hq => by
   rcases List.mem_append.1 hq with hq | hq
   ·
    exact Or.inr (hc q hq)
   ·
    exact Or.inl (List.mem_singleton.1 hq)) h1
  exact this
theorem pile_is {x y : Int} {p : S43} {T : List S43} (hs : Sorted x y (p :: T)) : ∃ top rest, pile (p :: T) = top :: rest ∧ Pile x y (p :: T) (top :: rest) ∧ (∀ q ∈ p :: T, q = top ∨ 0 < off x y q top) ∧ top ∈ p :: T := by
 have h0 : Pile x y [p] [p] := ⟨List.mem_cons_self, fun q hq => Or.inl (List.mem_singleton.1 hq)⟩
 have := pile_run T [p] p [] hs (fun q hq => Or.inl (List.mem_singleton.1 hq)) h0
 exact this
/-- From each to the next an edge. -/
def Wy (L : List S43) : List S43 → Prop
 | a :: b :: t => Edg a b L ∧ Wy L (b :: t)
 | _ => True
def Rise (x y : Int) : List S43 → Prop
 | a :: b :: t => 0 < off x y a b ∧ Rise x y (b :: t)
 | _ => True
theorem way_snoc {L : List S43} {a b : S43} : ∀ {t : List S43}, Wy L (t ++ [a]) → Edg a b L → Wy L (t ++ [a] ++ [b])
 | [], _, h => ⟨h, trivial⟩
 | [c], h, h' => ⟨h.1, h', trivial⟩
 | c :: d :: t, h, h' => ⟨h.1, way_snoc (t := d :: t) h.2 h'⟩
theorem rise_snoc {x y : Int} {a b : S43} : ∀ {t : List S43}, Rise x y (t ++ [a]) → 0 < off x y a b → Rise x y (t ++ [a] ++ [b])
 | [], _, h => ⟨h, trivial⟩
 | [c], h, h' => ⟨h.1, h', trivial⟩
 | c :: d :: t, h, h' => ⟨h.1, rise_snoc (t := d :: t) h.2 h'⟩
theorem pile_way {x y : Int} {S : List S43} : ∀ {st : List S43}, Pile x y S st → Wy S st.reverse ∧ Rise x y st.reverse ∧ ∃ p t, st.reverse = p :: t ∧ p ∈ S ∧ ∀ q ∈ S, q = p ∨ 0 < off x y p q
 | [], h => h.elim
 | [b], h => ⟨trivial, trivial, b, [], rfl, h.1, h.2⟩
 | b :: a :: st, h => by
  obtain ⟨h1, h2, h3, h4⟩ := h
  obtain ⟨g1, g2, p, t, g3, g4⟩ := pile_way h4
  have e : (b :: a :: st).reverse = st.reverse ++ [a] ++ [b] := by simp
  have e' : (a :: st).reverse = st.reverse ++ [a] := by simp
  rw [e'] at g1 g2 g3
  rw [e]
  exact ⟨way_snoc g1 h1, rise_snoc g2 h2, p, t ++ [b], by rw [g3]; rfl, g4⟩
end Go.Proofs.YthbogbaaikjhbaaGreatDoor.ChainGeo
namespace Go.Proofs.YthbogbaaikjhbaaGreatDoor.ChainHull
set_option linter.unusedSimpArgs false
set_option linter.unusedVariables false
open Go.Proofs.YthbogbaaikjhbaaGreatDoor.PA Go.Proofs.YthbogbaaikjhbaaGreatDoor.Geo Go.Proofs.YthbogbaaikjhbaaGreatDoor.HullGeo Go.Proofs.YthbogbaaikjhbaaGreatDoor.HullWrap Go.Proofs.YthbogbaaikjhbaaGreatDoor.ChainGeo
def half (T : List S43) : List S43 := (pile T).reverse.dropLast
def outOf (own : List S43) : List S43 := half own ++ half own.reverse
theorem edg_mono {a b : S43} {S L : List S43} (h : ∀ c, c ∈ S ↔ c ∈ L) (e : Edg a b S) : Edg a b L := ⟨e.ne, (h b).1 e.mem, fun c hc => e.sup c ((h c).2 hc)⟩
theorem way_mono {S L : List S43} (h : ∀ c, c ∈ S ↔ c ∈ L) : ∀ {t : List S43}, Wy S t → Wy L t
 | [], _ => trivial
 | [_], _ => trivial
 | a :: b :: t, hw => ⟨edg_mono h hw.1, way_mono h (t := b :: t) hw.2⟩
theorem way_join {L : List S43} {m : S43} {B : List S43} (h2 : Wy L (m :: B)) : ∀ {A : List S43}, Wy L (A ++ [m]) → Wy L (A ++ m :: B)
 | [], _ => h2
 | [c], h => ⟨h.1, h2⟩
 | c :: d :: A, h => ⟨h.1, way_join h2 (A := d :: A) h.2⟩
theorem rise_all {x y : Int} : ∀ {t : List S43} {a : S43}, Rise x y (a :: t) → ∀ q ∈ t, 0 < off x y a q
 | [], a, _, q, hq => by cases hq
 | b :: t, a, h, q, hq => by
  rcases List.mem_cons.1 hq with e | hq
  ·
   rw [e]; exact h.1
  ·
   have h1 := rise_all h.2 q hq
   have h2 := h.1
   have := off_add x y a b q
   omega
theorem rise_end {x y : Int} {m : S43} : ∀ {t : List S43}, Rise x y (t ++ [m]) → ∀ q ∈ t, 0 < off x y q m
 | [], _, q, hq => by cases hq
 | [c], h, q, hq => by rw [List.mem_singleton] at hq; rw [hq]; exact h.1
 | c :: d :: t, h, q, hq => by
  rcases List.mem_cons.1 hq with e | hq
  ·
   rw [e]; exact rise_all (t := d :: t ++ [m]) h m (by simp)
  ·
   exact rise_end (t := d :: t) h.2 q hq
theorem sorted_snoc {x y : Int} {c : S43} : ∀ {T : List S43}, Sorted x y T → (∀ q ∈ T, 0 < off x y q c) → Sorted x y (T ++ [c])
 | [], _, _ => ⟨(fun q hq => by cases hq), trivial⟩
 | d :: T, h, hc => by
  refine ⟨fun q hq => ?_, sorted_snoc h.2 (fun q hq => hc q (List.mem_cons_of_mem _ hq))⟩
  rcases List.mem_append.1 hq with hq | hq
  ·
   exact h.1 q hq
  ·
   rw [List.mem_singleton] at hq
   rw [hq]; exact hc d List.mem_cons_self
theorem off_opp (x y : Int) (a b : S43) : off (-x) (-y) a b = off x y b a := by unfold off; grind
theorem sorted_rev {x y : Int} : ∀ {T : List S43}, Sorted x y T → Sorted (-x) (-y) T.reverse
 | [], _ => trivial
 | c :: T, h => by
  rw [List.reverse_cons]
  refine sorted_snoc (sorted_rev h.2) (fun q hq => ?_)
  rw [off_opp]
  exact h.1 q (List.mem_reverse.1 hq)
/-- What half a hull is. -/
theorem half_is {x y : Int} {T : List S43} {a z : S43} {S : List S43} (hs : Sorted x y T) (hne : T ≠ []) (ha : a ∈ T) (hz : z ∈ T) (h1 : ∀ q ∈ T, q = a ∨ 0 < off x y a q) (h2 : ∀ q ∈ T, q = z ∨ 0 < off x y q z) (hm : ∀ c, c ∈ T ↔ c ∈ S) : (pile T).reverse = half T ++ [z] ∧ Wy S (half T ++ [z]) ∧ Rise x y (half T ++ [z]) ∧ ∃ t, half T ++ [z] = a :: t := by
 obtain ⟨p, T', rfl⟩ : ∃ p T', T = p :: T' := by
  cases T with
  | nil => exact absurd rfl hne
  | cons p T' => exact ⟨p, T', rfl⟩
 obtain ⟨top, rest, e, hp, ht, htm⟩ := pile_is hs
 have hw := pile_way hp
 have etop : top = z := by
  rcases ht z hz with g | g
  ·
   exact g.symm
  ·
   rcases h2 top htm with k | k
   ·
    exact k
   ·
    rw [off_neg] at k; omega
 have eh : (pile (p :: T')).reverse = half (p :: T') ++ [z] := by
  unfold half
  rw [e, List.reverse_cons, List.dropLast_concat, etop]
 obtain ⟨w1, w2, p', t, w3, w4, w5⟩ := hw
 rw [← e, eh] at w1 w2 w3
 have ea : p' = a := by
  rcases w5 a ha with g | g
  ·
   exact g.symm
  ·
   rcases h1 p' w4 with k | k
   ·
    exact k
   ·
    rw [off_neg] at k; omega
 exact ⟨eh, way_mono hm w1, w2, t, by rw [w3, ea]⟩
/-- Going round is determined. -/
theorem wrap_way {l : List S43} {first : S43} (hS : ∀ c ∈ l, Sm c) (hk : ∀ c ∈ l, c = first ∨ key first < key c) : ∀ (d : Nat) (rest : List S43) (now : S43) (out : List S43), out.length + d = l.length → Pth l first (out ++ [now]) → Wy l (now :: (rest ++ [first])) → (∀ q ∈ rest, q ≠ first) → wrapL l first d now out = out ++ now :: rest
 | 0, rest, now, out, h, hp, _, _ => by
  have := nodup_le hp.nd hp.mem
  rw [List.length_append, List.length_singleton] at this
  omega
 | d + 1, rest, now, out, h, hp, hw, hr => by
  obtain ⟨a, b, hs⟩ := side_at hS hk hp out.length (by simp)
  rw [at_snoc] at hs
  have hlast : HullWrap.at_ (out ++ [now]) ((out ++ [now]).length - 1) = now := by
   rw [List.length_append, List.length_singleton, Nat.add_sub_cancel, at_snoc]
  have hn : ∀ n, Edg now n l → nxt l now = n := by
   intro n he
   rcases nxt_is hs with q | q
   ·
    exact absurd (q.2 n he.mem) he.ne
   ·
    exact edge_fun hs q he
  rw [wrapL]
  cases rest with
  | nil =>
   have he : Edg now first l := hw.1
   rw [if_pos (hn first he)]
  | cons r rs =>
   have he : Edg now r l := hw.1
   have hrf := hr r List.mem_cons_self
   rw [hn r he, if_neg hrf]
   have := wrap_way hS hk d rs r (out ++ [now]) (by rw [List.length_append, List.length_singleton]; omega) (path_snoc hp (by rw [hlast]; exact he) hrf) hw.2 (fun q hq => hr q (List.mem_cons_of_mem _ hq))
   rw [this, List.append_assoc]; rfl
theorem off_key (a b : S43) : off 1 (-2001) a b = key b - key a := by unfold off key; grind
theorem off_key2 (a b : S43) : off (-1) 2001 a b = key a - key b := by unfold off key; grind
theorem sorted_first {x y : Int} {p : S43} {T : List S43} (h : Sorted x y (p :: T)) : ∀ q ∈ p :: T, q = p ∨ 0 < off x y p q := fun q hq => by
 rcases List.mem_cons.1 hq with e | hq
 ·
  exact Or.inl e
 ·
  exact Or.inr (h.1 q hq)
theorem sorted_last {x y : Int} {z : S43} {T : List S43} (h : Sorted x y (T ++ [z])) : ∀ q ∈ T ++ [z], q = z ∨ 0 < off x y q z := fun q hq => by
 rcases List.mem_append.1 hq with hq | hq
 ·
  exact Or.inr ((sorted_split h).2.2 q hq z List.mem_cons_self)
 ·
  exact Or.inl (List.mem_singleton.1 hq)
/-- The halves of the sorted corners are the round of the list; where there is one corner alone, there are none. -/
theorem out_is {l own : List S43} (hS : ∀ c ∈ l, Sm c) (hm : ∀ c, c ∈ own ↔ c ∈ l) (hs : Sorted 1 (-2001) own) (hne : l ≠ []) : outOf own = round l ∨ (outOf own = [] ∧ (round l).length = 1) := by
 obtain ⟨f1, f2⟩ := first_is hS hne
 obtain ⟨p, T, e⟩ : ∃ p T, own = p :: T := by
  cases own with
  | nil => exact absurd ((hm _).2 f1) (by simp)
  | cons p T => exact ⟨p, T, rfl⟩
 have hpf : p = first l := by
  have hp : p ∈ own := by rw [e]; exact List.mem_cons_self
  rcases f2 p ((hm p).1 hp) with g | g
  ·
   exact g
  ·
   rw [e] at hs
   rcases sorted_first hs (first l) (e ▸ (hm _).2 f1) with k | k
   ·
    exact k.symm
   ·
    rw [off_key] at k; omega
 rcases List.eq_nil_or_concat T with hT | ⟨T', z, hT⟩
 ·
  -- one corner alone
  right
  refine ⟨by rw [e, hT]; rfl, ?_⟩
  have : ¬ ∃ c ∈ l, c ≠ first l := by
   rintro ⟨c, hc, hne'⟩
   have := (hm c).2 hc
   rw [e, hT, List.mem_singleton] at this
   exact hne' (this.trans hpf)
  rw [round_one hS hne this]; rfl
 ·
  left
  rw [List.concat_eq_append] at hT
  have e2 : own = (p :: T') ++ [z] := by rw [e, hT]; rfl
  have hz : z ∈ own := by rw [e2]; simp
  have hp : p ∈ own := by rw [e]; exact List.mem_cons_self
  have hpz : 0 < off 1 (-2001) p z := by
   rw [e2] at hs
   exact (sorted_split hs).2.2 p List.mem_cons_self z List.mem_cons_self
  have a1 : ∀ q ∈ own, q = p ∨ 0 < off 1 (-2001) p q := by rw [e] at hs ⊢; exact sorted_first hs
  have a2 : ∀ q ∈ own, q = z ∨ 0 < off 1 (-2001) q z := by rw [e2] at hs ⊢; exact sorted_last hs
  obtain ⟨_, lw, lr, t, lh⟩ := half_is hs (by rw [e]; simp) hp hz a1 a2 hm
  have hs2 : Sorted (-1) 2001 own.reverse := sorted_rev hs
  have b1 : ∀ q ∈ own.reverse, q = z ∨ 0 < off (-1) 2001 z q := fun q hq => by
   rcases a2 q (List.mem_reverse.1 hq) with g | g
   ·
    exact Or.inl g
   ·
    rw [off_key] at g; right; rw [off_key2]; omega
  have b2 : ∀ q ∈ own.reverse, q = p ∨ 0 < off (-1) 2001 q p := fun q hq => by
   rcases a1 q (List.mem_reverse.1 hq) with g | g
   ·
    exact Or.inl g
   ·
    rw [off_key] at g; right; rw [off_key2]; omega
  obtain ⟨_, uw, ur, t2, uh⟩ := half_is hs2 (by rw [e]; simp) (List.mem_reverse.2 hz) (List.mem_reverse.2 hp) b1 b2 (fun c => List.mem_reverse.trans (hm c))
  -- neither half is empty
  have hpz' : p ≠ z := fun g => by rw [g, off_self] at hpz; omega
  obtain ⟨L0, hL0⟩ : ∃ L0, half own = p :: L0 := by
   cases hh : half own with
   | nil => rw [hh] at lh; exact absurd (List.cons.inj lh).1.symm hpz'
   | cons c L0 => rw [hh] at lh; exact ⟨L0, by rw [(List.cons.inj lh).1]⟩
  obtain ⟨U0, hU0⟩ : ∃ U0, half own.reverse = z :: U0 := by
   cases hh : half own.reverse with
   | nil => rw [hh] at uh; exact absurd (List.cons.inj uh).1 hpz'
   | cons c U0 => rw [hh] at uh; exact ⟨U0, by rw [(List.cons.inj uh).1]⟩
  rw [hL0] at lw lr
  rw [hU0] at uw ur
  have hway : Wy l (p :: L0 ++ z :: (U0 ++ [p])) := way_join uw lw
  have hnf : ∀ q ∈ L0 ++ z :: U0, q ≠ first l := by
   intro q hq g
   rw [← hpf] at g
   rcases List.mem_append.1 hq with hq | hq
   ·
    have := rise_all (t := L0 ++ [z]) lr q (List.mem_append_left _ hq)
    rw [g, off_self] at this; omega
   ·
    have := rise_end (t := z :: U0) ur q hq
    rw [g, off_self] at this; omega
  have hr := wrap_way hS f2 l.length (L0 ++ z :: U0) (first l) [] (by simp) ⟨by simp, rfl, by simp, fun x hx => by
   rw [List.nil_append, List.mem_singleton] at hx
   rw [hx]; exact f1, fun i hi => by simp at hi⟩ (by
   rw [← hpf, List.append_assoc]; exact hway) hnf
  unfold outOf round
  rw [hr, hL0, hU0, hpf]; rfl
end Go.Proofs.YthbogbaaikjhbaaGreatDoor.ChainHull
namespace Go.Proofs.YthbogbaaikjhbaaGreatDoor.HullSpec
set_option linter.unusedSimpArgs false
set_option linter.unusedVariables false
open Go.RowKit Go.Proofs.YthbogbaaikjhbaaGreatDoor.PA Go.Proofs.YthbogbaaikjhbaaGreatDoor.Base Go.Proofs.YthbogbaaikjhbaaGreatDoor.StonesKit Go.Proofs.YthbogbaaikjhbaaGreatDoor.Geo Go.Proofs.YthbogbaaikjhbaaGreatDoor.SeamKit Go.Proofs.YthbogbaaikjhbaaGreatDoor.HullWrap Go.Proofs.YthbogbaaikjhbaaGreatDoorW.PrintWords Go.Proofs.YthbogbaaikjhbaaGreatDoorW.PrintLast Go.Proofs.YthbogbaaikjhbaaGreatDoorW.PrintMore
theorem placed_sm {c : S43} : placed c = true ↔ Sm c := by
 unfold placed Sm
 rw [Bool.and_eq_true, inB_iff, inB_iff]
theorem specLess (a b : S43) : spec_l03Before.f a.f0 a.f1 b.f0 b.f1 = some (lt a b) := by
 unfold spec_l03Before.f lt
 by_cases h1 : a.f0 < b.f0
 ·
  rw [if_pos h1, decide_eq_true h1, Bool.true_or]
 ·
  rw [if_neg h1, decide_eq_false h1, Bool.false_or]
  by_cases h2 : a.f0 = b.f0
  ·
   rw [if_pos h2, decide_eq_true h2, Bool.true_and]
  ·
   rw [if_neg h2, decide_eq_false h2, Bool.false_and]
theorem beq_c (a b : S43) : ((a.f0 == b.f0 && (a.f1 == b.f1)) = true) ↔ a = b := by
 rw [Bool.and_eq_true, beq_iff_eq, beq_iff_eq]
 exact ⟨fun h => HullGeo.ext h.1 h.2, fun h => h ▸ ⟨rfl, rfl⟩⟩
def endR (vs : List S43) : List S43 × Int := if vs.length < 3 then ([], 4) else if vs.length > 8 then ([], 3) else (vs, 0)
def hullRes (l : List S43) : List S43 × Int := if l.length > 100 then ([], 2) else if l.all placed = true then (if l = [] then ([], 4) else endR (round l)) else ([], 2)
theorem scan3 {l out : List S43} {f now : S43} (hl : l.length ≤ 100) (hS : ∀ c ∈ l, Sm c) (hn : Sm now) (r : List S43 × Int)
  (h : Ev (fun k => spec_HullOf.l3 k l out (l.length : Int) f.f0 f.f1 now.f0 now.f1 (nxt l now).f0 (nxt l now).f1) r) : Ev (fun k => spec_HullOf.l3 k l out 0 f.f0 f.f1 now.f0 now.f1 now.f0 now.f1) r := by
 refine fold_cps0 l (fun c n => upd now c n) (fun k (n : S43) i => spec_HullOf.l3 k l out i f.f0 f.f1 now.f0 now.f1 n.f0 n.f1) r (fun _ n => Sm n) now hn (fun n i hi hv => ?_) (fun n i hi hv hr => ?_) (fun _ => h)
 ·
  show Sm (upd now l[i] n)
  unfold upd
  split
  ·
   exact hv
  ·
   split
   ·
    exact hS _ (List.getElem_mem hi)
   ·
    exact hv
 ·
  have hc := hS _ (List.getElem_mem hi)
  have hr : Ev (fun k => spec_HullOf.l3 k l out ((i + 1 : Nat) : Int) f.f0 f.f1 now.f0 now.f1 (upd now l[i] n).f0 (upd now l[i] n).f1) r := hr
  refine Ev.step (fun k => by rw [spec_HullOf.l3]) (Ev.pos (by omega) (Ev.pos (by omega) ?_))
  rw [rdC l i hi, w64 (x := (i : Int) + 1) (by omega) (by omega)]
  unfold upd at hr
  refine Ev.ite (fun e => ?_) (fun e => ?_)
  ·
   rw [if_pos ((beq_c _ _).1 e)] at hr; exact hr
  ·
   have e' : ¬ l[i] = now := fun g => e ((beq_c _ _).2 g)
   rw [if_neg e'] at hr
   refine Ev.nobind (specSide now n l[i]) (Ev.ite (fun q => ?_) (fun q => ?_))
   ·
    rw [if_pos (show better now n l[i] from Or.inl ((beq_c _ _).1 q))] at hr; exact hr
   ·
    have q' : ¬ n = now := fun g => q ((beq_c _ _).2 g)
    rw [sd_cr hn hv hc]
    refine Ev.ite (fun z => ?_) (fun z => ?_)
    ·
     rw [if_pos (show better now n l[i] from Or.inr (Or.inl z))] at hr; exact hr
    ·
     refine Ev.ite (fun y => ?_) (fun y => ?_)
     ·
      refine Ev.nobind (specBetween hv hn hc) (Ev.ite (fun x => ?_) (fun x => ?_))
      ·
       rw [if_pos (show better now n l[i] from Or.inr (Or.inr ⟨y, of_decide_eq_true x⟩))] at hr; exact hr
      ·
       rw [if_neg (fun (g : better now n l[i]) => by
        rcases g with g | g | g
        ·
         exact q' g
        ·
         exact z g
        ·
         exact x (decide_eq_true g.2))] at hr
       exact hr
     ·
      rw [if_neg (fun (g : better now n l[i]) => by
       rcases g with g | g | g
       ·
        exact q' g
       ·
        exact z g
       ·
        exact y g.1)] at hr
      exact hr
theorem wrap2 {l : List S43} {f : S43} (hl : l.length ≤ 100) (hS : ∀ c ∈ l, Sm c) (hf : f ∈ l) (hk : ∀ c ∈ l, c = f ∨ key f < key c) : ∀ (d : Nat) (now : S43) (out : List S43), out.length + d = l.length → Pth l f (out ++ [now]) → Ev (fun k => spec_HullOf.l2 k l out f.f0 f.f1 now.f0 now.f1) (endR (wrapL l f d now out))
 | 0, now, out, h, hp => by
  have := nodup_le hp.nd hp.mem
  rw [List.length_append, List.length_singleton] at this
  omega
 | d + 1, now, out, h, hp => by
  have hnow : now ∈ l := hp.mem _ (List.mem_append_right _ List.mem_cons_self)
  obtain ⟨a, b, hs⟩ := side_at hS hk hp out.length (by simp)
  rw [at_snoc] at hs
  have hlast : HullWrap.at_ (out ++ [now]) ((out ++ [now]).length - 1) = now := by
   rw [List.length_append, List.length_singleton, Nat.add_sub_cancel, at_snoc]
  refine Ev.step (fun k => by rw [spec_HullOf.l2]) (Ev.pos (by omega) ?_)
  rw [show (⟨now.f0, now.f1⟩ : S43) = now from rfl]
  refine scan3 hl hS (hS _ hnow) _ ?_
  refine Ev.step (fun k => by rw [spec_HullOf.l3]) (Ev.neg (by omega) ?_)
  have hlen : ((out ++ [now]).length : Int) = (out.length : Int) + 1 := by rw [List.length_append, List.length_singleton]; omega
  rw [wrapL]
  refine Ev.ite (fun e => ?_) (fun e => ?_)
  ·
   have e' := (beq_c _ _).1 e
   rw [if_pos e']
   unfold endR
   refine Ev.ite (fun q => ?_) (fun q => ?_)
   ·
    rw [if_pos (show (out ++ [now]).length < 3 by omega)]; exact Ev.fin rfl
   ·
    rw [if_neg (show ¬ (out ++ [now]).length < 3 by omega)]
    refine Ev.ite (fun z => ?_) (fun z => ?_)
    ·
     rw [if_pos (show (out ++ [now]).length > 8 by omega)]; exact Ev.fin rfl
    ·
     rw [if_neg (show ¬ (out ++ [now]).length > 8 by omega)]; exact Ev.fin rfl
  ·
   have e' : ¬ nxt l now = f := fun g => e ((beq_c _ _).2 g)
   rw [if_neg e']
   rcases nxt_is hs with q | q
   ·
    exfalso
    have := q.2 f hf
    exact e' (q.1.trans this.symm)
   ·
    exact wrap2 hl hS hf hk d _ _ (by rw [List.length_append, List.length_singleton]; omega) (path_snoc hp (by rw [hlast]; exact q) e')
theorem specHull {l : List S43} (hf : Fit l) : Ev (fun k => spec_HullOf.f k l) (hullRes l) := by
 unfold spec_HullOf.f hullRes
 refine Ev.ite (fun e => ?_) (fun e => ?_)
 ·
  rw [if_pos (by omega)]; exact Ev.fin rfl
 ·
  rw [if_neg (by omega)]
  have hl : l.length ≤ 100 := by omega
  rw [← all_range l z43 placed]
  refine rangeAll_ev0 (fun k i => spec_HullOf.l0 k l i) l.length (fun i => placed (l.getD i z43)) _ _ ?_ ?_ ?_
  ·
   intro i hi hp r' hr
   refine Ev.step (fun k => by rw [spec_HullOf.l0]) (Ev.pos (by omega) (Ev.pos (by omega) ?_))
   rw [rdC l i hi, w64 (x := (i : Int) + 1) (by omega) (by omega)]
   refine Ev.nobind (specCorner (hf _ (List.getElem_mem hi))) (Ev.pos ?_ hr)
   simpa [List.getD_eq_getElem?_getD, hi] using hp
  ·
   intro i hi hp
   refine Ev.step (fun k => by rw [spec_HullOf.l0]) (Ev.pos (by omega) (Ev.pos (by omega) ?_))
   rw [rdC l i hi]
   refine Ev.nobind (specCorner (hf _ (List.getElem_mem hi))) (Ev.neg ?_ (Ev.fin rfl))
   have : placed l[i] = false := by simpa [List.getD_eq_getElem?_getD, hi] using hp
   rw [this]; decide
  ·
   intro hall
   rw [all_range l z43 placed, List.all_eq_true] at hall
   have hS : ∀ c ∈ l, Sm c := fun c hc => placed_sm.1 (hall c hc)
   refine Ev.step (fun k => by rw [spec_HullOf.l0]) (Ev.neg (by omega) (Ev.ite (fun z => ?_) (fun z => ?_)))
   ·
    rw [if_pos (List.eq_nil_of_length_eq_zero (by omega))]; exact Ev.fin rfl
   ·
    have hne : l ≠ [] := fun g => z (by rw [g]; rfl)
    rw [if_neg hne]
    refine Ev.pos (by omega) ?_
    have h0 : 0 < l.length := by omega
    have r0 : rd_T43 l 0 = l[0] := rdC l 0 h0
    rw [r0]
    obtain ⟨x, t, ht⟩ : ∃ x t, l = x :: t := by
     cases l with
     | nil => exact absurd rfl hne
     | cons x t => exact ⟨x, t, rfl⟩
    have hx : l[0] = x := by simp [ht]
    have key1 : Ev (fun k => spec_HullOf.l1 k l ((1 : Nat) : Int) l[0].f0 l[0].f1) (endR (round l)) := by
     refine fold_cps l (fun c m => if lt c m = true then c else m) (fun k (m : S43) i => spec_HullOf.l1 k l i m.f0 m.f1) _ (fun _ _ => True) (fun _ _ _ _ => trivial) (fun m i hi _ hr => ?_) (l.length - 1) 1 l[0] (by omega) trivial (fun _ => ?_)
     ·
      have hr : Ev (fun k => spec_HullOf.l1 k l ((i + 1 : Nat) : Int) (if lt l[i] m = true then l[i] else m).f0 (if lt l[i] m = true then l[i] else m).f1) (endR (round l)) := hr
      refine Ev.step (fun k => by rw [spec_HullOf.l1]) (Ev.pos (by omega) (Ev.pos (by omega) ?_))
      rw [rdC l i hi, w64 (x := (i : Int) + 1) (by omega) (by omega)]
      refine Ev.nobind (specLess _ _) (Ev.ite (fun q => ?_) (fun q => ?_))
      ·
       rw [if_pos q] at hr; exact hr
      ·
       rw [if_neg q] at hr; exact hr
     ·
      have hfi : (l.drop 1).foldl (fun m c => if lt c m = true then c else m) l[0] = first l := by
       rw [hx, ht]; rfl
      obtain ⟨h1, h2⟩ := first_is hS hne
      show Ev (fun k => spec_HullOf.l1 k l (l.length : Int) ((l.drop 1).foldl (fun m c => if lt c m = true then c else m) l[0]).f0 ((l.drop 1).foldl (fun m c => if lt c m = true then c else m) l[0]).f1) _
      rw [hfi]
      refine Ev.step (fun k => by rw [spec_HullOf.l1]) (Ev.neg (by omega) ?_)
      refine wrap2 hl hS h1 h2 l.length (first l) [] (by simp) ⟨by simp, rfl, by simp, fun y hy => ?_, fun i hi => ?_⟩
      ·
       rw [List.nil_append, List.mem_singleton] at hy
       rw [hy]; exact h1
      ·
       simp at hi
    exact key1
/-- What is told as a hull is a stone. -/
theorem hull_ok {l vs : List S43} (h : hullRes l = (vs, 0)) : okS vs = true ∧ vs.length ≤ l.length ∧ (∀ x ∈ vs, x ∈ l) ∧ Hul l (first l) vs ∧ (∀ c ∈ l, Sm c) := by
 unfold hullRes at h
 split at h
 ·
  simp at h
 ·
  split at h
  ·
   rename_i h1 h2
   have hS : ∀ c ∈ l, Sm c := fun c hc => placed_sm.1 (List.all_eq_true.1 h2 c hc)
   split at h
   ·
    simp at h
   ·
    rename_i hne
    unfold endR at h
    split at h
    ·
     simp at h
    ·
     split at h
     ·
      simp at h
     ·
      rename_i h3 h4
      simp only [Prod.mk.injEq, and_true] at h
      have hm : ∃ c ∈ l, c ≠ first l := by
       by_cases c : ∃ c ∈ l, c ≠ first l
       ·
        exact c
       ·
        rw [round_one hS hne c] at h3; simp at h3
      have hh := round_is hS hne hm
      rw [h] at hh h3 h4
      refine ⟨?_, nodup_le hh.path.nd hh.path.mem, hh.path.mem, hh, hS⟩
      unfold okS
      rw [Bool.and_eq_true, Bool.and_eq_true, inB_iff]
      refine ⟨⟨by omega, ?_⟩, ?_⟩
      ·
       rw [List.all_eq_true]
       exact fun c hc => placed_sm.2 (hS c (hh.path.mem c hc))
      ·
       unfold convB
       rw [List.all_eq_true]
       intro i hi
       rw [List.all_eq_true]
       intro j hj
       rw [List.mem_range] at hi hj
       unfold cvx
       rw [Bool.or_eq_true, Bool.or_eq_true, decide_eq_true_eq, decide_eq_true_eq, decide_eq_true_eq]
       by_cases e1 : j = i
       ·
        exact Or.inl (Or.inl e1)
       ·
        by_cases e2 : j = (i + 1) % vs.length
        ·
         exact Or.inl (Or.inr e2)
        ·
         right
         have hn : (i + 1) % vs.length < vs.length := Nat.mod_lt _ (by omega)
         have sm : ∀ {q : Nat}, q < vs.length → Sm (StonesKit.at_ vs q) := fun hq => hS _ (hh.path.mem _ (at_mem hq))
         rw [sd_cr (sm hi) (sm hn) (sm hj)]
         exact hh.convex hi hj e1 e2
  ·
   simp at h
end Go.Proofs.YthbogbaaikjhbaaGreatDoor.HullSpec
namespace Go.Proofs.YthbogbaaikjhbaaGreatDoor.GenKit
set_option linter.unusedSimpArgs false
set_option linter.unusedVariables false
open Go.RowKit Go.Proofs.YthbogbaaikjhbaaGreatDoor.PA Go.Proofs.YthbogbaaikjhbaaGreatDoor.Base Go.Proofs.YthbogbaaikjhbaaGreatDoor.StonesKit Go.Proofs.YthbogbaaikjhbaaGreatDoorW.PrintWords Go.Proofs.YthbogbaaikjhbaaGreatDoorW.PrintLast Go.Proofs.YthbogbaaikjhbaaGreatDoorW.PrintMore
theorem bits255 (x : Int) : 0 ≤ Go.bits .and .u64 x 255 ∧ Go.bits .and .u64 x 255 ≤ 255 := by
 have h : ((BitVec.ofInt (IntKind.u64.bits) x) &&& (BitVec.ofInt (IntKind.u64.bits) 255)).toNat ≤ 255 := by
  rw [BitVec.toNat_and]
  exact Nat.le_trans Nat.and_le_right (by decide)
 unfold Go.bits
 simp only []
 rw [IntKind.wrap_u64]
 omega
def U8 (l : List Int) : Prop := ∀ x ∈ l, 0 ≤ x ∧ x ≤ 255
theorem rd_u8 {l : List Int} (h : U8 l) (i : Int) : 0 ≤ rd l i ∧ rd l i ≤ 255 := by
 unfold rd
 rw [List.getD_eq_getElem?_getD]
 cases e : l[i.toNat]? with
 | none => simp
 | some x => exact h x (List.mem_of_getElem? e)
theorem next_ok {l : List Int} (h : U8 l) {p : Int} (t : Int) (h0 : 0 ≤ p) (h1 : p ≤ 4611686018427387904) : ∃ v t', spec_l00Src_next.f l p t = some (v, p + 1, t') ∧ 0 ≤ v ∧ v ≤ 255 := by
 have hw := w64 (x := p + 1) (by omega) (by omega)
 unfold spec_l00Src_next.f
 rw [hw]
 have hr := rd_u8 h p
 have hwr := w64 (x := rd l p) (by omega) (by omega)
 by_cases c : p < (l.length : Int)
 ·
  rw [if_pos c, if_pos h0, if_pos (by omega)]
  exact ⟨_, _, rfl, by rw [hwr]; omega, by rw [hwr]; omega⟩
 ·
  rw [if_neg c]
  by_cases d : p + 1 ≤ (l.length : Int)
  ·
   rw [if_pos d]; exact ⟨_, _, rfl, by omega, by omega⟩
  ·
   rw [if_neg d]
   have hb := bits255 ((IntKind.u64.wrap ((IntKind.u64.wrap (IntKind.u64.wrap (t * 6364136223846793005))) + 1442695040888963407)) / 1099511627776)
   refine ⟨_, _, rfl, ?_, ?_⟩
   ·
    rw [w64 (by omega) (by omega)]; omega
   ·
    rw [w64 (by omega) (by omega)]; omega
theorem pick_ok {l : List Int} (h : U8 l) {p : Int} (t : Int) (h0 : 0 ≤ p) (h1 : p ≤ 4611686018427387904) {n : Int} (hn : 1 ≤ n) (hn2 : n ≤ 200) : ∃ v p' t', spec_l00Src_pick.f l p t n = some (v, p', t') ∧ 0 ≤ v ∧ v < n ∧ p ≤ p' ∧ p' ≤ p + 1 := by
 unfold spec_l00Src_pick.f
 by_cases c : n ≤ 1
 ·
  rw [if_pos c]; exact ⟨_, _, _, rfl, by omega, by omega, by omega, by omega⟩
 ·
  rw [if_neg c]
  obtain ⟨v, t', e, e1, e2⟩ := next_ok h t h0 h1
  rw [e, Option.bind_some, if_neg (by show ¬ n > 200; omega), if_neg (by omega : ¬ n = 0)]
  refine ⟨_, _, _, rfl, ?_, ?_, by show p ≤ p + 1; omega, by show p + 1 ≤ p + 1; omega⟩
  ·
   exact Int.tmod_nonneg _ e1
  ·
   exact Int.tmod_lt_of_pos _ (by omega)
theorem nearN {l : List Int} (h : U8 l) {p : Int} (t : Int) (h0 : 0 ≤ p) (h1 : p ≤ 4611686018427380000) {x : Int} (hx : 0 ≤ x ∧ x ≤ 100) {n : Int} (hn : 1 ≤ n) (hn2 : n ≤ 9) : ∃ a b p' t', spec_l03Near.f l p t x 0 n = some (a, b, p', t') ∧ (x ≤ a ∧ a ≤ x + 8) ∧ (0 ≤ b ∧ b ≤ 8) ∧ p ≤ p' ∧ p' ≤ p + 2 := by
 obtain ⟨v, p1, t1, e, a1, a2, a3, a4⟩ := pick_ok h t h0 (by omega) (n := n) (by omega) (by omega)
 obtain ⟨u, p2, t2, e', b1, b2, b3, b4⟩ := pick_ok h t1 (by omega : 0 ≤ p1) (by omega) (n := n) (by omega) (by omega)
 unfold spec_l03Near.f
 rw [e, Option.bind_some]
 simp only []
 rw [e', Option.bind_some]
 refine ⟨_, _, _, _, rfl, ?_, ?_, by show p ≤ p2; omega, by show p2 ≤ p + 2; omega⟩
 ·
  show x ≤ IntKind.i16.wrap (wrap64 (x + v)) ∧ IntKind.i16.wrap (wrap64 (x + v)) ≤ x + 8
  rw [w64 (by omega) (by omega), w16 (by omega) (by omega)]; omega
 ·
  show 0 ≤ IntKind.i16.wrap (wrap64 (0 + u)) ∧ IntKind.i16.wrap (wrap64 (0 + u)) ≤ 8
  rw [w64 (by omega) (by omega), w16 (by omega) (by omega)]; omega
theorem near_ok {l : List Int} (h : U8 l) {p : Int} (t : Int) (h0 : 0 ≤ p) (h1 : p ≤ 4611686018427380000) {x : Int} (hx : 0 ≤ x ∧ x ≤ 100) : ∃ a b p' t', spec_l03Near.f l p t x 0 9 = some (a, b, p', t') ∧ (x ≤ a ∧ a ≤ x + 8) ∧ (0 ≤ b ∧ b ≤ 8) ∧ p ≤ p' ∧ p' ≤ p + 2 := nearN h t h0 h1 hx (n := 9) (by omega) (by omega)
end Go.Proofs.YthbogbaaikjhbaaGreatDoor.GenKit
namespace Go.Proofs.YthbogbaaikjhbaaGreatDoor.DrawKit
set_option linter.unusedSimpArgs false
set_option linter.unusedVariables false
open Go.RowKit Go.Proofs.YthbogbaaikjhbaaGreatDoor.PA Go.Proofs.YthbogbaaikjhbaaGreatDoor.Base Go.Proofs.YthbogbaaikjhbaaGreatDoor.StonesKit Go.Proofs.YthbogbaaikjhbaaGreatDoor.Geo Go.Proofs.YthbogbaaikjhbaaGreatDoor.SeamKit Go.Proofs.YthbogbaaikjhbaaGreatDoor.GenKit Go.Proofs.YthbogbaaikjhbaaGreatDoor.HullSpec Go.Proofs.YthbogbaaikjhbaaGreatDoorW.PrintWords Go.Proofs.YthbogbaaikjhbaaGreatDoorW.PrintLast Go.Proofs.YthbogbaaikjhbaaGreatDoorW.PrintMore
theorem modn {a n : Nat} (h : a < 2 * n) : a % n = if a < n then a else a - n := by
 split
 ·
  rename_i c; exact Nat.mod_eq_of_lt c
 ·
  rename_i c; rw [Nat.mod_eq_sub_mod (by omega), Nat.mod_eq_of_lt (by omega)]
def rot (m : Nat) (l : List S43) : List S43 := l.drop m ++ l.take m
theorem rot_len {m : Nat} {l : List S43} (h : m ≤ l.length) : (rot m l).length = l.length := by
 unfold rot; rw [List.length_append, List.length_drop, List.length_take]; omega
theorem rot_mem {m : Nat} {l : List S43} {x : S43} : x ∈ rot m l ↔ x ∈ l := by
 unfold rot
 rw [List.mem_append, Or.comm, ← List.mem_append, List.take_append_drop]
theorem rot_at {m : Nat} {l : List S43} (h : m < l.length) {i : Nat} (hi : i < l.length) : at_ (rot m l) i = at_ l ((m + i) % l.length) := by
 unfold at_ rot
 rw [modn (by omega), List.getD_eq_getElem?_getD, List.getD_eq_getElem?_getD]
 by_cases c : m + i < l.length
 ·
  rw [if_pos c, List.getElem?_append_left (by rw [List.length_drop]; omega), List.getElem?_drop]
 ·
  rw [if_neg c, List.getElem?_append_right (by rw [List.length_drop]; omega), List.length_drop, List.getElem?_take, if_pos (by omega)]
  congr 2; omega
theorem rot_conv {m : Nat} {l : List S43} (h : m < l.length) (hc : convB l = true) : convB (rot m l) = true := by
 unfold convB at hc ⊢
 rw [rot_len (by omega)]
 rw [List.all_eq_true] at hc ⊢
 intro i hi
 rw [List.mem_range] at hi
 rw [List.all_eq_true]
 intro j hj
 rw [List.mem_range] at hj
 have hi2 : (m + i) % l.length < l.length := Nat.mod_lt _ (by omega)
 have hj2 : (m + j) % l.length < l.length := Nat.mod_lt _ (by omega)
 have hc1 := hc _ (List.mem_range.2 hi2)
 rw [List.all_eq_true] at hc1
 have hc2 := hc1 _ (List.mem_range.2 hj2)
 have e1 : (m + (i + 1) % l.length) % l.length = ((m + i) % l.length + 1) % l.length := by
  rw [Nat.add_mod_mod, Nat.mod_add_mod, Nat.add_assoc]
 unfold cvx at hc2 ⊢
 rw [rot_len (by omega), rot_at h hi, rot_at h (Nat.mod_lt _ (by omega)), rot_at h hj, e1]
 rw [Bool.or_eq_true, Bool.or_eq_true, decide_eq_true_eq, decide_eq_true_eq, decide_eq_true_eq] at hc2 ⊢
 rcases hc2 with (q | q) | q
 ·
  refine Or.inl (Or.inl ?_)
  rw [modn (by omega), modn (by omega)] at q
  split at q <;> split at q <;> omega
 ·
  refine Or.inl (Or.inr ?_)
  rw [modn (a := i + 1) (by omega)]
  have q2 : (m + j) % l.length = (m + (i + 1) % l.length) % l.length := by rw [e1]; exact q
  rw [modn (a := i + 1) (by omega)] at q2
  split at q2
  ·
   rw [if_pos (by omega)]
   rw [modn (by omega), modn (by omega)] at q2
   split at q2 <;> split at q2 <;> omega
  ·
   rw [if_neg (by omega)]
   rw [modn (by omega), modn (by omega)] at q2
   split at q2 <;> split at q2 <;> omega
 ·
  exact Or.inr q
theorem rot_ok {m : Nat} {l : List S43} (h : m < l.length) (ho : okS l = true) : okS (rot m l) = true := by
 unfold okS at ho ⊢
 rw [Bool.and_eq_true, Bool.and_eq_true] at ho ⊢
 obtain ⟨⟨h1, h2⟩, h3⟩ := ho
 rw [List.all_eq_true] at h2 ⊢
 refine ⟨⟨by rw [rot_len (by omega)]; exact h1, fun x hx => h2 x (rot_mem.1 hx)⟩, rot_conv h h3⟩
theorem rect_ok {x w h : Int} (hx : 0 ≤ x ∧ x ≤ 100) (hw : 1 ≤ w ∧ w ≤ 6) (hh : 1 ≤ h ∧ h ≤ 6) : okS [(⟨x, 0⟩ : S43), ⟨x + w, 0⟩, ⟨x + w, h⟩, ⟨x, h⟩] = true := by
 have hp : 0 < w * h := Int.mul_pos (by omega) (by omega)
 have s0 : Sm (⟨x, 0⟩ : S43) := by unfold Sm; simp only []; omega
 have s1 : Sm (⟨x + w, 0⟩ : S43) := by unfold Sm; simp only []; omega
 have s2 : Sm (⟨x + w, h⟩ : S43) := by unfold Sm; simp only []; omega
 have s3 : Sm (⟨x, h⟩ : S43) := by unfold Sm; simp only []; omega
 unfold okS
 rw [Bool.and_eq_true, Bool.and_eq_true]
 refine ⟨⟨show inB 4 3 8 = true by decide, ?_⟩, ?_⟩
 ·
  rw [List.all_eq_true]
  intro c hc
  rw [placed_sm]
  simp only [List.mem_cons, List.not_mem_nil, or_false] at hc
  rcases hc with rfl | rfl | rfl | rfl <;> assumption
 ·
  have c1 : 0 < sd (⟨x, 0⟩ : S43) ⟨x + w, 0⟩ ⟨x + w, h⟩ := by rw [sd_cr s0 s1 s2, show cr (⟨x, 0⟩ : S43) ⟨x + w, 0⟩ ⟨x + w, h⟩ = w * h by unfold cr; grind]; exact hp
  have c2 : 0 < sd (⟨x, 0⟩ : S43) ⟨x + w, 0⟩ ⟨x, h⟩ := by rw [sd_cr s0 s1 s3, show cr (⟨x, 0⟩ : S43) ⟨x + w, 0⟩ ⟨x, h⟩ = w * h by unfold cr; grind]; exact hp
  have c3 : 0 < sd (⟨x + w, 0⟩ : S43) ⟨x + w, h⟩ ⟨x, 0⟩ := by rw [sd_cr s1 s2 s0, show cr (⟨x + w, 0⟩ : S43) ⟨x + w, h⟩ ⟨x, 0⟩ = w * h by unfold cr; grind]; exact hp
  have c4 : 0 < sd (⟨x + w, 0⟩ : S43) ⟨x + w, h⟩ ⟨x, h⟩ := by rw [sd_cr s1 s2 s3, show cr (⟨x + w, 0⟩ : S43) ⟨x + w, h⟩ ⟨x, h⟩ = w * h by unfold cr; grind]; exact hp
  have c5 : 0 < sd (⟨x + w, h⟩ : S43) ⟨x, h⟩ ⟨x, 0⟩ := by rw [sd_cr s2 s3 s0, show cr (⟨x + w, h⟩ : S43) ⟨x, h⟩ ⟨x, 0⟩ = w * h by unfold cr; grind]; exact hp
  have c6 : 0 < sd (⟨x + w, h⟩ : S43) ⟨x, h⟩ ⟨x + w, 0⟩ := by rw [sd_cr s2 s3 s1, show cr (⟨x + w, h⟩ : S43) ⟨x, h⟩ ⟨x + w, 0⟩ = w * h by unfold cr; grind]; exact hp
  have c7 : 0 < sd (⟨x, h⟩ : S43) ⟨x, 0⟩ ⟨x + w, 0⟩ := by rw [sd_cr s3 s0 s1, show cr (⟨x, h⟩ : S43) ⟨x, 0⟩ ⟨x + w, 0⟩ = w * h by unfold cr; grind]; exact hp
  have c8 : 0 < sd (⟨x, h⟩ : S43) ⟨x, 0⟩ ⟨x + w, h⟩ := by rw [sd_cr s3 s0 s2, show cr (⟨x, h⟩ : S43) ⟨x, 0⟩ ⟨x + w, h⟩ = w * h by unfold cr; grind]; exact hp
  unfold convB
  rw [List.all_eq_true]
  intro i hi
  rw [List.all_eq_true]
  intro j hj
  rw [List.mem_range] at hi hj
  simp only [List.length_cons, List.length_nil] at hi hj
  have hi' : i = 0 ∨ i = 1 ∨ i = 2 ∨ i = 3 := by omega
  have hj' : j = 0 ∨ j = 1 ∨ j = 2 ∨ j = 3 := by omega
  unfold cvx at_
  rcases hi' with rfl | rfl | rfl | rfl <;> rcases hj' with rfl | rfl | rfl | rfl <;> simp [c1, c2, c3, c4, c5, c6, c7, c8]
def Near (x : Int) (l : List S43) : Prop := ∀ c ∈ l, (x ≤ c.f0 ∧ c.f0 ≤ x + 8) ∧ (0 ≤ c.f1 ∧ c.f1 ≤ 8)
structure Drawn (x : Int) (st : List S43) : Prop where
 ok : okS st = true
 len : st.length ≤ 6
 near : Near x st
theorem near_fit {x : Int} (hx : 0 ≤ x ∧ x ≤ 100) {l : List S43} (h : Near x l) : Fit l := by
 intro c hc
 have := h c hc
 omega
theorem drawn_end {l : List Int} (h : U8 l) {x : Int} (hx : 0 ≤ x ∧ x ≤ 100) {acc : List S43} (ha : acc.length ≤ 6) (hn : Near x acc) {p : Int} (t : Int) (h0 : 0 ≤ p) (h1 : p ≤ 4611686018427000000) :
  ∃ st p' t', Ev (fun k => spec_l03Drawn.l0 k x 0 acc 0 l p t) (st, p', t') ∧ Drawn x st ∧ p ≤ p' ∧ p' ≤ p + 3 := by
 have hh := specHull (near_fit hx hn)
 rcases e : hullRes acc with ⟨vs, q⟩
 rw [e] at hh
 by_cases c : q = 0
 ·
  subst c
  obtain ⟨o1, o2, o3, _, _⟩ := hull_ok e
  have hl := okS_len o1
  obtain ⟨v, p', t', e1, v0, v1, p0, p1⟩ := pick_ok h t h0 (by omega) (n := (vs.length : Int)) (by omega) (by omega)
  have hv : v.toNat < vs.length := by omega
  refine ⟨rot v.toNat vs, p', t', ?_, ⟨rot_ok hv o1, by rw [rot_len (by omega)]; omega, fun y hy => hn y (o3 y (rot_mem.1 hy))⟩, p0, by omega⟩
  refine Ev.step (fun k => by rw [spec_l03Drawn.l0]) (Ev.neg (by omega) (Ev.bind hh (Ev.pos rfl (Ev.nobind e1 ?_))))
  refine Ev.nobind rfl (Ev.pos v0 (Ev.pos (by show v ≤ (vs.length : Int); omega) (Ev.nobind rfl (Ev.pos ?_ (Ev.nobind rfl (Ev.nobind rfl (Ev.pos ?_ (Ev.fin rfl))))))))
  ·
   show ([] : List S43).length + (vs.drop v.toNat).length < 35184372088832
   rw [List.length_drop, List.length_nil]; omega
  ·
   show (([] : List S43) ++ vs.drop v.toNat).length + (vs.take v.toNat).length < 35184372088832
   rw [List.nil_append, List.length_drop, List.length_take]; omega
 ·
  obtain ⟨v, p1, t1, e1, v0, v1, a0, a1⟩ := pick_ok h t h0 (by omega) (n := 6) (by omega) (by omega)
  obtain ⟨u, p2, t2, e2, u0, u1, b0, b1⟩ := pick_ok h t1 (by omega : 0 ≤ p1) (by omega) (n := 6) (by omega) (by omega)
  refine ⟨[(⟨x, 0⟩ : S43), ⟨x + (1 + v), 0⟩, ⟨x + (1 + v), 1 + u⟩, ⟨x, 1 + u⟩], p2, t2, ?_, ⟨rect_ok hx (by omega) (by omega), by simp, ?_⟩, by omega, by omega⟩
  ·
   refine Ev.step (fun k => by rw [spec_l03Drawn.l0]) (Ev.neg (by omega) (Ev.bind hh (Ev.neg c (Ev.nobind e1 ?_))))
   refine Ev.nobind e2 ?_
   refine Ev.fin ?_
   simp only []
   rw [w64 (x := 1 + v) (by omega) (by omega), w64 (x := 1 + u) (by omega) (by omega), w64 (x := x + (1 + v)) (by omega) (by omega), w64 (x := 0 + (1 + u)) (by omega) (by omega),
    w16 (x := x) (by omega) (by omega), w16 (x := 0) (by omega) (by omega), w16 (x := x + (1 + v)) (by omega) (by omega), w16 (x := 0 + (1 + u)) (by omega) (by omega), Int.zero_add]
  ·
   intro y hy
   simp only [List.mem_cons, List.not_mem_nil, or_false] at hy
   rcases hy with rfl | rfl | rfl | rfl <;> simp only [] <;> omega
theorem drawn_loop {l : List Int} (h : U8 l) {x : Int} (hx : 0 ≤ x ∧ x ≤ 100) : ∀ (d : Nat) (acc : List S43) (p t : Int), acc.length + d ≤ 6 → Near x acc → 0 ≤ p → p ≤ 4611686018426000000 + 2 * (6 - (d : Int)) →
  ∃ st p' t', Ev (fun k => spec_l03Drawn.l0 k x 0 acc (d : Int) l p t) (st, p', t') ∧ Drawn x st ∧ p ≤ p' ∧ p' ≤ p + 2 * (d : Int) + 3
 | 0, acc, p, t, hl, hn, h0, h1 => by
  obtain ⟨st, p', t', e, e1, e2, e3⟩ := drawn_end h hx (by omega) hn t h0 (by omega)
  exact ⟨st, p', t', e, e1, e2, by omega⟩
 | d + 1, acc, p, t, hl, hn, h0, h1 => by
  obtain ⟨a, b, p1, t1, e, a1, b1, a2, a3⟩ := near_ok h t h0 (by omega) (x := x) hx
  obtain ⟨st, p', t', e', e1, e2, e3⟩ := drawn_loop h hx d (acc ++ [⟨a, b⟩]) p1 t1 (by rw [List.length_append, List.length_singleton]; omega) (fun c hc => by
   rcases List.mem_append.1 hc with hc | hc
   ·
    exact hn c hc
   ·
    rw [List.mem_singleton] at hc; subst hc; exact ⟨a1, b1⟩) (by omega) (by omega)
  refine ⟨st, p', t', ?_, e1, by omega, by omega⟩
  refine Ev.step (fun k => by rw [spec_l03Drawn.l0]) (Ev.pos (by omega) (Ev.nobind e ?_))
  refine Ev.pos (by omega) ?_
  rw [w64 (x := ((d + 1 : Nat) : Int) - 1) (by omega) (by omega), show ((d + 1 : Nat) : Int) - 1 = (d : Int) by omega]
  exact e'
theorem drawn_ok {l : List Int} (h : U8 l) {x : Int} (hx : 0 ≤ x ∧ x ≤ 100) {p : Int} (t : Int) (h0 : 0 ≤ p) (h1 : p ≤ 4611686018425000000) :
  ∃ st p' t', Ev (fun k => spec_l03Drawn.f k l p t x 0) (st, p', t') ∧ Drawn x st ∧ p ≤ p' ∧ p' ≤ p + 16 := by
 obtain ⟨v, p1, t1, e, v0, v1, a0, a1⟩ := pick_ok h t h0 (by omega) (n := 4) (by omega) (by omega)
 obtain ⟨d, hd⟩ : ∃ d : Nat, (d : Int) = 3 + v := ⟨(3 + v).toNat, by omega⟩
 obtain ⟨st, p', t', e', e1, e2, e3⟩ := drawn_loop h hx d [] p1 t1 (by simp; omega) (fun c hc => by simp at hc) (by omega) (by omega)
 refine ⟨st, p', t', ?_, e1, by omega, by omega⟩
 unfold spec_l03Drawn.f
 refine Ev.nobind e ?_
 rw [w64 (x := 3 + (v, p1, t1).1) (by show -9223372036854775808 ≤ 3 + v; omega) (by show 3 + v ≤ 9223372036854775807; omega)]
 show Ev (fun k => spec_l03Drawn.l0 k x 0 [] (3 + v) l p1 t1) _
 rw [← hd]
 exact e'
end Go.Proofs.YthbogbaaikjhbaaGreatDoor.DrawKit
namespace Go.Proofs.YthbogbaaikjhbaaGreatDoor.WhereKit
set_option linter.unusedSimpArgs false
set_option linter.unusedVariables false
open Go.RowKit Go.Proofs.YthbogbaaikjhbaaGreatDoor.PA Go.Proofs.YthbogbaaikjhbaaGreatDoor.Base Go.Proofs.YthbogbaaikjhbaaGreatDoor.StonesKit Go.Proofs.YthbogbaaikjhbaaGreatDoorW.PrintWords Go.Proofs.YthbogbaaikjhbaaGreatDoorW.PrintLast Go.Proofs.YthbogbaaikjhbaaGreatDoorW.PrintMore
def whF (l : List S43) (p : S43) (i : Int) (c : S43) (s : Int) : Int ⊕ Int :=
 if sd c (at_ l ((i.toNat + 1) % l.length)) p < 0 then .inl 0 else if sd c (at_ l ((i.toNat + 1) % l.length)) p = 0 then .inr 1 else .inr s
def wh (l : List S43) (p : S43) : Int := scanG (whF l p) id l 0 2
theorem implWh (l : List S43) (p : S43) (hl : l.length ≤ 1048576) : Ev (fun k => impl_Stone_where.f k l p.f0 p.f1) (wh l p) := by
 unfold impl_Stone_where.f wh
 refine scan_ev0 l (whF l p) id (fun k s i => impl_Stone_where.l0 k l s l (l.length : Int) i p.f0 p.f1) (fun _ _ => True) 2 trivial (fun _ _ _ _ _ _ => trivial) (fun s i h r _ h1 h2 => ?_) (fun s _ => ?_)
 ·
  have hn := nx_lt l i h
  have ht := tm i l.length h hl
  have ha := w64 (x := (i : Int) + 1) (by omega) (by omega)
  refine Ev.step (fun k => by rw [impl_Stone_where.l0]) (Ev.pos (by omega) (Ev.pos (by omega) (Ev.pos (by omega) (Ev.neg (by omega) ?_))))
  rw [ht]
  refine Ev.pos (by omega) (Ev.pos (by omega) ?_)
  rw [rdC l i h, rdC', ha]
  refine Ev.nobind (implSide l[i] (l.getD ((i + 1) % l.length) z43) p) ?_
  unfold whF at_ at h1 h2
  rw [Int.toNat_natCast] at h1 h2
  refine Ev.ite (fun e => Ev.fin (h1 0 (by rw [if_pos e]))) (fun e => Ev.ite (fun e2 => ?_) (fun e2 => ?_))
  ·
   exact h2 1 (by rw [if_neg e, if_pos e2]) trivial
  ·
   exact h2 s (by rw [if_neg e, if_neg e2]) trivial
 ·
  refine Ev.step (fun k => by rw [impl_Stone_where.l0]) ?_
  exact Ev.neg (by omega) (Ev.fin rfl)
end Go.Proofs.YthbogbaaikjhbaaGreatDoor.WhereKit
namespace Go.Proofs.YthbogbaaikjhbaaGreatDoor.AreaKit
set_option linter.unusedSimpArgs false
set_option linter.unusedVariables false
set_option linter.unusedSectionVars false
open Go.RowKit Go.Proofs.YthbogbaaikjhbaaGreatDoor.PA Go.Proofs.YthbogbaaikjhbaaGreatDoor.Base Go.Proofs.YthbogbaaikjhbaaGreatDoor.StonesKit Go.Proofs.YthbogbaaikjhbaaGreatDoor.Geo Go.Proofs.YthbogbaaikjhbaaGreatDoor.SeamKit Go.Proofs.YthbogbaaikjhbaaGreatDoor.HullGeo Go.Proofs.YthbogbaaikjhbaaGreatDoor.HullSpec Go.Proofs.YthbogbaaikjhbaaGreatDoor.DrawKit Go.Proofs.YthbogbaaikjhbaaGreatDoor.WhereKit Go.Proofs.YthbogbaaikjhbaaGreatDoorW.PrintWords Go.Proofs.YthbogbaaikjhbaaGreatDoorW.PrintLast Go.Proofs.YthbogbaaikjhbaaGreatDoorW.PrintMore
theorem ok_smA {l : List S43} (h : okS l = true) {i : Nat} (hi : i < l.length) : Sm (at_ l i) := at_sm h hi
theorem ok_cr {l : List S43} (h : okS l = true) {i j : Nat} (hi : i < l.length) (hj : j < l.length) (h1 : j ≠ i) (h2 : j ≠ (i + 1) % l.length) : 0 < cr (at_ l i) (at_ l ((i + 1) % l.length)) (at_ l j) := by
 have hc := h
 unfold okS convB at hc
 rw [Bool.and_eq_true, List.all_eq_true] at hc
 have hc1 := hc.2 _ (List.mem_range.2 hi)
 rw [List.all_eq_true] at hc1
 have hc2 := hc1 _ (List.mem_range.2 hj)
 unfold cvx at hc2
 rw [decide_eq_false h1, decide_eq_false h2, Bool.false_or, Bool.false_or, decide_eq_true_eq, sd_cr (ok_smA h hi) (ok_smA h (nx_lt l i hi)) (ok_smA h hj)] at hc2
 exact hc2
theorem at_memS {l : List S43} {i : Nat} (h : i < l.length) : at_ l i ∈ l := by
 unfold at_; rw [getC h]; exact List.getElem_mem h
/-- All corners lie on the left of each edge. -/
theorem ok_left {l : List S43} (h : okS l = true) {i : Nat} (hi : i < l.length) {c : S43} (hc : c ∈ l) : 0 ≤ cr (at_ l i) (at_ l ((i + 1) % l.length)) c := by
 obtain ⟨j, hj, rfl⟩ := List.getElem_of_mem hc
 have e : l[j] = at_ l j := by unfold at_; rw [getC hj]
 rw [e]
 by_cases c1 : j = i
 ·
  subst c1; rw [cr_self3]; omega
 ·
  by_cases c2 : j = (i + 1) % l.length
  ·
   subst c2; rw [cr_self2]; omega
  ·
   have := ok_cr h hi hj c1 c2; omega
def xx (p q : S43) : Int := p.f0 * q.f1 - q.f0 * p.f1
/-- The sum of d edges from i on. -/
def sumE (l : List S43) (i : Nat) : Nat → Int
 | 0 => 0
 | d + 1 => sumE l i d + xx (at_ l ((i + d) % l.length)) (at_ l ((i + d + 1) % l.length))
theorem sumE_add (l : List S43) (i d : Nat) : ∀ e, sumE l i (d + e) = sumE l i d + sumE l (i + d) e
 | 0 => by rw [Nat.add_zero, sumE]; omega
 | e + 1 => by rw [← Nat.add_assoc, sumE, sumE, sumE_add l i d e, Nat.add_assoc i d e]; omega
theorem sumE_mod (l : List S43) {i j : Nat} (h : i % l.length = j % l.length) : ∀ d, sumE l i d = sumE l j d
 | 0 => rfl
 | d + 1 => by
  have e1 : (i + d) % l.length = (j + d) % l.length := by rw [Nat.add_mod, h, ← Nat.add_mod]
  have e2 : (i + d + 1) % l.length = (j + d + 1) % l.length := by rw [Nat.add_mod, e1, ← Nat.add_mod]
  rw [sumE, sumE, sumE_mod l h d, e1, e2]
def areaZ (l : List S43) : Int := sumE l 0 l.length
theorem area_rot (l : List S43) (i : Nat) : sumE l i l.length = areaZ l := by
 have h1 := sumE_add l 0 i l.length
 have h2 := sumE_add l 0 l.length i
 rw [Nat.zero_add] at h1 h2
 have h3 := sumE_mod l (i := l.length) (j := 0) (by rw [Nat.mod_self, Nat.zero_mod]) i
 rw [h3] at h2
 rw [Nat.add_comm l.length i] at h2
 unfold areaZ
 omega
theorem xx_small {p q : S43} (hp : Sm p) (hq : Sm q) : (-1000000 ≤ p.f0 * q.f1 ∧ p.f0 * q.f1 ≤ 1000000) ∧ (-1000000 ≤ q.f0 * p.f1 ∧ q.f0 * p.f1 ≤ 1000000) := by
 unfold Sm at hp hq
 have h1 := prod_le (a := p.f0) (b := q.f1) (A := 1000) (B := 1000) (by omega) (by omega) (by omega) (by omega) (by omega) (by omega)
 have h2 := prod_le (a := q.f0) (b := p.f1) (A := 1000) (B := 1000) (by omega) (by omega) (by omega) (by omega) (by omega) (by omega)
 omega
theorem wxx {p q : S43} (hp : Sm p) (hq : Sm q) {s : Int} (h : -100000000 ≤ s ∧ s ≤ 100000000) : wrap64 (s + (wrap64 ((wrap64 ((wrap64 p.f0) * (wrap64 q.f1))) - (wrap64 ((wrap64 q.f0) * (wrap64 p.f1)))))) = s + xx p q := by
 have h2 := xx_small hp hq
 unfold Sm at hp hq
 unfold xx
 rw [w64 (x := p.f0) (by omega) (by omega), w64 (x := p.f1) (by omega) (by omega), w64 (x := q.f0) (by omega) (by omega), w64 (x := q.f1) (by omega) (by omega), w64 (x := p.f0 * q.f1) (by omega) (by omega), w64 (x := q.f0 * p.f1) (by omega) (by omega), w64 (x := p.f0 * q.f1 - q.f0 * p.f1) (by omega) (by omega), w64 (by omega) (by omega)]
theorem sumE_small {l : List S43} (h : okS l = true) (i : Nat) : ∀ d : Nat, -(2000000 * (d : Int)) ≤ sumE l i d ∧ sumE l i d ≤ 2000000 * (d : Int)
 | 0 => by rw [sumE]; omega
 | d + 1 => by
  have hl := okS_len h
  have ih := sumE_small h i d
  have := xx_small (ok_smA h (Nat.mod_lt (i + d) (by omega))) (ok_smA h (Nat.mod_lt (i + d + 1) (by omega)))
  rw [sumE]; unfold xx
  omega
theorem implArea {l : List S43} (h : okS l = true) : Ev (fun k => impl_Stone_area.f k l) (areaZ l) := by
 have hl := okS_len h
 unfold impl_Stone_area.f
 have key : ∀ (d i : Nat), i + d = l.length → Ev (fun k => impl_Stone_area.l0 k l (sumE l 0 i) l (l.length : Int) (i : Int)) (areaZ l) := by
  intro d
  induction d with
  | zero =>
   intro i hi
   refine Ev.step (fun k => by rw [impl_Stone_area.l0]) ?_
   exact Ev.neg (by omega) (Ev.fin (by rw [show i = l.length by omega]; rfl))
  | succ d ih =>
   intro i hi
   have hil : i < l.length := by omega
   have hnl := nx_lt l i hil
   have ht := tm i l.length hil (by omega)
   have hs := sumE_small h 0 i
   have ih := ih (i + 1) (by omega)
   rw [sumE, Nat.zero_add, Nat.mod_eq_of_lt hil] at ih
   refine Ev.step (fun k => by rw [impl_Stone_area.l0]) (Ev.pos (by omega) (Ev.pos (by omega) (Ev.pos (by omega) (Ev.neg (by omega) ?_))))
   rw [ht, w64 (x := (i : Int) + 1) (by omega) (by omega)]
   refine Ev.pos (by omega) (Ev.pos (by omega) ?_)
   rw [rdC', rdC']
   have hx := wxx (ok_smA h hil) (ok_smA h hnl) (s := sumE l 0 i) (by omega)
   unfold at_ at hx
   rw [hx]
   exact ih
 exact key l.length 0 (by omega)
theorem specArea {l : List S43} (h : okS l = true) : Ev (fun k => spec_l03Area.f k l) (areaZ l) := by
 have hl := okS_len h
 unfold spec_l03Area.f
 have key : ∀ (d i : Nat), i + d = l.length → Ev (fun k => spec_l03Area.l0 k l (sumE l 0 i) (i : Int)) (areaZ l) := by
  intro d
  induction d with
  | zero =>
   intro i hi
   refine Ev.step (fun k => by rw [spec_l03Area.l0]) ?_
   exact Ev.neg (by omega) (Ev.fin (by rw [show i = l.length by omega]; rfl))
  | succ d ih =>
   intro i hi
   have hil : i < l.length := by omega
   have hnl := nx_lt l i hil
   have ht := tm i l.length hil (by omega)
   have hs := sumE_small h 0 i
   have ih := ih (i + 1) (by omega)
   rw [sumE, Nat.zero_add, Nat.mod_eq_of_lt hil] at ih
   refine Ev.step (fun k => by rw [spec_l03Area.l0]) (Ev.pos (by omega) ?_)
   refine Ev.nobind (a := (((i + 1) % l.length : Nat) : Int)) (by unfold spec_l03Next.f; rw [if_neg (by omega), ht]) ?_
   refine Ev.pos (by omega) (Ev.pos (by omega) (Ev.pos (by omega) ?_))
   rw [rdC', rdC', w64 (x := (i : Int) + 1) (by omega) (by omega)]
   have hx := wxx (ok_smA h hil) (ok_smA h hnl) (s := sumE l 0 i) (by omega)
   unfold at_ at hx
   rw [hx]
   exact ih
 exact key l.length 0 (by omega)
end Go.Proofs.YthbogbaaikjhbaaGreatDoor.AreaKit
namespace Go.Proofs.YthbogbaaikjhbaaGreatDoor.TurnKit
set_option linter.unusedSimpArgs false
set_option linter.unusedVariables false
set_option linter.unusedSectionVars false
open Go.RowKit Go.Proofs.YthbogbaaikjhbaaGreatDoor.PA Go.Proofs.YthbogbaaikjhbaaGreatDoor.Base Go.Proofs.YthbogbaaikjhbaaGreatDoor.StonesKit Go.Proofs.YthbogbaaikjhbaaGreatDoor.Geo Go.Proofs.YthbogbaaikjhbaaGreatDoor.SeamKit Go.Proofs.YthbogbaaikjhbaaGreatDoor.HullGeo Go.Proofs.YthbogbaaikjhbaaGreatDoor.HullSpec Go.Proofs.YthbogbaaikjhbaaGreatDoor.DrawKit Go.Proofs.YthbogbaaikjhbaaGreatDoor.WhereKit Go.Proofs.YthbogbaaikjhbaaGreatDoorW.PrintWords Go.Proofs.YthbogbaaikjhbaaGreatDoorW.PrintLast Go.Proofs.YthbogbaaikjhbaaGreatDoorW.PrintMore
namespace Mir
def mir (c : S43) : S43 := ⟨IntKind.i16.wrap (-c.f0), c.f1⟩
def res (l : List S43) : List S43 × Int := if okS l = true then ((l.map mir).reverse, 0) else ([], 1)
theorem specRes {l : List S43} (hf : Fit l) (hl : l.length ≤ 1048576) : Ev (fun k => spec_MirrorStone.f k l) (res l) := by
 unfold spec_MirrorStone.f res
 refine Ev.bind (specOk hf) (Ev.ite (fun e => ?_) (fun e => by rw [if_neg e]; exact Ev.fin rfl))
 rw [if_pos e]
 have key : ∀ (d : Nat) (s : List S43), d ≤ l.length → s.length + d = l.length → Ev (fun k => spec_MirrorStone.l0 k l s ((d : Int) - 1)) (s ++ ((l.take d).map mir).reverse, 0) := by
  intro d
  induction d with
  | zero =>
   intro s hd hs
   exact Ev.step (fun k => by rw [spec_MirrorStone.l0]) (Ev.neg (by omega) (Ev.fin (by simp)))
  | succ d ih =>
   intro s hd hs
   have e1 : ((d + 1 : Nat) : Int) - 1 = (d : Int) := by omega
   have ha := w64 (x := (d : Int) - 1) (by omega) (by omega)
   rw [e1]
   refine Ev.step (fun k => by rw [spec_MirrorStone.l0]) (Ev.pos (by omega) (Ev.pos (by omega) (Ev.pos (by omega) (Ev.pos (by omega) ?_))))
   rw [rdC l d (by omega), ha]
   refine Ev.to (ih _ (by omega) (by simp; omega)) ?_
   rw [List.take_succ_eq_append_getElem (by omega), List.map_append, List.reverse_append, List.append_assoc]
   rfl
 rw [w64 (by omega) (by omega)]
 exact Ev.to (key l.length [] (by omega) (by simp)) (by simp)
theorem implRes {l : List S43} (hf : Fit l) (hl : l.length ≤ 1048576) : Ev (fun k => impl_MirrorStone.f k l) (res l) := by
 unfold impl_MirrorStone.f res
 refine Ev.bind (implOk hf) (Ev.ite (fun e => ?_) (fun e => by rw [if_neg e]; exact Ev.fin rfl))
 rw [if_pos e]
 have key : ∀ (d : Nat) (s : List S43), d ≤ l.length → s.length + d = l.length → Ev (fun k => impl_MirrorStone.l0 k l s ((d : Int) - 1)) (s ++ ((l.take d).map mir).reverse, 0) := by
  intro d
  induction d with
  | zero =>
   intro s hd hs
   exact Ev.step (fun k => by rw [impl_MirrorStone.l0]) (Ev.neg (by omega) (Ev.fin (by simp)))
  | succ d ih =>
   intro s hd hs
   have e1 : ((d + 1 : Nat) : Int) - 1 = (d : Int) := by omega
   have ha := w64 (x := (d : Int) - 1) (by omega) (by omega)
   rw [e1]
   refine Ev.step (fun k => by rw [impl_MirrorStone.l0]) (Ev.pos (by omega) (Ev.pos (by omega) (Ev.pos (by omega) (Ev.pos (by omega) ?_))))
   rw [rdC l d (by omega), ha]
   refine Ev.to (ih _ (by omega) (by simp; omega)) ?_
   rw [List.take_succ_eq_append_getElem (by omega), List.map_append, List.reverse_append, List.append_assoc]
   rfl
 rw [w64 (by omega) (by omega)]
 exact Ev.to (key l.length [] (by omega) (by simp)) (by simp)
end Mir
namespace Trn
def trn (c : S43) : S43 := ⟨IntKind.i16.wrap (-c.f1), c.f0⟩
def res (l : List S43) : List S43 × Int := if okS l = true then (l.map trn, 0) else ([], 1)
theorem specRes {l : List S43} (hf : Fit l) (hl : l.length ≤ 1048576) : Ev (fun k => spec_TurnStone.f k l) (res l) := by
 unfold spec_TurnStone.f res
 refine Ev.bind (specOk hf) (Ev.ite (fun e => ?_) (fun e => by rw [if_neg e]; exact Ev.fin rfl))
 rw [if_pos e]
 refine fold_cps0 l (fun c (s : List S43) => s ++ [trn c]) (fun k s i => spec_TurnStone.l0 k l s i) _ (fun i s => s = (l.take i).map trn) [] (by simp) (fun s i h hi => ?_) (fun s i h hi hr => ?_) (fun hi => ?_)
 ·
  rw [hi, List.take_succ_eq_append_getElem h, List.map_append]; rfl
 ·
  have ha := w64 (x := (i : Int) + 1) (by omega) (by omega)
  have hsl : s.length ≤ 1048576 := by rw [hi]; simp; omega
  refine Ev.step (fun k => by rw [spec_TurnStone.l0]) (Ev.pos (by omega) (Ev.pos (by omega) (Ev.pos (by omega) ?_)))
  rw [rdC l i h, ha]; exact hr
 ·
  refine Ev.step (fun k => by rw [spec_TurnStone.l0]) (Ev.neg (by omega) (Ev.fin ?_))
  rw [hi]; simp
theorem implRes {l : List S43} (hf : Fit l) (hl : l.length ≤ 1048576) : Ev (fun k => impl_TurnStone.f k l) (res l) := by
 unfold impl_TurnStone.f res
 refine Ev.bind (implOk hf) (Ev.ite (fun e => ?_) (fun e => by rw [if_neg e]; exact Ev.fin rfl))
 rw [if_pos e]
 refine fold_cps0 l (fun c (s : List S43) => s ++ [trn c]) (fun k s i => impl_TurnStone.l0 k s l (l.length : Int) i) _ (fun i s => s = (l.take i).map trn) [] (by simp) (fun s i h hi => ?_) (fun s i h hi hr => ?_) (fun hi => ?_)
 ·
  rw [hi, List.take_succ_eq_append_getElem h, List.map_append]; rfl
 ·
  have ha := w64 (x := (i : Int) + 1) (by omega) (by omega)
  have hsl : s.length ≤ 1048576 := by rw [hi]; simp; omega
  refine Ev.step (fun k => by rw [impl_TurnStone.l0]) (Ev.pos (by omega) (Ev.pos (by omega) (Ev.pos (by omega) (Ev.pos (by omega) ?_))))
  rw [rdC l i h, ha]; exact hr
 ·
  refine Ev.step (fun k => by rw [impl_TurnStone.l0]) (Ev.neg (by omega) (Ev.fin ?_))
  rw [hi]; simp
end Trn
end Go.Proofs.YthbogbaaikjhbaaGreatDoor.TurnKit
namespace Go.Proofs.YthbogbaaikjhbaaGreatDoor.MoveKit
set_option linter.unusedSimpArgs false
set_option linter.unusedVariables false
set_option linter.unusedSectionVars false
open Go.RowKit Go.Proofs.YthbogbaaikjhbaaGreatDoor.PA Go.Proofs.YthbogbaaikjhbaaGreatDoor.Base Go.Proofs.YthbogbaaikjhbaaGreatDoor.StonesKit Go.Proofs.YthbogbaaikjhbaaGreatDoor.Geo Go.Proofs.YthbogbaaikjhbaaGreatDoor.SeamKit Go.Proofs.YthbogbaaikjhbaaGreatDoor.HullGeo Go.Proofs.YthbogbaaikjhbaaGreatDoor.HullSpec Go.Proofs.YthbogbaaikjhbaaGreatDoor.DrawKit Go.Proofs.YthbogbaaikjhbaaGreatDoor.WhereKit Go.Proofs.YthbogbaaikjhbaaGreatDoorW.PrintWords Go.Proofs.YthbogbaaikjhbaaGreatDoorW.PrintLast Go.Proofs.YthbogbaaikjhbaaGreatDoorW.PrintMore
namespace Mv
def mv (a b : Int) (c : S43) : S43 := ⟨IntKind.i16.wrap (c.f0 + IntKind.i16.wrap a), IntKind.i16.wrap (c.f1 + IntKind.i16.wrap b)⟩
theorem mv_fit (a b : Int) (c : S43) : (-32768 ≤ (mv a b c).f0 ∧ (mv a b c).f0 ≤ 32767) ∧ (-32768 ≤ (mv a b c).f1 ∧ (mv a b c).f1 ≤ 32767) := by
 unfold mv; simp only [w16_def]; omega
def mvF (a b : Int) (_ : Int) (c : S43) (s : List S43) : (List S43 × Int) ⊕ List S43 := if placed (mv a b c) = true then .inr (s ++ [mv a b c]) else .inl ([], 3)
def moved (l : List S43) (a b : Int) : List S43 × Int := scanG (mvF a b) (fun s => (s, 0)) l 0 []
def res (l : List S43) (a b : Int) : List S43 × Int := if okS l then (if inB a (-1000) 1000 && inB b (-1000) 1000 then moved l a b else ([], 2)) else ([], 1)
theorem implMv (l : List S43) (a b : Int) (hl : l.length ≤ 1048576) : Ev (fun k => impl_MoveStone.l0 k a b [] l (l.length : Int) 0) (moved l a b) := by
 unfold moved
 refine scan_ev0 l (mvF a b) (fun s => (s, 0)) (fun k s i => impl_MoveStone.l0 k a b s l (l.length : Int) i) (fun i s => s.length ≤ i) [] (by simp) (fun s i h s' hi e => ?_) (fun s i h r hi h1 h2 => ?_) (fun s _ => ?_)
 ·
  unfold mvF at e; split at e
  ·
   cases e; simp; omega
  ·
   cases e
 ·
  have ha := w64 (x := (i : Int) + 1) (by omega) (by omega)
  refine Ev.step (fun k => by rw [impl_MoveStone.l0]) (Ev.pos (by omega) (Ev.pos (by omega) (Ev.pos (by omega) ?_)))
  rw [rdC l i h, ha]
  refine Ev.nobind (implPlaced (mv_fit a b l[i])) ?_
  unfold mvF at h1 h2
  refine Ev.ite (fun e => Ev.pos (by omega) ?_) (fun e => Ev.fin (h1 _ (by rw [if_neg e])))
  exact h2 _ (by rw [if_pos e]; rfl) (by simp; omega)
 ·
  refine Ev.step (fun k => by rw [impl_MoveStone.l0]) ?_
  exact Ev.neg (by omega) (Ev.fin rfl)
theorem implRes {l : List S43} (hf : Fit l) (a b : Int) (hl : l.length ≤ 1048576) : Ev (fun k => impl_MoveStone.f k l a b) (res l a b) := by
 unfold impl_MoveStone.f res
 have bad : ∀ c : Int, c ≠ 0 → Ev (fun k => impl_MoveStone.j0 k l a b c) ([], c) := by
  intro c hc
  refine Ev.step (fun k => by rw [impl_MoveStone.j0]) ?_
  exact Ev.neg hc (Ev.fin rfl)
 refine Ev.bind (implOk hf) (Ev.nobind (implIn a _ _) ?_)
 cases inB a (-1000) 1000 with
 | false =>
  refine Ev.neg (by simp) (Ev.nobind (codeOf _ _) ?_)
  cases okS l with
  | false => exact bad 1 (by decide)
  | true => exact bad 2 (by decide)
 | true =>
  refine Ev.pos rfl (Ev.nobind (implIn b _ _) (Ev.nobind (codeOf _ _) ?_))
  cases okS l with
  | false => exact bad 1 (by decide)
  | true =>
   cases inB b (-1000) 1000 with
   | false => exact bad 2 (by decide)
   | true =>
    refine Ev.step (fun k => by rw [impl_MoveStone.j0]) ?_
    exact Ev.pos rfl (implMv l a b hl)
end Mv
namespace Bx
structure B4 where
 a : Int
 b : Int
 c : Int
 d : Int
def grow (s : B4) (p : S43) : B4 := ⟨mn s.a (wrap64 p.f0), mn s.b (wrap64 p.f1), mx s.c (wrap64 p.f0), mx s.d (wrap64 p.f1)⟩
def start (p : S43) : B4 := ⟨wrap64 p.f0, wrap64 p.f1, wrap64 p.f0, wrap64 p.f1⟩
def box (l : List S43) : B4 := (l.drop 1).foldl grow (start (l.getD 0 z43))
theorem same (p : S43) : grow (start p) p = start p := by
 unfold grow start mn mx
 simp
def tell (s : B4) (e : Int) : Int × Int × Int × Int × Int := (s.a, s.b, s.c, s.d, e)
theorem implLoop (l : List S43) (hl : l.length ≤ 1048576) : ∀ (d i : Nat) (s : B4), i + d = l.length → Ev (fun k => impl_BoxOf.l0 k l (l.length : Int) (i : Int) s.a s.b s.c s.d) (tell ((l.drop i).foldl grow s) 0) := by
 intro d
 induction d with
 | zero =>
  intro i s h
  rw [List.drop_of_length_le (by omega)]
  refine Ev.step (fun k => by rw [impl_BoxOf.l0]) ?_
  exact Ev.neg (by omega) (Ev.fin rfl)
 | succ d ih =>
  intro i s h
  have hi : i < l.length := by omega
  have hw := w64 (x := (i : Int) + 1) (by omega) (by omega)
  rw [drop_at l i hi, List.foldl_cons]
  refine Ev.step (fun k => by rw [impl_BoxOf.l0]) (Ev.pos (by omega) (Ev.pos (by omega) (Ev.pos (by omega) ?_)))
  rw [rdC l i hi, hw]
  exact ih (i + 1) (grow s l[i]) (by omega)
end Bx
namespace Fst
theorem rdS (xs : List (List S43)) (i : Nat) : rd_L4 xs (i : Int) = xs.getD i [] := by simp [rd_L4]
theorem getS {xs : List (List S43)} {i : Nat} (h : i < xs.length) : xs.getD i [] = xs[i] := by
 rw [List.getD_eq_getElem?_getD, List.getElem?_eq_getElem h]; rfl
theorem flat_take (bars : List (List S43)) (i : Nat) (h : i < bars.length) : (bars.take (i + 1)).flatten = (bars.take i).flatten ++ bars.getD i [] := by
 rw [List.take_succ_eq_append_getElem h, List.flatten_append, getS h]; simp
theorem flat_le (bars : List (List S43)) (i : Nat) : (bars.take i).flatten.length ≤ bars.flatten.length := by
 have : bars.flatten = (bars.take i).flatten ++ (bars.drop i).flatten := by rw [← List.flatten_append, List.take_append_drop]
 rw [this, List.length_append]; omega
theorem flat_all (bars : List (List S43)) : (bars.take bars.length).flatten = bars.flatten := by rw [List.take_length]
theorem concat (bars : List (List S43)) (hl : bars.length ≤ 1048576) (hf : bars.flatten.length < 1048576) : Ev (fun k => impl_Corner_73.f k bars) bars.flatten := by
 unfold impl_Corner_73.f
 have key2 : ∀ d i : Nat, i + d = bars.length → Ev (fun k => impl_Corner_73.l1 k (bars.take i).flatten bars (bars.length : Int) (i : Int)) bars.flatten := by
  intro d
  induction d with
  | zero =>
   intro i h
   obtain rfl : i = bars.length := by omega
   refine Ev.step (fun k => by rw [impl_Corner_73.l1]) ?_
   exact Ev.neg (by omega) (Ev.fin (flat_all bars))
  | succ d ih =>
   intro i h
   have h1 := flat_le bars (i + 1)
   have h2 := flat_take bars i (by omega)
   have h3 : (bars.take i).flatten.length + (bars.getD i []).length = (bars.take (i + 1)).flatten.length := by rw [h2, List.length_append]
   have ha := w64 (x := (i : Int) + 1) (by omega) (by omega)
   refine Ev.step (fun k => by rw [impl_Corner_73.l1]) ?_
   rw [rdS bars i, ha, ← h2]
   exact Ev.pos (by omega) (Ev.pos (by omega) (Ev.pos (by omega) (Ev.pos (by omega) (ih (i + 1) (by omega)))))
 have key1 : ∀ d i : Nat, i + d = bars.length → Ev (fun k => impl_Corner_73.l0 k bars ((bars.take i).flatten.length : Int) bars (bars.length : Int) (i : Int)) bars.flatten := by
  intro d
  induction d with
  | zero =>
   intro i h
   obtain rfl : i = bars.length := by omega
   refine Ev.step (fun k => by rw [impl_Corner_73.l0]) ?_
   rw [flat_all]
   refine Ev.neg (by omega) (Ev.nobind (a := []) ?_ ?_)
   ·
    unfold impl_Corner_89.f
    rw [if_pos (by omega), if_pos (by omega)]
   ·
    have := key2 bars.length 0 (by omega)
    simpa using this
  | succ d ih =>
   intro i h
   have h1 := flat_le bars (i + 1)
   have h2 := flat_take bars i (by omega)
   have h3 : (bars.take i).flatten.length + (bars.getD i []).length = (bars.take (i + 1)).flatten.length := by rw [h2, List.length_append]
   have ha := w64 (x := (i : Int) + 1) (by omega) (by omega)
   have hb : wrap64 (((bars.take i).flatten.length : Int) + ((bars.getD i []).length : Int)) = ((bars.take (i + 1)).flatten.length : Int) := by
    rw [w64 (by omega) (by omega)]; omega
   refine Ev.step (fun k => by rw [impl_Corner_73.l0]) ?_
   rw [rdS bars i, ha, hb]
   exact Ev.pos (by omega) (Ev.pos (by omega) (Ev.pos (by omega) (Ev.neg (by omega) (ih (i + 1) (by omega)))))
 have := key1 bars.length 0 (by omega)
 simpa using this
def less (a b : S43) : Bool := decide (a.f0 < b.f0) || (decide (a.f0 = b.f0) && decide (a.f1 < b.f1))
theorem implLess (a b : S43) : impl_cornerLess.f a.f0 a.f1 b.f0 b.f1 = some (less a b) := by
 unfold impl_cornerLess.f less
 by_cases c : a.f0 < b.f0
 ·
  rw [if_pos c, decide_eq_true c]; rfl
 ·
  rw [if_neg c, decide_eq_false c]
  by_cases d : a.f0 = b.f0
  ·
   rw [if_pos d, decide_eq_true d]; rfl
  ·
   rw [if_neg d, decide_eq_false d]; rfl
theorem specLess (a b : S43) : spec_l03Before.f a.f0 a.f1 b.f0 b.f1 = some (less a b) := implLess a b
theorem less_self (a : S43) : less a a = false := by unfold less; simp
def step (l : List S43) (i : Nat) (at_' : Nat) : Nat := if less (l.getD i z43) (l.getD at_' z43) = true then i else at_'
def firstAt (l : List S43) : Nat := iter (step l) (l.length - 1) 1 0
theorem step_lt {l : List S43} {i s : Nat} (hi : i < l.length) (hs : s < l.length) : step l i s < l.length := by unfold step; split <;> assumption
def turned (l : List S43) : List S43 := l.drop (firstAt l) ++ l.take (firstAt l)
theorem turned_length (l : List S43) : (turned l).length ≤ l.length + l.length := by unfold turned; simp; omega
theorem specFirst {l : List S43} (h1 : 1 ≤ l.length) (hl : l.length ≤ 8) : Ev (fun k => spec_l03First.f k l) (turned l) := by
 unfold spec_l03First.f
 refine iter_cps l.length (step l) (fun k s i => spec_l03First.l0 k l (s : Int) i) _ (fun _ s => s < l.length) (fun s i hi h => step_lt hi h) (fun s i hi h hr => ?_) (l.length - 1) 1 0 (by omega) (by omega) (fun hv => ?_)
 ·
  refine Ev.step (fun k => by rw [spec_l03First.l0]) (Ev.pos (by omega) (Ev.pos (by omega) (Ev.pos (by omega) (Ev.pos (by omega) ?_))))
  rw [rdC' l i, rdC' l s, w64 (x := (i : Int) + 1) (by omega) (by omega)]
  refine Ev.nobind (specLess _ _) ?_
  unfold step at hr
  refine Ev.ite (fun c => ?_) (fun c => ?_)
  ·
   rw [if_pos c] at hr; exact hr
  ·
   rw [if_neg c] at hr; exact hr
 ·
  have hf : iter (step l) (l.length - 1) 1 0 = firstAt l := rfl
  rw [hf] at hv ⊢
  unfold turned
  refine Ev.step (fun k => by rw [spec_l03First.l0]) (Ev.neg (by omega) ?_)
  rw [Int.toNat_natCast]
  exact Ev.nobind (a := []) rfl (Ev.pos (by omega) (Ev.pos (by omega) (Ev.nobind rfl (Ev.pos (by simp; omega) (Ev.nobind rfl (Ev.nobind rfl (Ev.pos (by simp; omega) (Ev.fin (by simp)))))))))
theorem implFirst {l : List S43} (h1 : 1 ≤ l.length) (hl : l.length ≤ 8) : Ev (fun k => impl_FirstStone.l0 k l 0 l (l.length : Int) 0) (turned l, 0) := by
 have h0 : step l 0 0 = 0 := by unfold step; rw [less_self, if_neg (by decide)]
 have hf : iter (step l) l.length 0 0 = firstAt l := by
  obtain ⟨n, hn⟩ : ∃ n, l.length = n + 1 := ⟨l.length - 1, by omega⟩
  unfold firstAt
  rw [hn, iter, h0]; rfl
 refine iter_cps0 l.length (step l) (fun k s i => impl_FirstStone.l0 k l (s : Int) l (l.length : Int) i) _ (fun _ s => s < l.length) 0 (by omega) (fun s i hi h => step_lt hi h) (fun s i hi h hr => ?_) (fun hv => ?_)
 ·
  refine Ev.step (fun k => by rw [impl_FirstStone.l0]) (Ev.pos (by omega) (Ev.pos (by omega) (Ev.pos (by omega) (Ev.pos (by omega) (Ev.pos (by omega) ?_)))))
  rw [rdC' l i, rdC' l s, w64 (x := (i : Int) + 1) (by omega) (by omega)]
  refine Ev.nobind (implLess _ _) ?_
  unfold step at hr
  refine Ev.ite (fun c => ?_) (fun c => ?_)
  ·
   rw [if_pos c] at hr; exact hr
  ·
   rw [if_neg c] at hr; exact hr
 ·
  rw [hf] at hv ⊢
  refine Ev.step (fun k => by rw [impl_FirstStone.l0]) (Ev.neg (by omega) ?_)
  have hfrom : Ev (fun k => impl_Stone_from.f k l (firstAt l : Int)) (turned l) := by
   unfold impl_Stone_from.f turned
   refine Ev.pos (by omega) (Ev.pos (by omega) ?_)
   rw [Int.toNat_natCast]
   have hc := concat [l.drop (firstAt l), l.take (firstAt l)] (by simp) (by simp; omega)
   refine Ev.bind hc (Ev.fin (by simp))
  exact Ev.bind hfrom (Ev.fin rfl)
def res (l : List S43) : List S43 × Int := if okS l then (turned l, 0) else ([], 1)
theorem specRes {l : List S43} (hf : Fit l) : Ev (fun k => spec_FirstStone.f k l) (res l) := by
 unfold spec_FirstStone.f res
 refine Ev.bind (specOk hf) ?_
 cases e : okS l with
 | false => exact Ev.neg (by decide) (Ev.fin rfl)
 | true =>
  have h := okS_len e
  exact Ev.pos rfl (Ev.bind (specFirst (by omega) h.2) (Ev.fin rfl))
theorem implRes {l : List S43} (hf : Fit l) : Ev (fun k => impl_FirstStone.f k l) (res l) := by
 unfold impl_FirstStone.f res
 refine Ev.bind (implOk hf) ?_
 cases e : okS l with
 | false => exact Ev.neg (by decide) (Ev.fin rfl)
 | true =>
  have h := okS_len e
  exact Ev.pos rfl (implFirst (by omega) h.2)
end Fst
end Go.Proofs.YthbogbaaikjhbaaGreatDoor.MoveKit
namespace Go.Proofs.YthbogbaaikjhbaaGreatDoor.ShapeKit
set_option linter.unusedSimpArgs false
set_option linter.unusedVariables false
set_option linter.unusedSectionVars false
open Go.RowKit Go.Proofs.YthbogbaaikjhbaaGreatDoor.PA Go.Proofs.YthbogbaaikjhbaaGreatDoor.Base Go.Proofs.YthbogbaaikjhbaaGreatDoor.StonesKit Go.Proofs.YthbogbaaikjhbaaGreatDoor.Geo Go.Proofs.YthbogbaaikjhbaaGreatDoor.SeamKit Go.Proofs.YthbogbaaikjhbaaGreatDoor.HullGeo Go.Proofs.YthbogbaaikjhbaaGreatDoor.HullSpec Go.Proofs.YthbogbaaikjhbaaGreatDoor.AreaKit Go.Proofs.YthbogbaaikjhbaaGreatDoor.TurnKit Go.Proofs.YthbogbaaikjhbaaGreatDoor.MoveKit Go.Proofs.YthbogbaaikjhbaaGreatDoorW.PrintWords Go.Proofs.YthbogbaaikjhbaaGreatDoorW.PrintLast Go.Proofs.YthbogbaaikjhbaaGreatDoorW.PrintMore
theorem okS_of {l : List S43} (h3 : 3 ≤ l.length) (h8 : l.length ≤ 8) (hs : ∀ c ∈ l, Sm c) (hc : ∀ i j, i < l.length → j < l.length → j ≠ i → j ≠ (i + 1) % l.length → 0 < cr (at_ l i) (at_ l ((i + 1) % l.length)) (at_ l j)) : okS l = true := by
 unfold okS
 rw [Bool.and_eq_true, Bool.and_eq_true, inB_iff]
 refine ⟨⟨by omega, ?_⟩, ?_⟩
 ·
  rw [List.all_eq_true]
  exact fun c hm => placed_sm.2 (hs c hm)
 ·
  unfold convB
  rw [List.all_eq_true]
  intro i hi
  rw [List.all_eq_true]
  intro j hj
  rw [List.mem_range] at hi hj
  unfold cvx
  rw [Bool.or_eq_true, Bool.or_eq_true, decide_eq_true_eq, decide_eq_true_eq, decide_eq_true_eq]
  by_cases e1 : j = i
  ·
   exact Or.inl (Or.inl e1)
  ·
   by_cases e2 : j = (i + 1) % l.length
   ·
    exact Or.inl (Or.inr e2)
   ·
    right
    have hn := nx_lt l i hi
    rw [sd_cr (hs _ (at_memS hi)) (hs _ (at_memS hn)) (hs _ (at_memS hj))]
    exact hc i j hi hj e1 e2
theorem map_at (f : S43 → S43) (l : List S43) {i : Nat} (h : i < l.length) : at_ (l.map f) i = f (at_ l i) := by
 unfold at_
 rw [getC (by rw [List.length_map]; exact h), getC h, List.getElem_map]
theorem okS_map (f : S43 → S43) {l : List S43} (h : okS l = true) (hs : ∀ c ∈ l, Sm (f c)) (hc : ∀ a b c, a ∈ l → b ∈ l → c ∈ l → cr (f a) (f b) (f c) = cr a b c) : okS (l.map f) = true := by
 have hl := okS_len h
 refine okS_of (by rw [List.length_map]; omega) (by rw [List.length_map]; omega) (fun c hm => ?_) (fun i j hi hj e1 e2 => ?_)
 ·
  obtain ⟨x, hx, rfl⟩ := List.mem_map.1 hm
  exact hs x hx
 ·
  rw [List.length_map] at hi hj e2 ⊢
  have hn := nx_lt l i hi
  rw [map_at f l hi, map_at f l hn, map_at f l hj, hc _ _ _ (at_memS hi) (at_memS hn) (at_memS hj)]
  exact ok_cr h hi hj e1 e2
theorem sumE_map (f : S43 → S43) {l : List S43} (h : 1 ≤ l.length) (hx : ∀ a b, a ∈ l → b ∈ l → xx (f a) (f b) = xx a b) (i : Nat) : ∀ d, sumE (l.map f) i d = sumE l i d
 | 0 => rfl
 | d + 1 => by
  have h1 : (i + d) % l.length < l.length := Nat.mod_lt _ (by omega)
  have h2 : (i + d + 1) % l.length < l.length := Nat.mod_lt _ (by omega)
  rw [sumE, sumE, sumE_map f h hx i d, List.length_map, map_at f l h1, map_at f l h2, hx _ _ (at_memS h1) (at_memS h2)]
theorem area_map (f : S43 → S43) {l : List S43} (h : 1 ≤ l.length) (hx : ∀ a b, a ∈ l → b ∈ l → xx (f a) (f b) = xx a b) : areaZ (l.map f) = areaZ l := by
 unfold areaZ
 rw [List.length_map]
 exact sumE_map f h hx 0 l.length
theorem trn_is {c : S43} (h : Sm c) : Trn.trn c = ⟨-c.f1, c.f0⟩ := by
 unfold Sm at h
 unfold Trn.trn
 rw [w16 (by omega) (by omega)]
theorem trn_sm {c : S43} (h : Sm c) : Sm (Trn.trn c) := by
 rw [trn_is h]
 unfold Sm at h ⊢
 dsimp only
 omega
theorem turn_ok {l : List S43} (h : okS l = true) : okS (l.map Trn.trn) = true := by
 have hs := ok_sm h
 refine okS_map _ h (fun c hm => trn_sm (hs c hm)) (fun a b c ha hb hc => ?_)
 rw [trn_is (hs a ha), trn_is (hs b hb), trn_is (hs c hc)]
 unfold cr; grind
theorem turn_area {l : List S43} (h : okS l = true) : areaZ (l.map Trn.trn) = areaZ l := by
 have hs := ok_sm h
 have hl := okS_len h
 refine area_map _ (by omega) (fun a b ha hb => ?_)
 rw [trn_is (hs a ha), trn_is (hs b hb)]
 unfold xx; grind
theorem turn4 {l : List S43} (hs : ∀ c ∈ l, Sm c) : (((l.map Trn.trn).map Trn.trn).map Trn.trn).map Trn.trn = l := by
 rw [List.map_map, List.map_map, List.map_map]
 refine (List.map_congr_left (fun c hm => ?_)).trans (List.map_id l)
 have h0 := hs c hm
 have h1 := trn_sm h0
 have h2 := trn_sm h1
 have h3 := trn_sm h2
 show Trn.trn (Trn.trn (Trn.trn (Trn.trn c))) = c
 rw [trn_is h3, trn_is h2, trn_is h1, trn_is h0]
 simp
theorem mv_is {a b : Int} {c : S43} (h : Sm c) (ha : -100 ≤ a ∧ a ≤ 100) (hb : -100 ≤ b ∧ b ≤ 100) : Mv.mv a b c = ⟨c.f0 + a, c.f1 + b⟩ := by
 unfold Sm at h
 unfold Mv.mv
 rw [w16 (x := a) (by omega) (by omega), w16 (x := b) (by omega) (by omega), w16 (by omega) (by omega), w16 (by omega) (by omega)]
theorem move_ok {l : List S43} (h : okS l = true) {a b : Int} (ha : -100 ≤ a ∧ a ≤ 100) (hb : -100 ≤ b ∧ b ≤ 100) (hm : ∀ c ∈ l, Sm (Mv.mv a b c)) : okS (l.map (Mv.mv a b)) = true := by
 have hs := ok_sm h
 refine okS_map _ h hm (fun p q r hp hq hr => ?_)
 rw [mv_is (hs p hp) ha hb, mv_is (hs q hq) ha hb, mv_is (hs r hr) ha hb]
 unfold cr; grind
theorem move_all {a b : Int} : ∀ (xs : List S43) (i : Int) (s : List S43), (∀ c ∈ xs, Sm (Mv.mv a b c)) → scanG (Mv.mvF a b) (fun s => (s, (0 : Int))) xs i s = (s ++ xs.map (Mv.mv a b), 0)
 | [], i, s, _ => by simp [scanG]
 | x :: xs, i, s, h => by
  have e : Mv.mvF a b i x s = .inr (s ++ [Mv.mv a b x]) := by
   unfold Mv.mvF
   rw [if_pos (placed_sm.2 (h x List.mem_cons_self))]
  rw [scanG, e]
  show scanG (Mv.mvF a b) (fun s => (s, (0 : Int))) xs (i + 1) (s ++ [Mv.mv a b x]) = _
  rw [move_all xs (i + 1) _ (fun c hc => h c (List.mem_cons_of_mem _ hc))]
  simp
theorem implMove {l : List S43} (h : okS l = true) {a b : Int} (ha : -100 ≤ a ∧ a ≤ 100) (hb : -100 ≤ b ∧ b ≤ 100) (hm : ∀ c ∈ l, Sm (Mv.mv a b c)) : Ev (fun k => impl_MoveStone.f k l a b) (l.map (Mv.mv a b), 0) := by
 have hl := okS_len h
 have hf : Fit l := fun c hc => by
  have := ok_sm h c hc
  unfold Sm at this; omega
 refine Ev.to (Mv.implRes hf a b (by omega)) ?_
 unfold Mv.res Mv.moved
 rw [if_pos h, if_pos (by rw [Bool.and_eq_true, inB_iff, inB_iff]; omega), move_all l 0 [] hm]
 simp
theorem move_back {l : List S43} (hs : ∀ c ∈ l, Sm c) {a : Int} (ha : -100 ≤ a ∧ a ≤ 100) (hm : ∀ c ∈ l, Sm (Mv.mv a (-a) c)) : (l.map (Mv.mv a (-a))).map (Mv.mv (-a) a) = l := by
 rw [List.map_map]
 refine (List.map_congr_left (fun c hc => ?_)).trans (List.map_id l)
 have h0 := hs c hc
 have h1 := hm c hc
 show Mv.mv (-a) a (Mv.mv a (-a) c) = c
 rw [mv_is h1 (by omega) (by omega), mv_is h0 (by omega) (by omega)]
 cases c
 simp only [S43.mk.injEq]
 omega
theorem mir_is {c : S43} (h : Sm c) : Mir.mir c = ⟨-c.f0, c.f1⟩ := by
 unfold Sm at h
 unfold Mir.mir
 rw [w16 (by omega) (by omega)]
theorem mir_sm {c : S43} (h : Sm c) : Sm (Mir.mir c) := by
 rw [mir_is h]
 unfold Sm at h ⊢
 dsimp only
 omega
def mirS (l : List S43) : List S43 := (l.map Mir.mir).reverse
theorem mirS_len (l : List S43) : (mirS l).length = l.length := by unfold mirS; simp
theorem mirS_at {l : List S43} {i : Nat} (h : i < l.length) : at_ (mirS l) i = Mir.mir (at_ l (l.length - 1 - i)) := by
 have h1 := mirS_len l
 unfold at_
 rw [getC (by omega), getC (by omega)]
 unfold mirS
 rw [List.getElem_reverse, List.getElem_map]
 simp only [List.length_map]
theorem mirS_mem {l : List S43} {c : S43} : c ∈ mirS l ↔ ∃ x ∈ l, Mir.mir x = c := by unfold mirS; rw [List.mem_reverse, List.mem_map]
/-- The edge that an edge of the mirrored stone comes of. -/
theorem edge_of {n i : Nat} (h : i < n) : ∃ m, m < n ∧ n - 1 - i = (m + 1) % n ∧ n - 1 - (i + 1) % n = m := by
 by_cases c : i + 1 < n
 ·
  refine ⟨n - 2 - i, by omega, ?_, ?_⟩
  ·
   rw [Nat.mod_eq_of_lt (by omega)]; omega
  ·
   rw [Nat.mod_eq_of_lt c]; omega
 ·
  obtain rfl : n = i + 1 := by omega
  refine ⟨i, by omega, ?_, ?_⟩
  ·
   rw [Nat.mod_self]; omega
  ·
   rw [Nat.mod_self]; omega
theorem mir_ok {l : List S43} (h : okS l = true) : okS (mirS l) = true := by
 have hl := okS_len h
 have hs := ok_sm h
 have hn := mirS_len l
 refine okS_of (by omega) (by omega) (fun c hm => ?_) (fun i j hi hj e1 e2 => ?_)
 ·
  obtain ⟨x, hx, rfl⟩ := mirS_mem.1 hm
  exact mir_sm (hs x hx)
 ·
  rw [hn] at hi hj e2 ⊢
  have hni := nx_lt l i hi
  rw [mirS_at hi, mirS_at hni, mirS_at hj]
  obtain ⟨m, hm, q1, q2⟩ := edge_of hi
  have hj' : l.length - 1 - j < l.length := by omega
  have hnm := nx_lt l m hm
  have c := ok_cr h hm hj' (fun e => e2 (by omega)) (fun e => e1 (by omega))
  rw [q1, q2, mir_is (hs _ (at_memS hnm)), mir_is (hs _ (at_memS hm)), mir_is (hs _ (at_memS hj'))]
  generalize at_ l m = a at c ⊢
  generalize at_ l ((m + 1) % l.length) = b at c ⊢
  generalize at_ l (l.length - 1 - j) = d at c ⊢
  have e : cr (⟨-b.f0, b.f1⟩ : S43) ⟨-a.f0, a.f1⟩ ⟨-d.f0, d.f1⟩ = cr a b d := by unfold cr; grind
  rw [e]
  exact c
theorem mir_sum {l : List S43} (h : okS l = true) : ∀ d, d ≤ l.length → sumE (mirS l) 0 d = sumE l (2 * l.length - 1 - d) d
 | 0, _ => rfl
 | d + 1, hd => by
  have hl := okS_len h
  have hs := ok_sm h
  have ih := mir_sum h d (by omega)
  have hi : d < l.length := by omega
  have hni := nx_lt l d hi
  obtain ⟨m, hm, q1, q2⟩ := edge_of hi
  have hnm := nx_lt l m hm
  have e1 := sumE_add l (2 * l.length - 1 - (d + 1)) 1 d
  rw [show 2 * l.length - 1 - (d + 1) + 1 = 2 * l.length - 1 - d by omega, ← ih, Nat.add_comm 1 d] at e1
  rw [e1, sumE, mirS_len, Nat.zero_add, Nat.mod_eq_of_lt hi, mirS_at hi, mirS_at hni, q1, q2, mir_is (hs _ (at_memS hnm)), mir_is (hs _ (at_memS hm))]
  have e2 : sumE l (2 * l.length - 1 - (d + 1)) 1 = xx (at_ l m) (at_ l ((m + 1) % l.length)) := by
   rw [sumE, sumE, Int.zero_add, Nat.add_zero]
   have m1 : (2 * l.length - 1 - (d + 1)) % l.length = m := by
    by_cases c : d + 1 < l.length
    ·
     rw [Nat.mod_eq_of_lt c] at q2
     rw [show 2 * l.length - 1 - (d + 1) = (l.length - 1 - (d + 1)) + l.length by omega, Nat.add_mod_right, Nat.mod_eq_of_lt (by omega)]
     exact q2
    ·
     rw [show d + 1 = l.length by omega, Nat.mod_self] at q2
     rw [Nat.mod_eq_of_lt (by omega)]
     omega
   have m2 : (2 * l.length - 1 - (d + 1) + 1) % l.length = (m + 1) % l.length := by rw [Nat.add_mod, m1, ← Nat.add_mod_left, Nat.add_mod_left]; simp [Nat.add_mod]
   rw [m1, m2]
  rw [e2]
  generalize at_ l m = a
  generalize at_ l ((m + 1) % l.length) = b
  unfold xx
  dsimp only
  grind
theorem mir_area {l : List S43} (h : okS l = true) : areaZ (mirS l) = areaZ l := by
 have hl := okS_len h
 have e := mir_sum h l.length (Nat.le_refl _)
 unfold areaZ at e ⊢
 rw [mirS_len, e, show 2 * l.length - 1 - l.length = l.length - 1 by omega]
 exact area_rot l (l.length - 1)
theorem mir_mir {l : List S43} (hs : ∀ c ∈ l, Sm c) : mirS (mirS l) = l := by
 unfold mirS
 rw [List.map_reverse, List.reverse_reverse, List.map_map]
 refine (List.map_congr_left (fun c hm => ?_)).trans (List.map_id l)
 have h0 := hs c hm
 show Mir.mir (Mir.mir c) = c
 rw [mir_is (mir_sm h0), mir_is h0]
 simp
theorem fan {l : List S43} (h : okS l = true) : ∀ d, d + 2 ≤ l.length → 1 ≤ sumE l 0 (d + 2) - xx (at_ l 0) (at_ l ((d + 2) % l.length)) := by
 have hl := okS_len h
 have tri : ∀ o u v : S43, xx u v - xx o v + xx o u = cr u v o := fun o u v => by unfold xx cr; grind
 intro d
 induction d with
 | zero =>
  intro _
  have c := ok_cr h (i := 1) (j := 0) (by omega) (by omega) (by omega) (by
   intro e
   by_cases q : l.length = 2
   ·
    omega
   ·
    rw [Nat.mod_eq_of_lt (by omega)] at e; omega)
  have t := tri (at_ l 0) (at_ l 1) (at_ l ((1 + 1) % l.length))
  have e0 : sumE l 0 (0 + 2) = xx (at_ l 0) (at_ l 1) + xx (at_ l 1) (at_ l ((1 + 1) % l.length)) := by
   rw [sumE, sumE, sumE, Int.zero_add, Nat.zero_add, Nat.zero_mod, Nat.zero_add, Nat.mod_eq_of_lt (show 1 < l.length by omega)]
  rw [e0, show 0 + 2 = 1 + 1 from rfl]
  omega
 | succ d ih =>
  intro hd
  have ih := ih (by omega)
  have hi : (d + 2) % l.length < l.length := Nat.mod_lt _ (by omega)
  have c := ok_left h hi (c := at_ l 0) (at_memS (by omega))
  have t := tri (at_ l 0) (at_ l ((d + 2) % l.length)) (at_ l (((d + 2) % l.length + 1) % l.length))
  have m : ((d + 2) % l.length + 1) % l.length = (d + 1 + 2) % l.length := by rw [Nat.mod_add_mod]
  rw [m] at t c
  have e : sumE l 0 (d + 1 + 2) = sumE l 0 (d + 2) + xx (at_ l ((d + 2) % l.length)) (at_ l ((d + 1 + 2) % l.length)) := by
   rw [show d + 1 + 2 = (d + 2) + 1 by omega, sumE, Nat.zero_add]
  rw [e]
  omega
theorem area_pos {l : List S43} (h : okS l = true) : 1 ≤ areaZ l := by
 have hl := okS_len h
 obtain ⟨d, hd⟩ : ∃ d, l.length = d + 2 := ⟨l.length - 2, by omega⟩
 have f := fan h d (by omega)
 rw [← hd, Nat.mod_self] at f
 have z : xx (at_ l 0) (at_ l 0) = 0 := by unfold xx; omega
 unfold areaZ
 omega
end Go.Proofs.YthbogbaaikjhbaaGreatDoor.ShapeKit
namespace Go.Proofs.YthbogbaaikjhbaaGreatDoor.PlainRead
set_option linter.unusedSimpArgs false
set_option linter.unusedVariables false
open Go.Lib
/-- The words of a text between the bytes c; acc: what of the present word has been met. -/
def parts (c : UInt8) : List UInt8 → List UInt8 → List (List UInt8)
 | acc, [] => [acc]
 | acc, b :: l => if b = c then acc :: parts c [] l else parts c (acc ++ [b]) l
theorem parts_none (c : UInt8) : ∀ (l acc : List UInt8), c ∉ l → parts c acc l = [acc ++ l]
 | [], acc, _ => by rw [parts, List.append_nil]
 | b :: l, acc, h => by
  have hb : ¬ b = c := fun e => h (by rw [e]; exact List.mem_cons_self)
  rw [parts, if_neg hb, parts_none c l _ (fun e => h (List.mem_cons_of_mem _ e)), List.append_assoc]
  rfl
theorem parts_hit (c : UInt8) (q : List UInt8) : ∀ (p acc : List UInt8), c ∉ p → parts c acc (p ++ c :: q) = (acc ++ p) :: parts c [] q
 | [], acc, _ => by rw [List.nil_append, parts, if_pos rfl, List.append_nil]
 | b :: p, acc, h => by
  have hb : ¬ b = c := fun e => h (by rw [e]; exact List.mem_cons_self)
  rw [List.cons_append, parts, if_neg hb, parts_hit c q p _ (fun e => h (List.mem_cons_of_mem _ e)), List.append_assoc]
  rfl
theorem index_one (c : UInt8) : ∀ (l : List UInt8), (index l [c] = -1 ∧ c ∉ l) ∨ ∃ p q, l = p ++ c :: q ∧ c ∉ p ∧ index l [c] = (p.length : Int)
 | [] => Or.inl ⟨rfl, by simp⟩
 | b :: l => by
  by_cases h : b = c
  ·
   subst h
   refine Or.inr ⟨[], l, rfl, by simp, ?_⟩
   unfold index
   rw [if_pos (by simp [List.isPrefixOf])]
   rfl
  ·
   have hp : List.isPrefixOf [c] (b :: l) = false := by simp [List.isPrefixOf]; exact fun e => h e.symm
   have hc : ¬ c = b := fun e => h e.symm
   rcases index_one c l with ⟨h1, h2⟩ | ⟨p, q, h1, h2, h3⟩
   ·
    refine Or.inl ⟨?_, by simp [h2, hc]⟩
    unfold index
    rw [hp, h1]
    rfl
   ·
    refine Or.inr ⟨b :: p, q, by rw [h1]; rfl, by simp [h2, hc], ?_⟩
    unfold index
    rw [hp, h3, if_neg (by decide), if_neg (by rw [beq_iff_eq]; omega), List.length_cons]
    omega
theorem split_parts (c : UInt8) : ∀ (k : Nat) (l : List UInt8), count l [c] = k → splitK [c] 0 k l = parts c [] l
 | 0, l, h => by
  rcases index_one c l with ⟨h1, h2⟩ | ⟨p, q, h1, h2, h3⟩
  ·
   rw [parts_none c l [] h2]; rfl
  ·
   have := count_hit (s := l) (sub := [c]) (by simp) h3
   omega
 | k + 1, l, h => by
  rcases index_one c l with ⟨h1, h2⟩ | ⟨p, q, h1, h2, h3⟩
  ·
   have := count_miss (s := l) (sub := [c]) h1
   omega
  ·
   have hc := count_hit (s := l) (sub := [c]) (by simp) h3
   have hd : l.drop (p.length + [c].length) = q := by
    rw [h1, show p ++ c :: q = (p ++ [c]) ++ q by simp, show p.length + [c].length = (p ++ [c]).length by simp, List.drop_left]
   have ht : l.take (p.length + 0) = p := by rw [h1, Nat.add_zero, List.take_left]
   rw [splitK, h3, if_neg (by rw [beq_iff_eq]; omega), Int.toNat_natCast, hd, ht]
   rw [hd] at hc
   rw [split_parts c k q (by omega), h1, parts_hit c q p [] h2, List.nil_append]
def mk (l : List UInt8) : ByteArray := ⟨l.toArray⟩
theorem mk_data (x : ByteArray) : mk x.data.toList = x := by cases x; rfl
/-- A text's words. -/
def words (c : UInt8) (s : ByteArray) : List ByteArray := (parts c [] s.data.toList).map mk
theorem split_words (c : UInt8) (s : ByteArray) : splitB ⟨#[c]⟩ 0 (countB s ⟨#[c]⟩) s = words c s := by
 have h := splitB_data ⟨#[c]⟩ 0 (countB s ⟨#[c]⟩) s
 unfold words
 rw [← split_parts c (countB s ⟨#[c]⟩) s.data.toList rfl]
 have h2 : splitK [c] 0 (countB s ⟨#[c]⟩) s.data.toList = (splitB ⟨#[c]⟩ 0 (countB s ⟨#[c]⟩) s).map (·.data.toList) := h.symm
 rw [h2, List.map_map]
 conv => lhs; rw [← List.map_id (splitB ⟨#[c]⟩ 0 (countB s ⟨#[c]⟩) s)]
 exact List.map_congr_left (fun x _ => (mk_data x).symm)
theorem cut_parts (c : UInt8) (l : List UInt8) : (cut l [c] = (l, [], false) ∧ parts c [] l = [l]) ∨ ∃ p q, cut l [c] = (p, q, true) ∧ parts c [] l = p :: parts c [] q ∧ l = p ++ c :: q := by
 rcases index_one c l with ⟨h1, h2⟩ | ⟨p, q, h1, h2, h3⟩
 ·
  refine Or.inl ⟨?_, by rw [parts_none c l [] h2]; rfl⟩
  unfold cut
  rw [h1, if_neg (by decide)]
 ·
  refine Or.inr ⟨p, q, ?_, by rw [h1, parts_hit c q p [] h2]; rfl, h1⟩
  unfold cut
  have hd : l.drop (p.length + [c].length) = q := by
   rw [h1, show p ++ c :: q = (p ++ [c]) ++ q by simp, show p.length + [c].length = (p ++ [c]).length by simp, List.drop_left]
  have ht : l.take p.length = p := by rw [h1, List.take_left]
  rw [h3, if_pos (by omega), Int.toNat_natCast, hd, ht]
def isD (b : UInt8) : Prop := 48 ≤ b.toNat ∧ b.toNat ≤ 57
def stp (a : Nat) (b : UInt8) : Nat := 10 * a + (b.toNat - 48)
def val (l : List UInt8) : Nat := l.foldl stp 0
theorem val_snoc (l : List UInt8) (d : UInt8) : val (l ++ [d]) = 10 * val l + (d.toNat - 48) := by
 unfold val
 rw [List.foldl_append]
 rfl
structure Canon (s : List UInt8) : Prop where
 ne : s ≠ []
 dig : ∀ b ∈ s, isD b
 zero : s.head? = some 48 → s.length = 1
theorem digit_fwd (e : Nat) (h : e < 10) : (UInt8.ofNat (48 + e)).toNat = 48 + e := by
 rw [UInt8.toNat_ofNat']
 exact Nat.mod_eq_of_lt (by omega)
theorem head_snoc {l : List UInt8} (d : UInt8) (h : l ≠ []) : (l ++ [d]).head? = l.head? := by
 cases l with
 | nil => exact absurd rfl h
 | cons _ _ => rfl
theorem canon_dec (u : Nat) : Canon (decDigits u) ∧ val (decDigits u) = u ∧ (1 ≤ u → (decDigits u).head? ≠ some 48) := by
 induction u using Nat.strongRecOn with
 | _ u ih =>
  rw [decDigits]
  split
  ·
   rename_i h
   have hf := digit_fwd u h
   refine ⟨⟨by simp, fun b hb => ?_, fun _ => rfl⟩, ?_, fun h1 e => ?_⟩
   ·
    rw [List.mem_singleton] at hb
    rw [hb]; unfold isD; omega
   ·
    show 10 * 0 + ((UInt8.ofNat (48 + u)).toNat - 48) = u
    omega
   ·
    have e := Option.some.inj e
    rw [e] at hf
    have : (48 : UInt8).toNat = 48 := rfl
    omega
  ·
   rename_i h
   obtain ⟨c, v, z⟩ := ih (u / 10) (by omega)
   have hf := digit_fwd (u % 10) (by omega)
   have z := z (by omega)
   refine ⟨⟨by simp, fun b hb => ?_, fun e => ?_⟩, ?_, fun _ e => ?_⟩
   ·
    rw [List.mem_append, List.mem_singleton] at hb
    rcases hb with hb | hb
    ·
     exact c.dig b hb
    ·
     rw [hb]; unfold isD; omega
   ·
    rw [head_snoc _ c.ne] at e; exact absurd e z
   ·
    rw [val_snoc, v]; omega
   ·
    rw [head_snoc _ c.ne] at e; exact absurd e z
theorem pm_snoc (M : Nat) (d : UInt8) (hd : isD d) (u : Nat) (hu : u < 1844674407370955162) (hM : u * 10 + (d.toNat - 48) ≤ M) : ∀ (l : List UInt8) (acc : Nat), parseUintM M acc l = .ok u → parseUintM M acc (l ++ [d]) = .ok (u * 10 + (d.toNat - 48))
 | [], acc, h => by
  rw [parseUintM] at h
  injection h with h
  subst h
  rw [List.nil_append, parseUintM, if_pos (show 48 ≤ d.toNat ∧ d.toNat ≤ 57 from hd), if_neg (by omega), if_neg (by omega), parseUintM]
 | c :: r, acc, h => by
  rw [parseUintM] at h
  rw [List.cons_append, parseUintM]
  split at h
  ·
   rename_i h1
   rw [if_pos h1]
   split at h
   ·
    cases h
   ·
    rename_i h2
    rw [if_neg h2]
    split at h
    ·
     cases h
    ·
     rename_i h3
     rw [if_neg h3]
     exact pm_snoc M d hd u hu hM r _ h
  ·
   cases h
theorem pm_dec (u : Nat) (hu : u ≤ 1000) : parseUintM (2 ^ 64 - 1) 0 (decDigits u) = .ok u := by
 induction u using Nat.strongRecOn with
 | _ u ih =>
  rw [decDigits]
  split
  ·
   rename_i h
   have hf := digit_fwd u h
   have := pm_snoc (2 ^ 64 - 1) (UInt8.ofNat (48 + u)) (by unfold isD; omega) 0 (by omega) (by omega) [] 0 rfl
   rw [List.nil_append] at this
   rw [this]
   congr 1
   omega
  ·
   rename_i h
   have hf := digit_fwd (u % 10) (by omega)
   have := pm_snoc (2 ^ 64 - 1) (UInt8.ofNat (48 + u % 10)) (by unfold isD; omega) (u / 10) (by omega) (by omega) _ 0 (ih (u / 10) (by omega) (by omega))
   rw [this]
   congr 1
   omega
theorem parse_itoa {x : Int} (h : -1000 ≤ x ∧ x ≤ 1000) : parseIntB 64 (itoa x) = .ok x := by
 have key : ∀ u : Nat, u ≤ 1000 → parseUintB 64 (decDigits u) = .ok u := fun u hu => by
  unfold parseUintB
  rw [if_neg (canon_dec u).1.ne]
  exact pm_dec u hu
 by_cases h0 : x < 0
 ·
  have e : itoa x = 45 :: decDigits x.natAbs := by unfold itoa; rw [if_pos h0]
  rw [e, parseIntB_minus, key _ (by omega)]
  show (if 2 ^ (64 - 1) < x.natAbs then _ else _) = _
  rw [if_neg (by omega)]
  congr 1
  omega
 ·
  have e : itoa x = decDigits x.toNat := by unfold itoa; rw [if_neg h0]
  have c := (canon_dec x.toNat).1
  have k := key x.toNat (by omega)
  rw [e]
  cases q : decDigits x.toNat with
  | nil => exact absurd q c.ne
  | cons b r =>
   have hb := c.dig b (by rw [q]; exact List.mem_cons_self)
   unfold isD at hb
   rw [q] at k
   rw [parseIntB_plain 64 b r (by omega) (by omega), k]
   show (if 2 ^ (64 - 1) ≤ x.toNat then _ else _) = _
   rw [if_neg (by omega)]
   congr 1
   omega
def numA : Int → List UInt8 → Int × Bool
 | acc, [] => (acc, true)
 | acc, b :: l => if b.toNat < 48 then (0, false) else if b.toNat > 57 then (0, false) else numA (10 * acc + ((b.toNat : Int) - 48)) l
def num (s : List UInt8) : Int × Bool := if s = [] then (0, false) else if s.length > 10 then (0, false) else if s.head? = some 48 ∧ s.length > 1 then (0, false) else numA 0 s
def sgn (s : List UInt8) : Int × Bool := if s.head? = some 45 then (-(num s.tail).1, (num s.tail).2 && decide ((num s.tail).1 > 0)) else num s
def rdS (s : List UInt8) : Option Int := if (sgn s).2 = true ∧ -1000 ≤ (sgn s).1 ∧ (sgn s).1 ≤ 1000 then some (sgn s).1 else none
end Go.Proofs.YthbogbaaikjhbaaGreatDoor.PlainRead
namespace Go.Proofs.YthbogbaaikjhbaaGreatDoor.TextBack
set_option linter.unusedSimpArgs false
set_option linter.unusedVariables false
set_option linter.unusedSectionVars false
open Go.RowKit Go.Proofs.YthbogbaaikjhbaaGreatDoor.PA Go.Proofs.YthbogbaaikjhbaaGreatDoor.Base Go.Proofs.YthbogbaaikjhbaaGreatDoor.StonesKit Go.Proofs.YthbogbaaikjhbaaGreatDoor.PlainRead Go.Proofs.YthbogbaaikjhbaaGreatDoorW.PrintWords Go.Proofs.YthbogbaaikjhbaaGreatDoorW.PrintLast Go.Proofs.YthbogbaaikjhbaaGreatDoorW.PrintMore
theorem ba_ext {a b : ByteArray} (h : a.data.toList = b.data.toList) : a = b := by
 cases a; cases b
 congr 1
 exact Array.ext' h
theorem ba_app (a b : ByteArray) : (a ++ b).data.toList = a.data.toList ++ b.data.toList := by
 rw [ByteArray.data_append, Array.toList_append]
theorem ba_size (a : ByteArray) : a.size = a.data.toList.length := by rw [Array.length_toList]; rfl
def itoaB (n : Int) : ByteArray := ⟨(Lib.itoa n).toArray⟩
theorem digits_len (u : Nat) : (Lib.decDigits u).length ≤ u + 1 := by
 induction u using Nat.strongRecOn with
 | _ u ih =>
  rw [Lib.decDigits]
  split
  ·
   simp
  ·
   rename_i h
   have := ih (u / 10) (by omega)
   rw [List.length_append]
   simp only [List.length_cons, List.length_nil]
   omega
theorem itoaB_size {n : Int} (h : -100000 ≤ n ∧ n ≤ 100000) : (itoaB n).size ≤ 100002 := by
 rw [ba_size]
 unfold itoaB Lib.itoa
 split
 ·
  have := digits_len n.natAbs
  simp only [List.length_cons]
  omega
 ·
  have := digits_len n.toNat
  simp only
  omega
theorem join_snoc (ws : List (List UInt8)) (w sep : List UInt8) (h : ws ≠ []) : Lib.join (ws ++ [w]) sep = Lib.join ws sep ++ sep ++ w := by
 cases ws with
 | nil => exact absurd rfl h
 | cons x r =>
  rw [List.cons_append, Lib.join_cons, Lib.join_cons]
  simp [Lib.joinTail, List.append_assoc]
def word (c : S43) : ByteArray := (itoaB c.f0 ++ (⟨#[44]⟩ : ByteArray)) ++ itoaB c.f1
def txt (l : List S43) (i : Nat) : ByteArray := ⟨(Lib.join (((l.take i).map word).map (·.data.toList)) [32]).toArray⟩
theorem txt_zero (l : List S43) : txt l 0 = ⟨#[]⟩ := by simp [txt, Lib.join_nil]
theorem take_one (l : List S43) (i : Nat) (h : i < l.length) : l.take (i + 1) = l.take i ++ [l[i]] := List.take_succ_eq_append_getElem h
theorem txt_one (l : List S43) (h : 0 < l.length) : txt l 1 = txt l 0 ++ word l[0] := by
 apply ba_ext
 rw [ba_app, txt_zero]
 unfold txt
 rw [take_one l 0 h]
 simp [Lib.join_one]
theorem txt_succ (l : List S43) (i : Nat) (h0 : 0 < i) (h : i < l.length) : txt l (i + 1) = (txt l i ++ (⟨#[32]⟩ : ByteArray)) ++ word l[i] := by
 apply ba_ext
 rw [ba_app, ba_app]
 unfold txt
 rw [take_one l i h, List.map_append, List.map_append, List.map_cons, List.map_cons, List.map_nil, List.map_nil, join_snoc _ _ _ (by
  intro e
  have : (l.take i).length = 0 := by simpa using congrArg List.length e
  rw [List.length_take] at this
  omega)]
theorem word_size {c : S43} (h : (-1000 ≤ c.f0 ∧ c.f0 ≤ 1000) ∧ (-1000 ≤ c.f1 ∧ c.f1 ≤ 1000)) : (word c).size ≤ 300000 := by
 have h1 := itoaB_size (n := c.f0) (by omega)
 have h2 := itoaB_size (n := c.f1) (by omega)
 unfold word
 rw [ByteArray.size_append, ByteArray.size_append]
 have : (⟨#[44]⟩ : ByteArray).size = 1 := rfl
 omega
section
variable {l : List S43} (hl : l.length ≤ 8) (hp : ∀ c ∈ l, (-1000 ≤ c.f0 ∧ c.f0 ≤ 1000) ∧ (-1000 ≤ c.f1 ∧ c.f1 ≤ 1000))
include hl hp
theorem txt_size : ∀ i, i ≤ l.length → (txt l i).size ≤ i * 300001
 | 0, _ => by rw [txt_zero, Nat.zero_mul]; exact Nat.le_refl _
 | i + 1, h => by
  have ih := txt_size i (by omega)
  have hw := word_size (hp l[i] (List.getElem_mem (by omega)))
  by_cases h0 : 0 < i
  ·
   rw [txt_succ l i h0 (by omega), ByteArray.size_append, ByteArray.size_append]
   have : (⟨#[32]⟩ : ByteArray).size = 1 := rfl
   omega
  ·
   obtain rfl : i = 0 := by omega
   rw [txt_one l (by omega), ByteArray.size_append]
   omega
theorem implLoop : ∀ (d i : Nat), i + d = l.length → Ev (fun k => impl_StoneText.l0 k ((l.take i).map word) l (l.length : Int) (i : Int)) (txt l l.length)
 | 0, i, h => by
  have hlen := txt_size hl hp l.length (Nat.le_refl _)
  refine Ev.step (fun k => by rw [impl_StoneText.l0]) ?_
  refine Ev.neg (by omega) (Ev.nobind (a := txt l l.length) ?_ (Ev.fin rfl))
  rw [show i = l.length by omega]
  unfold strings_Join.f
  rw [if_pos (by simp; omega)]
  rw [ba_size] at hlen
  exact if_pos (by
   have h2 : (Lib.join (((l.take l.length).map word).map (·.data.toList)) [32]).length ≤ l.length * 300001 := hlen
   show (Lib.join (((l.take l.length).map word).map (·.data.toList)) [32]).length ≤ _
   omega)
 | d + 1, i, h => by
  have hi : i < l.length := by omega
  have hc := hp l[i] (List.getElem_mem hi)
  have s1 := itoaB_size (n := l[i].f0) (by omega)
  have s2 := itoaB_size (n := l[i].f1) (by omega)
  have e44 : (⟨#[44]⟩ : ByteArray).size = 1 := rfl
  have ih := implLoop d (i + 1) (by omega)
  refine Ev.step (fun k => by rw [impl_StoneText.l0]) ?_
  refine Ev.pos (by omega) (Ev.pos (by omega) (Ev.pos (by omega) ?_))
  rw [rdC l i hi, w64 (x := l[i].f0) (by omega) (by omega), w64 (x := l[i].f1) (by omega) (by omega), w64 (x := (i : Int) + 1) (by omega) (by omega)]
  refine Ev.nobind (a := itoaB l[i].f0) (by unfold impl_decimal.f; rw [if_pos (by omega), if_pos (by omega)]; rfl) (Ev.pos (by omega) ?_)
  refine Ev.nobind (a := itoaB l[i].f1) (by unfold impl_decimal.f; rw [if_pos (by omega), if_pos (by omega)]; rfl) (Ev.pos (by rw [ByteArray.size_append]; omega) (Ev.pos (by simp; omega) ?_))
  have e : (l.take i).map word ++ [(itoaB l[i].f0 ++ (⟨#[44]⟩ : ByteArray)) ++ itoaB l[i].f1] = (l.take (i + 1)).map word := by
   rw [take_one l i hi, List.map_append]; rfl
  rw [e]
  exact ih
end
theorem okS_place {l : List S43} (h : okS l = true) : ∀ c ∈ l, (-1000 ≤ c.f0 ∧ c.f0 ≤ 1000) ∧ (-1000 ≤ c.f1 ∧ c.f1 ≤ 1000) := by
 intro c hc
 unfold okS at h
 rw [Bool.and_eq_true, Bool.and_eq_true] at h
 have := List.all_eq_true.1 h.1.2 c hc
 unfold placed at this
 rw [Bool.and_eq_true, inB_iff, inB_iff] at this
 exact this
theorem itoa_comma (x : Int) : (44 : UInt8) ∉ Lib.itoa x := by
 have key : ∀ u, (44 : UInt8) ∉ Lib.decDigits u := fun u h => by
  have := (canon_dec u).1.dig _ h
  unfold isD at this
  have e : (44 : UInt8).toNat = 44 := rfl
  omega
 unfold Lib.itoa
 split
 ·
  intro h
  rw [List.mem_cons] at h
  rcases h with h | h
  ·
   exact absurd h (by decide)
  ·
   exact key _ h
 ·
  exact key _
theorem rdE (xs : List ByteArray) (i : Nat) (h : i < xs.length) : rdOf ByteArray.empty xs (i : Int) = xs[i] := by
 unfold rdOf
 rw [Int.toNat_natCast, List.getD_eq_getElem?_getD, List.getElem?_eq_getElem h]; rfl
theorem itoa_space (x : Int) : (32 : UInt8) ∉ Lib.itoa x := by
 have key : ∀ u, (32 : UInt8) ∉ Lib.decDigits u := fun u h => by
  have := (canon_dec u).1.dig _ h
  unfold isD at this
  have e : (32 : UInt8).toNat = 32 := rfl
  omega
 unfold Lib.itoa
 split
 ·
  intro h
  rw [List.mem_cons] at h
  rcases h with h | h
  ·
   exact absurd h (by decide)
  ·
   exact key _ h
 ·
  exact key _
theorem word_data (c : S43) : (word c).data.toList = Lib.itoa c.f0 ++ 44 :: Lib.itoa c.f1 := by
 unfold word
 rw [ba_app, ba_app]
 unfold itoaB
 simp
theorem word_space (c : S43) : (32 : UInt8) ∉ (word c).data.toList := by
 rw [word_data]
 intro h
 rcases List.mem_append.1 h with h | h
 ·
  exact itoa_space _ h
 ·
  rcases List.mem_cons.1 h with h | h
  ·
   exact absurd h (by decide)
  ·
   exact itoa_space _ h
theorem parts_join (c : UInt8) : ∀ ws : List (List UInt8), ws ≠ [] → (∀ w ∈ ws, c ∉ w) → parts c [] (Lib.join ws [c]) = ws
 | [], h, _ => absurd rfl h
 | [x], _, h => by
  rw [Lib.join_one, parts_none c x [] (h x (by simp)), List.nil_append]
 | x :: y :: r, _, h => by
  have e : Lib.join (x :: y :: r) [c] = x ++ c :: Lib.join (y :: r) [c] := by
   rw [Lib.join_cons, Lib.join_cons]
   simp [Lib.joinTail]
  rw [e, parts_hit c _ x [] (h x (by simp)), List.nil_append, parts_join c (y :: r) (by simp) (fun w hw => h w (List.mem_cons_of_mem _ hw))]
theorem words_txt {l : List S43} (h : 1 ≤ l.length) : words 32 (txt l l.length) = l.map word := by
 unfold words txt
 rw [List.take_length]
 show (parts 32 [] (Lib.join ((l.map word).map (·.data.toList)) [32])).map mk = _
 rw [parts_join 32 _ (by
  intro e
  have := congrArg List.length e
  simp at this
  rw [this] at h
  simp at h) (fun w hw => by
  obtain ⟨b, hb, rfl⟩ := List.mem_map.1 hw
  obtain ⟨c, _, rfl⟩ := List.mem_map.1 hb
  exact word_space c), List.map_map]
 refine (List.map_congr_left (fun b _ => ?_)).trans (List.map_id _)
 exact mk_data b
theorem cut_word {c : S43} (h : (-1000 ≤ c.f0 ∧ c.f0 ≤ 1000) ∧ (-1000 ≤ c.f1 ∧ c.f1 ≤ 1000)) : strings_Cut.f (word c) (⟨#[44]⟩ : ByteArray) = some (itoaB c.f0, itoaB c.f1, true) := by
 have hs := word_size h
 have hp : parts 44 [] (word c).data.toList = [Lib.itoa c.f0, Lib.itoa c.f1] := by
  rw [word_data, parts_hit 44 _ _ [] (itoa_comma _), parts_none 44 _ [] (itoa_comma _)]; rfl
 have hc : Lib.cut (word c).data.toList [44] = (Lib.itoa c.f0, Lib.itoa c.f1, true) := by
  rcases cut_parts 44 (word c).data.toList with ⟨_, e⟩ | ⟨p, q, e1, e2, e3⟩
  ·
   rw [e] at hp; simp at hp
  ·
   rw [hp, List.cons.injEq] at e2
   rw [word_data, e2.1] at e3
   have e4 := List.append_cancel_left e3
   rw [List.cons.injEq] at e4
   rw [e1, e2.1, e4.2]
 unfold strings_Cut.f
 rw [if_pos (by omega), show (⟨#[44]⟩ : ByteArray).data.toList = [44] from rfl, hc]
 rfl
theorem read_itoa {x : Int} (h : -1000 ≤ x ∧ x ≤ 1000) : impl_readDecimal.f (itoaB x) (-1000) 1000 = some (x, true) := by
 have hs := itoaB_size (n := x) (by omega)
 have hp := parse_itoa h
 have hd : (itoaB x).data.toList = Lib.itoa x := by unfold itoaB; simp
 have hin : impl_within.f x (-1000) 1000 = some true := by rw [implIn, inB_iff.2 h]
 unfold impl_readDecimal.f
 rw [if_pos (by omega), hd, hp]
 show impl_readDecimal.fin x (itoaB x) (-1000) 1000 = _
 unfold impl_readDecimal.fin impl_decimal.f
 rw [if_pos (by omega), if_pos (by omega), Option.bind_some]
 show (if (itoaB x).toList = (itoaB x).toList then _ else _) = _
 rw [if_pos rfl, hin]
 rfl
theorem wrap_place {x : Int} (h : -1000 ≤ x ∧ x ≤ 1000) : IntKind.i16.wrap x = x := w16 (by omega) (by omega)
theorem fit_of {l : List S43} (h : okS l = true) : Fit l := fun c hc => by
 have := okS_place h c hc
 omega
theorem implText {l : List S43} (h : okS l = true) : Ev (fun k => impl_StoneText.f k l) (txt l l.length) := by
 have hl := okS_len h
 have ho := implOk (fit_of h)
 rw [h] at ho
 unfold impl_StoneText.f
 exact Ev.bind ho (Ev.pos rfl (implLoop hl.2 (okS_place h) l.length 0 (by omega)))
theorem readLoop {l : List S43} (h : okS l = true) : ∀ (d i : Nat), i + d = l.length → Ev (fun k => impl_ReadStone.l0 k (l.take i) (l.map word) ((l.map word).length : Int) (i : Int)) (l, 0)
 | 0, i, e => by
  have ho := implOk (fit_of h)
  rw [h] at ho
  refine Ev.step (fun k => by rw [impl_ReadStone.l0]) (Ev.neg (by rw [List.length_map]; omega) ?_)
  rw [List.take_of_length_le (by omega)]
  exact Ev.bind ho (Ev.pos rfl (Ev.fin rfl))
 | d + 1, i, e => by
  have hl := okS_len h
  have hi : i < l.length := by omega
  have hc := okS_place h l[i] (List.getElem_mem hi)
  have hm : (l.map word).length = l.length := List.length_map _
  have he : (l.map word)[i]'(by omega) = word l[i] := List.getElem_map _
  refine Ev.step (fun k => by rw [impl_ReadStone.l0]) (Ev.pos (by omega) (Ev.pos (by omega) (Ev.pos (by omega) ?_)))
  rw [rdE (l.map word) i (by omega), he]
  refine Ev.nobind (cut_word hc) (Ev.nobind (read_itoa hc.1) (Ev.nobind (read_itoa hc.2) (Ev.pos rfl (Ev.pos rfl (Ev.pos rfl (Ev.pos (by rw [List.length_take]; omega) ?_))))))
  rw [wrap_place hc.1, wrap_place hc.2, w64 (x := (i : Int) + 1) (by omega) (by omega)]
  have := readLoop h d (i + 1) (by omega)
  rw [take_one l i hi] at this
  exact this
theorem readBack {l : List S43} (h : okS l = true) : Ev (fun k => impl_ReadStone.f k (txt l l.length)) (l, 0) := by
 have hl := okS_len h
 have hs := txt_size hl.2 (okS_place h) l.length (Nat.le_refl _)
 unfold impl_ReadStone.f
 refine Ev.nobind (a := l.map word) ?_ ?_
 ·
  unfold strings_Split.f
  rw [if_pos (by omega), if_pos (by show 1 ≤ 1; omega), split_words, words_txt (by omega)]
 ·
  exact readLoop h l.length 0 (by omega)
end Go.Proofs.YthbogbaaikjhbaaGreatDoor.TextBack
namespace Go.Proofs.YthbogbaaikjhbaaGreatDoor.HullImpl
set_option linter.unusedSimpArgs false
set_option linter.unusedVariables false
set_option linter.unusedSectionVars false
open Go.RowKit Go.Proofs.YthbogbaaikjhbaaGreatDoor.PA Go.Proofs.YthbogbaaikjhbaaGreatDoor.Base Go.Proofs.YthbogbaaikjhbaaGreatDoor.StonesKit Go.Proofs.YthbogbaaikjhbaaGreatDoor.Geo Go.Proofs.YthbogbaaikjhbaaGreatDoor.SeamKit Go.Proofs.YthbogbaaikjhbaaGreatDoor.HullGeo Go.Proofs.YthbogbaaikjhbaaGreatDoor.HullWrap Go.Proofs.YthbogbaaikjhbaaGreatDoor.HullSpec Go.Proofs.YthbogbaaikjhbaaGreatDoor.ChainGeo Go.Proofs.YthbogbaaikjhbaaGreatDoor.ChainHull Go.Proofs.YthbogbaaikjhbaaGreatDoorW.PrintWords Go.Proofs.YthbogbaaikjhbaaGreatDoorW.PrintLast Go.Proofs.YthbogbaaikjhbaaGreatDoorW.PrintMore
theorem pop_len (c : S43) : ∀ st, (pop c st).length ≤ st.length
 | [] => by simp [pop]
 | [b] => by simp [pop]
 | b :: a :: st => by
  rw [pop]
  split
  ·
   have := pop_len c (a :: st); simp at this ⊢; omega
  ·
   exact Nat.le_refl _
theorem push_len (st : List S43) (c : S43) : (push st c).length ≤ st.length + 1 := by
 unfold push
 rw [List.length_cons]
 have := pop_len c st; omega
theorem foldl_len : ∀ (T st : List S43), (T.foldl push st).length ≤ st.length + T.length
 | [], st => Nat.le_refl _
 | c :: T, st => by
  rw [List.foldl_cons, List.length_cons]
  have h1 := foldl_len T (push st c)
  have h2 := push_len st c
  omega
theorem pile_len (T : List S43) : (pile T).length ≤ T.length := by
 have := foldl_len T []
 rw [List.length_nil, Nat.zero_add] at this
 exact this
theorem half_len (T : List S43) : (half T).length ≤ T.length := by
 unfold half
 rw [List.length_dropLast, List.length_reverse]
 have := pile_len T; omega
theorem push_sm {c : S43} (hc : Sm c) : ∀ {st : List S43}, (∀ x ∈ st, Sm x) → ∀ x ∈ pop c st, Sm x
 | [], h, x, hx => h x hx
 | [b], h, x, hx => h x hx
 | b :: a :: st, h, x, hx => by
  rw [pop] at hx
  split at hx
  ·
   exact push_sm hc (st := a :: st) (fun y hy => h y (List.mem_cons_of_mem _ hy)) x hx
  ·
   exact h x hx
theorem popLoop {T : List S43} {i : Nat} {c : S43} (hc : Sm c) (hi : i ≤ 1000) (r : List S43) : ∀ (st : List S43), st.length ≤ 1000 → (∀ x ∈ st, Sm x) → Ev (fun k => impl_chain.l0 k (push st c).reverse T (T.length : Int) ((i + 1 : Nat) : Int)) r → Ev (fun k => impl_chain.l1 k st.reverse T (T.length : Int) (i : Int) c.f0 c.f1) r
 | [], hl, hs, h => by
  refine Ev.step (fun k => by rw [impl_chain.l1]) (Ev.neg (by simp) (Ev.pos (by simp) ?_))
  rw [w64 (x := (i : Int) + 1) (by omega) (by omega)]
  exact h
 | [b], hl, hs, h => by
  refine Ev.step (fun k => by rw [impl_chain.l1]) (Ev.neg (by simp) (Ev.pos (by simp) ?_))
  rw [w64 (x := (i : Int) + 1) (by omega) (by omega)]
  exact h
 | b :: a :: st, hl, hs, h => by
  rw [List.length_cons, List.length_cons] at hl
  have hn : ((b :: a :: st).reverse.length : Int) = (st.length : Int) + 2 := by simp <;> omega
  have w1 : wrap64 (((b :: a :: st).reverse.length : Int) - 1) = ((st.length + 1 : Nat) : Int) := by rw [hn, w64 (by omega) (by omega)]; omega
  have w2 : wrap64 (((b :: a :: st).reverse.length : Int) - 2) = (st.length : Int) := by rw [hn, w64 (by omega) (by omega)]; omega
  have hr : (b :: a :: st).reverse = st.reverse ++ [a] ++ [b] := by simp
  have ra : rd_T43 (b :: a :: st).reverse (st.length : Int) = a := by
   rw [rdC', hr, List.append_assoc, List.getD_eq_getElem?_getD, List.getElem?_append_right (by simp), List.length_reverse, Nat.sub_self]; rfl
  have rb : rd_T43 (b :: a :: st).reverse ((st.length + 1 : Nat) : Int) = b := by
   rw [rdC', hr, List.getD_eq_getElem?_getD, List.getElem?_append_right (by simp)]
   simp
  have hsa := hs a (by simp)
  have hsb := hs b (by simp)
  refine Ev.step (fun k => by rw [impl_chain.l1]) ?_
  rw [w1, w2, ra, rb]
  refine Ev.pos (by omega) (Ev.pos (by omega) (Ev.pos (by omega) (Ev.pos (by omega) (Ev.pos (by omega) ?_))))
  refine Ev.nobind (implSide a b c) ?_
  rw [sd_cr hsa hsb hc]
  unfold push at h
  rw [pop] at h
  refine Ev.ite (fun e => ?_) (fun e => ?_)
  ·
   rw [if_pos e] at h
   have ht : (b :: a :: st).reverse.take ((st.length + 1 : Nat) : Int).toNat = (a :: st).reverse := by
    rw [Int.toNat_natCast, hr, List.take_append_of_le_length (by simp), List.take_of_length_le (by simp)]
    simp
   rw [ht]
   exact Ev.pos (by omega) (popLoop hc hi r (a :: st) (by rw [List.length_cons]; omega) (fun x hx => hs x (List.mem_cons_of_mem _ hx)) h)
  ·
   rw [if_neg e] at h
   rw [w64 (x := (i : Int) + 1) (by omega) (by omega)]
   refine Ev.pos (by rw [List.length_reverse, List.length_cons, List.length_cons]; omega) ?_
   rw [List.reverse_cons (a := c)] at h
   exact h
theorem implChain {T : List S43} (hl : T.length ≤ 100) (hS : ∀ x ∈ T, Sm x) (hne : T ≠ []) : Ev (fun k => impl_chain.f k T) (half T) := by
 unfold impl_chain.f
 have key : ∀ (d i : Nat) (st : List S43), i + d = T.length → st.length ≤ i → (∀ x ∈ st, Sm x) → (0 < i → st ≠ []) → Ev (fun k => impl_chain.l0 k st.reverse T (T.length : Int) (i : Int)) ((T.drop i).foldl push st).reverse.dropLast := by
  intro d
  induction d with
  | zero =>
   intro i st h h1 h2 h3
   have hpos : 0 < T.length := List.length_pos_iff.2 hne
   have hst : 0 < st.length := List.length_pos_iff.2 (h3 (by omega))
   have w1 : wrap64 ((st.reverse.length : Int) - 1) = ((st.length - 1 : Nat) : Int) := by rw [List.length_reverse, w64 (by omega) (by omega)]; omega
   refine Ev.step (fun k => by rw [impl_chain.l0]) (Ev.neg (by omega) ?_)
   rw [w1]
   refine Ev.pos (by omega) (Ev.pos (by rw [List.length_reverse]; omega) (Ev.fin ?_))
   rw [List.drop_of_length_le (by omega), Int.toNat_natCast, List.foldl_nil, List.dropLast_eq_take, List.length_reverse]
  | succ d ih =>
   intro i st h h1 h2 h3
   have hi : i < T.length := by omega
   have hc := hS _ (List.getElem_mem hi)
   refine Ev.step (fun k => by rw [impl_chain.l0]) (Ev.pos (by omega) (Ev.pos (by omega) (Ev.pos (by omega) ?_)))
   rw [rdC T i hi, drop_at T i hi, List.foldl_cons]
   refine popLoop hc (by omega) _ st (by omega) h2 (ih (i + 1) (push st T[i]) (by omega) (by have := push_len st T[i]; omega) (fun x hx => ?_) (fun _ => by simp [push]))
   unfold push at hx
   rcases List.mem_cons.1 hx with rfl | hx
   ·
    exact hc
   ·
    exact push_sm hc h2 x hx
 have := key T.length 0 [] (by omega) (by simp) (by simp) (by omega)
 exact this
theorem lt_is (a b : S43) : CS.lt a b = lt a b := rfl
def srtd (l : List S43) : List S43 := l.mergeSort fun x y => !CS.lt y x
theorem le_iff (x y : S43) : (!CS.lt y x) = true ↔ x.f0 < y.f0 ∨ (x.f0 = y.f0 ∧ x.f1 ≤ y.f1) := by
 rw [Bool.not_eq_true', ← Bool.not_eq_true, CS.lt_iff]
 omega
theorem srtd_mem (l : List S43) (x : S43) : x ∈ srtd l ↔ x ∈ l := List.mem_mergeSort
theorem srtd_len (l : List S43) : (srtd l).length = l.length := List.length_mergeSort _
theorem srtd_le (l : List S43) : (srtd l).Pairwise fun x y => (!CS.lt y x) = true := by
 unfold srtd
 refine List.pairwise_mergeSort (fun a b c h1 h2 => ?_) (fun a b => ?_) l
 ·
  rw [le_iff] at h1 h2 ⊢; omega
 ·
  rw [Bool.or_eq_true, le_iff, le_iff]; omega
section
variable [Inhabited S43] [DecidableEq S43]
theorem getb' (s : List S43) (i : Nat) (h : i < s.length) : s.toArray[i]! = s[i] := by simp [h]
theorem compact_is {s : List S43} (hS : ∀ x ∈ s, Sm x) (hs : s.Pairwise fun x y => (!CS.lt y x) = true) : ∀ m, m ≤ s.length → (∀ x, x ∈ Lib.compactUpTo s.toArray m ↔ x ∈ s.take m) ∧ Sorted 1 (-2001) (Lib.compactUpTo s.toArray m) ∧ (∀ (h : 0 < m) (h2 : m - 1 < s.length), ∀ q ∈ Lib.compactUpTo s.toArray m, q = s[m - 1] ∨ key q < key s[m - 1])
 | 0, _ => ⟨fun x => by simp [Lib.compactUpTo], trivial, fun h => absurd h (by omega)⟩
 | m + 1, hm => by
  obtain ⟨i1, i2, i3⟩ := compact_is hS hs m (by omega)
  have hml : m < s.length := by omega
  rw [Lib.compactUpTo_succ]
  have hg := getb' s m hml
  by_cases hz : m = 0
  ·
   subst hz
   have hk : Lib.keeps s.toArray 0 = true := Lib.keeps_lt_one _ 0 (by omega)
   have hc0 : Lib.compactUpTo s.toArray 0 = [] := rfl
   rw [hk, if_pos rfl, hg, hc0]
   refine ⟨fun x => ?_, ⟨(fun q hq => by cases hq), trivial⟩, fun _ _ q hq => ?_⟩
   ·
    rw [List.take_succ_eq_append_getElem hml]; simp
   ·
    left; simpa using hq
  ·
   have hpl : m - 1 < s.length := by omega
   have hg1 := getb' s (m - 1) hpl
   have hle : key s[m - 1] ≤ key s[m] := by
    have h1 := (List.pairwise_iff_getElem.1 hs) (m - 1) m hpl hml (by omega)
    rw [lt_is] at h1
    have h2 := (lt_iff (hS _ (List.getElem_mem hml)) (hS _ (List.getElem_mem hpl)))
    rw [Bool.not_eq_true', ← Bool.not_eq_true, h2] at h1
    omega
   have i3' := i3 (by omega) hpl
   by_cases e : s[m] = s[m - 1]
   ·
    have hk : Lib.keeps s.toArray m = false := Lib.keeps_neg (by omega) (by rw [hg, hg1, e])
    rw [hk]
    simp only [Bool.false_eq_true, if_false, List.append_nil]
    refine ⟨fun x => ?_, i2, fun _ _ q hq => ?_⟩
    ·
     rw [i1, List.take_succ_eq_append_getElem hml, List.mem_append, List.mem_singleton]
     constructor
     ·
      exact Or.inl
     ·
      rintro (h | h)
      ·
       exact h
      ·
       rw [h, e, List.mem_take_iff_getElem]
       exact ⟨m - 1, by omega, rfl⟩
    ·
     have := i3' q hq
     show q = s[m] ∨ key q < key s[m]
     rw [e]; exact this
   ·
    have hk : Lib.keeps s.toArray m = true := Lib.keeps_pos (by rw [hg, hg1]; exact e)
    rw [hk, if_pos rfl, hg]
    have hne : key s[m - 1] < key s[m] := by
     have : key s[m - 1] ≠ key s[m] := fun g => e (key_inj (hS _ (List.getElem_mem hml)) (hS _ (List.getElem_mem hpl)) g.symm)
     omega
    refine ⟨fun x => ?_, sorted_snoc i2 (fun q hq => ?_), fun _ _ q hq => ?_⟩
    ·
     rw [List.mem_append, i1, List.take_succ_eq_append_getElem hml, List.mem_append]
    ·
     rw [off_key]
     rcases i3' q hq with g | g
     ·
      rw [g]; omega
     ·
      omega
    ·
     show q = s[m] ∨ key q < key s[m]
     rcases List.mem_append.1 hq with hq | hq
     ·
      right
      rcases i3' q hq with g | g
      ·
       rw [g]; exact hne
      ·
       omega
     ·
      left; exact List.mem_singleton.1 hq
theorem compact_own {l : List S43} (hS : ∀ x ∈ l, Sm x) : Sorted 1 (-2001) (Lib.compact (srtd l)) ∧ (∀ x, x ∈ Lib.compact (srtd l) ↔ x ∈ l) ∧ (Lib.compact (srtd l)).length ≤ l.length := by
 have := compact_is (s := srtd l) (fun x hx => hS x ((srtd_mem l x).1 hx)) (srtd_le l) (srtd l).length (Nat.le_refl _)
 refine ⟨this.2.1, fun x => ?_, ?_⟩
 ·
  show x ∈ Lib.compactUpTo (srtd l).toArray (srtd l).length ↔ _
  rw [this.1, List.take_length, srtd_mem]
 ·
  unfold Lib.compact Lib.compactUpTo
  rw [List.length_map]
  refine Nat.le_trans (List.length_filter_le _ _) ?_
  rw [List.length_range, srtd_len]; exact Nat.le_refl _
end
theorem endR_out {l own : List S43} (hS : ∀ c ∈ l, Sm c) (hm : ∀ c, c ∈ own ↔ c ∈ l) (hs : Sorted 1 (-2001) own) (hne : l ≠ []) : endR (outOf own) = endR (round l) := by
 rcases out_is hS hm hs hne with e | ⟨e1, e2⟩
 ·
  rw [e]
 ·
  unfold endR
  rw [e1, e2]; rfl
theorem implHull {l : List S43} (hf : Fit l) : Ev (fun k => impl_HullOf.f k l) (hullRes l) := by
 unfold impl_HullOf.f hullRes
 refine Ev.ite (fun e => ?_) (fun e => ?_)
 ·
  rw [if_pos (show l.length > 100 by omega)]
  refine Ev.step (fun k => by rw [impl_HullOf.j0]) (Ev.pos rfl (Ev.fin rfl))
 ·
  rw [if_neg (show ¬ l.length > 100 by omega)]
  have hany : impl_HullOf_1_any.f l = some (l.any fun c => !placed c) := by
   unfold impl_HullOf_1_any.f
   exact idxO_any (q := fun c => !placed c) l (fun c hc => by unfold impl_HullOf_1.f; rw [implPlaced (hf c hc)]; rfl)
  refine Ev.nobind hany ?_
  have hb : (l.any fun c => !placed c) = !(l.all placed) := by
   rw [Bool.eq_iff_iff]; simp [List.any_eq_true, List.all_eq_true]
  rw [hb]
  refine Ev.step (fun k => by rw [impl_HullOf.j0]) ?_
  cases hp : l.all placed with
  | false => exact Ev.pos rfl (Ev.fin rfl)
  | true =>
   rw [if_pos rfl]
   have hS : ∀ c ∈ l, Sm c := fun c hc => placed_sm.1 (List.all_eq_true.1 hp c hc)
   refine Ev.neg (by decide) (Ev.ite (fun z => ?_) (fun z => ?_))
   ·
    rw [if_pos (List.eq_nil_of_length_eq_zero (by omega))]; exact Ev.fin rfl
   ·
    have hne : l ≠ [] := fun g => z (by rw [g]; rfl)
    rw [if_neg hne]
    have h1 : impl_Corner_50.f l = some l := by unfold impl_Corner_50.f; rw [if_pos (by omega)]
    have h2 : impl_Corner_51.f l = some (srtd l) := by unfold impl_Corner_51.f; rw [if_pos (by omega)]; rfl
    have hsl := srtd_len l
    refine Ev.nobind h1 (Ev.nobind h2 ?_)
    obtain ⟨own, ho, c1, c2, c3⟩ : ∃ own, impl_Corner_53.f (srtd l) = some own ∧ Sorted 1 (-2001) own ∧ (∀ x, x ∈ own ↔ x ∈ l) ∧ own.length ≤ l.length := by
     unfold impl_Corner_53.f
     rw [if_pos (by omega)]
     exact ⟨_, rfl, compact_own hS⟩
    refine Ev.nobind ho ?_
    have hone : own ≠ [] := fun g => by
     obtain ⟨c, hc⟩ := List.exists_mem_of_ne_nil l hne
     rw [← c2, g] at hc; cases hc
    have h3 : impl_Corner_55.f own = some own.reverse := by unfold impl_Corner_55.f; rw [if_pos (by omega)]
    have hoS : ∀ x ∈ own, Sm x := fun x hx => hS x ((c2 x).1 hx)
    refine Ev.bind (implChain (by omega) hoS hone) (Ev.nobind h3 (Ev.bind (implChain (T := own.reverse) (by rw [List.length_reverse]; omega) (fun x hx => hoS x (List.mem_reverse.1 hx)) (fun g => hone (List.reverse_eq_nil_iff.1 g))) ?_))
    have l1 := half_len own
    have l2 := half_len own.reverse
    rw [List.length_reverse] at l2
    refine Ev.pos (by omega) (Ev.nobind rfl ?_)
    rw [← endR_out hS c2 c1 hne]
    unfold endR outOf
    refine Ev.ite (fun q => ?_) (fun q => ?_)
    ·
     rw [if_pos (show (half own ++ half own.reverse).length < 3 by omega)]; exact Ev.fin rfl
    ·
     rw [if_neg (show ¬ (half own ++ half own.reverse).length < 3 by omega)]
     refine Ev.ite (fun y => ?_) (fun y => ?_)
     ·
      rw [if_pos (show (half own ++ half own.reverse).length > 8 by omega)]; exact Ev.fin rfl
     ·
      rw [if_neg (show ¬ (half own ++ half own.reverse).length > 8 by omega)]; exact Ev.fin rfl
end Go.Proofs.YthbogbaaikjhbaaGreatDoor.HullImpl
namespace Go.Proofs.YthbogbaaikjhbaaGreatDoor.SeeKit
set_option linter.unusedSimpArgs false
set_option linter.unusedVariables false
set_option linter.unusedSectionVars false
open Go.RowKit Go.Proofs.YthbogbaaikjhbaaGreatDoor.PA Go.Proofs.YthbogbaaikjhbaaGreatDoor.Base Go.Proofs.YthbogbaaikjhbaaGreatDoor.StonesKit Go.Proofs.YthbogbaaikjhbaaGreatDoor.Geo Go.Proofs.YthbogbaaikjhbaaGreatDoor.SeamKit Go.Proofs.YthbogbaaikjhbaaGreatDoor.HullGeo Go.Proofs.YthbogbaaikjhbaaGreatDoor.HullWrap Go.Proofs.YthbogbaaikjhbaaGreatDoor.HullSpec Go.Proofs.YthbogbaaikjhbaaGreatDoor.GenKit Go.Proofs.YthbogbaaikjhbaaGreatDoor.DrawKit Go.Proofs.YthbogbaaikjhbaaGreatDoor.WhereKit Go.Proofs.YthbogbaaikjhbaaGreatDoor.AreaKit Go.Proofs.YthbogbaaikjhbaaGreatDoor.TurnKit Go.Proofs.YthbogbaaikjhbaaGreatDoor.MoveKit Go.Proofs.YthbogbaaikjhbaaGreatDoor.ShapeKit Go.Proofs.YthbogbaaikjhbaaGreatDoor.HullImpl Go.Proofs.YthbogbaaikjhbaaGreatDoorW.PrintWords Go.Proofs.YthbogbaaikjhbaaGreatDoorW.PrintLast Go.Proofs.YthbogbaaikjhbaaGreatDoorW.PrintMore
theorem fit_ok {l : List S43} (h : okS l = true) : Fit l := fun c hc => by
 have := ok_sm h c hc
 unfold Sm at this; omega
theorem implV {l : List S43} (h : okS l = true) : Ev (fun k => impl_ValidStone.f k l) true := by
 have := implOk (fit_ok h)
 rw [h] at this; exact this
theorem specV {l : List S43} (h : okS l = true) : Ev (fun k => spec_l03Ok.f k l) true := by
 have := specOk (fit_ok h)
 rw [h] at this; exact this
theorem iArea {l : List S43} (h : okS l = true) : Ev (fun k => impl_AreaTwice.f k l) (areaZ l, 0) := by
 unfold impl_AreaTwice.f
 exact Ev.bind (implV h) (Ev.pos rfl (Ev.bind (implArea h) (Ev.fin rfl)))
theorem sArea {l : List S43} (h : okS l = true) : Ev (fun k => spec_AreaTwice.f k l) (areaZ l, 0) := by
 unfold spec_AreaTwice.f
 exact Ev.bind (specV h) (Ev.pos rfl (Ev.bind (specArea h) (Ev.fin rfl)))
theorem scan_at {l : List S43} {p : S43} : ∀ (x : List S43) (i : Nat) (s : Int), 0 < s → (∀ (j : Nat) c, x[j]? = some c → 0 ≤ sd c (StonesKit.at_ l ((i + j + 1) % l.length)) p) →
  0 < scanG (whF l p) id x (i : Int) s ∧ ((s = 1 ∨ ∃ (j : Nat) (c : S43), x[j]? = some c ∧ sd c (StonesKit.at_ l ((i + j + 1) % l.length)) p = 0) → scanG (whF l p) id x (i : Int) s = 1)
 | [], i, s, hs, _ => ⟨hs, fun h => by
  rcases h with h | ⟨j, c, h, _⟩
  ·
   exact h
  ·
   simp at h⟩
 | c :: x, i, s, hs, h => by
  have h0 := h 0 c rfl
  rw [Nat.add_zero] at h0
  have hw : whF l p (i : Int) c s = .inr (if sd c (StonesKit.at_ l ((i + 1) % l.length)) p = 0 then 1 else s) := by
   unfold whF
   rw [Int.toNat_natCast, if_neg (by omega)]
   split <;> rfl
  rw [scanG, hw]
  have ei : ((i : Int) + 1) = ((i + 1 : Nat) : Int) := by omega
  show 0 < scanG (whF l p) id x ((i : Int) + 1) _ ∧ (_ → scanG (whF l p) id x ((i : Int) + 1) _ = 1)
  rw [ei]
  obtain ⟨r1, r2⟩ := scan_at x (i + 1) (if sd c (StonesKit.at_ l ((i + 1) % l.length)) p = 0 then 1 else s) (by split <;> omega) (fun j d hj => by
   have := h (j + 1) d (by simpa using hj)
   rw [show i + (j + 1) + 1 = i + 1 + j + 1 by omega] at this
   exact this)
  refine ⟨r1, fun q => r2 ?_⟩
  rcases q with q | ⟨j, d, q1, q2⟩
  ·
   left
   split
   ·
    rfl
   ·
    exact q
  ·
   cases j with
   | zero =>
    left
    have e : c = d := by simpa using q1
    subst e
    rw [Nat.add_zero] at q2
    rw [if_pos q2]
   | succ j =>
    right
    refine ⟨j, d, by simpa using q1, ?_⟩
    rw [show i + 1 + j + 1 = i + (j + 1) + 1 by omega]
    exact q2
/-- A point that no edge has on its right. -/
theorem wh_pos {l : List S43} (h : okS l = true) {p : S43} (hp : Sm p) (hin : ∀ i, i < l.length → 0 ≤ cr (StonesKit.at_ l i) (StonesKit.at_ l ((i + 1) % l.length)) p) :
  0 < wh l p ∧ ((∃ i, i < l.length ∧ cr (StonesKit.at_ l i) (StonesKit.at_ l ((i + 1) % l.length)) p = 0) → wh l p = 1) := by
 have hl := okS_len h
 have e : ∀ i (hi : i < l.length), l[i]? = some (StonesKit.at_ l i) := fun i hi => by
  unfold StonesKit.at_; rw [getC hi]; exact List.getElem?_eq_getElem hi
 have sc : ∀ i (hi : i < l.length), sd (StonesKit.at_ l i) (StonesKit.at_ l ((i + 1) % l.length)) p = cr (StonesKit.at_ l i) (StonesKit.at_ l ((i + 1) % l.length)) p := fun i hi => sd_cr (ok_smA h hi) (ok_smA h (nx_lt l i hi)) hp
 obtain ⟨r1, r2⟩ := scan_at (l := l) (p := p) l 0 2 (by omega) (fun j c hj => by
  obtain ⟨hj', rfl⟩ := List.getElem?_eq_some_iff.1 hj
  have hc : l[j] = StonesKit.at_ l j := by unfold StonesKit.at_; rw [getC hj']
  rw [hc, Nat.zero_add, sc j hj']
  exact hin j hj')
 refine ⟨r1, fun ⟨i, hi, q⟩ => r2 (Or.inr ⟨i, _, e i hi, ?_⟩)⟩
 rw [Nat.zero_add, sc i hi]
 exact q
theorem wh_corner {l : List S43} (h : okS l = true) {i : Nat} (hi : i < l.length) : wh l (StonesKit.at_ l i) = 1 :=
 (wh_pos h (ok_smA h hi) (fun j hj => ok_left h hj (at_memS hi))).2 ⟨i, hi, cr_self3 _ _⟩
theorem iWhere {l : List S43} (h : okS l = true) {c : S43} (hc : Sm c) : Ev (fun k => impl_WhereIs.f k l (wrap64 c.f0) (wrap64 c.f1)) (wh l c, 0) := by
 have hl := okS_len h
 unfold Sm at hc
 have w1 : IntKind.i16.wrap c.f0 = c.f0 := w16 (by omega) (by omega)
 have w2 : IntKind.i16.wrap c.f1 = c.f1 := w16 (by omega) (by omega)
 have i1 : impl_within.f c.f0 (-1000) 1000 = some true := by rw [implIn, show inB c.f0 (-1000) 1000 = true by rw [inB_iff]; omega]
 have i2 : impl_within.f c.f1 (-1000) 1000 = some true := by rw [implIn, show inB c.f1 (-1000) 1000 = true by rw [inB_iff]; omega]
 rw [w64 (x := c.f0) (by omega) (by omega), w64 (x := c.f1) (by omega) (by omega)]
 unfold impl_WhereIs.f
 rw [w1, w2]
 exact Ev.bind (implV h) (Ev.nobind i1 (Ev.pos rfl (Ev.nobind i2 (Ev.nobind rfl (Ev.pos rfl (Ev.bind (implWh l c (by omega)) (Ev.fin rfl)))))))
theorem sameSt (l : List S43) (hl : l.length ≤ 1000) : Ev (fun k => spec_SameStone.f k l l) true := by
 have key : ∀ (d i : Nat), i + d = l.length → Ev (fun k => spec_l03Same.l0 k l l (i : Int)) true := by
  intro d
  induction d with
  | zero =>
   intro i h
   refine Ev.step (fun k => by rw [spec_l03Same.l0]) ?_
   exact Ev.neg (by omega) (Ev.fin rfl)
  | succ d ih =>
   intro i h
   refine Ev.step (fun k => by rw [spec_l03Same.l0]) (Ev.pos (by omega) (Ev.pos (by omega) (Ev.pos (by omega) (Ev.neg (by simp) ?_))))
   rw [w64 (x := (i : Int) + 1) (by omega) (by omega)]
   exact ih (i + 1) (by omega)
 unfold spec_SameStone.f spec_l03Same.f
 exact Ev.bind (Ev.pos rfl (key l.length 0 (by omega))) (Ev.fin rfl)
theorem sameI (l : List S43) (hl : l.length ≤ 1000) : Ev (fun k => impl_SameStone.f k l l) true := by
 have key : ∀ (d i : Nat), i + d = l.length → Ev (fun k => impl_Corner_38.l0 k l l (l.length : Int) (i : Int)) true := by
  intro d
  induction d with
  | zero =>
   intro i h
   refine Ev.step (fun k => by rw [impl_Corner_38.l0]) ?_
   exact Ev.neg (by omega) (Ev.fin rfl)
  | succ d ih =>
   intro i h
   refine Ev.step (fun k => by rw [impl_Corner_38.l0]) (Ev.pos (by omega) (Ev.pos (by omega) (Ev.pos (by omega) (Ev.pos (by omega) (Ev.neg (by simp) ?_)))))
   rw [w64 (x := (i : Int) + 1) (by omega) (by omega)]
   exact ih (i + 1) (by omega)
 unfold impl_SameStone.f impl_Corner_38.f
 exact Ev.bind (Ev.pos rfl (key l.length 0 (by omega))) (Ev.fin rfl)
theorem grow_in : ∀ (xs : List S43) (s : Bx.B4), (∀ c ∈ xs, Sm c) → ((xs.foldl Bx.grow s).a ≤ s.a ∧ (xs.foldl Bx.grow s).b ≤ s.b ∧ s.c ≤ (xs.foldl Bx.grow s).c ∧ s.d ≤ (xs.foldl Bx.grow s).d) ∧
  ∀ c ∈ xs, (xs.foldl Bx.grow s).a ≤ c.f0 ∧ (xs.foldl Bx.grow s).b ≤ c.f1 ∧ c.f0 ≤ (xs.foldl Bx.grow s).c ∧ c.f1 ≤ (xs.foldl Bx.grow s).d
 | [], s, _ => ⟨⟨Int.le_refl _, Int.le_refl _, Int.le_refl _, Int.le_refl _⟩, fun c h => by cases h⟩
 | x :: xs, s, h => by
  have hx := h x List.mem_cons_self
  unfold Sm at hx
  obtain ⟨h1, h2⟩ := grow_in xs (Bx.grow s x) (fun c hc => h c (List.mem_cons_of_mem _ hc))
  have g1 : (Bx.grow s x).a ≤ s.a ∧ (Bx.grow s x).a ≤ x.f0 := by
   show mn s.a (wrap64 x.f0) ≤ s.a ∧ mn s.a (wrap64 x.f0) ≤ x.f0
   rw [w64 (by omega) (by omega)]; unfold mn; omega
  have g2 : (Bx.grow s x).b ≤ s.b ∧ (Bx.grow s x).b ≤ x.f1 := by
   show mn s.b (wrap64 x.f1) ≤ s.b ∧ mn s.b (wrap64 x.f1) ≤ x.f1
   rw [w64 (by omega) (by omega)]; unfold mn; omega
  have g3 : s.c ≤ (Bx.grow s x).c ∧ x.f0 ≤ (Bx.grow s x).c := by
   show s.c ≤ mx s.c (wrap64 x.f0) ∧ x.f0 ≤ mx s.c (wrap64 x.f0)
   rw [w64 (by omega) (by omega)]; unfold mx; omega
  have g4 : s.d ≤ (Bx.grow s x).d ∧ x.f1 ≤ (Bx.grow s x).d := by
   show s.d ≤ mx s.d (wrap64 x.f1) ∧ x.f1 ≤ mx s.d (wrap64 x.f1)
   rw [w64 (by omega) (by omega)]; unfold mx; omega
  rw [List.foldl_cons]
  refine ⟨by omega, fun c hc => ?_⟩
  rcases List.mem_cons.1 hc with rfl | hc
  ·
   omega
  ·
   exact h2 c hc
theorem boxIs {l : List S43} (h : okS l = true) : ∃ a b c d : Int, Ev (fun k => impl_BoxOf.f k l) (a, b, c, d, 0) ∧ ∀ x ∈ l, a ≤ x.f0 ∧ b ≤ x.f1 ∧ x.f0 ≤ c ∧ x.f1 ≤ d := by
 have hl := okS_len h
 have g := grow_in l (Bx.start (l.getD 0 z43)) (ok_sm h)
 refine ⟨_, _, _, _, ?_, g.2⟩
 unfold impl_BoxOf.f
 refine Ev.bind (implV h) (Ev.pos rfl (Ev.pos (by omega) ?_))
 have := Bx.implLoop l (by omega) l.length 0 (Bx.start (l.getD 0 z43)) (by omega)
 rw [List.drop_zero] at this
 have r0 : rd_T43 l 0 = l.getD 0 z43 := rdC' l 0
 rw [r0]
 exact this
theorem firstBoth {l : List S43} (h : okS l = true) : Ev (fun k => impl_FirstStone.f k l) (Fst.turned l, 0) ∧ Ev (fun k => spec_FirstStone.f k l) (Fst.turned l, 0) ∧ (Fst.turned l).length ≤ 16 := by
 have hl := okS_len h
 have a := Fst.implRes (fit_ok h)
 have b := Fst.specRes (fit_ok h)
 have t := Fst.turned_length l
 unfold Fst.res at a b
 rw [if_pos h] at a b
 exact ⟨a, b, by omega⟩
theorem first_zero {l : List S43} (h : okS l = true) (hk : ∀ c ∈ l, key (StonesKit.at_ l 0) ≤ key c) : Fst.turned l = l := by
 have hl := okS_len h
 have z : Fst.firstAt l = 0 := by
  unfold Fst.firstAt
  have := iter_inv (f := Fst.step l) (Inv := fun _ s => s = 0) (l.length - 1) 1 0 (fun s j h1 h2 hi => by
   subst hi
   have hj : j < l.length := by omega
   have hc := hk _ (at_memS hj)
   have q : ¬ Fst.less (l.getD j z43) (l.getD 0 z43) = true := fun g => by
    have := (lt_iff (ok_smA h hj) (ok_smA h (show 0 < l.length by omega))).1 g
    omega
   unfold Fst.step
   rw [if_neg q]) rfl
  exact this
 unfold Fst.turned
 rw [z]
 simp
theorem p6Stone {l : List Int} (h : U8 l) : ∃ st, Ev (fun k => spec_P6Stone.f k l) st ∧ okS st = true ∧ ∀ c ∈ st, (0 ≤ c.f0 ∧ c.f0 ≤ 16) ∧ (0 ≤ c.f1 ∧ c.f1 ≤ 8) := by
 obtain ⟨v, p1, t1, e1, v0, v1, a0, a1⟩ := pick_ok h (p := 0) 0 (by omega) (by omega) (n := 9) (by omega) (by omega)
 obtain ⟨st, p', t', e2, hd, _, _⟩ := DrawKit.drawn_ok h (x := v) (by omega) t1 (p := p1) (by omega) (by omega)
 refine ⟨st, ?_, hd.ok, fun c hc => ?_⟩
 ·
  unfold spec_P6Stone.f
  exact Ev.nobind rfl (Ev.nobind e1 (Ev.bind e2 (Ev.fin rfl)))
 ·
  have := hd.near c hc
  omega
theorem p6Pick {l : List Int} (h : U8 l) {n : Int} (h1 : 1 ≤ n) (h2 : n ≤ 100) : ∃ i : Int, (0 ≤ i ∧ i < n) ∧ spec_P6Pick.f l n = some i := by
 obtain ⟨v, p1, t1, e1, v0, v1, _, _⟩ := pick_ok h (p := 0) 0 (by omega) (by omega) (n := n) (by omega) (by omega)
 refine ⟨v, ⟨v0, v1⟩, ?_⟩
 unfold spec_P6Pick.f
 have e0 : spec_l00From.f l = some (l, 0, 0) := rfl
 rw [e0, Option.bind_some]
 show (spec_l00Src_pick.f l 0 0 n).bind _ = _
 rw [e1, Option.bind_some]
theorem corners_loop {l : List Int} (h : U8 l) : ∀ (d : Nat) (acc : List S43) (p t : Int), acc.length + d ≤ 9 → (∀ c ∈ acc, Sm c) → 0 ≤ p → p ≤ 100 - 2 * (d : Int) →
  ∃ r, Ev (fun k => spec_P6Corners.l0 k acc (d : Int) l p t) r ∧ r.length ≤ 9 ∧ ∀ c ∈ r, Sm c
 | 0, acc, p, t, hl, ha, h0, h1 => by
  exact ⟨acc, Ev.step (fun k => by rw [spec_P6Corners.l0]) (Ev.neg (by omega) (Ev.fin rfl)), by omega, ha⟩
 | d + 1, acc, p, t, hl, ha, h0, h1 => by
  obtain ⟨a, b, p1, t1, e, q1, q2, q3, q4⟩ := nearN h t h0 (by omega) (x := 0) (by omega) (n := 7) (by omega) (by omega)
  have wd : Aside0 (wrap64 (((d + 1 : Nat) : Int) - 1) = (d : Int)) := ⟨by rw [w64 (by omega) (by omega)]; omega⟩
  obtain ⟨r, e2, hr, hs⟩ := corners_loop h d (acc ++ [⟨a, b⟩]) p1 t1 (by rw [List.length_append, List.length_singleton]; omega) (fun c hc => by
   rcases List.mem_append.1 hc with hc | hc
   ·
    exact ha c hc
   ·
    rw [List.mem_singleton] at hc; subst hc
    unfold Sm
    dsimp only
    omega) (by omega) (by omega)
  refine ⟨r, Ev.step (fun k => by rw [spec_P6Corners.l0]) ?_, hr, hs⟩
  refine Ev.pos (by omega) (Ev.nobind e (Ev.pos (by omega) ?_))
  rw [wd.out]
  exact e2
theorem p6Corners {l : List Int} (h : U8 l) : ∃ r, Ev (fun k => spec_P6Corners.f k l) r ∧ r.length ≤ 9 ∧ ∀ c ∈ r, Sm c := by
 obtain ⟨v, p1, t1, e1, v0, v1, a0, a1⟩ := pick_ok h (p := 0) 0 (by omega) (by omega) (n := 10) (by omega) (by omega)
 obtain ⟨r, e2, hr, hs⟩ := corners_loop h v.toNat [] p1 t1 (by simp; omega) (fun c hc => by cases hc) (by omega) (by omega)
 refine ⟨r, ?_, hr, hs⟩
 unfold spec_P6Corners.f
 rw [Int.toNat_of_nonneg v0] at e2
 exact Ev.nobind rfl (Ev.nobind e1 e2)
theorem hull_cases {l : List S43} (hl : l.length ≤ 9) (hs : ∀ c ∈ l, Sm c) : (∃ vs, hullRes l = (vs, 0) ∧ okS vs = true ∧ Hul l (first l) vs ∧ l ≠ []) ∨ hullRes l = ([], 3) ∨ hullRes l = ([], 4) := by
 have hp : l.all placed = true := List.all_eq_true.2 (fun c hc => placed_sm.2 (hs c hc))
 by_cases h0 : l = []
 ·
  right; right
  unfold hullRes
  rw [if_neg (by omega), if_pos hp, if_pos h0]
 ·
  have e : hullRes l = endR (round l) := by
   unfold hullRes
   rw [if_neg (by omega), if_pos hp, if_neg h0]
  unfold endR at e
  split at e
  ·
   exact Or.inr (Or.inr e)
  ·
   split at e
   ·
    exact Or.inr (Or.inl e)
   ·
    left
    obtain ⟨h1, _, _, h2, _⟩ := hull_ok e
    exact ⟨_, e, h1, h2, h0⟩
theorem hull_left {l vs : List S43} (h : Hul l (first l) vs) {c : S43} (hc : c ∈ l) : ∀ i, i < vs.length → 0 ≤ cr (StonesKit.at_ vs i) (StonesKit.at_ vs ((i + 1) % vs.length)) c := fun i hi =>
 ((h.edge_at hi).sup c hc).1
theorem hull_first {l vs : List S43} (hs : ∀ c ∈ l, Sm c) (h : Hul l (first l) vs) (hne : l ≠ []) : ∀ c ∈ vs, key (StonesKit.at_ vs 0) ≤ key c := fun c hc => by
 have e : StonesKit.at_ vs 0 = first l := h.path.hd
 rw [e]
 rcases (first_is hs hne).2 c (h.path.mem c hc) with q | q
 ·
  rw [q]; exact Int.le_refl _
 ·
  omega
end Go.Proofs.YthbogbaaikjhbaaGreatDoor.SeeKit
namespace Go.Proofs.YthbogbaaikjhbaaGreatDoor.Pure
set_option linter.unusedSimpArgs false
set_option linter.unusedVariables false
set_option linter.unusedSectionVars false
open Go.RowKit Go.Proofs.YthbogbaaikjhbaaGreatDoor.PA Go.Proofs.YthbogbaaikjhbaaGreatDoor.Base Go.Proofs.YthbogbaaikjhbaaGreatDoor.StonesKit Go.Proofs.YthbogbaaikjhbaaGreatDoor.Geo Go.Proofs.YthbogbaaikjhbaaGreatDoor.SeamKit Go.Proofs.YthbogbaaikjhbaaGreatDoor.HullSpec Go.Proofs.YthbogbaaikjhbaaGreatDoor.GenKit Go.Proofs.YthbogbaaikjhbaaGreatDoor.WhereKit Go.Proofs.YthbogbaaikjhbaaGreatDoor.AreaKit Go.Proofs.YthbogbaaikjhbaaGreatDoor.TurnKit Go.Proofs.YthbogbaaikjhbaaGreatDoor.MoveKit Go.Proofs.YthbogbaaikjhbaaGreatDoor.ShapeKit Go.Proofs.YthbogbaaikjhbaaGreatDoor.HullImpl Go.Proofs.YthbogbaaikjhbaaGreatDoor.SeeKit Go.Proofs.YthbogbaaikjhbaaGreatDoorW.PrintWords Go.Proofs.YthbogbaaikjhbaaGreatDoorW.PrintLast Go.Proofs.YthbogbaaikjhbaaGreatDoorW.PrintMore
theorem wfu8 {x : Int} (h : (Lit.int .u8 x).wf = true) : 0 ≤ x ∧ x ≤ 255 := by
 simp [Lit.wf, IntKind.min, IntKind.max, IntKind.signed, IntKind.bits] at h; omega
theorem iMir {l : List S43} (h : okS l = true) : Ev (fun k => impl_MirrorStone.f k l) (mirS l, 0) := by
 have hl := okS_len h
 refine Ev.to (Mir.implRes (fit_ok h) (by omega)) ?_
 unfold Mir.res
 rw [if_pos h]; rfl
theorem sMir {l : List S43} (h : okS l = true) : Ev (fun k => spec_MirrorStone.f k l) (mirS l, 0) := by
 have hl := okS_len h
 refine Ev.to (Mir.specRes (fit_ok h) (by omega)) ?_
 unfold Mir.res
 rw [if_pos h]; rfl
theorem iTrn {l : List S43} (h : okS l = true) : Ev (fun k => impl_TurnStone.f k l) (l.map Trn.trn, 0) := by
 have hl := okS_len h
 refine Ev.to (Trn.implRes (fit_ok h) (by omega)) ?_
 unfold Trn.res
 rw [if_pos h]
theorem sTrn {l : List S43} (h : okS l = true) : Ev (fun k => spec_TurnStone.f k l) (l.map Trn.trn, 0) := by
 have hl := okS_len h
 refine Ev.to (Trn.specRes (fit_ok h) (by omega)) ?_
 unfold Trn.res
 rw [if_pos h]
theorem within {list vs : List S43} (hl : list.length ≤ 9) (hs : ∀ c ∈ list, Sm c) (hv : okS vs = true) (hh : HullWrap.Hul list (HullWrap.first list) vs) (hne : list ≠ []) : ∀ (d i : Nat), i + d = list.length → Ev (fun k => laws_FnStones.l2 k list vs (i : Int)) true
 | 0, i, e => by
  have hvl := okS_len hv
  obtain ⟨f1, f2, _⟩ := firstBoth hv
  rw [first_zero hv (hull_first hs hh hne)] at f1
  refine Ev.step (fun k => by rw [laws_FnStones.l2]) (Ev.neg (by omega) ?_)
  refine Ev.bind f1 (Ev.pos rfl (Ev.bind (sameSt vs (by omega)) (Ev.pos rfl (Ev.bind (implV hv) (Ev.fin rfl)))))
 | d + 1, i, e => by
  have hi : i < list.length := by omega
  have hc := hs _ (List.getElem_mem hi)
  have hw := (wh_pos hv hc (hull_left hh (List.getElem_mem hi))).1
  refine Ev.step (fun k => by rw [laws_FnStones.l2]) (Ev.pos (by omega) (Ev.pos (by omega) ?_))
  rw [rdC list i hi, w64 (x := (i : Int) + 1) (by omega) (by omega)]
  refine Ev.bind (iWhere hv hc) (Ev.pos rfl (Ev.neg ?_ (within hl hs hv hh hne d (i + 1) (by omega))))
  show ¬ wh vs list[i] = 0
  omega
theorem hulls {s : List S43} {l1 : List Int} (h1 : U8 l1) {a b c d : Int} : Ev (fun k => laws_FnStones.l1 k l1 s (s.length : Int) a b c d) true := by
 obtain ⟨list, el, hl, hs⟩ := p6Corners h1
 have hf : Fit list := fun c hc => by
  have := hs c hc
  unfold Sm at this; omega
 have ih := implHull hf
 have sh := specHull hf
 refine Ev.step (fun k => by rw [laws_FnStones.l1]) (Ev.neg (by omega) (Ev.bind el (Ev.bind ih (Ev.bind sh ?_))))
 rcases hull_cases hl hs with ⟨vs, e, hv, hh, hne⟩ | e | e
 ·
  have hvl := okS_len hv
  rw [e]
  refine Ev.pos rfl (Ev.bind (sameSt vs (by omega)) (Ev.pos rfl (Ev.pos rfl ?_)))
  refine Ev.step (fun k => by rw [laws_FnStones.j5]) (Ev.neg (by decide) (Ev.pos rfl ?_))
  exact within hl hs hv hh hne list.length 0 (by omega)
 ·
  rw [e]
  refine Ev.pos rfl (Ev.bind (sameSt [] (by simp)) (Ev.pos rfl ?_))
  refine Ev.neg (by show ¬ (3 : Int) = 0; decide) ?_
  refine Ev.neg (by show ¬ (3 : Int) = 4; decide) ?_
  refine Ev.step (fun k => by rw [laws_FnStones.j5]) ?_
  refine Ev.neg (by decide) ?_
  refine Ev.neg (by show ¬ (3 : Int) = 0; decide) ?_
  exact Ev.pos rfl (Ev.fin rfl)
 ·
  rw [e]
  refine Ev.pos rfl (Ev.bind (sameSt [] (by simp)) (Ev.pos rfl ?_))
  refine Ev.neg (by show ¬ (4 : Int) = 0; decide) ?_
  refine Ev.pos rfl ?_
  refine Ev.step (fun k => by rw [laws_FnStones.j5]) ?_
  refine Ev.neg (by decide) ?_
  refine Ev.neg (by show ¬ (4 : Int) = 0; decide) ?_
  refine Ev.neg (by show ¬ (4 : Int) = 3; decide) ?_
  exact Ev.fin rfl
theorem corners {s : List S43} (h : okS s = true) {l1 : List Int} (h1 : U8 l1) {a b c d : Int} (hb : ∀ x ∈ s, a ≤ x.f0 ∧ b ≤ x.f1 ∧ x.f0 ≤ c ∧ x.f1 ≤ d) : ∀ (n i : Nat), i + n = s.length → Ev (fun k => laws_FnStones.l1 k l1 s (i : Int) a b c d) true
 | 0, i, e => by
  rw [show i = s.length by omega]
  exact hulls h1
 | n + 1, i, e => by
  have hl := okS_len h
  have hi : i < s.length := by omega
  have hm := List.getElem_mem hi
  have hc := ok_sm h _ hm
  have hx := hb _ hm
  have ea : at_ s i = s[i] := by unfold at_; rw [getC hi]
  have hw := wh_corner h hi
  rw [ea] at hw
  have wi := iWhere h hc
  rw [hw] at wi
  have g := hc
  unfold Sm at g
  refine Ev.step (fun k => by rw [laws_FnStones.l1]) (Ev.pos (by omega) (Ev.pos (by omega) ?_))
  rw [rdC s i hi, w64 (x := (i : Int) + 1) (by omega) (by omega)]
  refine Ev.bind wi (Ev.pos rfl (Ev.pos rfl ?_))
  rw [w64 (x := s[i].f0) (by omega) (by omega), w64 (x := s[i].f1) (by omega) (by omega)]
  refine Ev.neg (by omega) (Ev.neg (by omega) (Ev.neg (by omega) (Ev.neg (by omega) ?_)))
  exact corners h h1 hb n (i + 1) (by omega)
theorem turnStep {s now : List S43} {l1 : List Int} {A : Int} (h : okS now = true) (ha : areaZ now = A) {i : Int} (hi : 0 ≤ i ∧ i < 4) {r : Bool} (hr : Ev (fun k => laws_FnStones.l0 k l1 s A (now.map Trn.trn) (i + 1)) r) : Ev (fun k => laws_FnStones.l0 k l1 s A now i) r := by
 have hl := okS_len h
 have ht := turn_ok h
 refine Ev.step (fun k => by rw [laws_FnStones.l0]) (Ev.pos (by omega) ?_)
 rw [w64 (x := i + 1) (by omega) (by omega)]
 refine Ev.bind (iTrn h) (Ev.bind (sTrn h) (Ev.bind (iArea ht) ?_))
 refine Ev.pos rfl (Ev.pos rfl (Ev.bind (sameSt (now.map Trn.trn) (by rw [List.length_map]; omega)) (Ev.pos rfl (Ev.pos rfl (Ev.pos ?_ hr)))))
 show areaZ (now.map Trn.trn) = A
 rw [turn_area h]; exact ha
theorem moves {s : List S43} (h : okS s = true) (hn : ∀ c ∈ s, (0 ≤ c.f0 ∧ c.f0 ≤ 16) ∧ (0 ≤ c.f1 ∧ c.f1 ≤ 8)) {l1 : List Int} (h1 : U8 l1) {A : Int} : Ev (fun k => laws_FnStones.l0 k l1 s A s 4) true := by
 have hl := okS_len h
 have hs := ok_sm h
 obtain ⟨p, hp, ep⟩ := p6Pick h1 (n := 40) (by omega) (by omega)
 obtain ⟨a, b, c, d, eb, hb⟩ := boxIs h
 obtain ⟨f1, f2, hf⟩ := firstBoth h
 have we : Aside0 (wrap64 (p - 20) = p - 20) := ⟨w64 (by omega) (by omega)⟩
 have wn : Aside0 (wrap64 (-(p - 20)) = -(p - 20)) := ⟨w64 (by omega) (by omega)⟩
 have hm : ∀ c ∈ s, Sm (Mv.mv (p - 20) (-(p - 20)) c) := fun c hc => by
  have := hn c hc
  rw [mv_is (hs c hc) (by omega) (by omega)]
  unfold Sm
  dsimp only
  omega
 have ok2 := move_ok h (a := p - 20) (b := -(p - 20)) (by omega) (by omega) hm
 have back := move_back hs (a := p - 20) (by omega) hm
 have m1 := implMove h (a := p - 20) (b := -(p - 20)) (by omega) (by omega) hm
 have m2 := implMove ok2 (a := -(p - 20)) (b := p - 20) (by omega) (by omega) (fun c hc => by
  have : Mv.mv (-(p - 20)) (p - 20) c ∈ (s.map (Mv.mv (p - 20) (-(p - 20)))).map (Mv.mv (-(p - 20)) (p - 20)) := List.mem_map_of_mem hc
  rw [back] at this
  exact hs _ this)
 rw [back] at m2
 refine Ev.step (fun k => by rw [laws_FnStones.l0]) (Ev.neg (by omega) ?_)
 refine Ev.bind (sameSt s (by omega)) (Ev.pos rfl (Ev.nobind ep ?_))
 rw [we.out, wn.out]
 refine Ev.bind m1 (Ev.bind m2 (Ev.bind eb (Ev.bind f1 (Ev.bind f2 ?_))))
 refine Ev.pos rfl (Ev.pos rfl (Ev.bind (sameSt s (by omega)) (Ev.pos rfl (Ev.pos rfl (Ev.pos rfl (Ev.pos rfl (Ev.bind (sameSt (Fst.turned s) (by omega)) ?_)))))))
 refine Ev.step (fun k => by rw [laws_FnStones.j3]) (Ev.neg (by decide) ?_)
 exact corners h h1 hb s.length 0 (by omega)
theorem main {l0 l1 : List Int} (h0 : U8 l0) (h1 : U8 l1) : Ev (fun k => laws_FnStones.j0 k l0 l1 false) true := by
 obtain ⟨s, es, h, hn⟩ := p6Stone h0
 have hl := okS_len h
 have hs := ok_sm h
 have hm := mir_ok h
 have ha := area_pos h
 have mm := iMir hm
 rw [mir_mir hs] at mm
 have am := iArea hm
 rw [mir_area h] at am
 have len := mirS_len s
 refine Ev.step (fun k => by rw [laws_FnStones.j0]) (Ev.neg (by decide) (Ev.bind es (Ev.bind (TextBack.implText h) (Ev.bind (TextBack.readBack h) ?_))))
 refine Ev.bind (iArea h) (Ev.bind (sArea h) (Ev.bind (iMir h) (Ev.bind (sMir h) (Ev.bind mm (Ev.bind am ?_)))))
 refine Ev.pos rfl (Ev.bind (sameSt s (by omega)) (Ev.pos rfl (Ev.bind (sameI s (by omega)) (Ev.pos rfl (Ev.bind (implV h) (Ev.pos rfl ?_))))))
 refine Ev.pos rfl (Ev.pos rfl (Ev.pos rfl (Ev.neg (by show ¬ areaZ s < 1; omega) ?_)))
 refine Ev.pos rfl (Ev.pos rfl (Ev.bind (sameSt (mirS s) (by omega)) (Ev.pos rfl (Ev.pos rfl (Ev.bind (sameSt s (by omega)) (Ev.pos rfl (Ev.pos rfl ?_)))))))
 refine Ev.step (fun k => by rw [laws_FnStones.j1]) (Ev.neg (by simp) ?_)
 have t1 := turn_ok h
 have t2 := turn_ok t1
 have t3 := turn_ok t2
 have a1 := turn_area h
 have a2 := (turn_area t1).trans a1
 have a3 := (turn_area t2).trans a2
 have e4 := moves h hn h1 (A := areaZ s)
 have t4 := turn4 hs
 refine turnStep h rfl (by omega) (turnStep t1 a1 (by omega) (turnStep t2 a2 (by omega) (turnStep t3 a3 (by omega) ?_)))
 rw [t4]
 exact e4
theorem FnStones : laws_FnStones.Pure := by
 intro l0 l1 _ _ w0 _ _ w1
 have h0 : U8 l0 := fun x hx => wfu8 (w0 x hx)
 have h1 : U8 l1 := fun x hx => wfu8 (w1 x hx)
 have skip : Ev (fun k => laws_FnStones.j0 k l0 l1 true) true := by
  refine Ev.step (fun k => by rw [laws_FnStones.j0]) ?_
  exact Ev.pos rfl (Ev.fin rfl)
 have key : Ev (fun k => laws_FnStones.f k l0 l1) true := by
  unfold laws_FnStones.f
  refine Ev.nobind rfl (Ev.ite (fun _ => skip) (fun _ => Ev.nobind rfl ?_))
  cases (decide ((l1.length : Int) > 4096)) with
  | true => exact skip
  | false => exact main h0 h1
 obtain ⟨k, hk⟩ := key
 exact ⟨k, hk k (Nat.le_refl _)⟩
end Go.Proofs.YthbogbaaikjhbaaGreatDoor.Pure
