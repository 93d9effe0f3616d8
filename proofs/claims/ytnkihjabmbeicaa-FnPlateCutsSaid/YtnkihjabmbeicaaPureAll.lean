/- Kinds of pieces: what the reference's and the program's functions come to; the laws' own functions over lists of kinds. · The tables of worths: the program's and the reference's are filled alike, and filling them ends. · Cuts of a plate: what the reference's and the program's sizes come to is the same; the laws' own functions over lists of cuts. · What the table of worths holds: each entry is zero, a kind's value, or the sum of two entries of a cut; and it is the greatest of these. · Both searches for the cuts go alike: the reference's list is longer than sixty where the program fails; else it is a tree of cuts, told in order. · The sizes of the entries of a tree of cuts, told in order, as the reference's walk finds them. · Sums over the entries of a tree of cuts: areas sum to the plate, values to the table's entry. · Both functions of sizes answer the sizes of a tree of cuts. · The program's sums over a tree of cuts. · What the law draws: at most three small kinds, and numbers in their range. · The pieces of a tree of cuts, their areas, and equal lists. · The law FnPlateCuts says true at all codes. -/
import Derived.Test.YtnkihjabmbeicaaLoopsAll
import Derived.Test.YtnkihjabmbeicaaPAxgKinds
import Derived.Test.YtnkihjabmbeicaaPAxgPlate
import Derived.Test.YtnkihjabmbeicaaPAxf25
import Derived.Test.YtnkihjabmbeicaaPAxf28
import Derived.Test.YtnkihjabmbeicaaPAxm10
import Derived.Test.YtnkihjabmbeicaaPAxf36d
import Derived.Test.YtnkihjabmbeicaaPAxf37d
import Derived.Test.YtnkihjabmbeicaaPAxf26
import Derived.Test.YtnkihjabmbeicaaPAxf29
import Derived.Test.YtnkihjabmbeicaaPAxm7
import Derived.Test.YtnkihjabmbeicaaPAxf14
import Derived.Test.YtnkihjabmbeicaaPAxm9
import Derived.Test.YtnkihjabmbeicaaPAxf33
import Derived.Test.YtnkihjabmbeicaaPAxf21
import Derived.Test.YtnkihjabmbeicaaPAxf22
import Derived.Test.YtnkihjabmbeicaaPAxf39
import Derived.Test.YtnkihjabmbeicaaPAxf5
import Derived.Test.YtnkihjabmbeicaaPAxm6
import Derived.Test.YtnkihjabmbeicaaPAxf11
import Derived.Test.YtnkihjabmbeicaaPAxf20
import Derived.Test.YtnkihjabmbeicaaPAxf3
namespace Go.Proofs.Ytnkihjabmbeicaa.KindsKit
set_option linter.unusedSimpArgs false
set_option linter.unusedVariables false
open Go.RowKit Go.Proofs.Ytnkihjabmbeicaa.PA Go.Proofs.Ytnkihjabmbeicaa.Base Go.Proofs.YtnkihjabmbeicaaW.PrintWords Go.Proofs.YtnkihjabmbeicaaW.PrintLast Go.Proofs.YtnkihjabmbeicaaW.PrintMore
theorem specIn (n b c : Int) : spec_l00In.f n b c = some (inB n b c) := inB_ite
theorem implIn (n b c : Int) : impl_within.f n b c = some (inB n b c) := inB_ite
theorem specPlate (n : Int) : spec_l04Plate.f n = some (inB n 1 24) := by unfold spec_l04Plate.f; rw [specIn]; rfl
theorem rdK (xs : List S46) (i : Nat) (h : i < xs.length) : rd_T46 xs (i : Int) = xs[i] := getD_nat xs z46 i h
theorem rdK' (xs : List S46) (i : Nat) : rd_T46 xs (i : Int) = xs.getD i z46 := by simp [rd_T46]
def kindB (c : S46) : Bool := inB (wrap64 c.f0) 1 24 && (inB (wrap64 c.f1) 1 24 && inB (wrap64 c.f2) 0 1000)
def kindsB (l : List S46) : Bool := decide ((l.length : Int) ≤ 8) && l.all kindB
theorem implKind (c : S46) : impl_ValidKinds_1.f c.f0 c.f1 c.f2 = some (!kindB c) := by
 unfold impl_ValidKinds_1.f kindB
 rw [implIn, implIn, implIn, Option.bind_some]
 cases inB (wrap64 c.f0) 1 24 with
 | false => rfl
 | true =>
  rw [if_pos rfl, Option.bind_some]
  cases inB (wrap64 c.f1) 1 24 with
  | false => rfl
  | true => rfl
theorem implKinds (l : List S46) : impl_ValidKinds.f l = some (kindsB l) := by
 unfold impl_ValidKinds.f kindsB
 by_cases c : (l.length : Int) ≤ 8
 ·
  rw [if_pos c, decide_eq_true c]
  unfold impl_ValidKinds_1_any.f
  rw [idxO_any (q := fun x => !kindB x) l (fun x _ => implKind x), Option.bind_some]
  congr 1
  rw [Bool.eq_iff_iff]; simp [List.any_eq_true, List.all_eq_true]
 ·
  rw [if_neg c, decide_eq_false c]; rfl
theorem all_getK (l : List S46) (p : S46 → Bool) : ((List.range l.length).all fun i => p (l.getD i z46)) = l.all p := by
 rw [Bool.eq_iff_iff, List.all_eq_true, List.all_eq_true]
 constructor
 ·
  intro h x hx
  obtain ⟨i, hi, rfl⟩ := List.getElem_of_mem hx
  have := h i (by simpa using hi)
  simpa [List.getD_eq_getElem?_getD, hi] using this
 ·
  intro h i hi
  have hi' : i < l.length := by simpa using hi
  rw [List.getD_eq_getElem?_getD, List.getElem?_eq_getElem hi']
  exact h _ (List.getElem_mem hi')
theorem ite_and (a b : Bool) : (if a = true then b else false) = (b && a) := by cases a <;> cases b <;> rfl
theorem specKinds (l : List S46) (hl : l.length ≤ 1048576) : Ev (fun k => spec_l04Kinds.f k l) (kindsB l) := by
 unfold spec_l04Kinds.f kindsB
 refine Ev.to (rangeAll_ev0 (fun k i => spec_l04Kinds.l0 k l i) l.length (fun i => kindB (l.getD i z46)) (decide ((l.length : Int) ≤ 8)) false ?_ ?_ ?_) (by rw [all_getK, ite_and])
 ·
  intro i hi hp r' hr
  unfold kindB at hp
  rw [Bool.and_eq_true, Bool.and_eq_true] at hp
  refine Ev.step (fun k => by rw [spec_l04Kinds.l0]) (Ev.pos (by omega) (Ev.pos (by omega) ?_))
  rw [rdK' l i, w64 (x := (i : Int) + 1) (by omega) (by omega)]
  exact Ev.nobind (specPlate _) (Ev.pos hp.1 (Ev.nobind (specPlate _) (Ev.pos hp.2.1 (Ev.nobind (specIn _ _ _) (Ev.pos hp.2.2 hr)))))
 ·
  intro i hi hp
  unfold kindB at hp
  refine Ev.step (fun k => by rw [spec_l04Kinds.l0]) (Ev.pos (by omega) (Ev.pos (by omega) ?_))
  rw [rdK' l i]
  refine Ev.nobind (specPlate _) (Ev.ite (fun e => ?_) (fun _ => Ev.fin rfl))
  rw [e, Bool.true_and] at hp
  refine Ev.nobind (specPlate _) (Ev.ite (fun e => ?_) (fun _ => Ev.fin rfl))
  rw [e, Bool.true_and] at hp
  exact Ev.nobind (specIn _ _ _) (Ev.neg (by rw [hp]; decide) (Ev.fin rfl))
 ·
  intro _
  refine Ev.step (fun k => by rw [spec_l04Kinds.l0]) ?_
  exact Ev.neg (by omega) (Ev.fin rfl)
end Go.Proofs.Ytnkihjabmbeicaa.KindsKit
namespace Go.Proofs.Ytnkihjabmbeicaa.BestKit
set_option linter.unusedSimpArgs false
set_option linter.unusedVariables false
open Go.RowKit Go.Proofs.Ytnkihjabmbeicaa.PA Go.Proofs.Ytnkihjabmbeicaa.Base Go.Proofs.Ytnkihjabmbeicaa.KindsKit Go.Proofs.YtnkihjabmbeicaaW.PrintWords Go.Proofs.YtnkihjabmbeicaaW.PrintLast Go.Proofs.YtnkihjabmbeicaaW.PrintMore
theorem max_mx (a b : Int) : spec_l00Max.f a b = some (mx a b) := by
 unfold spec_l00Max.f mx
 split <;> split <;> first | rfl | (congr 1; omega)
theorem same : ∀ k, (∀ a0 a1 l x7 x8, impl_worthOf.l0 k a0 a1 l x7 x8 = spec_l04Worth.l0 k a0 a1 l x7 x8) ∧
  (∀ a0 a1 l x7 x8 x9, impl_worthOf.l1 k a0 a1 l x7 x8 x9 = spec_l04Worth.l1 k a0 a1 l x7 x8 x9) ∧
  (∀ a0 a1 l x7 x8 x9 x10 i, impl_worthOf.l2 k a0 a1 l x7 x8 x9 x10 l (l.length : Int) i = spec_l04Worth.l2 k a0 a1 l x7 x8 x9 x10 i) ∧
  (∀ a0 a1 l x7 x8 x9 x10 i, impl_worthOf.l3 k a0 a1 l x7 x8 x9 x10 i = spec_l04Worth.l3 k a0 a1 l x7 x8 x9 x10 i) ∧
  (∀ a0 a1 l x7 x8 x9 x10 i, impl_worthOf.l4 k a0 a1 l x7 x8 x9 x10 i = spec_l04Worth.l4 k a0 a1 l x7 x8 x9 x10 i)
 | 0 => ⟨fun _ _ _ _ _ => rfl, fun _ _ _ _ _ _ => rfl, fun _ _ _ _ _ _ _ _ => rfl, fun _ _ _ _ _ _ _ _ => rfl, fun _ _ _ _ _ _ _ _ => rfl⟩
 | k + 1 => by
  obtain ⟨h0, h1, h2, h3, h4⟩ := same k
  refine ⟨?_, ?_, ?_, ?_, ?_⟩
  ·
   intro a0 a1 l x7 x8
   simp only [impl_worthOf.l0, spec_l04Worth.l0, h1]
  ·
   intro a0 a1 l x7 x8 x9
   simp only [impl_worthOf.l1, spec_l04Worth.l1, h0, h2]
  ·
   intro a0 a1 l x7 x8 x9 x10 i
   simp only [impl_worthOf.l2, spec_l04Worth.l2, h2, h3, max_mx, Option.bind_some]
   split
   ·
    rename_i hi
    simp only [hi, if_true]
   ·
    rfl
  ·
   intro a0 a1 l x7 x8 x9 x10 i
   simp only [impl_worthOf.l3, spec_l04Worth.l3, h3, h4, max_mx, Option.bind_some]
  ·
   intro a0 a1 l x7 x8 x9 x10 i
   simp only [impl_worthOf.l4, spec_l04Worth.l4, h4, h1, max_mx, Option.bind_some]
theorem worth_same (k : Nat) (a0 a1 : Int) (l : List S46) : impl_worthOf.f k a0 a1 l = spec_l04Worth.f k a0 a1 l := (same k).1 a0 a1 l _ 1
section
variable (a0 a1 : Int) (l : List S46)
theorem end4 (x7 : List Int) (x8 x9 : Int) (b8 : 1 ≤ x8 ∧ x8 ≤ 24) (b9 : 1 ≤ x9 ∧ x9 ≤ 24) (h : ∀ v, ∃ r, Ev (fun k => spec_l04Worth.l1 k a0 a1 l (x7.set (x8 * 25 + x9).toNat v) x8 (x9 + 1)) r) :
  ∀ (d : Nat) (i b : Int), i + d = x9 → 1 ≤ i → ∃ r, Ev (fun k => spec_l04Worth.l4 k a0 a1 l x7 x8 x9 b i) r
 | 0, i, b, e, h1 => by
  obtain ⟨r, hr⟩ := h b
  refine ⟨r, Ev.step (fun k => by rw [spec_l04Worth.l4]) ?_⟩
  refine Ev.neg (by omega) ?_
  refine Ev.pos (by omega) ?_
  refine Ev.pos (by omega) ?_
  refine Ev.pos (by omega) ?_
  refine Ev.pos (by omega) ?_
  rw [w64 (x := x9 + 1) (by omega) (by omega)]
  exact hr
 | d + 1, i, b, e, h1 => by
  have e1 : wrap64 (x9 - i) = x9 - i := w64 (by omega) (by omega)
  have e2 : wrap64 (i + 1) = i + 1 := w64 (by omega) (by omega)
  obtain ⟨r, hr⟩ := end4 x7 x8 x9 b8 b9 h d (i + 1) (mx b (wrap64 ((rd x7 (x8 * 25 + i)) + (rd x7 (x8 * 25 + (x9 - i)))))) (by omega) (by omega)
  refine ⟨r, Ev.step (fun k => by rw [spec_l04Worth.l4]) ?_⟩
  refine Ev.pos (by omega) ?_
  refine Ev.pos (by omega) ?_
  refine Ev.pos (by omega) ?_
  refine Ev.pos (by omega) ?_
  refine Ev.pos (by omega) ?_
  rw [e1, e2]
  refine Ev.pos (by omega) ?_
  refine Ev.pos (by omega) ?_
  exact Ev.nobind (max_mx _ _) hr
theorem end3 (x7 : List Int) (x8 x9 : Int) (b8 : 1 ≤ x8 ∧ x8 ≤ 24) (b9 : 1 ≤ x9 ∧ x9 ≤ 24) (h : ∀ v, ∃ r, Ev (fun k => spec_l04Worth.l1 k a0 a1 l (x7.set (x8 * 25 + x9).toNat v) x8 (x9 + 1)) r) :
  ∀ (d : Nat) (i b : Int), i + d = x8 → 1 ≤ i → ∃ r, Ev (fun k => spec_l04Worth.l3 k a0 a1 l x7 x8 x9 b i) r
 | 0, i, b, e, h1 => by
  obtain ⟨r, hr⟩ := end4 a0 a1 l x7 x8 x9 b8 b9 h (x9 - 1).toNat 1 b (by omega) (by omega)
  refine ⟨r, Ev.step (fun k => by rw [spec_l04Worth.l3]) ?_⟩
  exact Ev.neg (by omega) hr
 | d + 1, i, b, e, h1 => by
  have e1 : wrap64 (x8 - i) = x8 - i := w64 (by omega) (by omega)
  have e2 : wrap64 (i + 1) = i + 1 := w64 (by omega) (by omega)
  obtain ⟨r, hr⟩ := end3 x7 x8 x9 b8 b9 h d (i + 1) (mx b (wrap64 ((rd x7 (i * 25 + x9)) + (rd x7 ((x8 - i) * 25 + x9))))) (by omega) (by omega)
  refine ⟨r, Ev.step (fun k => by rw [spec_l04Worth.l3]) ?_⟩
  refine Ev.pos (by omega) ?_
  refine Ev.pos (by omega) ?_
  refine Ev.pos (by omega) ?_
  refine Ev.pos (by omega) ?_
  refine Ev.pos (by omega) ?_
  rw [e1, e2]
  refine Ev.pos (by omega) ?_
  refine Ev.pos (by omega) ?_
  exact Ev.nobind (max_mx _ _) hr
theorem end2 (hl : l.length ≤ 1048576) (x7 : List Int) (x8 x9 : Int) (b8 : 1 ≤ x8 ∧ x8 ≤ 24) (b9 : 1 ≤ x9 ∧ x9 ≤ 24) (h : ∀ v, ∃ r, Ev (fun k => spec_l04Worth.l1 k a0 a1 l (x7.set (x8 * 25 + x9).toNat v) x8 (x9 + 1)) r) :
  ∀ (d : Nat) (i b : Int), i + d = (l.length : Int) → 0 ≤ i → ∃ r, Ev (fun k => spec_l04Worth.l2 k a0 a1 l x7 x8 x9 b i) r
 | 0, i, b, e, h1 => by
  obtain ⟨r, hr⟩ := end3 a0 a1 l x7 x8 x9 b8 b9 h (x8 - 1).toNat 1 b (by omega) (by omega)
  refine ⟨r, Ev.step (fun k => by rw [spec_l04Worth.l2]) ?_⟩
  exact Ev.neg (by omega) hr
 | d + 1, i, b, e, h1 => by
  have e2 : wrap64 (i + 1) = i + 1 := w64 (by omega) (by omega)
  have go := fun b => end2 hl x7 x8 x9 b8 b9 h d (i + 1) b (by omega) (by omega)
  by_cases q0 : wrap64 ((rd_T46 l i).f0) = x8
  ·
   by_cases q1 : wrap64 ((rd_T46 l i).f1) = x9
   ·
    obtain ⟨r, hr⟩ := go (mx b (wrap64 ((rd_T46 l i).f2)))
    refine ⟨r, Ev.step (fun k => by rw [spec_l04Worth.l2]) ?_⟩
    refine Ev.pos (by omega) ?_
    refine Ev.pos (by omega) ?_
    refine Ev.pos q0 ?_
    refine Ev.pos q1 ?_
    rw [e2]
    exact Ev.nobind (max_mx _ _) hr
   ·
    obtain ⟨r, hr⟩ := go b
    refine ⟨r, Ev.step (fun k => by rw [spec_l04Worth.l2]) ?_⟩
    refine Ev.pos (by omega) ?_
    refine Ev.pos (by omega) ?_
    refine Ev.pos q0 ?_
    rw [e2]
    exact Ev.neg q1 hr
  ·
   obtain ⟨r, hr⟩ := go b
   refine ⟨r, Ev.step (fun k => by rw [spec_l04Worth.l2]) ?_⟩
   refine Ev.pos (by omega) ?_
   refine Ev.pos (by omega) ?_
   rw [e2]
   exact Ev.neg q0 hr
theorem end1 (hl : l.length ≤ 1048576) (b1 : 1 ≤ a1 ∧ a1 ≤ 24) (x8 : Int) (b8 : 1 ≤ x8 ∧ x8 ≤ 24) (h : ∀ x7, ∃ r, Ev (fun k => spec_l04Worth.l0 k a0 a1 l x7 (x8 + 1)) r) :
  ∀ (d : Nat) (x9 : Int) (x7 : List Int), x9 + d = a1 + 1 → 1 ≤ x9 → ∃ r, Ev (fun k => spec_l04Worth.l1 k a0 a1 l x7 x8 x9) r
 | 0, x9, x7, e, h1 => by
  obtain ⟨r, hr⟩ := h x7
  refine ⟨r, Ev.step (fun k => by rw [spec_l04Worth.l1]) ?_⟩
  refine Ev.neg (by omega) ?_
  rw [w64 (x := x8 + 1) (by omega) (by omega)]
  exact hr
 | d + 1, x9, x7, e, h1 => by
  obtain ⟨r, hr⟩ := end2 a0 a1 l hl x7 x8 x9 b8 (by omega) (fun v => end1 hl b1 x8 b8 h d (x9 + 1) _ (by omega) (by omega)) l.length 0 0 (by omega) (by omega)
  refine ⟨r, Ev.step (fun k => by rw [spec_l04Worth.l1]) ?_⟩
  exact Ev.pos (by omega) hr
theorem end0 (hl : l.length ≤ 1048576) (b0 : 1 ≤ a0 ∧ a0 ≤ 24) (b1 : 1 ≤ a1 ∧ a1 ≤ 24) : ∀ (d : Nat) (x8 : Int) (x7 : List Int), x8 + d = a0 + 1 → 1 ≤ x8 → ∃ r, Ev (fun k => spec_l04Worth.l0 k a0 a1 l x7 x8) r
 | 0, x8, x7, e, h1 => by
  refine ⟨x7, Ev.step (fun k => by rw [spec_l04Worth.l0]) ?_⟩
  exact Ev.neg (by omega) (Ev.fin rfl)
 | d + 1, x8, x7, e, h1 => by
  obtain ⟨r, hr⟩ := end1 a0 a1 l hl b1 x8 (by omega) (fun x7 => end0 hl b0 b1 d (x8 + 1) x7 (by omega) (by omega)) a1.toNat 1 x7 (by omega) (by omega)
  refine ⟨r, Ev.step (fun k => by rw [spec_l04Worth.l0]) ?_⟩
  exact Ev.pos (by omega) hr
end
end Go.Proofs.Ytnkihjabmbeicaa.BestKit
namespace Go.Proofs.Ytnkihjabmbeicaa.CutsKit
set_option linter.unusedSimpArgs false
set_option linter.unusedVariables false
open Go.RowKit Go.Proofs.Ytnkihjabmbeicaa.PA Go.Proofs.Ytnkihjabmbeicaa.Base Go.Proofs.Ytnkihjabmbeicaa.KindsKit Go.Proofs.YtnkihjabmbeicaaW.PrintWords Go.Proofs.YtnkihjabmbeicaaW.PrintLast Go.Proofs.YtnkihjabmbeicaaW.PrintMore
theorem rdC (xs : List S48) (i : Nat) (h : i < xs.length) : rd_T48 xs (i : Int) = xs[i] := getD_nat xs z48 i h
theorem rdZ (xs : List S49) (i : Nat) (h : i < xs.length) : rd_T49 xs (i : Int) = xs[i] := getD_nat xs z49 i h
theorem rdZself (xs : List S49) (i : Nat) (x : S49) (h : i < xs.length) : rd_T49 (xs.set i x) (i : Int) = x := by
 rw [rdZ _ _ (by simpa using h)]; simp
theorem rdZset (xs : List S49) (i j : Nat) (x : S49) (h : i ≠ j) : rd_T49 (xs.set i x) (j : Int) = rd_T49 xs (j : Int) := by
 simp [rd_T49, List.getD_eq_getElem?_getD, List.getElem?_set_ne h]
def B8 (n : Int) : Prop := -128 ≤ n ∧ n ≤ 127
def okC (c : S48) : Prop := B8 c.f0 ∧ B8 c.f1 ∧ B8 c.f2 ∧ B8 c.f3
/-- An entry that no cut has made yet, or one that lies within the plate. -/
def okZ (x : S49) : Prop := (x.f0 = 0 ∧ x.f1 = 0) ∨ ((1 ≤ x.f0 ∧ x.f0 ≤ 24) ∧ 1 ≤ x.f1 ∧ x.f1 ≤ 24)
def nz (x : S49) : Bool := decide (x.f0 ≠ 0)
def told (s : List S49) : List Bool := s.map nz
theorem told_length (s : List S49) : (told s).length = s.length := by simp [told]
theorem rdTold (s : List S49) (i : Nat) (h : i < s.length) : rdOf false (told s) (i : Int) = nz (rd_T49 s (i : Int)) := by
 rw [rdZ s i h]; simp [rdOf, told, List.getD_eq_getElem?_getD, h]
theorem okZ_set (s : List S49) (i : Nat) (x : S49) (h : ∀ y ∈ s, okZ y) (hx : okZ x) : ∀ y ∈ s.set i x, okZ y := by
 intro y hy
 rcases List.mem_or_eq_of_mem_set hy with h' | h'
 ·
  exact h y h'
 ·
  rw [h']; exact hx
/-- What a cut leaves. -/
theorem two_sets (s : List S49) (a b : Nat) (own xa xb : S49) (h : a ≠ b) : ((((s.set a own).set b own).set a xa).set b xb) = (s.set a xa).set b xb := by
 rw [List.set_comm own own h, List.set_set, List.set_comm own xa h.symm, List.set_set]
theorem told_sets (s : List S49) (a b : Nat) (xa xb : S49) (ha : nz xa = true) (hb : nz xb = true) : (((told s).set a true).set b true) = told ((s.set a xa).set b xb) := by
 unfold told
 rw [List.map_set, List.map_set, ha, hb]
/-- A piece that is cut is one of the kinds. -/
def pok (ks : List S46) (c : S48) : Prop := c.f0 = 1 → 0 ≤ c.f2 ∧ c.f2 < (ks.length : Int)
/-- What is known of an answer that is no refusal, of the cuts from i on. -/
def okR (ks : List S46) (l : List S48) (i : Nat) (r : List S49 × Bool) : Prop := r.2 = true → r.1.length = l.length ∧ (∀ x ∈ r.1, okZ x) ∧ ∀ (j : Nat) (h : j < l.length), i ≤ j → pok ks l[j]
theorem okR_no (ks : List S46) (l : List S48) (i : Nat) : okR ks l i ([], false) := fun h => by cases h
theorem okR_up {ks : List S46} {l : List S48} {i : Nat} {r : List S49 × Bool} (hi : i < l.length) (hp : pok ks l[i]) (h : okR ks l (i + 1) r) : okR ks l i r := fun hr => by
 obtain ⟨h1, h2, h3⟩ := h hr
 refine ⟨h1, h2, fun j hj hij => ?_⟩
 by_cases e : i = j
 ·
  subst e; exact hp
 ·
  exact h3 j hj (by omega)
def given (s : List S49) (i a b : Int) : Prop := (i < a ∧ a < (s.length : Int)) ∧ (i < b ∧ b < (s.length : Int)) ∧ a ≠ b ∧ (rd_T49 s a).f0 = 0 ∧ (rd_T49 s b).f0 = 0
instance (s : List S49) (i a b : Int) : Decidable (given s i a b) := by unfold given; exact inferInstance
theorem specGiven (s : List S49) (i : Nat) (x y a b : Int) (hs : s.length ≤ 60) (hi : i < 60) (ha : B8 a) (hb : B8 b) : spec_l04Given.f s (i : Int) x y a b = some (decide (given s i a b)) := by
 obtain ⟨ha1, ha2⟩ := ha
 obtain ⟨hb1, hb2⟩ := hb
 unfold spec_l04Given.f
 rw [specIn, specIn, w64 (x := a) (by omega) (by omega), w64 (x := b) (by omega) (by omega), w64 (x := (i : Int) + 1) (by omega) (by omega), w64 (x := (s.length : Int) - 1) (by omega) (by omega), Option.bind_some]
 by_cases h1 : (i : Int) < a ∧ a < (s.length : Int)
 ·
  have e1 : inB a ((i : Int) + 1) ((s.length : Int) - 1) = true := inB_iff.2 ⟨by omega, by omega⟩
  rw [e1, if_pos rfl, Option.bind_some]
  by_cases h2 : (i : Int) < b ∧ b < (s.length : Int)
  ·
   have e2 : inB b ((i : Int) + 1) ((s.length : Int) - 1) = true := inB_iff.2 ⟨by omega, by omega⟩
   rw [e2, if_pos rfl]
   by_cases h3 : a = b
   ·
    rw [if_pos h3, decide_eq_false (fun h => h.2.2.1 h3)]
   ·
    rw [if_neg h3, if_pos (by omega), if_pos (by omega)]
    by_cases h4 : (rd_T49 s a).f0 = 0
    ·
     rw [if_pos h4, if_pos (by omega), if_pos (by omega)]
     congr 1
     by_cases h5 : (rd_T49 s b).f0 = 0
     ·
      rw [decide_eq_true (show given s i a b from ⟨h1, h2, h3, h4, h5⟩)]; simpa using h5
     ·
      rw [decide_eq_false (fun h => h5 h.2.2.2.2)]; simpa using h5
    ·
     rw [if_neg h4, decide_eq_false (fun h => h4 h.2.2.2.1)]
  ·
   have e2 : inB b ((i : Int) + 1) ((s.length : Int) - 1) = false := by
    rw [Bool.eq_false_iff]; intro h; have := inB_iff.1 h; omega
   rw [e2, if_neg (by decide), decide_eq_false (fun h => h2 h.2.1)]
 ·
  have e1 : inB a ((i : Int) + 1) ((s.length : Int) - 1) = false := by
   rw [Bool.eq_false_iff]; intro h; have := inB_iff.1 h; omega
  rw [e1, if_neg (by decide), decide_eq_false (fun h => h1 h.1)]
theorem specL0 (s : List S49) (a b : Nat) (p q t u : Int) (la : a < s.length) (lb : b < s.length) :
  ((((s.set ((a : Int)).toNat (⟨p, q⟩ : S49)).set ((a : Int)).toNat (⟨t, (rd_T49 (s.set ((a : Int)).toNat (⟨p, q⟩ : S49)) (a : Int)).f1⟩ : S49)).set ((b : Int)).toNat (⟨p, q⟩ : S49)).set ((b : Int)).toNat (⟨u, (rd_T49 (((s.set ((a : Int)).toNat (⟨p, q⟩ : S49)).set ((a : Int)).toNat (⟨t, (rd_T49 (s.set ((a : Int)).toNat (⟨p, q⟩ : S49)) (a : Int)).f1⟩ : S49)).set ((b : Int)).toNat (⟨p, q⟩ : S49)) (b : Int)).f1⟩ : S49)) = (s.set a (⟨t, q⟩ : S49)).set b (⟨u, q⟩ : S49) := by
 simp only [Int.toNat_natCast]
 rw [rdZself s a _ la, rdZself _ b _ (by simpa using lb), List.set_set, List.set_set]
theorem implL0 (s : List S49) (a b : Nat) (hab : a ≠ b) (p q t : Int) (la : a < s.length) (lb : b < s.length) :
  ((((s.set ((a : Int)).toNat (⟨p, q⟩ : S49)).set ((b : Int)).toNat (⟨p, q⟩ : S49)).set ((a : Int)).toNat (⟨t, (rd_T49 ((s.set ((a : Int)).toNat (⟨p, q⟩ : S49)).set ((b : Int)).toNat (⟨p, q⟩ : S49)) (a : Int)).f1⟩ : S49)).set ((b : Int)).toNat (⟨wrap64 ((rd_T49 (((s.set ((a : Int)).toNat (⟨p, q⟩ : S49)).set ((b : Int)).toNat (⟨p, q⟩ : S49)).set ((a : Int)).toNat (⟨t, (rd_T49 ((s.set ((a : Int)).toNat (⟨p, q⟩ : S49)).set ((b : Int)).toNat (⟨p, q⟩ : S49)) (a : Int)).f1⟩ : S49)) (b : Int)).f0 - t), (rd_T49 (((s.set ((a : Int)).toNat (⟨p, q⟩ : S49)).set ((b : Int)).toNat (⟨p, q⟩ : S49)).set ((a : Int)).toNat (⟨t, (rd_T49 ((s.set ((a : Int)).toNat (⟨p, q⟩ : S49)).set ((b : Int)).toNat (⟨p, q⟩ : S49)) (a : Int)).f1⟩ : S49)) (b : Int)).f1⟩ : S49)) = (s.set a (⟨t, q⟩ : S49)).set b (⟨wrap64 (p - t), q⟩ : S49) := by
 simp only [Int.toNat_natCast]
 have e1 : ∀ x y : S49, rd_T49 ((s.set a x).set b y) (a : Int) = x := fun x y => by rw [rdZset _ b a _ hab.symm, rdZself s a _ la]
 have e2 : ∀ x y z : S49, rd_T49 (((s.set a x).set b y).set a z) (b : Int) = y := fun x y z => by rw [rdZset _ a b _ hab, rdZself _ b _ (by simpa using lb)]
 rw [e1, e2, two_sets s a b _ _ _ hab]
theorem specL1 (s : List S49) (a b : Nat) (p q t u : Int) (la : a < s.length) (lb : b < s.length) :
  ((((s.set ((a : Int)).toNat (⟨p, q⟩ : S49)).set ((a : Int)).toNat (⟨(rd_T49 (s.set ((a : Int)).toNat (⟨p, q⟩ : S49)) (a : Int)).f0, t⟩ : S49)).set ((b : Int)).toNat (⟨p, q⟩ : S49)).set ((b : Int)).toNat (⟨(rd_T49 (((s.set ((a : Int)).toNat (⟨p, q⟩ : S49)).set ((a : Int)).toNat (⟨(rd_T49 (s.set ((a : Int)).toNat (⟨p, q⟩ : S49)) (a : Int)).f0, t⟩ : S49)).set ((b : Int)).toNat (⟨p, q⟩ : S49)) (b : Int)).f0, u⟩ : S49)) = (s.set a (⟨p, t⟩ : S49)).set b (⟨p, u⟩ : S49) := by
 simp only [Int.toNat_natCast]
 rw [rdZself s a _ la, rdZself _ b _ (by simpa using lb), List.set_set, List.set_set]
theorem implL1 (s : List S49) (a b : Nat) (hab : a ≠ b) (p q t : Int) (la : a < s.length) (lb : b < s.length) :
  ((((s.set ((a : Int)).toNat (⟨p, q⟩ : S49)).set ((b : Int)).toNat (⟨p, q⟩ : S49)).set ((a : Int)).toNat (⟨(rd_T49 ((s.set ((a : Int)).toNat (⟨p, q⟩ : S49)).set ((b : Int)).toNat (⟨p, q⟩ : S49)) (a : Int)).f0, t⟩ : S49)).set ((b : Int)).toNat (⟨(rd_T49 (((s.set ((a : Int)).toNat (⟨p, q⟩ : S49)).set ((b : Int)).toNat (⟨p, q⟩ : S49)).set ((a : Int)).toNat (⟨(rd_T49 ((s.set ((a : Int)).toNat (⟨p, q⟩ : S49)).set ((b : Int)).toNat (⟨p, q⟩ : S49)) (a : Int)).f0, t⟩ : S49)) (b : Int)).f0, wrap64 ((rd_T49 (((s.set ((a : Int)).toNat (⟨p, q⟩ : S49)).set ((b : Int)).toNat (⟨p, q⟩ : S49)).set ((a : Int)).toNat (⟨(rd_T49 ((s.set ((a : Int)).toNat (⟨p, q⟩ : S49)).set ((b : Int)).toNat (⟨p, q⟩ : S49)) (a : Int)).f0, t⟩ : S49)) (b : Int)).f1 - t)⟩ : S49)) = (s.set a (⟨p, t⟩ : S49)).set b (⟨p, wrap64 (q - t)⟩ : S49) := by
 simp only [Int.toNat_natCast]
 have e1 : ∀ x y : S49, rd_T49 ((s.set a x).set b y) (a : Int) = x := fun x y => by rw [rdZset _ b a _ hab.symm, rdZself s a _ la]
 have e2 : ∀ x y z : S49, rd_T49 (((s.set a x).set b y).set a z) (b : Int) = y := fun x y z => by rw [rdZset _ a b _ hab, rdZself _ b _ (by simpa using lb)]
 rw [e1, e2, two_sets s a b _ _ _ hab]
theorem cutStep (ks : List S46) (l : List S48) (hl : l.length ≤ 60) (i : Nat) (hi : i < l.length) (s : List S49) (hs : s.length = l.length) (hz : ∀ x ∈ s, okZ x)
  (c : S48) (hc : okC c) (own : S49) (h0 : (1 ≤ own.f0 ∧ own.f0 ≤ 24) ∧ 1 ≤ own.f1 ∧ own.f1 ≤ 24) (hside : c.f0 = 2 ∨ c.f0 = 3)
  (IH : ∀ s' : List S49, s'.length = l.length → (∀ x ∈ s', okZ x) → ∃ r, Ev (fun k => spec_l04Sizes.l0 k ks l s' ((i + 1 : Nat) : Int)) r ∧ Ev (fun k => impl_sizes.l0 k ks l s' (told s') l (l.length : Int) ((i + 1 : Nat) : Int)) r ∧ okR ks l (i + 1) r) :
  ∃ r, Ev (fun k => spec_l04Sizes.j3 k ks l s (i : Int) true c.f0 c.f1 c.f2 c.f3 own.f0 own.f1) r ∧ Ev (fun k => impl_sizes.j2 k ks l s (told s) (i : Int) l (l.length : Int) (i : Int) true c.f0 c.f1 c.f2 c.f3 own.f0 own.f1) r ∧ okR ks l (i + 1) r := by
 obtain ⟨c0, c1, c2, c3⟩ := c
 obtain ⟨p, q⟩ := own
 obtain ⟨⟨p0, p0'⟩, ⟨p1, p1'⟩, hA, hB⟩ := hc
 have hA' := hA
 have hB' := hB
 obtain ⟨p2, p2'⟩ := hA'
 obtain ⟨p3, p3'⟩ := hB'
 obtain ⟨⟨o0, o0'⟩, o1, o1'⟩ := h0
 simp only at p0 p0' p1 p1' p2 p2' p3 p3' o0 o0' o1 o1' hside hA hB ⊢
 have hg := specGiven s i c0 c1 c2 c3 (by omega) (by omega) hA hB
 have wa := Aside0.mk (w64 (x := c2) (by omega) (by omega))
 have wb := Aside0.mk (w64 (x := c3) (by omega) (by omega))
 have wt := Aside0.mk (w64 (x := c1) (by omega) (by omega))
 have w0 := Aside0.mk (w64 (x := c0) (by omega) (by omega))
 have w2 := Aside0.mk (w64 (x := c0 - 2) (by omega) (by omega))
 have w8_ := Aside0.mk (w8 (x := c0 - 2) (by omega) (by omega))
 have wi : Aside0 (wrap64 ((i : Int) + 1) = ((i + 1 : Nat) : Int)) := ⟨w64 (x := (i : Int) + 1) (by omega) (by omega)⟩
 have wx := Aside0.mk (w64 (x := p - 1) (by omega) (by omega))
 have wy := Aside0.mk (w64 (x := q - 1) (by omega) (by omega))
 by_cases g : given s i c2 c3
 ·
  rw [decide_eq_true g] at hg
  obtain ⟨⟨ga, ga'⟩, ⟨gb, gb'⟩, gab, gza, gzb⟩ := g
  obtain ⟨a, rfl⟩ : ∃ a : Nat, c2 = (a : Int) := ⟨c2.toNat, by omega⟩
  obtain ⟨b, rfl⟩ : ∃ b : Nat, c3 = (b : Int) := ⟨c3.toNat, by omega⟩
  have la : a < s.length := by omega
  have lb : b < s.length := by omega
  have hab : a ≠ b := fun h => gab (by rw [h])
  have ta : rdOf false (told s) (a : Int) = false := by rw [rdTold s a la]; simp [nz, gza]
  have tb : rdOf false (told s) (b : Int) = false := by rw [rdTold s b lb]; simp [nz, gzb]
  have SPEC : ∀ (r : List S49 × Bool) (F : Nat → Option (List S49 × Bool)), Ev F r → (∀ k, (if c0 - 2 = 0 then ((spec_l00In.f c1 1 (p - 1)).bind fun t => if t = true then spec_l04Sizes.l0 k ks l ((s.set a (⟨c1, q⟩ : S49)).set b (⟨wrap64 (p - c1), q⟩ : S49)) ((i + 1 : Nat) : Int) else some (([] : List S49), false)) else ((spec_l00In.f c1 1 (q - 1)).bind fun t => if t = true then spec_l04Sizes.l0 k ks l ((s.set a (⟨p, c1⟩ : S49)).set b (⟨p, wrap64 (q - c1)⟩ : S49)) ((i + 1 : Nat) : Int) else some (([] : List S49), false))) = F k) →
    Ev (fun k => spec_l04Sizes.j3 k ks l s (i : Int) true c0 c1 (a : Int) (b : Int) p q) r := by
   intro r F hF hk
   refine Ev.step (fun k => by rw [spec_l04Sizes.j3]) ?_
   refine Ev.pos rfl ?_
   refine Ev.nobind hg ?_
   refine Ev.pos rfl ?_
   refine Ev.congr (fun k => ?_) hF
   rw [← hk k, w0.out, w2.out, wt.out, wx.out, wy.out, wi.out]
   rcases hside with h2 | h3
   ·
    have hz2 : c0 - 2 = 0 := by omega
    simp only [if_pos hz2, if_pos (show (0 : Int) ≤ (a : Int) by omega), if_pos ga', if_pos (show (0 : Int) ≤ (b : Int) by omega), if_pos gb', Option.bind_some, specL0 s a b p q c1 _ la lb]
    try rfl
   ·
    have hz2 : ¬ c0 - 2 = 0 := by omega
    have hz3 : c0 - 2 = 1 := by omega
    simp only [if_neg hz2, if_pos hz3, if_pos (show (0 : Int) ≤ (a : Int) by omega), if_pos ga', if_pos (show (0 : Int) ≤ (b : Int) by omega), if_pos gb', Option.bind_some, specL1 s a b p q c1 _ la lb]
    try rfl
  have IMPL : ∀ (r : List S49 × Bool) (F : Nat → Option (List S49 × Bool)), Ev F r → (∀ k, (if c0 - 2 = 0 then ((impl_within.f c1 1 (p - 1)).bind fun t => if t = true then impl_sizes.l0 k ks l ((s.set a (⟨c1, q⟩ : S49)).set b (⟨wrap64 (p - c1), q⟩ : S49)) (((told s).set a true).set b true) l (l.length : Int) ((i + 1 : Nat) : Int) else some (([] : List S49), false)) else ((impl_within.f c1 1 (q - 1)).bind fun t => if t = true then impl_sizes.l0 k ks l ((s.set a (⟨p, c1⟩ : S49)).set b (⟨p, wrap64 (q - c1)⟩ : S49)) (((told s).set a true).set b true) l (l.length : Int) ((i + 1 : Nat) : Int) else some (([] : List S49), false))) = F k) →
    Ev (fun k => impl_sizes.j2 k ks l s (told s) (i : Int) l (l.length : Int) (i : Int) true c0 c1 (a : Int) (b : Int) p q) r := by
   intro r F hF hk
   refine Ev.step (fun k => by rw [impl_sizes.j2]) ?_
   refine Ev.pos rfl ?_
   refine Ev.congr (fun k => ?_) hF
   rw [← hk k, wa.out, wb.out, w8_.out, w2.out, wt.out, wx.out, wy.out, wi.out]
   rw [if_neg (by omega), if_neg (by omega), if_neg (by omega), if_neg (by omega), if_neg (by omega), if_pos (by omega), if_pos (by rw [told_length]; omega), if_neg (by rw [ta]; decide), if_pos (by omega), if_pos (by rw [told_length]; omega), if_neg (by rw [tb]; decide)]
   rcases hside with h2 | h3
   ·
    have hz2 : c0 - 2 = 0 := by omega
    simp only [if_pos hz2, if_pos ga', if_pos gb', Option.bind_some, implL0 s a b hab p q c1 la lb]
    simp only [Int.toNat_natCast]
   ·
    have hz2 : ¬ c0 - 2 = 0 := by omega
    have hz3 : c0 - 2 = 1 := by omega
    simp only [if_neg hz2, if_pos hz3, if_pos ga', if_pos gb', Option.bind_some, implL1 s a b hab p q c1 la lb]
    simp only [Int.toNat_natCast]
  by_cases h2 : c0 - 2 = 0
  ·
   by_cases hin : inB c1 1 (p - 1) = true
   ·
    have hb := inB_iff.1 hin
    have wu := Aside0.mk (w64 (x := p - c1) (by omega) (by omega))
    obtain ⟨r, e1, e2, e3⟩ := IH ((s.set a (⟨c1, q⟩ : S49)).set b (⟨p - c1, q⟩ : S49)) (by simpa using hs) (okZ_set _ _ _ (okZ_set _ _ _ hz (.inr ⟨⟨by show 1 ≤ c1; omega, by show c1 ≤ 24; omega⟩, o1, o1'⟩)) (.inr ⟨⟨by show 1 ≤ p - c1; omega, by show p - c1 ≤ 24; omega⟩, o1, o1'⟩))
    refine ⟨r, SPEC r _ e1 (fun k => ?_), IMPL r _ e2 (fun k => ?_), e3⟩
    ·
     rw [if_pos h2, specIn, hin, Option.bind_some, if_pos rfl, wu.out]
    ·
     rw [if_pos h2, implIn, hin, Option.bind_some, if_pos rfl, wu.out, told_sets s a b (⟨c1, q⟩ : S49) (⟨p - c1, q⟩ : S49) (decide_eq_true (by show c1 ≠ 0; omega)) (decide_eq_true (by show p - c1 ≠ 0; omega))]
   ·
    have hin' : inB c1 1 (p - 1) = false := by simpa using hin
    refine ⟨([], false), SPEC _ _ (Ev.now _) (fun k => ?_), IMPL _ _ (Ev.now _) (fun k => ?_), okR_no _ _ _⟩
    ·
     rw [if_pos h2, specIn, hin', Option.bind_some, if_neg (by decide)]
    ·
     rw [if_pos h2, implIn, hin', Option.bind_some, if_neg (by decide)]
  ·
   by_cases hin : inB c1 1 (q - 1) = true
   ·
    have hb := inB_iff.1 hin
    have wu := Aside0.mk (w64 (x := q - c1) (by omega) (by omega))
    obtain ⟨r, e1, e2, e3⟩ := IH ((s.set a (⟨p, c1⟩ : S49)).set b (⟨p, q - c1⟩ : S49)) (by simpa using hs) (okZ_set _ _ _ (okZ_set _ _ _ hz (.inr ⟨⟨o0, o0'⟩, by show 1 ≤ c1; omega, by show c1 ≤ 24; omega⟩)) (.inr ⟨⟨o0, o0'⟩, by show 1 ≤ q - c1; omega, by show q - c1 ≤ 24; omega⟩))
    refine ⟨r, SPEC r _ e1 (fun k => ?_), IMPL r _ e2 (fun k => ?_), e3⟩
    ·
     rw [if_neg h2, specIn, hin, Option.bind_some, if_pos rfl, wu.out]
    ·
     rw [if_neg h2, implIn, hin, Option.bind_some, if_pos rfl, wu.out, told_sets s a b (⟨p, c1⟩ : S49) (⟨p, q - c1⟩ : S49) (decide_eq_true (by show p ≠ 0; omega)) (decide_eq_true (by show p ≠ 0; omega))]
   ·
    have hin' : inB c1 1 (q - 1) = false := by simpa using hin
    refine ⟨([], false), SPEC _ _ (Ev.now _) (fun k => ?_), IMPL _ _ (Ev.now _) (fun k => ?_), okR_no _ _ _⟩
    ·
     rw [if_neg h2, specIn, hin', Option.bind_some, if_neg (by decide)]
    ·
     rw [if_neg h2, implIn, hin', Option.bind_some, if_neg (by decide)]
 ·
  rw [decide_eq_false g] at hg
  refine ⟨([], false), ?_, ?_, okR_no _ _ _⟩
  ·
   refine Ev.step (fun k => by rw [spec_l04Sizes.j3]) ?_
   refine Ev.pos rfl ?_
   refine Ev.nobind hg ?_
   exact Ev.neg (by decide) (Ev.fin rfl)
  ·
   refine Ev.step (fun k => by rw [impl_sizes.j2]) ?_
   refine Ev.pos rfl ?_
   rw [wa.out, wb.out]
   refine Ev.ite (fun _ => Ev.fin rfl) (fun q1 => ?_)
   refine Ev.ite (fun _ => Ev.fin rfl) (fun q2 => ?_)
   refine Ev.ite (fun _ => Ev.fin rfl) (fun q3 => ?_)
   refine Ev.ite (fun _ => Ev.fin rfl) (fun q4 => ?_)
   refine Ev.ite (fun _ => Ev.fin rfl) (fun q5 => ?_)
   obtain ⟨a, rfl⟩ : ∃ a : Nat, c2 = (a : Int) := ⟨c2.toNat, by omega⟩
   obtain ⟨b, rfl⟩ : ∃ b : Nat, c3 = (b : Int) := ⟨c3.toNat, by omega⟩
   unfold given at g
   refine Ev.pos (by omega) ?_
   refine Ev.pos (by rw [told_length]; omega) ?_
   rw [rdTold s a (by omega)]
   refine Ev.ite (fun _ => Ev.fin rfl) (fun q6 => ?_)
   refine Ev.pos (by omega) ?_
   refine Ev.pos (by rw [told_length]; omega) ?_
   rw [rdTold s b (by omega)]
   refine Ev.ite (fun _ => Ev.fin rfl) (fun q7 => ?_)
   exact absurd ⟨⟨by omega, by omega⟩, ⟨by omega, by omega⟩, q5, by simpa [nz] using q6, by simpa [nz] using q7⟩ g
def failR : List S49 × Bool := ([], false)
/-- One round, where the entry was made. -/
theorem round (ks : List S46) (hk : ks.length ≤ 8) (hks : ∀ x ∈ ks, B8 x.f0 ∧ B8 x.f1) (l : List S48) (hl : l.length ≤ 60) (i : Nat) (hi : i < l.length) (s : List S49) (hs : s.length = l.length) (hz : ∀ x ∈ s, okZ x)
  (hc : okC l[i]) (h0 : ((1 ≤ (rd_T49 s (i : Int)).f0 ∧ (rd_T49 s (i : Int)).f0 ≤ 24) ∧ 1 ≤ (rd_T49 s (i : Int)).f1 ∧ (rd_T49 s (i : Int)).f1 ≤ 24))
  (IH : ∀ s' : List S49, s'.length = l.length → (∀ x ∈ s', okZ x) → ∃ r, Ev (fun k => spec_l04Sizes.l0 k ks l s' ((i + 1 : Nat) : Int)) r ∧ Ev (fun k => impl_sizes.l0 k ks l s' (told s') l (l.length : Int) ((i + 1 : Nat) : Int)) r ∧ okR ks l (i + 1) r) :
  ∃ r, Ev (fun k => spec_l04Sizes.l0 k ks l s (i : Int)) r ∧ Ev (fun k => impl_sizes.l0 k ks l s (told s) l (l.length : Int) (i : Int)) r ∧ okR ks l i r := by
 have hzi : (rd_T49 s (i : Int)).f0 ≠ 0 := by omega
 have htold : rdOf false (told s) (i : Int) = true := by rw [rdTold s i (by omega)]; exact decide_eq_true hzi
 have hC := rdC l i hi
 obtain ⟨r0, r1, r2⟩ := IH s hs hz
 have wi : Aside0 (wrap64 ((i : Int) + 1) = ((i + 1 : Nat) : Int)) := ⟨w64 (x := (i : Int) + 1) (by omega) (by omega)⟩
 have CS := cutStep ks l hl i hi s hs hz l[i] hc (rd_T49 s (i : Int))
 have UP : ∀ r, pok ks l[i] → okR ks l (i + 1) r → okR ks l i r := fun r hp h => okR_up hi hp h
 generalize hcv : l[i] = c at hC hc CS UP
 generalize hown : rd_T49 s (i : Int) = own at h0 hzi CS
 have SP : ∀ (r : List S49 × Bool) (F : Nat → Option (List S49 × Bool)), Ev F r → (∀ k, (if c.f0 = 0 then (if (!(c.f0 == 0) || (!(c.f1 == 0) || (!(c.f2 == 0) || (!(c.f3 == 0))))) = true then (some (([] : List S49), false)) else (spec_l04Sizes.l0 k ks l s ((i + 1 : Nat) : Int))) else (if c.f0 = 1 then (if c.f1 = 0 then (if c.f3 = 0 then ((spec_l00In.f (wrap64 c.f2) 0 (wrap64 ((ks.length : Int) - 1))).bind fun t => (spec_l04Sizes.j2 k ks l s (i : Int) (!t) c.f0 c.f1 c.f2 c.f3 own.f0 own.f1)) else (spec_l04Sizes.j2 k ks l s (i : Int) true c.f0 c.f1 c.f2 c.f3 own.f0 own.f1)) else (spec_l04Sizes.j2 k ks l s (i : Int) true c.f0 c.f1 c.f2 c.f3 own.f0 own.f1)) else (if c.f0 = 2 then (spec_l04Sizes.j3 k ks l s (i : Int) (c.f0 == 2) c.f0 c.f1 c.f2 c.f3 own.f0 own.f1) else (spec_l04Sizes.j3 k ks l s (i : Int) (c.f0 == 3) c.f0 c.f1 c.f2 c.f3 own.f0 own.f1)))) = F k) →
   Ev (fun k => spec_l04Sizes.l0 k ks l s (i : Int)) r := by
  intro r F hF hk'
  refine Ev.step (fun k => by rw [spec_l04Sizes.l0]) ?_
  refine Ev.pos (by omega) ?_
  refine Ev.pos (by omega) ?_
  refine Ev.pos (by omega) ?_
  refine Ev.congr (fun k => ?_) hF
  rw [hown, hC, if_neg hzi, wi.out, ← hk' k]
 have IM : ∀ (r : List S49 × Bool) (F : Nat → Option (List S49 × Bool)), Ev F r → (∀ k, (if c.f0 = 0 then (if (!(c.f0 == 0) || (!(c.f1 == 0) || (!(c.f2 == 0) || (!(c.f3 == 0))))) = true then (some (([] : List S49), false)) else (impl_sizes.l0 k ks l s (told s) l (l.length : Int) ((i + 1 : Nat) : Int))) else (if c.f0 = 1 then (if c.f1 = 0 then (if c.f3 = 0 then ((impl_within.f (wrap64 c.f2) 0 (wrap64 ((ks.length : Int) - 1))).bind fun t221 => (if t221 = true then (if 0 ≤ (wrap64 c.f2) then (if (wrap64 c.f2) < (ks.length : Int) then (if (wrap64 ((rd_T46 ks (wrap64 c.f2)).f0)) = own.f0 then (if (wrap64 ((rd_T46 ks (wrap64 c.f2)).f1)) = own.f1 then (impl_sizes.l0 k ks l s (told s) l (l.length : Int) ((i + 1 : Nat) : Int)) else (some (([] : List S49), false))) else (some (([] : List S49), false))) else (none)) else (none)) else (some (([] : List S49), false)))) else (some (([] : List S49), false))) else (some (([] : List S49), false))) else (if c.f0 = 2 then (impl_sizes.j2 k ks l s (told s) (i : Int) l (l.length : Int) (i : Int) (c.f0 == 2) c.f0 c.f1 c.f2 c.f3 own.f0 own.f1) else (impl_sizes.j2 k ks l s (told s) (i : Int) l (l.length : Int) (i : Int) (c.f0 == 3) c.f0 c.f1 c.f2 c.f3 own.f0 own.f1)))) = F k) →
   Ev (fun k => impl_sizes.l0 k ks l s (told s) l (l.length : Int) (i : Int)) r := by
  intro r F hF hk'
  refine Ev.step (fun k => by rw [impl_sizes.l0]) ?_
  refine Ev.pos (by omega) ?_
  refine Ev.pos (by omega) ?_
  refine Ev.pos (by omega) ?_
  refine Ev.pos (by omega) ?_
  refine Ev.pos (by rw [told_length]; omega) ?_
  refine Ev.pos htold ?_
  refine Ev.congr (fun k => ?_) hF
  rw [hown, hC, wi.out, ← hk' k]
 by_cases q0 : c.f0 = 0
 ·
  by_cases hq : (!(c.f0 == 0) || (!(c.f1 == 0) || (!(c.f2 == 0) || (!(c.f3 == 0))))) = true
  ·
   refine ⟨failR, SP _ _ (Ev.now _) (fun k => ?_), IM _ _ (Ev.now _) (fun k => ?_), okR_no _ _ _⟩
   ·
    rw [if_pos q0, if_pos hq]; rfl
   ·
    rw [if_pos q0, if_pos hq]; rfl
  ·
   obtain ⟨e1, e2⟩ := r2
   refine ⟨r0, SP _ _ r1 (fun k => ?_), IM _ _ e1 (fun k => ?_), UP _ (fun h => absurd (q0.symm.trans h) (by decide)) e2⟩
   ·
    rw [if_pos q0, if_neg hq]
   ·
    rw [if_pos q0, if_neg hq]
 ·
  by_cases q1 : c.f0 = 1
  ·
   have J2F : Ev (fun k => spec_l04Sizes.j2 k ks l s (i : Int) true c.f0 c.f1 c.f2 c.f3 own.f0 own.f1) failR := by
    refine Ev.step (fun k => by rw [spec_l04Sizes.j2]) ?_
    refine Ev.pos rfl ?_
    exact Ev.fin rfl
   by_cases qa : c.f1 = 0
   ·
    by_cases qb : c.f3 = 0
    ·
     obtain ⟨_, _, ⟨p2, p2'⟩, _⟩ := hc
     by_cases hin : inB c.f2 0 ((ks.length : Int) - 1) = true
     ·
      have hb := inB_iff.1 hin
      obtain ⟨a, ea⟩ : ∃ a : Nat, c.f2 = (a : Int) := ⟨c.f2.toNat, by omega⟩
      have la : a < ks.length := by omega
      have wk := Aside0.mk (w64 (x := (ks.length : Int) - 1) (by omega) (by omega))
      have wa := Aside0.mk (w64 (x := c.f2) (by omega) (by omega))
      have J2S : ∀ r, Ev (fun k => if (!(own.f0 == (wrap64 ((rd_T46 ks c.f2).f0))) || (!(own.f1 == (wrap64 ((rd_T46 ks c.f2).f1))))) = true then some (([] : List S49), false) else spec_l04Sizes.l0 k ks l s ((i + 1 : Nat) : Int)) r → Ev (fun k => spec_l04Sizes.j2 k ks l s (i : Int) false c.f0 c.f1 c.f2 c.f3 own.f0 own.f1) r := by
       intro r hr
       refine Ev.step (fun k => by rw [spec_l04Sizes.j2]) ?_
       refine Ev.neg (by decide) ?_
       refine Ev.pos (by omega) ?_
       refine Ev.pos (by omega) ?_
       rw [wi.out]
       exact hr
      by_cases e0 : wrap64 ((rd_T46 ks c.f2).f0) = own.f0 ∧ wrap64 ((rd_T46 ks c.f2).f1) = own.f1
      ·
       have hq : ¬ (!(own.f0 == (wrap64 ((rd_T46 ks c.f2).f0))) || (!(own.f1 == (wrap64 ((rd_T46 ks c.f2).f1))))) = true := by rw [e0.1, e0.2]; simp
       obtain ⟨e1, e2⟩ := r2
       refine ⟨r0, SP _ _ (J2S _ (Ev.neg hq r1)) (fun k => ?_), IM _ _ e1 (fun k => ?_), UP _ (fun _ => by omega) e2⟩
       ·
        rw [if_neg q0, if_pos q1, if_pos qa, if_pos qb, wa.out, wk.out, specIn, hin]; rfl
       ·
        rw [if_neg q0, if_pos q1, if_pos qa, if_pos qb, wa.out, wk.out, implIn, hin, Option.bind_some, if_pos rfl, if_pos (by omega), if_pos (by omega), if_pos e0.1, if_pos e0.2]
      ·
       have hq : (!(own.f0 == (wrap64 ((rd_T46 ks c.f2).f0))) || (!(own.f1 == (wrap64 ((rd_T46 ks c.f2).f1))))) = true := by
        rw [Bool.or_eq_true]
        by_cases e1 : wrap64 ((rd_T46 ks c.f2).f0) = own.f0
        ·
         refine .inr ?_
         have e2 : ¬ wrap64 ((rd_T46 ks c.f2).f1) = own.f1 := fun h => e0 ⟨e1, h⟩
         simpa using fun h => e2 h.symm
        ·
         refine .inl ?_
         simpa using fun h => e1 h.symm
       refine ⟨failR, SP _ _ (J2S _ (Ev.pos hq (Ev.now _))) (fun k => ?_), IM _ _ (Ev.now _) (fun k => ?_), okR_no _ _ _⟩
       ·
        rw [if_neg q0, if_pos q1, if_pos qa, if_pos qb, wa.out, wk.out, specIn, hin]; rfl
       ·
        rw [if_neg q0, if_pos q1, if_pos qa, if_pos qb, wa.out, wk.out, implIn, hin, Option.bind_some, if_pos rfl, if_pos (by omega), if_pos (by omega)]
        by_cases e1 : wrap64 ((rd_T46 ks c.f2).f0) = own.f0
        ·
         rw [if_pos e1, if_neg (fun h => e0 ⟨e1, h⟩)]; rfl
        ·
         rw [if_neg e1]; rfl
     ·
      have hin' : inB c.f2 0 ((ks.length : Int) - 1) = false := by simpa using hin
      have wk := Aside0.mk (w64 (x := (ks.length : Int) - 1) (by omega) (by omega))
      have wa := Aside0.mk (w64 (x := c.f2) (by omega) (by omega))
      refine ⟨failR, SP _ _ J2F (fun k => ?_), IM _ _ (Ev.now _) (fun k => ?_), okR_no _ _ _⟩
      ·
       rw [if_neg q0, if_pos q1, if_pos qa, if_pos qb, wa.out, wk.out, specIn, hin']; rfl
      ·
       rw [if_neg q0, if_pos q1, if_pos qa, if_pos qb, wa.out, wk.out, implIn, hin', Option.bind_some, if_neg (by decide)]; rfl
    ·
     refine ⟨failR, SP _ _ J2F (fun k => ?_), IM _ _ (Ev.now _) (fun k => ?_), okR_no _ _ _⟩
     ·
      rw [if_neg q0, if_pos q1, if_pos qa, if_neg qb]
     ·
      rw [if_neg q0, if_pos q1, if_pos qa, if_neg qb]; rfl
   ·
    refine ⟨failR, SP _ _ J2F (fun k => ?_), IM _ _ (Ev.now _) (fun k => ?_), okR_no _ _ _⟩
    ·
     rw [if_neg q0, if_pos q1, if_neg qa]
    ·
     rw [if_neg q0, if_pos q1, if_neg qa]; rfl
  ·
   by_cases q2 : c.f0 = 2 ∨ c.f0 = 3
   ·
    obtain ⟨r, e1, e2, e3⟩ := CS h0 q2 IH
    refine ⟨r, SP _ _ e1 (fun k => ?_), IM _ _ e2 (fun k => ?_), UP _ (fun h => absurd h q1) e3⟩
    ·
     rw [if_neg q0, if_neg q1]
     rcases q2 with q2 | q2
     ·
      rw [if_pos q2, show (c.f0 == 2) = true from by rw [q2]; rfl]
     ·
      rw [if_neg (by omega), show (c.f0 == 3) = true from by rw [q2]; rfl]
    ·
     rw [if_neg q0, if_neg q1]
     rcases q2 with q2 | q2
     ·
      rw [if_pos q2, show (c.f0 == 2) = true from by rw [q2]; rfl]
     ·
      rw [if_neg (by omega), show (c.f0 == 3) = true from by rw [q2]; rfl]
   ·
    have J3F : Ev (fun k => spec_l04Sizes.j3 k ks l s (i : Int) false c.f0 c.f1 c.f2 c.f3 own.f0 own.f1) failR := by
     refine Ev.step (fun k => by rw [spec_l04Sizes.j3]) ?_
     refine Ev.neg (by decide) ?_
     exact Ev.fin rfl
    have I2F : Ev (fun k => impl_sizes.j2 k ks l s (told s) (i : Int) l (l.length : Int) (i : Int) false c.f0 c.f1 c.f2 c.f3 own.f0 own.f1) failR := by
     refine Ev.step (fun k => by rw [impl_sizes.j2]) ?_
     refine Ev.neg (by decide) ?_
     exact Ev.fin rfl
    have e3 : (c.f0 == 3) = false := by simpa using fun h => q2 (.inr h)
    refine ⟨failR, SP _ _ J3F (fun k => ?_), IM _ _ I2F (fun k => ?_), okR_no _ _ _⟩
    ·
     rw [if_neg q0, if_neg q1, if_neg (fun h => q2 (.inl h)), e3]
    ·
     rw [if_neg q0, if_neg q1, if_neg (fun h => q2 (.inl h)), e3]
theorem loop (ks : List S46) (hk : ks.length ≤ 8) (hks : ∀ x ∈ ks, B8 x.f0 ∧ B8 x.f1) (l : List S48) (hl : l.length ≤ 60) (hc : ∀ c ∈ l, okC c) : ∀ (d i : Nat) (s : List S49), i + d = l.length → s.length = l.length → (∀ x ∈ s, okZ x) →
  ∃ r, Ev (fun k => spec_l04Sizes.l0 k ks l s (i : Int)) r ∧ Ev (fun k => impl_sizes.l0 k ks l s (told s) l (l.length : Int) (i : Int)) r ∧ okR ks l i r
 | 0, i, s, h, hs, hz => by
  refine ⟨(s, true), ?_, ?_, fun _ => ⟨hs, hz, fun j hj hij => by omega⟩⟩
  ·
   refine Ev.step (fun k => by rw [spec_l04Sizes.l0]) ?_
   exact Ev.neg (by omega) (Ev.fin rfl)
  ·
   refine Ev.step (fun k => by rw [impl_sizes.l0]) ?_
   exact Ev.neg (by omega) (Ev.fin rfl)
 | d + 1, i, s, h, hs, hz => by
  have hi : i < l.length := by omega
  have hsi : i < s.length := by omega
  have ho := hz s[i] (List.getElem_mem hsi)
  rw [← rdZ s i hsi] at ho
  by_cases h0 : (rd_T49 s (i : Int)).f0 = 0
  ·
   refine ⟨failR, ?_, ?_, okR_no _ _ _⟩
   ·
    refine Ev.step (fun k => by rw [spec_l04Sizes.l0]) ?_
    refine Ev.pos (by omega) ?_
    refine Ev.pos (by omega) ?_
    refine Ev.pos (by omega) ?_
    exact Ev.pos h0 (Ev.fin rfl)
   ·
    refine Ev.step (fun k => by rw [impl_sizes.l0]) ?_
    refine Ev.pos (by omega) ?_
    refine Ev.pos (by omega) ?_
    refine Ev.pos (by omega) ?_
    refine Ev.pos (by omega) ?_
    refine Ev.pos (by rw [told_length]; omega) ?_
    refine Ev.neg (by rw [rdTold s i hsi]; simp [nz, h0]) ?_
    exact Ev.fin rfl
  ·
   exact round ks hk hks l hl i hi s hs hz (hc _ (List.getElem_mem hi)) (ho.resolve_left (fun h => h0 h.1)) (fun s' hs' hz' => loop ks hk hks l hl hc d (i + 1) s' (by omega) hs' hz')
/-- What sizes comes to, and that both sides come to it. -/
theorem sizes (p q : Int) (ks : List S46) (l : List S48) (hks : ∀ x ∈ ks, B8 x.f0 ∧ B8 x.f1) (hkl : ks.length ≤ 1048576) (hll : l.length ≤ 1048576) (hc : ∀ c ∈ l, okC c) :
  ∃ r, Ev (fun k => spec_l04Sizes.f k p q ks l) r ∧ Ev (fun k => impl_sizes.f k p q ks l) r ∧ okR ks l 0 r := by
 have SF : Ev (fun k => spec_l04Sizes.j0 k p q ks l true) failR := by
  refine Ev.step (fun k => by rw [spec_l04Sizes.j0]) ?_
  refine Ev.pos rfl ?_
  exact Ev.fin rfl
 have IF : Ev (fun k => impl_sizes.j0 k p q ks l true) failR := by
  refine Ev.step (fun k => by rw [impl_sizes.j0]) ?_
  refine Ev.pos rfl ?_
  exact Ev.fin rfl
 have implP : impl_isPlate.f p q = some (inB p 1 24 && inB q 1 24) := by
  unfold impl_isPlate.f
  rw [implIn, implIn, Option.bind_some]
  cases inB p 1 24 <;> rfl
 by_cases h1 : inB p 1 24 = true
 ·
  by_cases h2 : inB q 1 24 = true
  ·
   by_cases h3 : kindsB ks = true
   ·
    have hk : ks.length ≤ 8 := by
     unfold kindsB at h3
     rw [Bool.and_eq_true] at h3
     have := of_decide_eq_true h3.1
     omega
    by_cases h4 : inB (l.length : Int) 1 60 = true
    ·
     have hb := inB_iff.1 h4
     have hp := inB_iff.1 h1
     have hq := inB_iff.1 h2
     have hrl : ((l.length : Int)).toNat = l.length := Int.toNat_natCast _
     have hz : ∀ x ∈ (List.replicate l.length z49).set 0 (⟨p, q⟩ : S49), okZ x := okZ_set _ _ _ (fun y hy => .inl (by rw [List.eq_of_mem_replicate hy]; exact ⟨rfl, rfl⟩)) (.inr ⟨⟨hp.1, hp.2⟩, hq.1, hq.2⟩)
     obtain ⟨r, e1, e2, e3⟩ := loop ks hk hks l (by omega) hc l.length 0 ((List.replicate l.length z49).set 0 (⟨p, q⟩ : S49)) (by omega) (by simp) hz
     have ht : (List.replicate l.length false).set 0 true = told ((List.replicate l.length z49).set 0 (⟨p, q⟩ : S49)) := by
      unfold told
      rw [List.map_set, List.map_replicate]
      have : nz (⟨p, q⟩ : S49) = true := decide_eq_true (by show p ≠ 0; omega)
      rw [this]
      rfl
     refine ⟨r, ?_, ?_, e3⟩
     ·
      unfold spec_l04Sizes.f
      refine Ev.nobind (specPlate _) (Ev.pos h1 (Ev.nobind (specPlate _) (Ev.pos h2 (Ev.bind (specKinds ks hkl) ?_))))
      refine Ev.pos h3 (Ev.nobind (specIn _ _ _) ?_)
      rw [h4]
      refine Ev.step (fun k => by rw [spec_l04Sizes.j0]) ?_
      refine Ev.neg (by decide) ?_
      refine Ev.pos (by omega) ?_
      refine Ev.pos (by omega) ?_
      refine Ev.nobind rfl ?_
      refine Ev.pos (by simp; omega) ?_
      rw [hrl]
      exact e1
     ·
      unfold impl_sizes.f
      refine Ev.nobind implP (Ev.pos (by rw [h1, h2]; rfl) (Ev.nobind (implKinds ks) (Ev.pos h3 (Ev.nobind (implIn _ _ _) ?_))))
      rw [h4]
      refine Ev.step (fun k => by rw [impl_sizes.j0]) ?_
      refine Ev.neg (by decide) ?_
      refine Ev.pos (by omega) ?_
      refine Ev.pos (by omega) ?_
      refine Ev.nobind rfl ?_
      refine Ev.pos (by omega) ?_
      refine Ev.nobind rfl ?_
      refine Ev.pos (by simp; omega) ?_
      refine Ev.pos (by simp; omega) ?_
      rw [hrl, show (0 : Int).toNat = 0 from rfl, ht]
      exact e2
    ·
     have h4' : inB (l.length : Int) 1 60 = false := by simpa using h4
     refine ⟨failR, ?_, ?_, okR_no _ _ _⟩
     ·
      unfold spec_l04Sizes.f
      refine Ev.nobind (specPlate _) (Ev.pos h1 (Ev.nobind (specPlate _) (Ev.pos h2 (Ev.bind (specKinds ks hkl) ?_))))
      refine Ev.pos h3 (Ev.nobind (specIn _ _ _) ?_)
      rw [h4']
      exact SF
     ·
      unfold impl_sizes.f
      refine Ev.nobind implP (Ev.pos (by rw [h1, h2]; rfl) (Ev.nobind (implKinds ks) (Ev.pos h3 (Ev.nobind (implIn _ _ _) ?_))))
      rw [h4']
      exact IF
   ·
    refine ⟨failR, ?_, ?_, okR_no _ _ _⟩
    ·
     unfold spec_l04Sizes.f
     refine Ev.nobind (specPlate _) (Ev.pos h1 (Ev.nobind (specPlate _) (Ev.pos h2 (Ev.bind (specKinds ks hkl) ?_))))
     exact Ev.neg h3 SF
    ·
     unfold impl_sizes.f
     exact Ev.nobind implP (Ev.pos (by rw [h1, h2]; rfl) (Ev.nobind (implKinds ks) (Ev.neg h3 IF)))
  ·
   refine ⟨failR, ?_, ?_, okR_no _ _ _⟩
   ·
    unfold spec_l04Sizes.f
    exact Ev.nobind (specPlate _) (Ev.pos h1 (Ev.nobind (specPlate _) (Ev.neg h2 SF)))
   ·
    unfold impl_sizes.f
    have h2' : inB q 1 24 = false := by simpa using h2
    exact Ev.nobind implP (Ev.neg (by rw [h1, h2']; decide) IF)
 ·
  refine ⟨failR, ?_, ?_, okR_no _ _ _⟩
  ·
   unfold spec_l04Sizes.f
   exact Ev.nobind (specPlate _) (Ev.neg h1 SF)
  ·
   unfold impl_sizes.f
   have h1' : inB p 1 24 = false := by simpa using h1
   exact Ev.nobind implP (Ev.neg (by rw [h1']; simp) IF)
end Go.Proofs.Ytnkihjabmbeicaa.CutsKit
namespace Go.Proofs.Ytnkihjabmbeicaa.TableKit
set_option linter.unusedSimpArgs false
set_option linter.unusedVariables false
open Go.RowKit Go.Proofs.Ytnkihjabmbeicaa.PA Go.Proofs.Ytnkihjabmbeicaa.Base Go.Proofs.Ytnkihjabmbeicaa.KindsKit Go.Proofs.Ytnkihjabmbeicaa.BestKit Go.Proofs.YtnkihjabmbeicaaW.PrintWords Go.Proofs.YtnkihjabmbeicaaW.PrintLast Go.Proofs.YtnkihjabmbeicaaW.PrintMore
def Src (l : List S46) (T : List Int) (w h v : Int) : Prop :=
 v = 0 ∨ (∃ i : Nat, i < l.length ∧ wrap64 (rd_T46 l (i : Int)).f0 = w ∧ wrap64 (rd_T46 l (i : Int)).f1 = h ∧ wrap64 (rd_T46 l (i : Int)).f2 = v) ∨
 (∃ i : Int, (1 ≤ i ∧ i < w) ∧ wrap64 (rd T (i * 25 + h) + rd T ((w - i) * 25 + h)) = v) ∨
 (∃ i : Int, (1 ≤ i ∧ i < h) ∧ wrap64 (rd T (w * 25 + i) + rd T (w * 25 + (h - i))) = v)
theorem Src.two {l : List S46} {T : List Int} {w h a b : Int} (ha : Src l T w h a) (hb : Src l T w h b) : Src l T w h (mx a b) := by
 have e : mx a b = a ∨ mx a b = b := by unfold mx; omega
 rcases e with e | e <;> rw [e] <;> assumption
theorem rd_put (xs : List Int) (i j v : Int) (i0 : 0 ≤ i) (j0 : 0 ≤ j) (h : i ≠ j) : rd (xs.set i.toNat v) j = rd xs j := by
 simp only [rd, List.getD_eq_getElem?_getD]
 rw [List.getElem?_set_ne (by omega)]
theorem rd_own (xs : List Int) (i v : Int) (i0 : 0 ≤ i) (h : i < (xs.length : Int)) : rd (xs.set i.toNat v) i = v := by
 simp only [rd, List.getD_eq_getElem?_getD]
 rw [List.getElem?_set_self (by omega)]; rfl
theorem Src.keep {l : List S46} {T : List Int} {w h v : Int} (n x : Int) (n0 : 0 ≤ n) (hw : 1 ≤ w) (hh : 1 ≤ h) (h1 : ∀ i, 1 ≤ i → i < w → i * 25 + h ≠ n) (h2 : ∀ i, 1 ≤ i → i < h → w * 25 + i ≠ n)
  (hs : Src l T w h v) : Src l (T.set n.toNat x) w h v := by
 rcases hs with e | e | ⟨i, ⟨b, c⟩, e⟩ | ⟨i, ⟨b, c⟩, e⟩
 ·
  exact .inl e
 ·
  exact .inr (.inl e)
 ·
  refine .inr (.inr (.inl ⟨i, ⟨b, c⟩, ?_⟩))
  rw [rd_put _ _ _ _ n0 (by omega) (fun q => h1 i b c q.symm), rd_put _ _ _ _ n0 (by omega) (fun q => h1 (w - i) (by omega) (by omega) q.symm)]; exact e
 ·
  refine .inr (.inr (.inr ⟨i, ⟨b, c⟩, ?_⟩))
  rw [rd_put _ _ _ _ n0 (by omega) (fun q => h2 i b c q.symm), rd_put _ _ _ _ n0 (by omega) (fun q => h2 (h - i) (by omega) (by omega) q.symm)]; exact e
/-- At least what the first `n` kinds, the cuts across before `a` and the cuts down before `d` give. -/
def Dm (l : List S46) (T : List Int) (w h : Int) (n : Nat) (a d v : Int) : Prop :=
 0 ≤ v ∧ (∀ i : Nat, i < n → i < l.length → wrap64 (rd_T46 l (i : Int)).f0 = w → wrap64 (rd_T46 l (i : Int)).f1 = h → wrap64 (rd_T46 l (i : Int)).f2 ≤ v) ∧
 (∀ i : Int, 1 ≤ i → i < a → i < w → wrap64 (rd T (i * 25 + h) + rd T ((w - i) * 25 + h)) ≤ v) ∧
 (∀ i : Int, 1 ≤ i → i < d → i < h → wrap64 (rd T (w * 25 + i) + rd T (w * 25 + (h - i))) ≤ v)
theorem mx_le (a b : Int) : a ≤ mx a b ∧ b ≤ mx a b := by unfold mx; omega
theorem Dm.kind {l : List S46} {T : List Int} {w h a d v : Int} {n : Nat} (hd : Dm l T w h n a d v) : Dm l T w h (n + 1) a d (mx v (wrap64 (rd_T46 l (n : Int)).f2)) := by
 obtain ⟨h0, h1, h2, h3⟩ := hd
 have hm := mx_le v (wrap64 (rd_T46 l (n : Int)).f2)
 refine ⟨by omega, fun i hi hl q0 q1 => ?_, fun i b c e => Int.le_trans (h2 i b c e) hm.1, fun i b c e => Int.le_trans (h3 i b c e) hm.1⟩
 by_cases e : i = n
 ·
  subst e; exact hm.2
 ·
  exact Int.le_trans (h1 i (by omega) hl q0 q1) hm.1
theorem Dm.no {l : List S46} {T : List Int} {w h a d v : Int} {n : Nat} (hd : Dm l T w h n a d v) (hn : ¬ (wrap64 (rd_T46 l (n : Int)).f0 = w ∧ wrap64 (rd_T46 l (n : Int)).f1 = h)) : Dm l T w h (n + 1) a d v := by
 obtain ⟨h0, h1, h2, h3⟩ := hd
 refine ⟨h0, fun i hi hl q0 q1 => ?_, h2, h3⟩
 by_cases e : i = n
 ·
  subst e; exact absurd ⟨q0, q1⟩ hn
 ·
  exact h1 i (by omega) hl q0 q1
theorem Dm.across {l : List S46} {T : List Int} {w h a d v : Int} {n : Nat} (hd : Dm l T w h n a d v) : Dm l T w h n (a + 1) d (mx v (wrap64 (rd T (a * 25 + h) + rd T ((w - a) * 25 + h)))) := by
 obtain ⟨h0, h1, h2, h3⟩ := hd
 have hm := mx_le v (wrap64 (rd T (a * 25 + h) + rd T ((w - a) * 25 + h)))
 refine ⟨by omega, fun i hi hl q0 q1 => Int.le_trans (h1 i hi hl q0 q1) hm.1, fun i b c e => ?_, fun i b c e => Int.le_trans (h3 i b c e) hm.1⟩
 by_cases e : i = a
 ·
  subst e; exact hm.2
 ·
  exact Int.le_trans (h2 i b (by omega) (by omega)) hm.1
theorem Dm.down {l : List S46} {T : List Int} {w h a d v : Int} {n : Nat} (hd : Dm l T w h n a d v) : Dm l T w h n a (d + 1) (mx v (wrap64 (rd T (w * 25 + d) + rd T (w * 25 + (h - d))))) := by
 obtain ⟨h0, h1, h2, h3⟩ := hd
 have hm := mx_le v (wrap64 (rd T (w * 25 + d) + rd T (w * 25 + (h - d))))
 refine ⟨by omega, fun i hi hl q0 q1 => Int.le_trans (h1 i hi hl q0 q1) hm.1, fun i b c e => Int.le_trans (h2 i b c e) hm.1, fun i b c e => ?_⟩
 by_cases e : i = d
 ·
  subst e; exact hm.2
 ·
  exact Int.le_trans (h3 i b (by omega) (by omega)) hm.1
theorem Dm.keep {l : List S46} {T : List Int} {w h v a d : Int} {m : Nat} (n x : Int) (n0 : 0 ≤ n) (hw : 1 ≤ w) (hh : 1 ≤ h) (h1 : ∀ i, 1 ≤ i → i < w → i * 25 + h ≠ n) (h2 : ∀ i, 1 ≤ i → i < h → w * 25 + i ≠ n)
  (hs : Dm l T w h m a d v) : Dm l (T.set n.toNat x) w h m a d v := by
 obtain ⟨q0, q1, q2, q3⟩ := hs
 refine ⟨q0, q1, fun i b c e => ?_, fun i b c e => ?_⟩
 ·
  rw [rd_put _ _ _ _ n0 (by omega) (fun q => h1 i b e q.symm), rd_put _ _ _ _ n0 (by omega) (fun q => h1 (w - i) (by omega) (by omega) q.symm)]; exact q2 i b c e
 ·
  rw [rd_put _ _ _ _ n0 (by omega) (fun q => h2 i b e q.symm), rd_put _ _ _ _ n0 (by omega) (fun q => h2 (h - i) (by omega) (by omega) q.symm)]; exact q3 i b c e
/-- Attained and greatest. -/
def Top (l : List S46) (T : List Int) (w h v : Int) : Prop := Src l T w h v ∧ Dm l T w h l.length w h v
section
variable (a0 a1 : Int) (l : List S46) (Q : List Int → Prop)
def Done (x7 : List Int) (x8 x9 : Int) : Prop := x7.length = 625 ∧ ∀ w h : Int, (1 ≤ w ∧ w ≤ 24) → (1 ≤ h ∧ h ≤ a1) → (w < x8 ∨ (w = x8 ∧ h < x9)) → Top l x7 w h (rd x7 (w * 25 + h))
theorem Done.put {x7 : List Int} {x8 x9 v : Int} (b1 : 1 ≤ a1 ∧ a1 ≤ 24) (b8 : 1 ≤ x8 ∧ x8 ≤ 24) (b9 : 1 ≤ x9 ∧ x9 ≤ a1) (hd : Done a1 l x7 x8 x9) (hv : Top l x7 x8 x9 v) : Done a1 l (x7.set (x8 * 25 + x9).toNat v) x8 (x9 + 1) := by
 refine ⟨by rw [List.length_set]; exact hd.1, fun w h hw hh hlt => ?_⟩
 have hl := hd.1
 by_cases e : w = x8 ∧ h = x9
 ·
  obtain ⟨rfl, rfl⟩ := e
  rw [rd_own _ _ _ (by omega) (by omega)]
  exact ⟨hv.1.keep _ _ (by omega) (by omega) (by omega) (fun i _ _ => by omega) (fun i _ _ => by omega), hv.2.keep _ _ (by omega) (by omega) (by omega) (fun i _ _ => by omega) (fun i _ _ => by omega)⟩
 ·
  have hlt' : w < x8 ∨ (w = x8 ∧ h < x9) := by omega
  rw [rd_put _ _ _ _ (by omega) (by omega) (by omega)]
  have hv := hd.2 w h hw hh hlt'
  exact ⟨hv.1.keep _ _ (by omega) (by omega) (by omega) (fun i _ _ => by omega) (fun i _ _ => by omega), hv.2.keep _ _ (by omega) (by omega) (by omega) (fun i _ _ => by omega) (fun i _ _ => by omega)⟩
theorem end4 (x7 : List Int) (x8 x9 : Int) (b8 : 1 ≤ x8 ∧ x8 ≤ 24) (b9 : 1 ≤ x9 ∧ x9 ≤ 24) (h : ∀ v, Top l x7 x8 x9 v → ∃ r, Ev (fun k => spec_l04Worth.l1 k a0 a1 l (x7.set (x8 * 25 + x9).toNat v) x8 (x9 + 1)) r ∧ Q r) :
  ∀ (d : Nat) (i b : Int), i + d = x9 → 1 ≤ i → Src l x7 x8 x9 b → Dm l x7 x8 x9 l.length x8 i b → ∃ r, Ev (fun k => spec_l04Worth.l4 k a0 a1 l x7 x8 x9 b i) r ∧ Q r
 | 0, i, b, e, h1, sb, db => by
  obtain ⟨r, hr, hq⟩ := h b ⟨sb, by have e_ : i = x9 := (by omega); rw [e_] at db; exact db⟩
  refine ⟨r, Ev.step (fun k => by rw [spec_l04Worth.l4]) ?_, hq⟩
  refine Ev.neg (by omega) ?_
  refine Ev.pos (by omega) ?_
  refine Ev.pos (by omega) ?_
  refine Ev.pos (by omega) ?_
  refine Ev.pos (by omega) ?_
  rw [w64 (x := x9 + 1) (by omega) (by omega)]
  exact hr
 | d + 1, i, b, e, h1, sb, db => by
  have e1 : wrap64 (x9 - i) = x9 - i := w64 (by omega) (by omega)
  have e2 : wrap64 (i + 1) = i + 1 := w64 (by omega) (by omega)
  obtain ⟨r, hr, hq⟩ := end4 x7 x8 x9 b8 b9 h d (i + 1) (mx b (wrap64 ((rd x7 (x8 * 25 + i)) + (rd x7 (x8 * 25 + (x9 - i)))))) (by omega) (by omega) (sb.two (.inr (.inr (.inr ⟨i, ⟨h1, by omega⟩, rfl⟩)))) db.down
  refine ⟨r, Ev.step (fun k => by rw [spec_l04Worth.l4]) ?_, hq⟩
  refine Ev.pos (by omega) ?_
  refine Ev.pos (by omega) ?_
  refine Ev.pos (by omega) ?_
  refine Ev.pos (by omega) ?_
  refine Ev.pos (by omega) ?_
  rw [e1, e2]
  refine Ev.pos (by omega) ?_
  refine Ev.pos (by omega) ?_
  exact Ev.nobind (max_mx _ _) hr
theorem end3 (x7 : List Int) (x8 x9 : Int) (b8 : 1 ≤ x8 ∧ x8 ≤ 24) (b9 : 1 ≤ x9 ∧ x9 ≤ 24) (h : ∀ v, Top l x7 x8 x9 v → ∃ r, Ev (fun k => spec_l04Worth.l1 k a0 a1 l (x7.set (x8 * 25 + x9).toNat v) x8 (x9 + 1)) r ∧ Q r) :
  ∀ (d : Nat) (i b : Int), i + d = x8 → 1 ≤ i → Src l x7 x8 x9 b → Dm l x7 x8 x9 l.length i 1 b → ∃ r, Ev (fun k => spec_l04Worth.l3 k a0 a1 l x7 x8 x9 b i) r ∧ Q r
 | 0, i, b, e, h1, sb, db => by
  obtain ⟨r, hr, hq⟩ := end4 a0 a1 l Q x7 x8 x9 b8 b9 h (x9 - 1).toNat 1 b (by omega) (by omega) sb (by have e_ : i = x8 := (by omega); rw [e_] at db; exact db)
  refine ⟨r, Ev.step (fun k => by rw [spec_l04Worth.l3]) ?_, hq⟩
  exact Ev.neg (by omega) hr
 | d + 1, i, b, e, h1, sb, db => by
  have e1 : wrap64 (x8 - i) = x8 - i := w64 (by omega) (by omega)
  have e2 : wrap64 (i + 1) = i + 1 := w64 (by omega) (by omega)
  obtain ⟨r, hr, hq⟩ := end3 x7 x8 x9 b8 b9 h d (i + 1) (mx b (wrap64 ((rd x7 (i * 25 + x9)) + (rd x7 ((x8 - i) * 25 + x9))))) (by omega) (by omega) (sb.two (.inr (.inr (.inl ⟨i, ⟨h1, by omega⟩, rfl⟩)))) db.across
  refine ⟨r, Ev.step (fun k => by rw [spec_l04Worth.l3]) ?_, hq⟩
  refine Ev.pos (by omega) ?_
  refine Ev.pos (by omega) ?_
  refine Ev.pos (by omega) ?_
  refine Ev.pos (by omega) ?_
  refine Ev.pos (by omega) ?_
  rw [e1, e2]
  refine Ev.pos (by omega) ?_
  refine Ev.pos (by omega) ?_
  exact Ev.nobind (max_mx _ _) hr
theorem end2 (hl : l.length ≤ 1048576) (x7 : List Int) (x8 x9 : Int) (b8 : 1 ≤ x8 ∧ x8 ≤ 24) (b9 : 1 ≤ x9 ∧ x9 ≤ 24) (h : ∀ v, Top l x7 x8 x9 v → ∃ r, Ev (fun k => spec_l04Worth.l1 k a0 a1 l (x7.set (x8 * 25 + x9).toNat v) x8 (x9 + 1)) r ∧ Q r) :
  ∀ (d i : Nat) (b : Int), i + d = l.length → Src l x7 x8 x9 b → Dm l x7 x8 x9 i 1 1 b → ∃ r, Ev (fun k => spec_l04Worth.l2 k a0 a1 l x7 x8 x9 b (i : Int)) r ∧ Q r
 | 0, i, b, e, sb, db => by
  obtain ⟨r, hr, hq⟩ := end3 a0 a1 l Q x7 x8 x9 b8 b9 h (x8 - 1).toNat 1 b (by omega) (by omega) sb (by have e_ : i = l.length := (by omega); rw [e_] at db; exact db)
  refine ⟨r, Ev.step (fun k => by rw [spec_l04Worth.l2]) ?_, hq⟩
  exact Ev.neg (by omega) hr
 | d + 1, i, b, e, sb, db => by
  have e2 : wrap64 ((i : Int) + 1) = ((i + 1 : Nat) : Int) := by rw [w64 (by omega) (by omega)]; omega
  have go := fun b sb db => end2 hl x7 x8 x9 b8 b9 h d (i + 1) b (by omega) sb db
  by_cases q0 : wrap64 ((rd_T46 l (i : Int)).f0) = x8
  ·
   by_cases q1 : wrap64 ((rd_T46 l (i : Int)).f1) = x9
   ·
    obtain ⟨r, hr, hq⟩ := go (mx b (wrap64 ((rd_T46 l (i : Int)).f2))) (sb.two (.inr (.inl ⟨i, by omega, q0, q1, rfl⟩))) db.kind
    refine ⟨r, Ev.step (fun k => by rw [spec_l04Worth.l2]) ?_, hq⟩
    refine Ev.pos (by omega) ?_
    refine Ev.pos (by omega) ?_
    refine Ev.pos q0 ?_
    refine Ev.pos q1 ?_
    rw [e2]
    exact Ev.nobind (max_mx _ _) hr
   ·
    obtain ⟨r, hr, hq⟩ := go b sb (db.no (fun q => q1 q.2))
    refine ⟨r, Ev.step (fun k => by rw [spec_l04Worth.l2]) ?_, hq⟩
    refine Ev.pos (by omega) ?_
    refine Ev.pos (by omega) ?_
    refine Ev.pos q0 ?_
    rw [e2]
    exact Ev.neg q1 hr
  ·
   obtain ⟨r, hr, hq⟩ := go b sb (db.no (fun q => q0 q.1))
   refine ⟨r, Ev.step (fun k => by rw [spec_l04Worth.l2]) ?_, hq⟩
   refine Ev.pos (by omega) ?_
   refine Ev.pos (by omega) ?_
   rw [e2]
   exact Ev.neg q0 hr
theorem end1 (hl : l.length ≤ 1048576) (b1 : 1 ≤ a1 ∧ a1 ≤ 24) (x8 : Int) (b8 : 1 ≤ x8 ∧ x8 ≤ 24) (h : ∀ x7, Done a1 l x7 (x8 + 1) 1 → ∃ r, Ev (fun k => spec_l04Worth.l0 k a0 a1 l x7 (x8 + 1)) r ∧ Q r) :
  ∀ (d : Nat) (x9 : Int) (x7 : List Int), x9 + d = a1 + 1 → 1 ≤ x9 → Done a1 l x7 x8 x9 → ∃ r, Ev (fun k => spec_l04Worth.l1 k a0 a1 l x7 x8 x9) r ∧ Q r
 | 0, x9, x7, e, h1, hd => by
  obtain ⟨r, hr, hq⟩ := h x7 ⟨hd.1, fun w h hw hh hlt => hd.2 w h hw hh (by omega)⟩
  refine ⟨r, Ev.step (fun k => by rw [spec_l04Worth.l1]) ?_, hq⟩
  refine Ev.neg (by omega) ?_
  rw [w64 (x := x8 + 1) (by omega) (by omega)]
  exact hr
 | d + 1, x9, x7, e, h1, hd => by
  obtain ⟨r, hr, hq⟩ := end2 a0 a1 l Q hl x7 x8 x9 b8 (by omega) (fun v sv => end1 hl b1 x8 b8 h d (x9 + 1) _ (by omega) (by omega) (hd.put a1 l b1 b8 (by omega) sv)) l.length 0 0 (by omega) (.inl rfl) ⟨Int.le_refl _, fun i hi => by omega, fun i b c => by omega, fun i b c => by omega⟩
  refine ⟨r, Ev.step (fun k => by rw [spec_l04Worth.l1]) ?_, hq⟩
  exact Ev.pos (by omega) hr
theorem end0 (hl : l.length ≤ 1048576) (b0 : 1 ≤ a0 ∧ a0 ≤ 24) (b1 : 1 ≤ a1 ∧ a1 ≤ 24) : ∀ (d : Nat) (x8 : Int) (x7 : List Int), x8 + d = a0 + 1 → 1 ≤ x8 → Done a1 l x7 x8 1 → ∃ r, Ev (fun k => spec_l04Worth.l0 k a0 a1 l x7 x8) r ∧ Done a1 l r (a0 + 1) 1
 | 0, x8, x7, e, h1, hd => by
  refine ⟨x7, Ev.step (fun k => by rw [spec_l04Worth.l0]) ?_, by rw [show a0 + 1 = x8 by omega]; exact hd⟩
  exact Ev.neg (by omega) (Ev.fin rfl)
 | d + 1, x8, x7, e, h1, hd => by
  obtain ⟨r, hr, hq⟩ := end1 a0 a1 l _ hl b1 x8 (by omega) (fun x7 hd => end0 hl b0 b1 d (x8 + 1) x7 (by omega) (by omega) hd) a1.toNat 1 x7 (by omega) (by omega) hd
  refine ⟨r, Ev.step (fun k => by rw [spec_l04Worth.l0]) ?_, hq⟩
  exact Ev.pos (by omega) hr
/-- Both tables are filled, alike, and each entry is the greatest of its sources. -/
theorem tables (hl : l.length ≤ 1048576) (b0 : 1 ≤ a0 ∧ a0 ≤ 24) (b1 : 1 ≤ a1 ∧ a1 ≤ 24) : ∃ r, Ev (fun k => spec_l04Worth.f k a0 a1 l) r ∧ Ev (fun k => impl_worthOf.f k a0 a1 l) r ∧
  ∀ w h : Int, (1 ≤ w ∧ w ≤ a0) → (1 ≤ h ∧ h ≤ a1) → Top l r w h (rd r (w * 25 + h)) := by
 obtain ⟨r, hr, hd⟩ := end0 a0 a1 l hl b0 b1 a0.toNat 1 (List.replicate 625 0) (by omega) (by omega) ⟨List.length_replicate, fun w h hw hh hlt => by omega⟩
 exact ⟨r, hr, by simp only [worth_same]; exact hr, fun w h hw hh => hd.2 w h (by omega) hh (by omega)⟩
end
/-- Values of kinds that are drawn or valid. -/
def Small (l : List S46) : Prop := ∀ i : Nat, i < l.length → 0 ≤ wrap64 (rd_T46 l (i : Int)).f2 ∧ wrap64 (rd_T46 l (i : Int)).f2 ≤ 32767
def GoodT (l : List S46) (T : List Int) (a0 a1 : Int) : Prop := ∀ w h : Int, (1 ≤ w ∧ w ≤ a0) → (1 ≤ h ∧ h ≤ a1) → Top l T w h (rd T (w * 25 + h))
theorem GoodT.bound {l : List S46} {T : List Int} {a0 a1 : Int} (hg : GoodT l T a0 a1) (hs : Small l) (b0 : a0 ≤ 24) (b1 : a1 ≤ 24) : ∀ (n : Nat) (w h : Int), w + h ≤ n → (1 ≤ w ∧ w ≤ a0) → (1 ≤ h ∧ h ≤ a1) → 0 ≤ rd T (w * 25 + h) ∧ rd T (w * 25 + h) ≤ 32767 * (w * h)
 | 0, w, h, e, hw, hh => by omega
 | n + 1, w, h, e, hw, hh => by
  obtain ⟨s, d⟩ := hg w h hw hh
  refine ⟨d.1, ?_⟩
  have h1 : 1 ≤ w * h := by
   have := Int.mul_le_mul hw.1 hh.1 (by omega) (by omega)
   simpa using this
  have h2 : w * h ≤ 24 * 24 := Int.mul_le_mul (by omega) (by omega) (by omega) (by omega)
  rcases s with q | ⟨i, hi, q0, q1, q⟩ | ⟨i, hi, q⟩ | ⟨i, hi, q⟩
  ·
   rw [q]; omega
  ·
   rw [← q]; have := (hs i hi).2; omega
  ·
   have x1 := hg.bound hs b0 b1 n i h (by omega) (by omega) hh
   have x2 := hg.bound hs b0 b1 n (w - i) h (by omega) (by omega) hh
   have m : i * h + (w - i) * h = w * h := by rw [← Int.add_mul]; congr 1; omega
   have p1 : 0 ≤ i * h := Int.mul_nonneg (by omega) (by omega)
   have p2 : 0 ≤ (w - i) * h := Int.mul_nonneg (by omega) (by omega)
   generalize i * h = u1 at *
   generalize (w - i) * h = u2 at *
   generalize w * h = u3 at *
   rw [w64 (by omega) (by omega)] at q
   omega
  ·
   have x1 := hg.bound hs b0 b1 n w i (by omega) hw (by omega)
   have x2 := hg.bound hs b0 b1 n w (h - i) (by omega) hw (by omega)
   have m : w * i + w * (h - i) = w * h := by rw [← Int.mul_add]; congr 1; omega
   have p1 : 0 ≤ w * i := Int.mul_nonneg (by omega) (by omega)
   have p2 : 0 ≤ w * (h - i) := Int.mul_nonneg (by omega) (by omega)
   generalize w * i = u1 at *
   generalize w * (h - i) = u2 at *
   generalize w * h = u3 at *
   rw [w64 (by omega) (by omega)] at q
   omega
/-- Tables of two plates agree where both have entries. -/
theorem GoodT.le {l : List S46} {T U : List Int} {a0 a1 c0 c1 : Int} (hg : GoodT l T a0 a1) (hu : GoodT l U c0 c1) : ∀ (n : Nat) (w h : Int), w + h ≤ n → (1 ≤ w ∧ w ≤ a0) → (1 ≤ h ∧ h ≤ a1) → (w ≤ c0 ∧ h ≤ c1) → rd T (w * 25 + h) = rd U (w * 25 + h)
 | 0, w, h, e, hw, hh, hc => by omega
 | n + 1, w, h, e, hw, hh, hc => by
  obtain ⟨s, d⟩ := hg w h hw hh
  obtain ⟨s', d'⟩ := hu w h (by omega) (by omega)
  have A : ∀ i, 1 ≤ i → i < w → rd T (i * 25 + h) = rd U (i * 25 + h) := fun i p q => hg.le hu n i h (by omega) (by omega) hh (by omega)
  have B : ∀ i, 1 ≤ i → i < h → rd T (w * 25 + i) = rd U (w * 25 + i) := fun i p q => hg.le hu n w i (by omega) hw (by omega) (by omega)
  apply Int.le_antisymm
  ·
   rcases s with q | ⟨i, hi, q0, q1, q⟩ | ⟨i, hi, q⟩ | ⟨i, hi, q⟩
   ·
    rw [q]; exact d'.1
   ·
    rw [← q]; exact d'.2.1 i hi hi q0 q1
   ·
    rw [A i hi.1 hi.2, A (w - i) (by omega) (by omega)] at q
    rw [← q]; exact d'.2.2.1 i hi.1 hi.2 hi.2
   ·
    rw [B i hi.1 hi.2, B (h - i) (by omega) (by omega)] at q
    rw [← q]; exact d'.2.2.2 i hi.1 hi.2 hi.2
  ·
   rcases s' with q | ⟨i, hi, q0, q1, q⟩ | ⟨i, hi, q⟩ | ⟨i, hi, q⟩
   ·
    rw [q]; exact d.1
   ·
    rw [← q]; exact d.2.1 i hi hi q0 q1
   ·
    rw [← A i hi.1 hi.2, ← A (w - i) (by omega) (by omega)] at q
    rw [← q]; exact d.2.2.1 i hi.1 hi.2 hi.2
   ·
    rw [← B i hi.1 hi.2, ← B (h - i) (by omega) (by omega)] at q
    rw [← q]; exact d.2.2.2 i hi.1 hi.2 hi.2
end Go.Proofs.Ytnkihjabmbeicaa.TableKit
namespace Go.Proofs.Ytnkihjabmbeicaa.TreeKit
set_option linter.unusedSimpArgs false
set_option linter.unusedVariables false
open Go.RowKit Go.Proofs.Ytnkihjabmbeicaa.PA Go.Proofs.Ytnkihjabmbeicaa.Base Go.Proofs.Ytnkihjabmbeicaa.KindsKit Go.Proofs.Ytnkihjabmbeicaa.BestKit Go.Proofs.Ytnkihjabmbeicaa.TableKit Go.Proofs.YtnkihjabmbeicaaW.PrintWords Go.Proofs.YtnkihjabmbeicaaW.PrintLast Go.Proofs.YtnkihjabmbeicaaW.PrintMore
abbrev Leaf := List S48 → Int → List Int → Int → Int → Int → Int → Int → Int → List S46 → Option (List S48)
theorem shift {α : Type} {g : Nat → Option α} {r : α} (h : Ev g r) (j : Nat) : Ev (fun k => g (k + j)) r := by
 obtain ⟨K, hK⟩ := h
 exact ⟨K, fun k hk => hK (k + j) (by omega)⟩
/-- The least place that fits, or none. -/
theorem least (p : Int → Prop) [DecidablePred p] : ∀ (n : Nat), (∃ a : Int, (1 ≤ a ∧ a < 1 + n) ∧ p a ∧ ∀ m, 1 ≤ m → m < a → ¬ p m) ∨ ∀ m, 1 ≤ m → m < 1 + (n : Int) → ¬ p m
 | 0 => .inr (fun m h1 h2 => by omega)
 | n + 1 => by
  rcases least p n with ⟨a, ⟨h1, h2⟩, hp, hm⟩ | h
  ·
   exact .inl ⟨a, ⟨h1, by omega⟩, hp, hm⟩
  ·
   by_cases hp : p (1 + n)
   ·
    exact .inl ⟨1 + n, ⟨by omega, by omega⟩, hp, fun m h1 h2 => h m h1 h2⟩
   ·
    refine .inr (fun m h1 h2 hq => ?_)
    by_cases e : m = 1 + n
    ·
     exact hp (e ▸ hq)
    ·
     exact h m h1 (by omega) hq
section
variable (T : List Int) (ks : List S46)
def across (w h v at_ : Int) : Prop := wrap64 (rd T (at_ * 25 + h) + rd T ((w - at_) * 25 + h)) = v
def down (w h v at_ : Int) : Prop := wrap64 (rd T (w * 25 + at_) + rd T (w * 25 + (h - at_))) = v
instance (w h v at_ : Int) : Decidable (across T w h v at_) := by unfold across; infer_instance
instance (w h v at_ : Int) : Decidable (down T w h v at_) := by unfold down; infer_instance
def isB (w h v : Int) (x : S46) : Bool := decide (wrap64 x.f0 = w ∧ wrap64 x.f1 = h ∧ wrap64 x.f2 = v)
theorem find_is (v w h : Int) : impl_cutter_add.find v w h ks = some (idx (isB w h v) ks) := by
 unfold impl_cutter_add.find
 refine idxO_idx ks (fun x _ => ?_)
 unfold impl_cutter_add.isK isB
 split
 ·
  split
  ·
   simp [*]
  ·
   simp [*]
 ·
  simp [*]
variable (P : Nat → Leaf) (y : List S48) (own : Nat) (w h v : Int) (b0 : 1 ≤ w ∧ w ≤ 24) (b1 : 1 ≤ h ∧ h ≤ 24)
include b0 b1 in
theorem s1_reach (r : List S48) (a : Int) (ha : a ≤ w) (hr : ∀ j, Ev (fun k => spec_l04Cut.l1 (P (k + j)) k y T w h ks v own a) r) :
  ∀ (d : Nat) (i : Int), i + d = a → 1 ≤ i → (∀ m, i ≤ m → m < a → ¬ across T w h v m) → ∀ j, Ev (fun k => spec_l04Cut.l1 (P (k + j)) k y T w h ks v own i) r
 | 0, i, e, h1, hn, j => by
  obtain rfl : i = a := by omega
  exact hr j
 | d + 1, i, e, h1, hn, j => by
  have e1 : wrap64 (w - i) = w - i := w64 (by omega) (by omega)
  have e2 : wrap64 (i + 1) = i + 1 := w64 (by omega) (by omega)
  refine Ev.step (fun k => by rw [spec_l04Cut.l1, show k + 1 + j = k + (j + 1) by omega]) ?_
  refine Ev.pos (by omega) ?_
  refine Ev.pos (by omega) ?_
  refine Ev.pos (by omega) ?_
  refine Ev.pos (by omega) ?_
  refine Ev.pos (by omega) ?_
  rw [e1, e2]
  refine Ev.pos (by omega) ?_
  refine Ev.pos (by omega) ?_
  refine Ev.neg (hn i (by omega) (by omega)) ?_
  exact s1_reach r a ha hr d (i + 1) (by omega) (by omega) (fun m q1 q2 => hn m (by omega) q2) (j + 1)
include b0 b1 in
theorem s1_hit (r : List S48) (a : Int) (ha : 1 ≤ a ∧ a < w) (hp : across T w h v a) (hr : Ev (fun k => P k y own T 2 a a h (w - a) h ks) r) (j : Nat) : Ev (fun k => spec_l04Cut.l1 (P (k + j)) k y T w h ks v own a) r := by
 have e1 : wrap64 (w - a) = w - a := w64 (by omega) (by omega)
 refine Ev.step (fun k => by rw [spec_l04Cut.l1, show k + 1 + j = k + (j + 1) by omega]) ?_
 refine Ev.pos (by omega) ?_
 refine Ev.pos (by omega) ?_
 refine Ev.pos (by omega) ?_
 refine Ev.pos (by omega) ?_
 refine Ev.pos (by omega) ?_
 rw [e1]
 refine Ev.pos (by omega) ?_
 refine Ev.pos (by omega) ?_
 refine Ev.pos hp ?_
 exact Ev.bind (shift hr (j + 1)) (Ev.fin rfl)
include b0 b1 in
theorem s2_reach (r : List S48) (a : Int) (ha : a < h) (hr : ∀ j, Ev (fun k => spec_l04Cut.l2 (P (k + j)) k y T w h ks v own a) r) :
  ∀ (d : Nat) (i : Int), i + d = a → 1 ≤ i → (∀ m, i ≤ m → m < a → ¬ down T w h v m) → ∀ j, Ev (fun k => spec_l04Cut.l2 (P (k + j)) k y T w h ks v own i) r
 | 0, i, e, h1, hn, j => by
  obtain rfl : i = a := by omega
  exact hr j
 | d + 1, i, e, h1, hn, j => by
  have e1 : wrap64 (h - i) = h - i := w64 (by omega) (by omega)
  have e2 : wrap64 (i + 1) = i + 1 := w64 (by omega) (by omega)
  refine Ev.step (fun k => by rw [spec_l04Cut.l2, show k + 1 + j = k + (j + 1) by omega]) ?_
  refine Ev.pos (by omega) ?_
  refine Ev.pos (by omega) ?_
  refine Ev.pos (by omega) ?_
  refine Ev.pos (by omega) ?_
  rw [e1, e2]
  refine Ev.pos (by omega) ?_
  refine Ev.pos (by omega) ?_
  refine Ev.neg (hn i (by omega) (by omega)) ?_
  exact s2_reach r a ha hr d (i + 1) (by omega) (by omega) (fun m q1 q2 => hn m (by omega) q2) (j + 1)
include b0 b1 in
theorem s2_hit (r : List S48) (a : Int) (ha : 1 ≤ a ∧ a < h) (hp : down T w h v a) (hr : Ev (fun k => P k y own T 3 a w a w (h - a) ks) r) (j : Nat) : Ev (fun k => spec_l04Cut.l2 (P (k + j)) k y T w h ks v own a) r := by
 have e1 : wrap64 (h - a) = h - a := w64 (by omega) (by omega)
 refine Ev.step (fun k => by rw [spec_l04Cut.l2, show k + 1 + j = k + (j + 1) by omega]) ?_
 refine Ev.pos (by omega) ?_
 refine Ev.pos (by omega) ?_
 refine Ev.pos (by omega) ?_
 refine Ev.pos (by omega) ?_
 rw [e1]
 refine Ev.pos (by omega) ?_
 refine Ev.pos (by omega) ?_
 refine Ev.pos hp ?_
 exact Ev.bind (shift hr (j + 1)) (Ev.fin rfl)
theorem s0_step (hl : ks.length ≤ 1048576) (r : List S48) (n : Nat) (hn : n ≤ ks.length) (hno : ∀ x ∈ ks.take n, isB w h v x = false) (hr : ∀ j, Ev (fun k => spec_l04Cut.l0 (P (k + j)) k y T w h ks v own (n : Int)) r) :
  ∀ (d i : Nat), i + d = n → ∀ j, Ev (fun k => spec_l04Cut.l0 (P (k + j)) k y T w h ks v own (i : Int)) r
 | 0, i, e, j => by
  obtain rfl : i = n := by omega
  exact hr j
 | d + 1, i, e, j => by
  have e2 : wrap64 ((i : Int) + 1) = ((i + 1 : Nat) : Int) := by rw [w64 (by omega) (by omega)]; omega
  have hi : i < ks.length := by omega
  have hm := hno ks[i] (by rw [List.mem_take_iff_getElem]; exact ⟨i, by omega, rfl⟩)
  have go := s0_step hl r n hn hno hr d (i + 1) (by omega) (j + 1)
  refine Ev.step (fun k => by rw [spec_l04Cut.l0, show k + 1 + j = k + (j + 1) by omega]) ?_
  refine Ev.pos (by omega) ?_
  refine Ev.pos (by omega) ?_
  rw [rdK ks i hi, e2]
  refine Ev.ite (fun q0 => ?_) (fun q0 => go)
  refine Ev.ite (fun q1 => ?_) (fun q1 => go)
  refine Ev.ite (fun q2 => ?_) (fun q2 => go)
  exact absurd hm (by simp [isB, q0, q1, q2])
theorem s0_hit (hl : ks.length ≤ 1048576) (n : Nat) (hn : n < ks.length) (hp : isB w h v ks[n] = true) (ho : own < y.length) (j : Nat) : Ev (fun k => spec_l04Cut.l0 (P (k + j)) k y T w h ks v own (n : Int)) (y.set own ⟨1, 0, IntKind.i8.wrap (n : Int), 0⟩) := by
 simp only [isB, decide_eq_true_eq] at hp
 refine Ev.step (fun k => by rw [spec_l04Cut.l0, show k + 1 + j = k + (j + 1) by omega]) ?_
 refine Ev.pos (by omega) ?_
 refine Ev.pos (by omega) ?_
 rw [rdK ks n hn]
 refine Ev.pos hp.1 ?_
 refine Ev.pos hp.2.1 ?_
 refine Ev.pos hp.2.2 ?_
 refine Ev.pos (by omega) ?_
 refine Ev.pos (by omega) ?_
 exact Ev.fin rfl
theorem s0_end (r : List S48) (hr : ∀ j, Ev (fun k => spec_l04Cut.l1 (P (k + j)) k y T w h ks v own 1) r) (j : Nat) : Ev (fun k => spec_l04Cut.l0 (P (k + j)) k y T w h ks v own (ks.length : Int)) r := by
 refine Ev.step (fun k => by rw [spec_l04Cut.l0, show k + 1 + j = k + (j + 1) by omega]) ?_
 exact Ev.neg (by omega) (hr (j + 1))
theorem s1_end (r : List S48) (hr : ∀ j, Ev (fun k => spec_l04Cut.l2 (P (k + j)) k y T w h ks v own 1) r) (j : Nat) : Ev (fun k => spec_l04Cut.l1 (P (k + j)) k y T w h ks v own w) r := by
 refine Ev.step (fun k => by rw [spec_l04Cut.l1, show k + 1 + j = k + (j + 1) by omega]) ?_
 exact Ev.neg (by omega) (hr (j + 1))
abbrev Res := List S48 × Int × Bool
include b0 b1 in
theorem i0_reach (r : Res) (a : Int) (ha : a ≤ w) (hr : Ev (fun k => impl_cutter_add.l0 k y T ks own 2 a w h v) r) :
  ∀ (d : Nat) (i : Int), i + d = a → 1 ≤ i → (∀ m, i ≤ m → m < a → ¬ across T w h v m) → Ev (fun k => impl_cutter_add.l0 k y T ks own 2 i w h v) r
 | 0, i, e, h1, hn => by
  obtain rfl : i = a := by omega
  exact hr
 | d + 1, i, e, h1, hn => by
  have e1 : wrap64 (w - i) = w - i := w64 (by omega) (by omega)
  have e2 : wrap64 (i + 1) = i + 1 := w64 (by omega) (by omega)
  refine Ev.step (fun k => by rw [impl_cutter_add.l0]) ?_
  refine Ev.pos (by omega) ?_
  refine Ev.pos (by omega) ?_
  refine Ev.pos (by omega) ?_
  refine Ev.pos (by omega) ?_
  refine Ev.pos (by omega) ?_
  rw [e1, e2]
  refine Ev.pos (by omega) ?_
  refine Ev.pos (by omega) ?_
  refine Ev.neg (hn i (by omega) (by omega)) ?_
  exact i0_reach r a ha hr d (i + 1) (by omega) (by omega) (fun m q1 q2 => hn m (by omega) q2)
include b0 b1 in
theorem i0_hit (r : Res) (a : Int) (ha : 1 ≤ a ∧ a < w) (hp : across T w h v a) (hr : Ev (fun k => impl_cutter_add.j3 k y T ks own 2 a a h (w - a) h) r) : Ev (fun k => impl_cutter_add.l0 k y T ks own 2 a w h v) r := by
 have e1 : wrap64 (w - a) = w - a := w64 (by omega) (by omega)
 refine Ev.step (fun k => by rw [impl_cutter_add.l0]) ?_
 refine Ev.pos (by omega) ?_
 refine Ev.pos (by omega) ?_
 refine Ev.pos (by omega) ?_
 refine Ev.pos (by omega) ?_
 refine Ev.pos (by omega) ?_
 rw [e1]
 refine Ev.pos (by omega) ?_
 refine Ev.pos (by omega) ?_
 refine Ev.pos hp ?_
 refine Ev.step (fun k => by rw [impl_cutter_add.j1]) ?_
 rw [e1]
 exact Ev.neg (by omega) hr
theorem i0_end (r : Res) (hr : Ev (fun k => impl_cutter_add.l1 k y T ks own 3 1 w h v) r) : Ev (fun k => impl_cutter_add.l0 k y T ks own 2 w w h v) r := by
 refine Ev.step (fun k => by rw [impl_cutter_add.l0]) ?_
 refine Ev.neg (by omega) ?_
 refine Ev.step (fun k => by rw [impl_cutter_add.j1]) ?_
 exact Ev.pos (by omega) hr
include b0 b1 in
theorem i1_reach (r : Res) (a : Int) (ha : a < h) (hr : Ev (fun k => impl_cutter_add.l1 k y T ks own 3 a w h v) r) :
  ∀ (d : Nat) (i : Int), i + d = a → 1 ≤ i → (∀ m, i ≤ m → m < a → ¬ down T w h v m) → Ev (fun k => impl_cutter_add.l1 k y T ks own 3 i w h v) r
 | 0, i, e, h1, hn => by
  obtain rfl : i = a := by omega
  exact hr
 | d + 1, i, e, h1, hn => by
  have e1 : wrap64 (h - i) = h - i := w64 (by omega) (by omega)
  have e2 : wrap64 (i + 1) = i + 1 := w64 (by omega) (by omega)
  refine Ev.step (fun k => by rw [impl_cutter_add.l1]) ?_
  refine Ev.pos (by omega) ?_
  refine Ev.pos (by omega) ?_
  refine Ev.pos (by omega) ?_
  refine Ev.pos (by omega) ?_
  rw [e1, e2]
  refine Ev.pos (by omega) ?_
  refine Ev.pos (by omega) ?_
  refine Ev.neg (hn i (by omega) (by omega)) ?_
  exact i1_reach r a ha hr d (i + 1) (by omega) (by omega) (fun m q1 q2 => hn m (by omega) q2)
include b0 b1 in
theorem i1_hit (r : Res) (a : Int) (ha : 1 ≤ a ∧ a < h) (hp : down T w h v a) (hr : Ev (fun k => impl_cutter_add.j3 k y T ks own 3 a w a w (h - a)) r) : Ev (fun k => impl_cutter_add.l1 k y T ks own 3 a w h v) r := by
 have e1 : wrap64 (h - a) = h - a := w64 (by omega) (by omega)
 refine Ev.step (fun k => by rw [impl_cutter_add.l1]) ?_
 refine Ev.pos (by omega) ?_
 refine Ev.pos (by omega) ?_
 refine Ev.pos (by omega) ?_
 refine Ev.pos (by omega) ?_
 rw [e1]
 refine Ev.pos (by omega) ?_
 refine Ev.pos (by omega) ?_
 exact Ev.pos hp hr
include b0 b1 in
/-- What both do with a part of some worth: a kind's entry, or the same cut. -/
theorem choose (hl : ks.length ≤ 1048576) (hv : v ≠ 0) (hs : Src ks T w h v) (ho : own < y.length) :
  (∃ n : Nat, (∀ P : Nat → Leaf, Ev (fun k => spec_l04Cut.l0 (P k) k y T w h ks v own 0) (y.set own ⟨1, 0, IntKind.i8.wrap (n : Int), 0⟩)) ∧ idx (isB w h v) ks = (n : Int) ∧ ∃ hn : n < ks.length, isB w h v ks[n] = true) ∨
  (∃ how a p0 p1 p2 p3 : Int, ((1 ≤ p0 ∧ p0 ≤ w) ∧ (1 ≤ p1 ∧ p1 ≤ h) ∧ (1 ≤ p2 ∧ p2 ≤ w) ∧ (1 ≤ p3 ∧ p3 ≤ h) ∧ p0 + p1 < w + h ∧ p2 + p3 < w + h) ∧ idx (isB w h v) ks = -1 ∧ ((how = 2 ∧ (1 ≤ a ∧ a < w) ∧ p0 = a ∧ p1 = h ∧ p2 = w - a ∧ p3 = h ∧ across T w h v a) ∨ (how = 3 ∧ (1 ≤ a ∧ a < h) ∧ p0 = w ∧ p1 = a ∧ p2 = w ∧ p3 = h - a ∧ down T w h v a)) ∧
   (∀ (P : Nat → Leaf) r, Ev (fun k => P k y own T how a p0 p1 p2 p3 ks) r → Ev (fun k => spec_l04Cut.l0 (P k) k y T w h ks v own 0) r) ∧
   ∀ r, Ev (fun k => impl_cutter_add.j3 k y T ks own how a p0 p1 p2 p3) r → Ev (fun k => impl_cutter_add.l0 k y T ks own 2 1 w h v) r) := by
 by_cases hk : ∃ x ∈ ks, isB w h v x = true
 ·
  have hany : ks.any (isB w h v) = true := by simpa using hk
  have hlt := List.findIdx_lt_length_of_exists hk
  have hno : ∀ x ∈ ks.take (ks.findIdx (isB w h v)), isB w h v x = false := by
   intro x hx
   obtain ⟨i, hi, rfl⟩ := List.mem_take_iff_getElem.1 hx
   have := List.not_of_lt_findIdx (p := isB w h v) (xs := ks) (i := i) (by omega)
   simpa using this
  refine .inl ⟨ks.findIdx (isB w h v), fun P => ?_, idx_at hlt hno (List.findIdx_getElem (w := hlt)), hlt, List.findIdx_getElem (w := hlt)⟩
  exact s0_step T ks P y own w h v hl _ (ks.findIdx (isB w h v)) (Nat.le_of_lt hlt) hno (s0_hit T ks P y own w h v hl _ hlt (List.findIdx_getElem (w := hlt)) ho) (ks.findIdx (isB w h v)) 0 (Nat.zero_add _) 0
 ·
  have hno : ∀ x ∈ ks, isB w h v x = false := fun x hx => by
   by_cases e : isB w h v x = true
   ·
    exact absurd ⟨x, hx, e⟩ hk
   ·
    simpa using e
  have hto : ∀ (P : Nat → Leaf) r, (∀ j, Ev (fun k => spec_l04Cut.l1 (P (k + j)) k y T w h ks v own 1) r) → Ev (fun k => spec_l04Cut.l0 (P k) k y T w h ks v own 0) r := fun P r hr =>
   s0_step T ks P y own w h v hl r ks.length (Nat.le_refl _) (fun x hx => hno x (List.mem_of_mem_take hx)) (s0_end T ks P y own w h v r hr) ks.length 0 (by omega) 0
  rcases least (across T w h v) (w - 1).toNat with ⟨a, ⟨h1, h2⟩, hp, hm⟩ | hnone
  ·
   refine .inr ⟨2, a, a, h, w - a, h, by omega, idx_none hno, .inl ⟨rfl, by omega, rfl, rfl, rfl, rfl, hp⟩, fun P r hr => hto P r ?_, fun r hr => ?_⟩
   ·
    exact s1_reach T ks P y own w h v b0 b1 r a (by omega) (s1_hit T ks P y own w h v b0 b1 r a (by omega) hp hr) (a - 1).toNat 1 (by omega) (by omega) hm
   ·
    exact i0_reach T ks y own w h v b0 b1 r a (by omega) (i0_hit T ks y own w h v b0 b1 r a (by omega) hp hr) (a - 1).toNat 1 (by omega) (by omega) hm
  ·
   have hno1 : ∀ m, 1 ≤ m → m < w → ¬ across T w h v m := fun m q1 q2 => hnone m q1 (by omega)
   have hd : ∃ i : Int, (1 ≤ i ∧ i < h) ∧ down T w h v i := by
    rcases hs with e | ⟨i, hi, q0, q1, q2⟩ | ⟨i, hi, q⟩ | ⟨i, hi, q⟩
    ·
     exact absurd e hv
    ·
     exfalso
     rw [rdK ks i hi] at q0 q1 q2
     have := hno ks[i] (List.getElem_mem hi)
     simp [isB, q0, q1, q2] at this
    ·
     exact absurd q (hno1 i hi.1 hi.2)
    ·
     exact ⟨i, hi, q⟩
   rcases least (down T w h v) (h - 1).toNat with ⟨a, ⟨h1, h2⟩, hp, hm⟩ | hnone2
   ·
    refine .inr ⟨3, a, w, a, w, h - a, by omega, idx_none hno, .inr ⟨rfl, by omega, rfl, rfl, rfl, rfl, hp⟩, fun P r hr => hto P r ?_, fun r hr => ?_⟩
    ·
     refine s1_reach T ks P y own w h v b0 b1 r w (by omega) (s1_end T ks P y own w h v r ?_) (w - 1).toNat 1 (by omega) (by omega) (fun m q1 q2 => hno1 m q1 q2)
     exact s2_reach T ks P y own w h v b0 b1 r a (by omega) (s2_hit T ks P y own w h v b0 b1 r a (by omega) hp hr) (a - 1).toNat 1 (by omega) (by omega) hm
    ·
     refine i0_reach T ks y own w h v b0 b1 r w (by omega) (i0_end T ks y own w h v r ?_) (w - 1).toNat 1 (by omega) (by omega) (fun m q1 q2 => hno1 m q1 q2)
     exact i1_reach T ks y own w h v b0 b1 r a (by omega) (i1_hit T ks y own w h v b0 b1 r a (by omega) hp hr) (a - 1).toNat 1 (by omega) (by omega) hm
   ·
    obtain ⟨i, hi, q⟩ := hd
    exact absurd q (hnone2 i hi.1 (by omega))
end
/-- The entries of a part of `w` by `h` that stand from place `n` on. -/
inductive Tree (T : List Int) (ks : List S46) : Int → Int → Nat → List S48 → Prop
 | leaf (w h : Int) (n : Nat) : rd T (w * 25 + h) = 0 → Tree T ks w h n [⟨0, 0, 0, 0⟩]
 | piece (w h : Int) (n i : Nat) (hi : i < ks.length) : isB w h (rd T (w * 25 + h)) ks[i] = true → Tree T ks w h n [⟨1, 0, IntKind.i8.wrap (i : Int), 0⟩]
 | across (w h a : Int) (n : Nat) (s1 s2 : List S48) : 1 ≤ a → a < w → across T w h (rd T (w * 25 + h)) a → Tree T ks a h (n + 1) s1 → Tree T ks (w - a) h (n + 1 + s1.length) s2 →
   Tree T ks w h n (⟨2, IntKind.i8.wrap a, IntKind.i8.wrap ((n + 1 : Nat) : Int), IntKind.i8.wrap ((n + 1 + s1.length : Nat) : Int)⟩ :: (s1 ++ s2))
 | down (w h a : Int) (n : Nat) (s1 s2 : List S48) : 1 ≤ a → a < h → down T w h (rd T (w * 25 + h)) a → Tree T ks w a (n + 1) s1 → Tree T ks w (h - a) (n + 1 + s1.length) s2 →
   Tree T ks w h n (⟨3, IntKind.i8.wrap a, IntKind.i8.wrap ((n + 1 : Nat) : Int), IntKind.i8.wrap ((n + 1 + s1.length : Nat) : Int)⟩ :: (s1 ++ s2))
/-- What the two searches answer from the list `l` on. -/
def Alike (T : List Int) (ks : List S46) (w h : Int) (l : List S48) : Prop :=
 ∃ s, Ev (fun k => spec_l04Cut.f k l T w h ks) s ∧ l.length < s.length ∧
  ((s.length ≤ 60 ∧ Ev (fun k => impl_cutter_add.f k l w h T ks) (s, IntKind.i8.wrap (l.length : Int), true) ∧ ∃ seg, s = l ++ seg ∧ Tree T ks w h l.length seg) ∨
     (60 < s.length ∧ ∃ t b, l.length ≤ t.length ∧ Ev (fun k => impl_cutter_add.f k l w h T ks) (t, b, false)))
theorem parts (T : List Int) (ks : List S46) (y : List S48) (hy : y.length ≤ 60) (own : Nat) (ho : own < y.length) (how a p0 p1 p2 p3 : Int)
  (h0 : ∀ l : List S48, l.length ≤ 60 → Alike T ks p0 p1 l) (h1 : ∀ l : List S48, l.length ≤ 60 → Alike T ks p2 p3 l) :
  ∃ s, Ev (fun k => spec_l04Cut.q (spec_l04Cut.f k) y own T how a p0 p1 p2 p3 ks) s ∧ y.length < s.length ∧
   ((s.length ≤ 60 ∧ Ev (fun k => impl_cutter_add.j3 k y T ks own how a p0 p1 p2 p3) (s, IntKind.i8.wrap (own : Int), true) ∧
     ∃ g1 g2, Tree T ks p0 p1 y.length g1 ∧ Tree T ks p2 p3 (y.length + g1.length) g2 ∧ s = (y ++ g1 ++ g2).set own ⟨how, IntKind.i8.wrap a, IntKind.i8.wrap (y.length : Int), IntKind.i8.wrap ((y.length + g1.length : Nat) : Int)⟩) ∨
       (60 < s.length ∧ ∃ t b, y.length ≤ t.length ∧ Ev (fun k => impl_cutter_add.j3 k y T ks own how a p0 p1 p2 p3) (t, b, false))) := by
 obtain ⟨s1, e1, g1, c1⟩ := h0 y hy
 rcases c1 with ⟨l1, i1, q1, rfl, t1⟩ | ⟨l1, t, b, gt, i1⟩
 ·
  obtain ⟨s2, e2, g2, c2⟩ := h1 (y ++ q1) l1
  refine ⟨s2.set own ⟨how, IntKind.i8.wrap a, IntKind.i8.wrap (y.length : Int), IntKind.i8.wrap ((y ++ q1).length : Int)⟩, ?_, by rw [List.length_set]; omega, ?_⟩
  ·
   unfold spec_l04Cut.q
   refine Ev.neg (by omega) ?_
   refine Ev.bind e1 ?_
   refine Ev.neg (by omega) ?_
   refine Ev.bind e2 ?_
   refine Ev.pos (by omega) ?_
   refine Ev.pos (by omega) ?_
   exact Ev.fin (by rw [Int.toNat_natCast])
  ·
   rw [List.length_set]
   rcases c2 with ⟨l2, i2, q2, rfl, t2⟩ | ⟨l2, t, b, gt, i2⟩
   ·
    refine .inl ⟨l2, Ev.step (fun k => by rw [impl_cutter_add.j3]) ?_, q1, q2, t1, by rw [List.length_append] at t2; exact t2, by rw [List.length_append]⟩
    refine Ev.bind i1 ?_
    refine Ev.pos rfl ?_
    refine Ev.bind i2 ?_
    refine Ev.pos (by omega) ?_
    refine Ev.pos (show (own : Int) < ((y ++ q1 ++ q2).length : Int) by omega) ?_
    exact Ev.fin (by rw [Int.toNat_natCast])
   ·
    refine .inr ⟨l2, t.set own ⟨how, IntKind.i8.wrap a, IntKind.i8.wrap (y.length : Int), b⟩, IntKind.i8.wrap (own : Int), by rw [List.length_set]; omega, Ev.step (fun k => by rw [impl_cutter_add.j3]) ?_⟩
    refine Ev.bind i1 ?_
    refine Ev.pos rfl ?_
    refine Ev.bind i2 ?_
    refine Ev.pos (by omega) ?_
    refine Ev.pos (show (own : Int) < (t.length : Int) by omega) ?_
    exact Ev.fin (by rw [Int.toNat_natCast])
 ·
  refine ⟨s1, ?_, g1, .inr ⟨l1, t, 0, gt, Ev.step (fun k => by rw [impl_cutter_add.j3]) ?_⟩⟩
  ·
   unfold spec_l04Cut.q
   refine Ev.neg (by omega) ?_
   refine Ev.bind e1 ?_
   exact Ev.pos (by omega) (Ev.fin rfl)
  ·
   refine Ev.bind i1 ?_
   exact Ev.neg (by simp) (Ev.fin rfl)
theorem alike (T : List Int) (ks : List S46) (hl : ks.length ≤ 1048576) (a0 a1 : Int) (b0 : 1 ≤ a0 ∧ a0 ≤ 24) (b1 : 1 ≤ a1 ∧ a1 ≤ 24)
  (hT : GoodT ks T a0 a1) :
  ∀ (n : Nat) (w h : Int), w + h ≤ n → (1 ≤ w ∧ w ≤ a0) → (1 ≤ h ∧ h ≤ a1) → ∀ l : List S48, l.length ≤ 60 → Alike T ks w h l
 | 0, w, h, e, hw, hh, l, hl6 => by omega
 | n + 1, w, h, e, hw, hh, l, hl6 => by
  have yl : (l ++ [(⟨0, 0, 0, 0⟩ : S48)]).length = l.length + 1 := by simp
  have SPEC : ∀ s, Ev (fun k => if rd T (w * 25 + h) = 0 then some (l ++ [(⟨0, 0, 0, 0⟩ : S48)]) else spec_l04Cut.l0 (spec_l04Cut.q (spec_l04Cut.f k)) k (l ++ [(⟨0, 0, 0, 0⟩ : S48)]) T w h ks (rd T (w * 25 + h)) (l.length : Int) 0) s → Ev (fun k => spec_l04Cut.f k l T w h ks) s := fun s hs => by
   refine Ev.step (fun k => by rw [spec_l04Cut.f, spec_l04Cut.b]) ?_
   refine Ev.pos (by omega) ?_
   refine Ev.pos (by omega) ?_
   refine Ev.pos (by omega) ?_
   refine Ev.pos (by omega) ?_
   refine Ev.pos (by omega) ?_
   exact Ev.nobind rfl hs
  have IMPL : l.length < 60 → ∀ r, Ev (fun k => if rd T (w * 25 + h) = 0 then some (l ++ [(⟨0, 0, 0, 0⟩ : S48)], IntKind.i8.wrap (l.length : Int), true) else (impl_cutter_add.find (rd T (w * 25 + h)) w h ks).bind fun t => (if t ≥ 0 then (if 0 ≤ (l.length : Int) then (if (l.length : Int) < ((l ++ [(⟨0, 0, 0, 0⟩ : S48)]).length : Int) then some ((l ++ [(⟨0, 0, 0, 0⟩ : S48)]).set (l.length : Int).toNat ⟨1, 0, IntKind.i8.wrap t, 0⟩, IntKind.i8.wrap (l.length : Int), true) else none) else none) else impl_cutter_add.l0 k (l ++ [(⟨0, 0, 0, 0⟩ : S48)]) T ks (l.length : Int) 2 1 w h (rd T (w * 25 + h)))) r → Ev (fun k => impl_cutter_add.f k l w h T ks) r := fun h6 r hr => by
   refine Ev.step (fun k => by rw [impl_cutter_add.f]) ?_
   refine Ev.pos (by omega) ?_
   refine Ev.pos (by omega) ?_
   refine Ev.pos (by omega) ?_
   refine Ev.pos (by omega) ?_
   refine Ev.neg (by omega) ?_
   refine Ev.pos (by omega) ?_
   exact Ev.nobind rfl hr
  have FULL : l.length = 60 → Ev (fun k => impl_cutter_add.f k l w h T ks) (l, 0, false) := fun h6 => by
   refine Ev.step (fun k => by rw [impl_cutter_add.f]) ?_
   refine Ev.pos (by omega) ?_
   refine Ev.pos (by omega) ?_
   refine Ev.pos (by omega) ?_
   refine Ev.pos (by omega) ?_
   exact Ev.pos (by omega) (Ev.fin rfl)
  have hsrc := (hT w h hw hh).1
  have LEAF := Tree.leaf (T := T) (ks := ks) w h l.length
  have PIECE := Tree.piece (T := T) (ks := ks) w h l.length
  have ACROSS := Tree.across (T := T) (ks := ks) w h
  have DOWN := Tree.down (T := T) (ks := ks) w h
  generalize hv : rd T (w * 25 + h) = v at SPEC IMPL hsrc LEAF PIECE ACROSS DOWN
  generalize hyy : l ++ [(⟨0, 0, 0, 0⟩ : S48)] = y at SPEC IMPL yl
  by_cases v0 : v = 0
  ·
   refine ⟨y, SPEC y (Ev.pos v0 (Ev.fin rfl)), by omega, ?_⟩
   by_cases h6 : l.length = 60
   ·
    exact .inr ⟨by omega, l, 0, Nat.le_refl _, FULL h6⟩
   ·
    exact .inl ⟨by omega, IMPL (by omega) _ (Ev.pos v0 (Ev.fin rfl)), _, hyy.symm, LEAF v0⟩
  ·
   rcases choose T ks y l.length w h v (by omega) (by omega) hl v0 hsrc (by omega) with ⟨m, hs, hi, hm, hb⟩ | ⟨how, a, p0, p1, p2, p3, hp, hi, hw4, hs, hj⟩
   ·
    refine ⟨y.set l.length ⟨1, 0, IntKind.i8.wrap (m : Int), 0⟩, SPEC _ (Ev.neg v0 (hs _)), by rw [List.length_set]; omega, ?_⟩
    rw [List.length_set]
    by_cases h6 : l.length = 60
    ·
     exact .inr ⟨by omega, l, 0, Nat.le_refl _, FULL h6⟩
    ·
     refine .inl ⟨by omega, IMPL (by omega) _ (Ev.neg v0 ?_), _, (by rw [← hyy, List.set_append_right _ _ (Nat.le_refl _), Nat.sub_self]; rfl), PIECE m hm hb⟩
     refine Ev.nobind (find_is ks v w h) ?_
     rw [hi]
     refine Ev.pos (by omega) ?_
     refine Ev.pos (by omega) ?_
     refine Ev.pos (by omega) ?_
     exact Ev.fin (by rw [Int.toNat_natCast])
   ·
    by_cases h6 : l.length = 60
    ·
     refine ⟨y, SPEC _ (Ev.neg v0 (hs (fun k => spec_l04Cut.q (spec_l04Cut.f k)) y ?_)), by omega, .inr ⟨by omega, l, 0, Nat.le_refl _, FULL h6⟩⟩
     unfold spec_l04Cut.q
     exact Ev.pos (by omega) (Ev.fin rfl)
    ·
     obtain ⟨s, es, gs, c⟩ := parts T ks y (by omega) l.length (by omega) how a p0 p1 p2 p3
      (fun l' hl' => alike T ks hl a0 a1 b0 b1 hT n p0 p1 (by omega) (by omega) (by omega) l' hl')
      (fun l' hl' => alike T ks hl a0 a1 b0 b1 hT n p2 p3 (by omega) (by omega) (by omega) l' hl')
     have TO : ∀ r, Ev (fun k => impl_cutter_add.j3 k y T ks l.length how a p0 p1 p2 p3) r → Ev (fun k => impl_cutter_add.f k l w h T ks) r := fun r hr => by
      refine IMPL (by omega) _ (Ev.neg v0 ?_)
      refine Ev.nobind (find_is ks v w h) ?_
      rw [hi]
      exact Ev.neg (by omega) (hj r hr)
     refine ⟨s, SPEC _ (Ev.neg v0 (hs (fun k => spec_l04Cut.q (spec_l04Cut.f k)) s es)), by omega, ?_⟩
     rcases c with ⟨c1, c2, g1, g2, t1, t2, c3⟩ | ⟨c1, t, b, c2, c3⟩
     ·
      refine .inl ⟨c1, TO _ c2, ⟨how, IntKind.i8.wrap a, IntKind.i8.wrap ((l.length + 1 : Nat) : Int), IntKind.i8.wrap ((l.length + 1 + g1.length : Nat) : Int)⟩ :: (g1 ++ g2), ?_, ?_⟩
      ·
       rw [c3, yl, ← hyy, List.append_assoc, List.append_assoc, List.set_append_right _ _ (Nat.le_refl _), Nat.sub_self]; rfl
      ·
       rw [yl] at t1 t2
       rcases hw4 with ⟨rfl, ha, rfl, rfl, rfl, rfl, hq⟩ | ⟨rfl, ha, rfl, rfl, rfl, rfl, hq⟩
       ·
        exact ACROSS _ _ _ _ ha.1 ha.2 hq t1 t2
       ·
        exact DOWN _ _ _ _ ha.1 ha.2 hq t1 t2
     ·
      exact .inr ⟨c1, t, b, by omega, TO _ c3⟩
end Go.Proofs.Ytnkihjabmbeicaa.TreeKit
namespace Go.Proofs.Ytnkihjabmbeicaa.SizeKit
set_option linter.unusedSimpArgs false
set_option linter.unusedVariables false
open Go.RowKit Go.Proofs.Ytnkihjabmbeicaa.PA Go.Proofs.Ytnkihjabmbeicaa.Base Go.Proofs.Ytnkihjabmbeicaa.KindsKit Go.Proofs.Ytnkihjabmbeicaa.CutsKit Go.Proofs.Ytnkihjabmbeicaa.TreeKit Go.Proofs.YtnkihjabmbeicaaW.PrintWords Go.Proofs.YtnkihjabmbeicaaW.PrintLast Go.Proofs.YtnkihjabmbeicaaW.PrintMore
theorem cut2 (ks : List S46) (l : List S48) (hl : l.length ≤ 60) (s : List S49) (hs : s.length = l.length) (i a b : Nat) (hi : i < l.length) (ha : i < a ∧ a < l.length) (hb : i < b ∧ b < l.length) (hab : a ≠ b)
  (za : (rd_T49 s (a : Int)).f0 = 0) (zb : (rd_T49 s (b : Int)).f0 = 0) (c p q : Int) (hc : 1 ≤ c ∧ c < p) (hp : p ≤ 24) (r : List S49 × Bool)
  (hr : Ev (fun k => spec_l04Sizes.l0 k ks l ((s.set a (⟨c, q⟩ : S49)).set b (⟨p - c, q⟩ : S49)) ((i + 1 : Nat) : Int)) r) :
  Ev (fun k => spec_l04Sizes.j3 k ks l s (i : Int) true 2 c (a : Int) (b : Int) p q) r := by
 have la : a < s.length := by omega
 have lb : b < s.length := by omega
 have hg := specGiven s i 2 c (a : Int) (b : Int) (by omega) (by omega) ⟨by omega, by omega⟩ ⟨by omega, by omega⟩
 rw [decide_eq_true (show given s i (a : Int) (b : Int) from ⟨⟨by omega, by omega⟩, ⟨by omega, by omega⟩, by omega, za, zb⟩)] at hg
 have wi : Aside0 (wrap64 ((i : Int) + 1) = ((i + 1 : Nat) : Int)) := ⟨w64 (x := (i : Int) + 1) (by omega) (by omega)⟩
 refine Ev.step (fun k => by rw [spec_l04Sizes.j3]) ?_
 refine Ev.pos rfl ?_
 refine Ev.nobind hg ?_
 refine Ev.pos rfl ?_
 refine Ev.pos (by unfold wrap64; omega) ?_
 rw [w64 (x := c) (by omega) (by omega), w64 (x := p - 1) (by omega) (by omega), wi.out]
 refine Ev.nobind (specIn _ _ _) ?_
 refine Ev.pos (inB_iff.2 ⟨by omega, by omega⟩) ?_
 refine Ev.pos (by omega) ?_
 refine Ev.pos (by omega) ?_
 refine Ev.nobind rfl ?_
 refine Ev.pos (by omega) ?_
 refine Ev.pos (by omega) ?_
 refine Ev.nobind rfl ?_
 rw [w64 (x := p - c) (by omega) (by omega), specL0 s a b p q c _ la lb]
 exact hr
theorem cut3 (ks : List S46) (l : List S48) (hl : l.length ≤ 60) (s : List S49) (hs : s.length = l.length) (i a b : Nat) (hi : i < l.length) (ha : i < a ∧ a < l.length) (hb : i < b ∧ b < l.length) (hab : a ≠ b)
  (za : (rd_T49 s (a : Int)).f0 = 0) (zb : (rd_T49 s (b : Int)).f0 = 0) (c p q : Int) (hc : 1 ≤ c ∧ c < q) (hp : q ≤ 24) (r : List S49 × Bool)
  (hr : Ev (fun k => spec_l04Sizes.l0 k ks l ((s.set a (⟨p, c⟩ : S49)).set b (⟨p, q - c⟩ : S49)) ((i + 1 : Nat) : Int)) r) :
  Ev (fun k => spec_l04Sizes.j3 k ks l s (i : Int) true 3 c (a : Int) (b : Int) p q) r := by
 have la : a < s.length := by omega
 have lb : b < s.length := by omega
 have hg := specGiven s i 3 c (a : Int) (b : Int) (by omega) (by omega) ⟨by omega, by omega⟩ ⟨by omega, by omega⟩
 rw [decide_eq_true (show given s i (a : Int) (b : Int) from ⟨⟨by omega, by omega⟩, ⟨by omega, by omega⟩, by omega, za, zb⟩)] at hg
 have wi : Aside0 (wrap64 ((i : Int) + 1) = ((i + 1 : Nat) : Int)) := ⟨w64 (x := (i : Int) + 1) (by omega) (by omega)⟩
 refine Ev.step (fun k => by rw [spec_l04Sizes.j3]) ?_
 refine Ev.pos rfl ?_
 refine Ev.nobind hg ?_
 refine Ev.pos rfl ?_
 refine Ev.neg (by unfold wrap64; omega) ?_
 refine Ev.pos (by unfold wrap64; omega) ?_
 rw [w64 (x := c) (by omega) (by omega), w64 (x := q - 1) (by omega) (by omega), wi.out]
 refine Ev.nobind (specIn _ _ _) ?_
 refine Ev.pos (inB_iff.2 ⟨by omega, by omega⟩) ?_
 refine Ev.pos (by omega) ?_
 refine Ev.pos (by omega) ?_
 refine Ev.nobind rfl ?_
 refine Ev.pos (by omega) ?_
 refine Ev.pos (by omega) ?_
 refine Ev.nobind rfl ?_
 rw [w64 (x := q - c) (by omega) (by omega), specL1 s a b p q c _ la lb]
 exact hr
/-- A tree's entries and their sizes. -/
inductive Sized (T : List Int) (ks : List S46) : Int → Int → Nat → List S48 → List S49 → Prop
 | leaf (w h : Int) (n : Nat) : rd T (w * 25 + h) = 0 → Sized T ks w h n [⟨0, 0, 0, 0⟩] [⟨w, h⟩]
 | piece (w h : Int) (n i : Nat) (hi : i < ks.length) : isB w h (rd T (w * 25 + h)) ks[i] = true → Sized T ks w h n [⟨1, 0, IntKind.i8.wrap (i : Int), 0⟩] [⟨w, h⟩]
 | across (w h a : Int) (n : Nat) (s1 s2 : List S48) (z1 z2 : List S49) : 1 ≤ a → a < w → across T w h (rd T (w * 25 + h)) a → Sized T ks a h (n + 1) s1 z1 → Sized T ks (w - a) h (n + 1 + s1.length) s2 z2 →
   Sized T ks w h n (⟨2, IntKind.i8.wrap a, IntKind.i8.wrap ((n + 1 : Nat) : Int), IntKind.i8.wrap ((n + 1 + s1.length : Nat) : Int)⟩ :: (s1 ++ s2)) (⟨w, h⟩ :: (z1 ++ z2))
 | down (w h a : Int) (n : Nat) (s1 s2 : List S48) (z1 z2 : List S49) : 1 ≤ a → a < h → down T w h (rd T (w * 25 + h)) a → Sized T ks w a (n + 1) s1 z1 → Sized T ks w (h - a) (n + 1 + s1.length) s2 z2 →
   Sized T ks w h n (⟨3, IntKind.i8.wrap a, IntKind.i8.wrap ((n + 1 : Nat) : Int), IntKind.i8.wrap ((n + 1 + s1.length : Nat) : Int)⟩ :: (s1 ++ s2)) (⟨w, h⟩ :: (z1 ++ z2))
theorem sized {T : List Int} {ks : List S46} {w h : Int} {n : Nat} {g : List S48} (ht : Tree T ks w h n g) : ∃ z, Sized T ks w h n g z := by
 induction ht with
 | leaf w h n e => exact ⟨_, .leaf w h n e⟩
 | piece w h n i hi e => exact ⟨_, .piece w h n i hi e⟩
 | across w h a n s1 s2 h1 h2 hp t1 t2 i1 i2 =>
  obtain ⟨z1, i1⟩ := i1
  obtain ⟨z2, i2⟩ := i2
  exact ⟨_, .across w h a n s1 s2 z1 z2 h1 h2 hp i1 i2⟩
 | down w h a n s1 s2 h1 h2 hp t1 t2 i1 i2 =>
  obtain ⟨z1, i1⟩ := i1
  obtain ⟨z2, i2⟩ := i2
  exact ⟨_, .down w h a n s1 s2 z1 z2 h1 h2 hp i1 i2⟩
theorem Sized.len {T : List Int} {ks : List S46} {w h : Int} {n : Nat} {g : List S48} {z : List S49} (ht : Sized T ks w h n g z) : z.length = g.length ∧ 1 ≤ g.length := by
 induction ht with
 | leaf w h n e => exact ⟨rfl, Nat.le_refl _⟩
 | piece w h n i hi e => exact ⟨rfl, Nat.le_refl _⟩
 | across w h a n s1 s2 z1 z2 h1 h2 hp t1 t2 i1 i2 => simp only [List.length_cons, List.length_append]; omega
 | down w h a n s1 s2 z1 z2 h1 h2 hp t1 t2 i1 i2 => simp only [List.length_cons, List.length_append]; omega
theorem getD_app {α : Type} (x y : List α) (d : α) (j : Nat) : (x ++ y).getD j d = if j < x.length then x.getD j d else y.getD (j - x.length) d := by
 simp only [List.getD_eq_getElem?_getD, List.getElem?_append]
 split <;> rfl
/-- The reference's walk over a tree's entries writes the tree's sizes. -/
theorem walk {T : List Int} {ks : List S46} (hk : ks.length ≤ 8) (l : List S48) (hl : l.length ≤ 60) (r : List S49 × Bool) {w h : Int} {n : Nat} {g : List S48} {z : List S49} (ht : Sized T ks w h n g z) :
  (1 ≤ w ∧ w ≤ 24) → (1 ≤ h ∧ h ≤ 24) → ∀ s : List S49, s.length = l.length → n + g.length ≤ l.length → (∀ j : Nat, j < g.length → rd_T48 l ((n + j : Nat) : Int) = g.getD j z48) → rd_T49 s (n : Int) = ⟨w, h⟩ →
  (∀ j : Nat, n < j → j < n + g.length → (rd_T49 s (j : Int)).f0 = 0) →
  (∀ s' : List S49, s'.length = l.length → (∀ j : Nat, (j < n ∨ n + g.length ≤ j) → rd_T49 s' (j : Int) = rd_T49 s (j : Int)) → (∀ j : Nat, j < g.length → rd_T49 s' ((n + j : Nat) : Int) = z.getD j z49) →
   Ev (fun k => spec_l04Sizes.l0 k ks l s' ((n + g.length : Nat) : Int)) r) →
  Ev (fun k => spec_l04Sizes.l0 k ks l s (n : Int)) r := by
 induction ht with
 | leaf w h n e =>
  intro bw bh s hs hn hg h0 hz hr
  have hc := hg 0 (by simp)
  simp only [Nat.add_zero, List.getD_cons_zero] at hc
  have wi : Aside0 (wrap64 ((n : Int) + 1) = ((n + 1 : Nat) : Int)) := ⟨w64 (x := (n : Int) + 1) (by omega) (by omega)⟩
  have hn1 : n + 1 ≤ l.length := by simpa using hn
  refine Ev.step (fun k => by rw [spec_l04Sizes.l0]) ?_
  refine Ev.pos (by omega) ?_
  refine Ev.pos (by omega) ?_
  refine Ev.pos (by omega) ?_
  rw [hc, h0, wi.out]
  refine Ev.neg (show ¬ w = 0 by omega) ?_
  refine Ev.pos rfl ?_
  refine Ev.neg (by decide) ?_
  refine hr s hs (fun _ _ => rfl) (fun j hj => ?_)
  obtain rfl : j = 0 := by simpa using hj
  simpa using h0
 | piece w h n i hi e =>
  intro bw bh s hs hn hg h0 hz hr
  have hc := hg 0 (by simp)
  simp only [Nat.add_zero, List.getD_cons_zero] at hc
  have wi : Aside0 (wrap64 ((n : Int) + 1) = ((n + 1 : Nat) : Int)) := ⟨w64 (x := (n : Int) + 1) (by omega) (by omega)⟩
  have hn1 : n + 1 ≤ l.length := by simpa using hn
  have e8 : IntKind.i8.wrap (i : Int) = (i : Int) := w8 (by omega) (by omega)
  simp only [isB, decide_eq_true_eq] at e
  refine Ev.step (fun k => by rw [spec_l04Sizes.l0]) ?_
  refine Ev.pos (by omega) ?_
  refine Ev.pos (by omega) ?_
  refine Ev.pos (by omega) ?_
  rw [hc, h0]
  refine Ev.neg (show ¬ w = 0 by omega) ?_
  refine Ev.neg (show ¬ (1 : Int) = 0 by decide) ?_
  refine Ev.pos rfl ?_
  refine Ev.pos rfl ?_
  refine Ev.pos rfl ?_
  simp only [e8]
  rw [w64 (x := (i : Int)) (by omega) (by omega), w64 (x := (ks.length : Int) - 1) (by omega) (by omega)]
  refine Ev.nobind (specIn _ _ _) ?_
  rw [inB_iff.2 (show (0 : Int) ≤ (i : Int) ∧ (i : Int) ≤ (ks.length : Int) - 1 by omega)]
  refine Ev.step (fun k => by rw [spec_l04Sizes.j2]) ?_
  refine Ev.neg (by decide) ?_
  refine Ev.pos (by omega) ?_
  refine Ev.pos (by omega) ?_
  rw [rdK ks i hi, e.1, e.2.1, wi.out]
  refine Ev.neg (by simp) ?_
  refine hr s hs (fun _ _ => rfl) (fun j hj => ?_)
  obtain rfl : j = 0 := by simpa using hj
  simpa using h0
 | across w h a n s1 s2 z1 z2 h1 h2 hp t1 t2 i1 i2 =>
  intro bw bh s hs hn hg h0 hz hr
  have l1 := t1.len
  have l2 := t2.len
  have hc := hg 0 (by simp)
  simp only [Nat.add_zero, List.getD_cons_zero] at hc
  simp only [List.length_cons, List.length_append] at hn hg hz hr
  have wa : IntKind.i8.wrap a = a := w8 (by omega) (by omega)
  have wb : IntKind.i8.wrap ((n + 1 : Nat) : Int) = ((n + 1 : Nat) : Int) := w8 (by omega) (by omega)
  have wc : IntKind.i8.wrap ((n + 1 + s1.length : Nat) : Int) = ((n + 1 + s1.length : Nat) : Int) := w8 (by omega) (by omega)
  rw [wa, wb, wc] at hc
  have R0 : ∀ j : Nat, j ≠ n + 1 → j ≠ n + 1 + s1.length → ∀ x y : S49, rd_T49 ((s.set (n + 1) x).set (n + 1 + s1.length) y) (j : Int) = rd_T49 s (j : Int) := fun j q1 q2 x y => by rw [rdZset _ _ _ _ (Ne.symm q2), rdZset _ _ _ _ (Ne.symm q1)]
  refine Ev.step (fun k => by rw [spec_l04Sizes.l0]) ?_
  refine Ev.pos (by omega) ?_
  refine Ev.pos (by omega) ?_
  refine Ev.pos (by omega) ?_
  rw [hc, h0]
  refine Ev.neg (show ¬ w = 0 by omega) ?_
  refine Ev.neg (show ¬ (2 : Int) = 0 by decide) ?_
  refine Ev.neg (show ¬ (2 : Int) = 1 by decide) ?_
  refine Ev.pos rfl ?_
  refine cut2 ks l hl s hs n (n + 1) (n + 1 + s1.length) (by omega) (by omega) (by omega) (by omega) (hz _ (by omega) (by omega)) (hz _ (by omega) (by omega)) a w h (by omega) (by omega) r ?_
  refine i1 (by omega) bh _ (by simpa using hs) (by omega) (fun j hj => ?_) (by rw [rdZset _ _ _ _ (by omega), rdZself _ _ _ (by omega)]) (fun j q1 q2 => by rw [R0 j (by omega) (by omega)]; exact hz j (by omega) (by omega)) (fun s' hs' k1 k2 => ?_)
  ·
   have := hg (j + 1) (by omega)
   rw [show n + 1 + j = n + (j + 1) by omega, this, List.getD_cons_succ, getD_app, if_pos hj]
  refine i2 (by omega) bh s' hs' (by omega) (fun j hj => ?_) (by rw [k1 _ (.inr (Nat.le_refl _)), rdZself _ _ _ (by simp; omega)]) (fun j q1 q2 => by rw [k1 j (by omega), R0 j (by omega) (by omega)]; exact hz j (by omega) (by omega)) (fun s'' hs'' m1 m2 => ?_)
  ·
   have := hg (s1.length + j + 1) (by omega)
   rw [show n + 1 + s1.length + j = n + (s1.length + j + 1) by omega, this, List.getD_cons_succ, getD_app, if_neg (by omega), show s1.length + j - s1.length = j by omega]
  rw [show n + 1 + s1.length + s2.length = n + (s1.length + s2.length + 1) by omega]
  refine hr s'' hs'' (fun j hj => by rw [m1 j (by omega), k1 j (by omega), R0 j (by omega) (by omega)]) (fun j hj => ?_)
  match j, hj with
  | 0, _ => rw [Nat.add_zero, List.getD_cons_zero, m1 n (by omega), k1 n (by omega), R0 n (by omega) (by omega)]; exact h0
  | j + 1, hj =>
   rw [List.getD_cons_succ, getD_app]
   by_cases q : j < z1.length
   ·
    rw [if_pos q, show n + (j + 1) = n + 1 + j by omega, m1 _ (by omega), k2 j (by omega)]
   ·
    rw [if_neg q, show n + (j + 1) = n + 1 + s1.length + (j - z1.length) by omega, m2 _ (by omega)]
 | down w h a n s1 s2 z1 z2 h1 h2 hp t1 t2 i1 i2 =>
  intro bw bh s hs hn hg h0 hz hr
  have l1 := t1.len
  have l2 := t2.len
  have hc := hg 0 (by simp)
  simp only [Nat.add_zero, List.getD_cons_zero] at hc
  simp only [List.length_cons, List.length_append] at hn hg hz hr
  have wa : IntKind.i8.wrap a = a := w8 (by omega) (by omega)
  have wb : IntKind.i8.wrap ((n + 1 : Nat) : Int) = ((n + 1 : Nat) : Int) := w8 (by omega) (by omega)
  have wc : IntKind.i8.wrap ((n + 1 + s1.length : Nat) : Int) = ((n + 1 + s1.length : Nat) : Int) := w8 (by omega) (by omega)
  rw [wa, wb, wc] at hc
  have R0 : ∀ j : Nat, j ≠ n + 1 → j ≠ n + 1 + s1.length → ∀ x y : S49, rd_T49 ((s.set (n + 1) x).set (n + 1 + s1.length) y) (j : Int) = rd_T49 s (j : Int) := fun j q1 q2 x y => by rw [rdZset _ _ _ _ (Ne.symm q2), rdZset _ _ _ _ (Ne.symm q1)]
  refine Ev.step (fun k => by rw [spec_l04Sizes.l0]) ?_
  refine Ev.pos (by omega) ?_
  refine Ev.pos (by omega) ?_
  refine Ev.pos (by omega) ?_
  rw [hc, h0]
  refine Ev.neg (show ¬ w = 0 by omega) ?_
  refine Ev.neg (show ¬ (3 : Int) = 0 by decide) ?_
  refine Ev.neg (show ¬ (3 : Int) = 1 by decide) ?_
  refine Ev.neg (show ¬ (3 : Int) = 2 by decide) ?_
  refine cut3 ks l hl s hs n (n + 1) (n + 1 + s1.length) (by omega) (by omega) (by omega) (by omega) (hz _ (by omega) (by omega)) (hz _ (by omega) (by omega)) a w h (by omega) (by omega) r ?_
  refine i1 bw (by omega) _ (by simpa using hs) (by omega) (fun j hj => ?_) (by rw [rdZset _ _ _ _ (by omega), rdZself _ _ _ (by omega)]) (fun j q1 q2 => by rw [R0 j (by omega) (by omega)]; exact hz j (by omega) (by omega)) (fun s' hs' k1 k2 => ?_)
  ·
   have := hg (j + 1) (by omega)
   rw [show n + 1 + j = n + (j + 1) by omega, this, List.getD_cons_succ, getD_app, if_pos hj]
  refine i2 bw (by omega) s' hs' (by omega) (fun j hj => ?_) (by rw [k1 _ (.inr (Nat.le_refl _)), rdZself _ _ _ (by simp; omega)]) (fun j q1 q2 => by rw [k1 j (by omega), R0 j (by omega) (by omega)]; exact hz j (by omega) (by omega)) (fun s'' hs'' m1 m2 => ?_)
  ·
   have := hg (s1.length + j + 1) (by omega)
   rw [show n + 1 + s1.length + j = n + (s1.length + j + 1) by omega, this, List.getD_cons_succ, getD_app, if_neg (by omega), show s1.length + j - s1.length = j by omega]
  rw [show n + 1 + s1.length + s2.length = n + (s1.length + s2.length + 1) by omega]
  refine hr s'' hs'' (fun j hj => by rw [m1 j (by omega), k1 j (by omega), R0 j (by omega) (by omega)]) (fun j hj => ?_)
  match j, hj with
  | 0, _ => rw [Nat.add_zero, List.getD_cons_zero, m1 n (by omega), k1 n (by omega), R0 n (by omega) (by omega)]; exact h0
  | j + 1, hj =>
   rw [List.getD_cons_succ, getD_app]
   by_cases q : j < z1.length
   ·
    rw [if_pos q, show n + (j + 1) = n + 1 + j by omega, m1 _ (by omega), k2 j (by omega)]
   ·
    rw [if_neg q, show n + (j + 1) = n + 1 + s1.length + (j - z1.length) by omega, m2 _ (by omega)]
end Go.Proofs.Ytnkihjabmbeicaa.SizeKit
namespace Go.Proofs.Ytnkihjabmbeicaa.SumKit
set_option linter.unusedSimpArgs false
set_option linter.unusedVariables false
open Go.RowKit Go.Proofs.Ytnkihjabmbeicaa.PA Go.Proofs.Ytnkihjabmbeicaa.Base Go.Proofs.Ytnkihjabmbeicaa.KindsKit Go.Proofs.Ytnkihjabmbeicaa.CutsKit Go.Proofs.Ytnkihjabmbeicaa.TableKit Go.Proofs.Ytnkihjabmbeicaa.TreeKit Go.Proofs.Ytnkihjabmbeicaa.SizeKit Go.Proofs.YtnkihjabmbeicaaW.PrintWords Go.Proofs.YtnkihjabmbeicaaW.PrintLast Go.Proofs.YtnkihjabmbeicaaW.PrintMore
def tot (f : S48 → S49 → Int) : List S48 → List S49 → Int
 | c :: cs, z :: zs => f c z + tot f cs zs
 | _, _ => 0
theorem tot_app (f : S48 → S49 → Int) : ∀ (x a : List S48) (y b : List S49), x.length = y.length → tot f (x ++ a) (y ++ b) = tot f x y + tot f a b
 | [], a, [], b, _ => by simp [tot]
 | c :: x, a, z :: y, b, h => by simp only [List.cons_append, tot, tot_app f x a y b (by simpa using h)]; omega
 | [], _, _ :: _, _, h => by simp at h
 | _ :: _, _, [], _, h => by simp at h
def fArea (ks : List S46) (c : S48) (z : S49) : Int := if c.f0 = 0 then z.f0 * z.f1 else if c.f0 = 1 then wrap64 (rd_T46 ks c.f2).f0 * wrap64 (rd_T46 ks c.f2).f1 else 0
def fValue (ks : List S46) (c : S48) (_ : S49) : Int := if c.f0 = 1 then wrap64 (rd_T46 ks c.f2).f2 else 0
theorem areas {T : List Int} {ks : List S46} (hk : ks.length ≤ 8) {w h : Int} {n : Nat} {g : List S48} {z : List S49} (ht : Sized T ks w h n g z) : tot (fArea ks) g z = w * h := by
 induction ht with
 | leaf w h n e => simp [tot, fArea]
 | piece w h n i hi e =>
  have e8 : IntKind.i8.wrap (i : Int) = (i : Int) := w8 (by omega) (by omega)
  simp only [isB, decide_eq_true_eq] at e
  simp [tot, fArea, e8, rdK ks i hi, e.1, e.2.1]
 | across w h a n s1 s2 z1 z2 h1 h2 hp t1 t2 i1 i2 =>
  simp only [tot, tot_app _ _ _ _ _ t1.len.1.symm, i1, i2]
  have m : a * h + (w - a) * h = w * h := by rw [← Int.add_mul]; congr 1; omega
  simp [fArea, m]
 | down w h a n s1 s2 z1 z2 h1 h2 hp t1 t2 i1 i2 =>
  simp only [tot, tot_app _ _ _ _ _ t1.len.1.symm, i1, i2]
  have m : w * a + w * (h - a) = w * h := by rw [← Int.mul_add]; congr 1; omega
  simp [fArea, m]
theorem values {T : List Int} {ks : List S46} (hk : ks.length ≤ 8) {a0 a1 : Int} (hg : GoodT ks T a0 a1) (hs : Small ks) (b0 : a0 ≤ 24) (b1 : a1 ≤ 24) {w h : Int} {n : Nat} {g : List S48} {z : List S49} (ht : Sized T ks w h n g z) :
  (1 ≤ w ∧ w ≤ a0) → (1 ≤ h ∧ h ≤ a1) → tot (fValue ks) g z = rd T (w * 25 + h) := by
 have B : ∀ w h : Int, (1 ≤ w ∧ w ≤ a0) → (1 ≤ h ∧ h ≤ a1) → 0 ≤ rd T (w * 25 + h) ∧ rd T (w * 25 + h) ≤ 32767 * 576 := fun w h hw hh => by
  have := hg.bound hs b0 b1 (w + h).toNat w h (by omega) hw hh
  have h2 : w * h ≤ 24 * 24 := Int.mul_le_mul (by omega) (by omega) (by omega) (by omega)
  omega
 induction ht with
 | leaf w h n e => intro _ _; simp [tot, fValue, e]
 | piece w h n i hi e =>
  intro _ _
  have e8 : IntKind.i8.wrap (i : Int) = (i : Int) := w8 (by omega) (by omega)
  simp only [isB, decide_eq_true_eq] at e
  simp [tot, fValue, e8, rdK ks i hi, e.2.2]
 | across w h a n s1 s2 z1 z2 h1 h2 hp t1 t2 i1 i2 =>
  intro hw hh
  simp only [tot, tot_app _ _ _ _ _ t1.len.1.symm, i1 (by omega) hh, i2 (by omega) hh]
  have x1 := B a h (by omega) hh
  have x2 := B (w - a) h (by omega) hh
  unfold TreeKit.across at hp
  rw [w64 (by omega) (by omega)] at hp
  simp [fValue, hp]
 | down w h a n s1 s2 z1 z2 h1 h2 hp t1 t2 i1 i2 =>
  intro hw hh
  simp only [tot, tot_app _ _ _ _ _ t1.len.1.symm, i1 hw (by omega), i2 hw (by omega)]
  have x1 := B w a hw (by omega)
  have x2 := B w (h - a) hw (by omega)
  unfold TreeKit.down at hp
  rw [w64 (by omega) (by omega)] at hp
  simp [fValue, hp]
end Go.Proofs.Ytnkihjabmbeicaa.SumKit
namespace Go.Proofs.Ytnkihjabmbeicaa.WholeKit
set_option linter.unusedSimpArgs false
set_option linter.unusedVariables false
open Go.RowKit Go.Proofs.Ytnkihjabmbeicaa.PA Go.Proofs.Ytnkihjabmbeicaa.Base Go.Proofs.Ytnkihjabmbeicaa.KindsKit Go.Proofs.Ytnkihjabmbeicaa.CutsKit Go.Proofs.Ytnkihjabmbeicaa.TableKit Go.Proofs.Ytnkihjabmbeicaa.TreeKit Go.Proofs.Ytnkihjabmbeicaa.SizeKit Go.Proofs.YtnkihjabmbeicaaW.PrintWords Go.Proofs.YtnkihjabmbeicaaW.PrintLast Go.Proofs.YtnkihjabmbeicaaW.PrintMore
theorem b8 (x : Int) : B8 (IntKind.i8.wrap x) := by rw [w8_def]; unfold B8; omega
theorem okTree {T : List Int} {ks : List S46} {w h : Int} {n : Nat} {g : List S48} {z : List S49} (ht : Sized T ks w h n g z) : ∀ c ∈ g, okC c := by
 have z0 : B8 0 := by unfold B8; omega
 have z1 : B8 1 := by unfold B8; omega
 have z2 : B8 2 := by unfold B8; omega
 have z3 : B8 3 := by unfold B8; omega
 induction ht with
 | leaf w h n e => intro c hc; rw [List.mem_singleton] at hc; subst hc; exact ⟨z0, z0, z0, z0⟩
 | piece w h n i hi e => intro c hc; rw [List.mem_singleton] at hc; subst hc; exact ⟨z1, z0, b8 _, z0⟩
 | across w h a n s1 s2 q1 q2 h1 h2 hp t1 t2 i1 i2 =>
  intro c hc
  rw [List.mem_cons, List.mem_append] at hc
  rcases hc with rfl | hc | hc
  ·
   exact ⟨z2, b8 _, b8 _, b8 _⟩
  ·
   exact i1 c hc
  ·
   exact i2 c hc
 | down w h a n s1 s2 q1 q2 h1 h2 hp t1 t2 i1 i2 =>
  intro c hc
  rw [List.mem_cons, List.mem_append] at hc
  rcases hc with rfl | hc | hc
  ·
   exact ⟨z3, b8 _, b8 _, b8 _⟩
  ·
   exact i1 c hc
  ·
   exact i2 c hc
theorem one {α : Type} {g : Nat → Option α} {r r' : α} (h : Ev g r) (h' : Ev g r') : r = r' := by
 obtain ⟨K, hK⟩ := h
 obtain ⟨K', hK'⟩ := h'
 have a := hK (K + K') (by omega)
 have b := hK' (K + K') (by omega)
 rw [a] at b; exact Option.some.inj b
theorem whole {T : List Int} {ks : List S46} (h3 : kindsB ks = true) (hks : ∀ x ∈ ks, B8 x.f0 ∧ B8 x.f1) {p q : Int} (hp : 1 ≤ p ∧ p ≤ 24) (hq : 1 ≤ q ∧ q ≤ 24) {l : List S48} {z : List S49} (hl : l.length ≤ 60) (ht : Sized T ks p q 0 l z) :
  Ev (fun k => spec_l04Sizes.f k p q ks l) (z, true) ∧ Ev (fun k => impl_sizes.f k p q ks l) (z, true) := by
 have hk : ks.length ≤ 8 := by
  unfold kindsB at h3
  rw [Bool.and_eq_true] at h3
  have := of_decide_eq_true h3.1
  omega
 have len := ht.len
 have hrl : ((l.length : Int)).toNat = l.length := Int.toNat_natCast _
 have SPEC : Ev (fun k => spec_l04Sizes.f k p q ks l) (z, true) := by
  unfold spec_l04Sizes.f
  refine Ev.nobind (specPlate _) (Ev.pos (inB_iff.2 hp) (Ev.nobind (specPlate _) (Ev.pos (inB_iff.2 hq) (Ev.bind (specKinds ks (by omega)) ?_))))
  refine Ev.pos h3 (Ev.nobind (specIn _ _ _) ?_)
  rw [inB_iff.2 (show (1 : Int) ≤ (l.length : Int) ∧ (l.length : Int) ≤ 60 by omega)]
  refine Ev.step (fun k => by rw [spec_l04Sizes.j0]) ?_
  refine Ev.neg (by decide) ?_
  refine Ev.pos (by omega) ?_
  refine Ev.pos (by omega) ?_
  refine Ev.nobind rfl ?_
  refine Ev.pos (by simp; omega) ?_
  rw [hrl]
  refine walk hk l hl (z, true) ht hp hq _ (by simp) (by omega) (fun j hj => by rw [Nat.zero_add, rdC l j hj, List.getD_eq_getElem?_getD, List.getElem?_eq_getElem hj]; rfl) (rdZself _ 0 _ (by simp; omega)) (fun j q1 q2 => by rw [show ((0 : Int).toNat) = 0 from rfl, rdZset _ 0 j _ (by omega), rdZ _ j (by simp; omega), List.getElem_replicate]; rfl) (fun s' hs' _ k2 => ?_)
  have e : s' = z := by
   refine List.ext_getElem (by omega) (fun j j1 j2 => ?_)
   have := k2 j (by omega)
   rw [Nat.zero_add, rdZ s' j j1, List.getD_eq_getElem?_getD, List.getElem?_eq_getElem j2] at this
   exact this
  subst e
  refine Ev.step (fun k => by rw [spec_l04Sizes.l0]) ?_
  exact Ev.neg (by omega) (Ev.fin rfl)
 obtain ⟨r, e1, e2, _⟩ := sizes p q ks l hks (by omega) (by omega) (okTree ht)
 have := one SPEC e1
 subst this
 exact ⟨SPEC, e2⟩
end Go.Proofs.Ytnkihjabmbeicaa.WholeKit
namespace Go.Proofs.Ytnkihjabmbeicaa.PlateSums
set_option linter.unusedSimpArgs false
set_option linter.unusedVariables false
set_option linter.unusedSectionVars false
open Go.RowKit Go.Proofs.Ytnkihjabmbeicaa.PA Go.Proofs.Ytnkihjabmbeicaa.Base Go.Proofs.Ytnkihjabmbeicaa.KindsKit Go.Proofs.Ytnkihjabmbeicaa.CutsKit Go.Proofs.Ytnkihjabmbeicaa.TableKit Go.Proofs.Ytnkihjabmbeicaa.TreeKit Go.Proofs.Ytnkihjabmbeicaa.SizeKit Go.Proofs.Ytnkihjabmbeicaa.SumKit Go.Proofs.Ytnkihjabmbeicaa.WholeKit Go.Proofs.YtnkihjabmbeicaaW.PrintWords Go.Proofs.YtnkihjabmbeicaaW.PrintLast Go.Proofs.YtnkihjabmbeicaaW.PrintMore
def F64 (x : Int) : Prop := -9223372036854775808 ≤ x ∧ x ≤ 9223372036854775807
theorem wrapF (x : Int) : F64 (wrap64 x) := by unfold F64 wrap64; omega
theorem wrapAdd (x y z : Int) : wrap64 (wrap64 (x + y) + z) = wrap64 (x + (y + z)) := by unfold wrap64; omega
/-- A sum over all entries. -/
theorem summedLoop (F : Int → Int → Int → Int → Int → Int → Option Int) (f : S48 → S49 → Int) (l : List S48) (z : List S49) (hl : l.length ≤ 60) (hz : z.length = l.length)
  (hF : ∀ (j : Nat) (h1 : j < l.length) (h2 : j < z.length), F l[j].f0 l[j].f1 l[j].f2 l[j].f3 z[j].f0 z[j].f1 = some (f l[j] z[j])) :
  ∀ (d i : Nat) (x : Int), i + d = l.length → F64 x → Ev (fun k => impl_summed.l0 F k z x l (l.length : Int) (i : Int)) (wrap64 (x + tot f (l.drop i) (z.drop i)), 0)
 | 0, i, x, h, hx => by
  refine Ev.step (fun k => by rw [impl_summed.l0]) ?_
  refine Ev.neg (by omega) (Ev.fin ?_)
  rw [List.drop_of_length_le (by omega)]
  simp only [tot, Int.add_zero, w64 hx.1 hx.2]
 | d + 1, i, x, h, hx => by
  have h0 : i < l.length := by omega
  have h1 : i < z.length := by omega
  have wi : Aside0 (wrap64 ((i : Int) + 1) = ((i + 1 : Nat) : Int)) := ⟨w64 (x := (i : Int) + 1) (by omega) (by omega)⟩
  refine Ev.step (fun k => by rw [impl_summed.l0]) ?_
  refine Ev.pos (by omega) ?_
  refine Ev.pos (by omega) ?_
  refine Ev.pos (by omega) ?_
  refine Ev.pos (by omega) ?_
  rw [wi.out, rdC l i h0, rdZ z i h1]
  refine Ev.nobind (hF i h0 h1) ?_
  refine Ev.to (summedLoop F f l z hl hz hF d (i + 1) _ (by omega) (wrapF _)) ?_
  rw [drop_at l i h0, drop_at z i h1]
  simp only [tot, wrapAdd]
def pieceIn (ks : List S46) (c : S48) : Prop := c.f0 = 1 → 0 ≤ c.f2 ∧ c.f2 < (ks.length : Int)
theorem piecesIn {T : List Int} {ks : List S46} (hk : ks.length ≤ 8) {w h : Int} {n : Nat} {g : List S48} {z : List S49} (ht : Sized T ks w h n g z) : ∀ c ∈ g, pieceIn ks c := by
 induction ht with
 | leaf w h n e => intro c hc; rw [List.mem_singleton] at hc; subst hc; intro e; cases e
 | piece w h n i hi e =>
  intro c hc; rw [List.mem_singleton] at hc; subst hc; intro _
  have e8 : IntKind.i8.wrap (i : Int) = (i : Int) := w8 (by omega) (by omega)
  show 0 ≤ IntKind.i8.wrap (i : Int) ∧ IntKind.i8.wrap (i : Int) < (ks.length : Int)
  omega
 | across w h a n s1 s2 q1 q2 h1 h2 hp t1 t2 i1 i2 =>
  intro c hc
  rw [List.mem_cons, List.mem_append] at hc
  rcases hc with rfl | hc | hc
  ·
   intro e; cases e
  ·
   exact i1 c hc
  ·
   exact i2 c hc
 | down w h a n s1 s2 q1 q2 h1 h2 hp t1 t2 i1 i2 =>
  intro c hc
  rw [List.mem_cons, List.mem_append] at hc
  rcases hc with rfl | hc | hc
  ·
   intro e; cases e
  ·
   exact i1 c hc
  ·
   exact i2 c hc
def fWaste (c : S48) (z : S49) : Int := if c.f0 = 0 then wrap64 (z.f0 * z.f1) else 0
def fCut (c : S48) (z : S49) : Int := if c.f0 = 2 then z.f1 else if c.f0 = 3 then z.f0 else 0
section
variable {T : List Int} {ks : List S46} (h3 : kindsB ks = true) (hks : ∀ x ∈ ks, B8 x.f0 ∧ B8 x.f1) {p q : Int} (hp : 1 ≤ p ∧ p ≤ 24) (hq : 1 ≤ q ∧ q ≤ 24) {l : List S48} {z : List S49} (hl : l.length ≤ 60) (ht : Sized T ks p q 0 l z)
include h3 hks hp hq hl ht
theorem few8 : ks.length ≤ 8 := by
 unfold kindsB at h3
 rw [Bool.and_eq_true] at h3
 have := of_decide_eq_true h3.1
 omega
theorem summedIs (F : Int → Int → Int → Int → Int → Int → Option Int) (f : S48 → S49 → Int)
  (hF : ∀ (j : Nat) (h1 : j < l.length) (h2 : j < z.length), F l[j].f0 l[j].f1 l[j].f2 l[j].f3 z[j].f0 z[j].f1 = some (f l[j] z[j])) : Ev (fun k => impl_summed.f F k p q ks l) (wrap64 (tot f l z), 0) := by
 obtain ⟨_, e⟩ := whole h3 hks hp hq hl ht
 unfold impl_summed.f
 refine Ev.bind e ?_
 refine Ev.pos rfl ?_
 exact Ev.to (summedLoop F f l z hl ht.len.1 hF l.length 0 0 (by omega) (by unfold F64; omega)) (by rw [List.drop_zero, List.drop_zero, Int.zero_add])
theorem valueIs : Ev (fun k => impl_ValueOf.f k p q ks l) (wrap64 (tot (fValue ks) l z), 0) := by
 have hk := few8 h3 hks hp hq hl ht
 unfold impl_ValueOf.f
 refine Ev.bind (summedIs h3 hks hp hq hl ht _ (fValue ks) (fun j h1 h2 => ?_)) (Ev.fin rfl)
 have hi := piecesIn hk ht l[j] (List.getElem_mem h1)
 unfold impl_ValueOf_1.f fValue
 by_cases e : l[j].f0 = 1
 ·
  obtain ⟨a, b⟩ := hi e
  rw [if_pos e, if_pos a, if_pos b, if_pos e]
 ·
  rw [if_neg e, if_neg e]
theorem wasteIs : Ev (fun k => impl_WasteIn.f k p q ks l) (wrap64 (tot fWaste l z), 0) := by
 unfold impl_WasteIn.f
 refine (fun W : Ev (fun k => impl_WasteIn_1_sum.f k p q ks l) (wrap64 (tot fWaste l z), 0) => Ev.bind W (Ev.fin rfl)) ?_
 unfold impl_WasteIn_1_sum.f
 refine summedIs h3 hks hp hq hl ht _ fWaste (fun j h1 h2 => ?_)
 unfold impl_WasteIn_1.f fWaste
 split <;> rfl
theorem cutIs : Ev (fun k => impl_CutLength.f k p q ks l) (wrap64 (tot fCut l z), 0) := by
 unfold impl_CutLength.f
 refine (fun W : Ev (fun k => impl_CutLength_1_sum.f k p q ks l) (wrap64 (tot fCut l z), 0) => Ev.bind W (Ev.fin rfl)) ?_
 unfold impl_CutLength_1_sum.f
 refine summedIs h3 hks hp hq hl ht _ fCut (fun j h1 h2 => ?_)
 unfold impl_CutLength_1.f fCut
 split
 ·
  rfl
 ·
  split <;> rfl
theorem sizesIs : Ev (fun k => impl_SizesOf.f k p q ks l) (z, 0) ∧ Ev (fun k => spec_SizesOf.f k p q ks l) (z, 0) ∧ Ev (fun k => impl_ValidCuts.f k p q ks l) true := by
 obtain ⟨e1, e2⟩ := whole h3 hks hp hq hl ht
 refine ⟨?_, ?_, ?_⟩
 ·
  unfold impl_SizesOf.f
  exact Ev.bind e2 (Ev.pos rfl (Ev.fin rfl))
 ·
  unfold spec_SizesOf.f
  exact Ev.bind e1 (Ev.pos rfl (Ev.fin rfl))
 ·
  unfold impl_ValidCuts.f
  exact Ev.bind e2 (Ev.fin rfl)
end
end Go.Proofs.Ytnkihjabmbeicaa.PlateSums
namespace Go.Proofs.Ytnkihjabmbeicaa.PlateDraw
set_option linter.unusedSimpArgs false
set_option linter.unusedVariables false
open Go.RowKit Go.Proofs.Ytnkihjabmbeicaa.PA Go.Proofs.Ytnkihjabmbeicaa.Base Go.Proofs.Ytnkihjabmbeicaa.KindsKit Go.Proofs.Ytnkihjabmbeicaa.CutsKit Go.Proofs.Ytnkihjabmbeicaa.TableKit Go.Proofs.YtnkihjabmbeicaaW.PrintWords Go.Proofs.YtnkihjabmbeicaaW.PrintLast Go.Proofs.YtnkihjabmbeicaaW.PrintMore
theorem bits255 (x : Int) : 0 ≤ Go.bits .and .u64 x 255 ∧ Go.bits .and .u64 x 255 ≤ 255 := by
 have h : ((BitVec.ofInt (IntKind.u64.bits) x) &&& (BitVec.ofInt (IntKind.u64.bits) 255)).toNat ≤ 255 := by
  rw [BitVec.toNat_and]
  exact Nat.le_trans Nat.and_le_right (by decide)
 unfold Go.bits
 simp only []
 rw [IntKind.wrap_u64]
 omega
def U8 (l : List Int) : Prop := ∀ x ∈ l, 0 ≤ x ∧ x ≤ 255
theorem rd_u8 {l : List Int} (h : U8 l) (i : Int) : 0 ≤ rd l i ∧ rd l i ≤ 255 := by
 unfold rd
 rw [List.getD_eq_getElem?_getD]
 cases e : l[i.toNat]? with
 | none => simp
 | some x => exact h x (List.mem_of_getElem? e)
theorem next_ok {l : List Int} (h : U8 l) {p : Int} (t : Int) (h0 : 0 ≤ p) (h1 : p ≤ 4611686018427387904) : ∃ v t', spec_l00Src_next.f l p t = some (v, p + 1, t') ∧ 0 ≤ v ∧ v ≤ 255 := by
 have hw := w64 (x := p + 1) (by omega) (by omega)
 unfold spec_l00Src_next.f
 rw [hw]
 have hr := rd_u8 h p
 have hwr := w64 (x := rd l p) (by omega) (by omega)
 by_cases c : p < (l.length : Int)
 ·
  rw [if_pos c, if_pos h0, if_pos (by omega)]
  exact ⟨_, _, rfl, by rw [hwr]; omega, by rw [hwr]; omega⟩
 ·
  rw [if_neg c]
  by_cases d : p + 1 ≤ (l.length : Int)
  ·
   rw [if_pos d]; exact ⟨_, _, rfl, by omega, by omega⟩
  ·
   rw [if_neg d]
   have hb := bits255 ((IntKind.u64.wrap ((IntKind.u64.wrap (IntKind.u64.wrap (t * 6364136223846793005))) + 1442695040888963407)) / 1099511627776)
   refine ⟨_, _, rfl, ?_, ?_⟩
   ·
    rw [w64 (by omega) (by omega)]; omega
   ·
    rw [w64 (by omega) (by omega)]; omega
theorem pick_ok {l : List Int} (h : U8 l) {p : Int} (t : Int) (h0 : 0 ≤ p) (h1 : p ≤ 4611686018427387904) {n : Int} (hn : 1 ≤ n) (hn2 : n ≤ 200) : ∃ v p' t', spec_l00Src_pick.f l p t n = some (v, p', t') ∧ 0 ≤ v ∧ v < n ∧ p ≤ p' ∧ p' ≤ p + 1 := by
 unfold spec_l00Src_pick.f
 by_cases c : n ≤ 1
 ·
  rw [if_pos c]; exact ⟨_, _, _, rfl, by omega, by omega, by omega, by omega⟩
 ·
  rw [if_neg c]
  obtain ⟨v, t', e, e1, e2⟩ := next_ok h t h0 h1
  rw [e, Option.bind_some, if_neg (by show ¬ n > 200; omega), if_neg (by omega : ¬ n = 0)]
  refine ⟨_, _, _, rfl, ?_, ?_, by show p ≤ p + 1; omega, by show p + 1 ≤ p + 1; omega⟩
  ·
   exact Int.tmod_nonneg _ e1
  ·
   exact Int.tmod_lt_of_pos _ (by omega)
structure Drawn (ks : List S46) : Prop where
 len : ks.length ≤ 3
 is : ∀ x ∈ ks, (1 ≤ x.f0 ∧ x.f0 ≤ 5) ∧ (1 ≤ x.f1 ∧ x.f1 ≤ 5) ∧ (0 ≤ x.f2 ∧ x.f2 ≤ 29)
theorem Drawn.ok {ks : List S46} (h : Drawn ks) : kindsB ks = true := by
 have hl := h.len
 unfold kindsB
 rw [Bool.and_eq_true, List.all_eq_true]
 refine ⟨by rw [decide_eq_true_eq]; omega, fun x hx => ?_⟩
 obtain ⟨a, b, c⟩ := h.is x hx
 unfold kindB
 rw [w64 (by omega) (by omega), w64 (by omega) (by omega), w64 (by omega) (by omega), Bool.and_eq_true, Bool.and_eq_true, inB_iff, inB_iff, inB_iff]
 omega
theorem Drawn.b8 {ks : List S46} (h : Drawn ks) : ∀ x ∈ ks, B8 x.f0 ∧ B8 x.f1 := fun x hx => by
 obtain ⟨a, b, _⟩ := h.is x hx
 unfold B8; omega
theorem Drawn.small {ks : List S46} (h : Drawn ks) : Small ks := fun i hi => by
 obtain ⟨_, _, c⟩ := h.is ks[i] (List.getElem_mem hi)
 rw [rdK ks i hi, w64 (by omega) (by omega)]
 omega
theorem kinds_loop {l : List Int} (h : U8 l) : ∀ (d : Nat) (acc : List S46) (p t : Int), acc.length + d ≤ 3 → (∀ x ∈ acc, (1 ≤ x.f0 ∧ x.f0 ≤ 5) ∧ (1 ≤ x.f1 ∧ x.f1 ≤ 5) ∧ (0 ≤ x.f2 ∧ x.f2 ≤ 29)) → 0 ≤ p → p ≤ 100 - 3 * (d : Int) →
  ∃ ks, Ev (fun k => spec_P6Kinds.l0 k acc (d : Int) l p t) ks ∧ Drawn ks
 | 0, acc, p, t, hl, ha, h0, h1 => by
  refine ⟨acc, Ev.step (fun k => by rw [spec_P6Kinds.l0]) (Ev.neg (by omega) (Ev.fin rfl)), ⟨by omega, ha⟩⟩
 | d + 1, acc, p, t, hl, ha, h0, h1 => by
  obtain ⟨u, p1, t1, e1, u0, u1, q0, q1⟩ := pick_ok h t h0 (by omega) (n := 5) (by omega) (by omega)
  obtain ⟨v, p2, t2, e2, v0, v1, q2, q3⟩ := pick_ok h t1 (by omega : 0 ≤ p1) (by omega) (n := 5) (by omega) (by omega)
  obtain ⟨x, p3, t3, e3, x0, x1, q4, q5⟩ := pick_ok h t2 (by omega : 0 ≤ p2) (by omega) (n := 30) (by omega) (by omega)
  have wd : Aside0 (wrap64 (((d + 1 : Nat) : Int) - 1) = (d : Int)) := ⟨by rw [w64 (by omega) (by omega)]; omega⟩
  have wu : IntKind.i8.wrap (wrap64 (1 + u)) = 1 + u := by rw [w64 (by omega) (by omega), w8 (by omega) (by omega)]
  have wv : IntKind.i8.wrap (wrap64 (1 + v)) = 1 + v := by rw [w64 (by omega) (by omega), w8 (by omega) (by omega)]
  have wx : IntKind.i16.wrap x = x := w16 (by omega) (by omega)
  obtain ⟨ks, e, hk⟩ := kinds_loop h d (acc ++ [⟨1 + u, 1 + v, x⟩]) p3 t3 (by rw [List.length_append, List.length_singleton]; omega) (fun y hy => by
   rcases List.mem_append.1 hy with hy | hy
   ·
    exact ha y hy
   ·
    rw [List.mem_singleton] at hy; subst hy
    exact ⟨⟨by show 1 ≤ 1 + u; omega, by show 1 + u ≤ 5; omega⟩, ⟨by show 1 ≤ 1 + v; omega, by show 1 + v ≤ 5; omega⟩, ⟨x0, by show x ≤ 29; omega⟩⟩) (by omega) (by omega)
  refine ⟨ks, Ev.step (fun k => by rw [spec_P6Kinds.l0]) ?_, hk⟩
  refine Ev.pos (by omega) (Ev.nobind e1 (Ev.nobind e2 (Ev.nobind e3 (Ev.pos (by omega) ?_))))
  rw [wd.out, wu, wv, wx]
  exact e
theorem p6Kinds {l : List Int} (h : U8 l) : ∃ ks, Ev (fun k => spec_P6Kinds.f k l) ks ∧ Drawn ks := by
 obtain ⟨v, p1, t1, e1, v0, v1, q0, q1⟩ := pick_ok h (p := 0) 0 (by omega) (by omega) (n := 4) (by omega) (by omega)
 obtain ⟨ks, e, hk⟩ := kinds_loop h v.toNat [] p1 t1 (by simp; omega) (fun x hx => by cases hx) (by omega) (by omega)
 refine ⟨ks, ?_, hk⟩
 unfold spec_P6Kinds.f
 rw [Int.toNat_of_nonneg v0] at e
 exact Ev.nobind rfl (Ev.nobind e1 e)
theorem p6Pick {l : List Int} (h : U8 l) {n : Int} (h1 : 1 ≤ n) (h2 : n ≤ 100) : ∃ i : Int, (0 ≤ i ∧ i < n) ∧ spec_P6Pick.f l n = some i := by
 obtain ⟨v, p1, t1, e1, v0, v1, _, _⟩ := pick_ok h (p := 0) 0 (by omega) (by omega) (n := n) (by omega) (by omega)
 refine ⟨v, ⟨v0, v1⟩, ?_⟩
 unfold spec_P6Pick.f
 have e0 : spec_l00From.f l = some (l, 0, 0) := rfl
 rw [e0, Option.bind_some]
 show (spec_l00Src_pick.f l 0 0 n).bind _ = _
 rw [e1, Option.bind_some]
end Go.Proofs.Ytnkihjabmbeicaa.PlateDraw
namespace Go.Proofs.Ytnkihjabmbeicaa.PlateRest
set_option linter.unusedSimpArgs false
set_option linter.unusedVariables false
set_option linter.unusedSectionVars false
open Go.RowKit Go.Proofs.Ytnkihjabmbeicaa.PA Go.Proofs.Ytnkihjabmbeicaa.Base Go.Proofs.Ytnkihjabmbeicaa.KindsKit Go.Proofs.Ytnkihjabmbeicaa.CutsKit Go.Proofs.Ytnkihjabmbeicaa.TableKit Go.Proofs.Ytnkihjabmbeicaa.TreeKit Go.Proofs.Ytnkihjabmbeicaa.SizeKit Go.Proofs.Ytnkihjabmbeicaa.SumKit Go.Proofs.Ytnkihjabmbeicaa.WholeKit Go.Proofs.Ytnkihjabmbeicaa.PlateSums Go.Proofs.YtnkihjabmbeicaaW.PrintWords Go.Proofs.YtnkihjabmbeicaaW.PrintLast Go.Proofs.YtnkihjabmbeicaaW.PrintMore
theorem wrapMod (x q : Int) : wrap64 (x + q * 18446744073709551616) = wrap64 x := by unfold wrap64; omega
theorem wrapEx (x : Int) : ∃ q : Int, wrap64 x = x + q * 18446744073709551616 := by
 refine ⟨-((x + 9223372036854775808) / 18446744073709551616), ?_⟩
 unfold wrap64; omega
theorem wrapAddL (x y : Int) : wrap64 (wrap64 x + y) = wrap64 (x + y) := by unfold wrap64; omega
def areaK (k : S46) : Int := wrap64 k.f0 * wrap64 k.f1
/-- The areas of so many of each kind. -/
def dot : List Int → List S46 → Int
 | [], _ => 0
 | _, [] => 0
 | x :: xs, k :: ks => x * areaK k + dot xs ks
theorem dot_set : ∀ (xs : List Int) (ks : List S46) (a : Nat) (h : a < xs.length) (h2 : a < ks.length), ∃ q : Int, dot (xs.set a (wrap64 (xs[a] + 1))) ks = dot xs ks + areaK ks[a] + q * 18446744073709551616
 | x :: xs, k :: ks, 0, h, h2 => by
  obtain ⟨q, hq⟩ := wrapEx (x + 1)
  refine ⟨q * areaK k, ?_⟩
  simp only [List.set_cons_zero, List.getElem_cons_zero, dot, hq]
  generalize areaK k = v
  generalize dot xs ks = d
  grind
 | x :: xs, k :: ks, a + 1, h, h2 => by
  obtain ⟨q, hq⟩ := dot_set xs ks a (by simpa using h) (by simpa using h2)
  refine ⟨q, ?_⟩
  simp only [List.set_cons_succ, List.getElem_cons_succ, dot, hq]
  omega
 | [], _, _, h, _ => by simp at h
 | _ :: _, [], _, _, h => by simp at h
theorem dot_zero : ∀ (n : Nat) (ks : List S46), dot (List.replicate n 0) ks = 0
 | 0, _ => by simp [dot]
 | n + 1, [] => by simp [List.replicate_succ, dot]
 | n + 1, k :: ks => by simp [List.replicate_succ, dot, dot_zero n ks]
def fPiece (ks : List S46) (c : S48) (_ : S49) : Int := if c.f0 = 1 then areaK (rd_T46 ks c.f2) else 0
theorem tot_mod (f g h : S48 → S49 → Int) (hf : ∀ c z, wrap64 (f c z + g c z) = wrap64 (h c z)) : ∀ (l : List S48) (z : List S49), wrap64 (tot f l z + tot g l z) = wrap64 (tot h l z)
 | [], _ => by simp [tot]
 | _ :: _, [] => by simp [tot]
 | c :: l, z :: zs => by
  have a := hf c z
  have b := tot_mod f g h hf l zs
  simp only [tot]
  generalize f c z = a1 at *
  generalize g c z = a2 at *
  generalize h c z = a3 at *
  generalize tot f l zs = b1 at *
  generalize tot g l zs = b2 at *
  generalize tot h l zs = b3 at *
  unfold wrap64 at *
  omega
theorem both (ks : List S46) (l : List S48) (z : List S49) : wrap64 (tot fWaste l z + tot (fPiece ks) l z) = wrap64 (tot (fArea ks) l z) := by
 refine tot_mod _ _ _ (fun c z => ?_) l z
 unfold fWaste fPiece fArea areaK
 by_cases e : c.f0 = 0
 ·
  rw [if_pos e, if_pos e, if_neg (by omega), Int.add_zero]
  generalize z.f0 * z.f1 = x
  unfold wrap64; omega
 ·
  rw [if_neg e, if_neg e, Int.zero_add]
theorem pieces (ks : List S46) (l : List S48) (hl : l.length ≤ 60) (z : List S49) (hz : z.length = l.length) (hp : ∀ c ∈ l, pieceIn ks c) : ∀ (d i : Nat) (x : List Int), i + d = l.length → x.length = ks.length →
  ∃ R : List Int, Ev (fun k => impl_PiecesOf.l0 k x l (l.length : Int) (i : Int)) (R, 0) ∧ R.length = ks.length ∧ wrap64 (dot R ks) = wrap64 (dot x ks + tot (fPiece ks) (l.drop i) (z.drop i))
 | 0, i, x, h, hx => by
  refine ⟨x, Ev.step (fun k => by rw [impl_PiecesOf.l0]) (Ev.neg (by omega) (Ev.fin rfl)), hx, ?_⟩
  rw [List.drop_of_length_le (by omega)]
  simp only [tot, Int.add_zero]
 | d + 1, i, x, h, hx => by
  have hi : i < l.length := by omega
  have hiz : i < z.length := by omega
  have hC := rdC l i hi
  have wi : Aside0 (wrap64 ((i : Int) + 1) = ((i + 1 : Nat) : Int)) := ⟨w64 (x := (i : Int) + 1) (by omega) (by omega)⟩
  rw [drop_at l i hi, drop_at z i hiz]
  simp only [tot]
  by_cases q : l[i].f0 = 1
  ·
   obtain ⟨p0, p1⟩ := hp l[i] (List.getElem_mem hi) q
   have hn : l[i].f2 = ((l[i].f2.toNat : Nat) : Int) := (Int.toNat_of_nonneg p0).symm
   generalize hN : l[i].f2.toNat = n at hn
   have hn1 : n < ks.length := by omega
   have hn2 : n < x.length := by omega
   have hk : rd_T46 ks l[i].f2 = ks[n] := by rw [hn]; exact rdK ks n hn1
   have hxn : rd x l[i].f2 = x[n] := by rw [hn]; exact rd_nat x n hn2
   obtain ⟨Q, hQ⟩ := dot_set x ks n hn2 hn1
   obtain ⟨R, e1, e2, e3⟩ := pieces ks l hl z hz hp d (i + 1) (x.set n (wrap64 (x[n] + 1))) (by omega) (by simpa using hx)
   refine ⟨R, ?_, e2, ?_⟩
   ·
    refine Ev.step (fun k => by rw [impl_PiecesOf.l0]) ?_
    refine Ev.pos (by omega) (Ev.pos (by omega) (Ev.pos (by omega) ?_))
    rw [hC, wi.out]
    refine Ev.pos q (Ev.pos p0 (Ev.pos (by omega) ?_))
    rw [hxn, hN]
    exact e1
   ·
    rw [e3, hQ, show fPiece ks l[i] z[i] = areaK ks[n] by unfold fPiece; rw [if_pos q, hk]]
    generalize dot x ks = a
    generalize areaK ks[n] = b
    generalize tot (fPiece ks) (l.drop (i + 1)) (z.drop (i + 1)) = c
    rw [show a + b + Q * 18446744073709551616 + c = a + (b + c) + Q * 18446744073709551616 by omega, wrapMod]
  ·
   obtain ⟨R, e1, e2, e3⟩ := pieces ks l hl z hz hp d (i + 1) x (by omega) hx
   refine ⟨R, ?_, e2, ?_⟩
   ·
    refine Ev.step (fun k => by rw [impl_PiecesOf.l0]) ?_
    refine Ev.pos (by omega) (Ev.pos (by omega) (Ev.pos (by omega) ?_))
    rw [hC, wi.out]
    exact Ev.neg q e1
   ·
    rw [e3, show fPiece ks l[i] z[i] = 0 by unfold fPiece; rw [if_neg q], Int.zero_add]
theorem sameC (l : List S48) (hl : l.length ≤ 60) : Ev (fun k => spec_SameCuts.f k l l) true := by
 have key : ∀ (d i : Nat), i + d = l.length → Ev (fun k => spec_SameCuts.l0 k l l (i : Int)) true := by
  intro d
  induction d with
  | zero =>
   intro i h
   refine Ev.step (fun k => by rw [spec_SameCuts.l0]) ?_
   exact Ev.neg (by omega) (Ev.fin rfl)
  | succ d ih =>
   intro i h
   refine Ev.step (fun k => by rw [spec_SameCuts.l0]) (Ev.pos (by omega) (Ev.pos (by omega) (Ev.pos (by omega) (Ev.neg (by simp) ?_))))
   rw [w64 (x := (i : Int) + 1) (by omega) (by omega)]
   exact ih (i + 1) (by omega)
 unfold spec_SameCuts.f
 exact Ev.pos rfl (key l.length 0 (by omega))
theorem sameZ (l : List S49) (hl : l.length ≤ 60) : Ev (fun k => spec_SamePairs.f k l l) true := by
 have key : ∀ (d i : Nat), i + d = l.length → Ev (fun k => spec_SamePairs.l0 k l l (i : Int)) true := by
  intro d
  induction d with
  | zero =>
   intro i h
   refine Ev.step (fun k => by rw [spec_SamePairs.l0]) ?_
   exact Ev.neg (by omega) (Ev.fin rfl)
  | succ d ih =>
   intro i h
   refine Ev.step (fun k => by rw [spec_SamePairs.l0]) (Ev.pos (by omega) (Ev.pos (by omega) (Ev.pos (by omega) (Ev.neg (by simp) ?_))))
   rw [w64 (x := (i : Int) + 1) (by omega) (by omega)]
   exact ih (i + 1) (by omega)
 unfold spec_SamePairs.f
 exact Ev.pos rfl (key l.length 0 (by omega))
section
variable {T : List Int} {ks : List S46} (h3 : kindsB ks = true) (hks : ∀ x ∈ ks, B8 x.f0 ∧ B8 x.f1) {p q : Int} (hp : 1 ≤ p ∧ p ≤ 24) (hq : 1 ≤ q ∧ q ≤ 24) {l : List S48} {z : List S49} (hl : l.length ≤ 60) (ht : Sized T ks p q 0 l z)
include h3 hks hp hq hl ht
theorem piecesIs : ∃ R, Ev (fun k => impl_PiecesOf.f k p q ks l) (R, 0) ∧ R.length = ks.length ∧ wrap64 (tot fWaste l z + dot R ks) = p * q := by
 have hk := few8 h3 hks hp hq hl ht
 obtain ⟨_, _, ev⟩ := sizesIs h3 hks hp hq hl ht
 obtain ⟨R, e1, e2, e3⟩ := pieces ks l hl z ht.len.1 (piecesIn hk ht) l.length 0 (List.replicate ks.length 0) (by omega) (by simp)
 refine ⟨R, ?_, e2, ?_⟩
 ·
  unfold impl_PiecesOf.f
  refine Ev.bind ev (Ev.pos rfl (Ev.pos (by omega) (Ev.pos (by omega) ?_)))
  rw [Int.toNat_natCast]
  exact e1
 ·
  rw [dot_zero, List.drop_zero, List.drop_zero, Int.zero_add] at e3
  have b := both ks l z
  rw [areas hk ht] at b
  have m : p * q ≤ 24 * 24 := Int.mul_le_mul (by omega) (by omega) (by omega) (by omega)
  have m0 : 0 ≤ p * q := Int.mul_nonneg (by omega) (by omega)
  generalize tot fWaste l z = a at *
  generalize tot (fPiece ks) l z = c at *
  generalize dot R ks = d at *
  generalize p * q = e at *
  rw [w64 (x := e) (by omega) (by omega)] at b
  rw [← b]
  unfold wrap64 at *
  omega
end
end Go.Proofs.Ytnkihjabmbeicaa.PlateRest
namespace Go.Proofs.Ytnkihjabmbeicaa.Pure
set_option linter.unusedSimpArgs false
set_option linter.unusedVariables false
set_option linter.unusedSectionVars false
open Go.RowKit Go.Proofs.Ytnkihjabmbeicaa.PA Go.Proofs.Ytnkihjabmbeicaa.Base Go.Proofs.Ytnkihjabmbeicaa.KindsKit Go.Proofs.Ytnkihjabmbeicaa.CutsKit Go.Proofs.Ytnkihjabmbeicaa.TableKit Go.Proofs.Ytnkihjabmbeicaa.TreeKit Go.Proofs.Ytnkihjabmbeicaa.SizeKit Go.Proofs.Ytnkihjabmbeicaa.SumKit Go.Proofs.Ytnkihjabmbeicaa.WholeKit Go.Proofs.Ytnkihjabmbeicaa.PlateSums Go.Proofs.Ytnkihjabmbeicaa.PlateDraw Go.Proofs.Ytnkihjabmbeicaa.PlateRest Go.Proofs.YtnkihjabmbeicaaW.PrintWords Go.Proofs.YtnkihjabmbeicaaW.PrintLast Go.Proofs.YtnkihjabmbeicaaW.PrintMore
theorem wfu8 {x : Int} (h : (Lit.int .u8 x).wf = true) : 0 ≤ x ∧ x ≤ 255 := by
 simp [Lit.wf, IntKind.min, IntKind.max, IntKind.signed, IntKind.bits] at h; omega
theorem asked (p q : Int) (ks : List S46) (hl : ks.length ≤ 1048576) : Ev (fun k => spec_l04Asked.f k p q ks) (if kindsB ks = true then (if (inB p 1 24 && inB q 1 24) = true then 0 else 2) else 1) := by
 unfold spec_l04Asked.f
 refine Ev.bind (specKinds ks hl) ?_
 refine Ev.ite (fun h => ?_) (fun h => Ev.fin (by rw [if_neg h]))
 rw [if_pos h]
 refine Ev.nobind (specPlate p) ?_
 refine Ev.ite (fun h1 => ?_) (fun h1 => Ev.fin (by simp [h1]))
 refine Ev.nobind (specPlate q) ?_
 refine Ev.ite (fun h2 => Ev.fin (by simp [h1, h2])) (fun h2 => Ev.fin (by simp [h2]))
theorem implPlate (p q : Int) : impl_isPlate.f p q = some (inB p 1 24 && inB q 1 24) := by
 unfold impl_isPlate.f
 rw [implIn, implIn, Option.bind_some]
 cases inB p 1 24 <;> rfl
theorem implCode (a b : Bool) : impl_codeOf.f a b = some (if a = true then (if b = true then 0 else 2) else 1) := by
 unfold impl_codeOf.f
 cases a <;> cases b <;> rfl
section
variable {ks : List S46} (hd : Drawn ks) {p q : Int} (hp : 1 ≤ p ∧ p ≤ 24) (hq : 1 ≤ q ∧ q ≤ 24)
include hd hp hq
theorem ask0 : Ev (fun k => spec_l04Asked.f k p q ks) 0 := by
 have hl := hd.len
 refine Ev.to (asked p q ks (by omega)) ?_
 rw [if_pos hd.ok, if_pos]
 rw [Bool.and_eq_true, inB_iff, inB_iff]
 omega
theorem code0 {α : Type} {f : Nat → Int → Option α} {r : α} (h : Ev (fun k => f k 0) r) : Ev (fun k => (impl_ValidKinds.f ks).bind fun a => (impl_isPlate.f p q).bind fun b => (impl_codeOf.f a b).bind fun c => f k c) r := by
 refine Ev.nobind (implKinds ks) (Ev.nobind (implPlate p q) (Ev.nobind (implCode _ _) ?_))
 rw [if_pos hd.ok, if_pos (by rw [Bool.and_eq_true, inB_iff, inB_iff]; omega)]
 exact h
theorem value : ∃ T, GoodT ks T p q ∧ Ev (fun k => spec_BestValue.f k p q ks) (rd T (p * 25 + q), 0) ∧ Ev (fun k => impl_BestValue.f k p q ks) (rd T (p * 25 + q), 0) ∧
  ∃ s v e, Ev (fun k => spec_BestCuts.f k p q ks) (s, v, e) ∧ Ev (fun k => impl_BestCuts.f k p q ks) (s, v, e) ∧ s.length ≤ 60 ∧ ((e = 0 ∧ v = rd T (p * 25 + q) ∧ ∃ z, Sized T ks p q 0 s z) ∨ e = 3) := by
 have hl := hd.len
 obtain ⟨T, e1, e2, hT⟩ := tables p q ks (by omega) hp hq
 refine ⟨T, hT, ?_, ?_, ?_⟩
 ·
  unfold spec_BestValue.f
  refine Ev.bind (ask0 hd hp hq) (Ev.pos rfl (Ev.bind e1 ?_))
  exact Ev.pos (by omega) (Ev.pos (by omega) (Ev.pos (by omega) (Ev.pos (by omega) (Ev.fin rfl))))
 ·
  unfold impl_BestValue.f
  refine code0 hd hp hq (Ev.pos rfl (Ev.bind e2 ?_))
  exact Ev.pos (by omega) (Ev.pos (by omega) (Ev.pos (by omega) (Ev.pos (by omega) (Ev.fin rfl))))
 ·
  obtain ⟨s, es, gs, c⟩ := alike T ks (by omega) p q hp hq hT (p + q).toNat p q (by omega) (by omega) (by omega) [] (by simp)
  rcases c with ⟨c1, c2, seg, c3, c4⟩ | ⟨c1, t, b, _, c3⟩
  ·
   obtain ⟨z, hz⟩ := sized c4
   rw [List.nil_append] at c3
   subst c3
   refine ⟨s, rd T (p * 25 + q), 0, ?_, ?_, c1, .inl ⟨rfl, rfl, z, hz⟩⟩
   ·
    unfold spec_BestCuts.f
    refine Ev.bind (ask0 hd hp hq) (Ev.pos rfl (Ev.bind e1 (Ev.bind es (Ev.neg (by omega) ?_))))
    exact Ev.pos (by omega) (Ev.pos (by omega) (Ev.pos (by omega) (Ev.pos (by omega) (Ev.fin rfl))))
   ·
    unfold impl_BestCuts.f
    refine code0 hd hp hq (Ev.pos rfl (Ev.bind e2 (Ev.bind c2 (Ev.pos rfl ?_))))
    exact Ev.pos (by omega) (Ev.pos (by omega) (Ev.pos (by omega) (Ev.pos (by omega) (Ev.fin rfl))))
  ·
   refine ⟨[], 0, 3, ?_, ?_, by simp, .inr rfl⟩
   ·
    unfold spec_BestCuts.f
    exact Ev.bind (ask0 hd hp hq) (Ev.pos rfl (Ev.bind e1 (Ev.bind es (Ev.pos (by omega) (Ev.fin rfl)))))
   ·
    unfold impl_BestCuts.f
    exact code0 hd hp hq (Ev.pos rfl (Ev.bind e2 (Ev.bind c3 (Ev.neg (by simp) (Ev.fin rfl)))))
/-- The list of one entry that leaves all. -/
theorem plain {P : Nat → (Int × Int) → (Int × Int) → Option Bool} {r : Bool} (h : Ev (fun k => P k (0, 0) (p * q, 0)) r) :
  Ev (fun k => (impl_ValueOf.f k p q ks [⟨0, 0, 0, 0⟩]).bind fun a => (impl_WasteIn.f k p q ks [⟨0, 0, 0, 0⟩]).bind fun b => P k a b) r := by
 have m : p * q ≤ 24 * 24 := Int.mul_le_mul (by omega) (by omega) (by omega) (by omega)
 have m0 : 0 ≤ p * q := Int.mul_nonneg (by omega) (by omega)
 have hs : Sized [] ks p q 0 [⟨0, 0, 0, 0⟩] [⟨p, q⟩] := .leaf p q 0 (by simp [rd])
 have v := valueIs hd.ok hd.b8 hp hq (by simp) hs
 have w := wasteIs hd.ok hd.b8 hp hq (by simp) hs
 have e1 : wrap64 (tot (fValue ks) [⟨0, 0, 0, 0⟩] [⟨p, q⟩]) = 0 := by simp [tot, fValue, wrap64]
 have e2 : wrap64 (tot fWaste [⟨0, 0, 0, 0⟩] [⟨p, q⟩]) = p * q := by
  simp only [tot, fWaste, if_true, Int.add_zero]
  generalize p * q = x at *
  rw [w64 (x := x) (by omega) (by omega), w64 (x := x) (by omega) (by omega)]
 rw [e1] at v
 rw [e2] at w
 exact Ev.bind v (Ev.bind w h)
theorem mulW : wrap64 (p * q) = p * q := by
 have m : p * q ≤ 24 * 24 := Int.mul_le_mul (by omega) (by omega) (by omega) (by omega)
 have m0 : 0 ≤ p * q := Int.mul_nonneg (by omega) (by omega)
 generalize p * q = x at *
 exact w64 (by omega) (by omega)
theorem last_ (m : Int) : Ev (fun k => laws_FnPlateCuts.j6 k ks p q false) true := by
 refine Ev.step (fun k => by rw [laws_FnPlateCuts.j6]) (Ev.neg (by decide) (Ev.nobind rfl ?_))
 refine plain hd hp hq (Ev.pos rfl (Ev.pos rfl (Ev.pos rfl (Ev.fin ?_))))
 rw [mulW hd hp hq]; simp
theorem halves {T : List Int} (hT : GoodT ks T p q) {l1 : List Int} (h1 : U8 l1) : Ev (fun k => laws_FnPlateCuts.j5 k l1 ks p q (rd T (p * 25 + q)) false) true := by
 refine Ev.step (fun k => by rw [laws_FnPlateCuts.j5]) (Ev.neg (by decide) (Ev.ite (fun c => ?_) (fun c => ?_)))
 ·
  obtain ⟨i, hi, e⟩ := p6Pick h1 (n := p - 1) (by omega) (by omega)
  have wp : Aside0 (wrap64 (p - 1) = p - 1) := ⟨w64 (by omega) (by omega)⟩
  have wi : Aside0 (wrap64 (1 + i) = 1 + i) := ⟨w64 (by omega) (by omega)⟩
  have wr : Aside0 (wrap64 (p - (1 + i)) = p - (1 + i)) := ⟨w64 (by omega) (by omega)⟩
  rw [wp.out]
  refine Ev.nobind e ?_
  rw [wi.out, wr.out]
  obtain ⟨U, hU, _, u2, _⟩ := value hd (p := 1 + i) (by omega) hq
  obtain ⟨V, hV, _, v2, _⟩ := value hd (p := p - (1 + i)) (by omega) hq
  refine Ev.bind u2 (Ev.bind v2 (Ev.pos rfl (Ev.pos rfl ?_)))
  rw [← hT.le hU (1 + i + q).toNat (1 + i) q (by omega) (by omega) (by omega) (by omega), ← hT.le hV (p - (1 + i) + q).toNat (p - (1 + i)) q (by omega) (by omega) (by omega) (by omega)]
  have d := (hT p q (by omega) (by omega)).2.2.2.1 (1 + i) (by omega) (by omega) (by omega)
  rw [show decide (wrap64 (rd T ((1 + i) * 25 + q) + rd T ((p - (1 + i)) * 25 + q)) > rd T (p * 25 + q)) = false by rw [decide_eq_false_iff_not]; omega]
  exact last_ hd hp hq 0
 ·
  refine Ev.nobind rfl ?_
  refine plain hd hp hq (Ev.pos rfl (Ev.pos rfl (Ev.pos rfl (Ev.fin ?_))))
  rw [mulW hd hp hq]; simp
/-- The law's sum over the entries. -/
theorem loop1 {T : List Int} (hT : GoodT ks T p q) {l1 : List Int} (h1 : U8 l1) {l : List S48} {z : List S49} (hl : l.length ≤ 60) (hz : z.length = l.length) :
  ∀ (d i : Nat) (x : Int), i + d = l.length → F64 x → wrap64 (x + tot fCut (l.drop i) (z.drop i)) = wrap64 (tot fCut l z) →
   Ev (fun k => laws_FnPlateCuts.l1 k l1 ks p q l (rd T (p * 25 + q)) z (wrap64 (tot fCut l z)) (p * q) x (i : Int)) true
 | 0, i, x, h, hx, e => by
  rw [List.drop_of_length_le (by omega)] at e
  simp only [tot, Int.add_zero] at e
  rw [w64 hx.1 hx.2] at e
  refine Ev.step (fun k => by rw [laws_FnPlateCuts.l1]) (Ev.neg (by omega) (Ev.pos (mulW hd hp hq).symm ?_))
  rw [e, show (wrap64 (tot fCut l z) != wrap64 (tot fCut l z)) = false by simp]
  exact halves hd hp hq hT h1
 | d + 1, i, x, h, hx, e => by
  have h0 : i < l.length := by omega
  have h2 : i < z.length := by omega
  have wi : Aside0 (wrap64 ((i : Int) + 1) = ((i + 1 : Nat) : Int)) := ⟨w64 (x := (i : Int) + 1) (by omega) (by omega)⟩
  rw [drop_at l i h0, drop_at z i h2] at e
  simp only [tot] at e
  have S : ∀ y : Int, y = fCut l[i] z[i] → wrap64 (wrap64 (x + y) + tot fCut (l.drop (i + 1)) (z.drop (i + 1))) = wrap64 (tot fCut l z) := fun y hy => by rw [hy, wrapAdd, e]
  refine Ev.step (fun k => by rw [laws_FnPlateCuts.l1]) (Ev.pos (by omega) (Ev.pos (by omega) ?_))
  rw [wi.out, rdC l i h0, rdZ z i h2]
  refine Ev.ite (fun c => Ev.pos (by omega) ?_) (fun c => Ev.ite (fun c' => Ev.pos (by omega) ?_) (fun c' => ?_))
  ·
   exact loop1 hT h1 hl hz d (i + 1) _ (by omega) (wrapF _) (S _ (by unfold fCut; rw [if_pos c]))
  ·
   exact loop1 hT h1 hl hz d (i + 1) _ (by omega) (wrapF _) (S _ (by unfold fCut; rw [if_neg c, if_pos c']))
  ·
   have s := S 0 (by unfold fCut; rw [if_neg c, if_neg c'])
   rw [Int.add_zero, w64 hx.1 hx.2] at s
   exact loop1 hT h1 hl hz d (i + 1) _ (by omega) hx s
/-- The law's sum over the kinds. -/
theorem loop0 {l1 : List Int} {l : List S48} {z : List S49} {v b : Int} {R : List Int} (hR : R.length = ks.length)
  (hr : Ev (fun k => laws_FnPlateCuts.l1 k l1 ks p q l v z b (p * q) 0 0) true) :
  ∀ (d i : Nat) (x : Int), i + d = ks.length → F64 x → wrap64 (x + dot (R.drop i) (ks.drop i)) = p * q →
   Ev (fun k => laws_FnPlateCuts.l0 k l1 ks p q l v R z b x (i : Int)) true
 | 0, i, x, h, hx, e => by
  rw [List.drop_of_length_le (by omega)] at e
  simp only [dot, Int.add_zero] at e
  rw [w64 hx.1 hx.2] at e
  refine Ev.step (fun k => by rw [laws_FnPlateCuts.l0]) (Ev.neg (by omega) ?_)
  rw [e]; exact hr
 | d + 1, i, x, h, hx, e => by
  have hl := hd.len
  have h0 : i < R.length := by omega
  have h2 : i < ks.length := by omega
  have wi : Aside0 (wrap64 ((i : Int) + 1) = ((i + 1 : Nat) : Int)) := ⟨w64 (x := (i : Int) + 1) (by omega) (by omega)⟩
  rw [drop_at R i h0, drop_at ks i h2] at e
  simp only [dot, areaK] at e
  refine Ev.step (fun k => by rw [laws_FnPlateCuts.l0]) (Ev.pos (by omega) (Ev.pos (by omega) (Ev.pos (by omega) ?_)))
  rw [wi.out, rdK ks i h2, rd_nat R i h0]
  refine loop0 hR hr d (i + 1) _ (by omega) (wrapF _) ?_
  rw [← e]
  obtain ⟨Q, hQ⟩ := wrapEx (R[i] * wrap64 ks[i].f0)
  have m : wrap64 (R[i] * wrap64 ks[i].f0) * wrap64 ks[i].f1 = R[i] * (wrap64 ks[i].f0 * wrap64 ks[i].f1) + Q * wrap64 ks[i].f1 * 18446744073709551616 := by
   rw [hQ]
   generalize wrap64 ks[i].f0 = a
   generalize wrap64 ks[i].f1 = b
   generalize R[i] = c
   grind
  rw [m, wrapMod]
  generalize R[i] * (wrap64 ks[i].f0 * wrap64 ks[i].f1) = a
  generalize dot (R.drop (i + 1)) (ks.drop (i + 1)) = b
  unfold wrap64
  omega
theorem found {T : List Int} (hT : GoodT ks T p q) {l1 : List Int} (h1 : U8 l1) {l : List S48} {z : List S49} (hl : l.length ≤ 60) (ht : Sized T ks p q 0 l z) :
  Ev (fun k => laws_FnPlateCuts.j1 k l1 ks p q 0 l (rd T (p * 25 + q)) (rd T (p * 25 + q)) false) true := by
 have hk := hd.len
 have ok := hd.ok
 have b8 := hd.b8
 have hz := ht.len.1
 have val := valueIs ok b8 hp hq hl ht
 have was := wasteIs ok b8 hp hq hl ht
 have cut := cutIs ok b8 hp hq hl ht
 obtain ⟨s1, s2, s3⟩ := sizesIs ok b8 hp hq hl ht
 obtain ⟨R, e1, e2, e3⟩ := piecesIs ok b8 hp hq hl ht
 have bd := hT.bound hd.small hp.2 hq.2 (p + q).toNat p q (by omega) (by omega) (by omega)
 have m : p * q ≤ 24 * 24 := Int.mul_le_mul (by omega) (by omega) (by omega) (by omega)
 rw [values (by omega) hT hd.small hp.2 hq.2 ht (by omega) (by omega), w64 (by omega) (by omega)] at val
 refine Ev.step (fun k => by rw [laws_FnPlateCuts.j1]) (Ev.neg (by decide) (Ev.pos rfl ?_))
 refine Ev.bind val (Ev.bind e1 (Ev.bind was (Ev.bind s1 (Ev.bind s2 (Ev.bind cut ?_)))))
 refine Ev.pos rfl (Ev.bind s3 (Ev.pos rfl (Ev.pos rfl (Ev.pos rfl (Ev.pos rfl (Ev.pos ?_ ?_))))))
 ·
  show (R.length : Int) = (ks.length : Int)
  omega
 refine Ev.pos rfl (Ev.pos rfl (Ev.pos rfl (Ev.bind (sameZ z (by omega)) (Ev.pos rfl (Ev.pos ?_ ?_)))))
 ·
  show (z.length : Int) = (l.length : Int)
  omega
 refine Ev.step (fun k => by rw [laws_FnPlateCuts.j2]) (Ev.neg (by simp) ?_)
 have S : wrap64 (wrap64 (tot fWaste l z) + dot R ks) = p * q := by rw [PlateRest.wrapAddL]; exact e3
 refine loop0 hd hp hq e2 ?_ ks.length 0 _ (by omega) (wrapF _) S
 exact loop1 hd hp hq hT h1 hl hz l.length 0 0 (by omega) (by unfold F64; omega) (by rw [List.drop_zero, List.drop_zero, Int.zero_add])
end
theorem main {l0 l1 : List Int} (h0 : U8 l0) (h1 : U8 l1) : Ev (fun k => laws_FnPlateCuts.j0 k l0 l1 false) true := by
 obtain ⟨ks, ek, hd⟩ := p6Kinds h0
 obtain ⟨a, ha, ea⟩ := p6Pick h1 (n := 9) (by omega) (by omega)
 obtain ⟨b, hb, eb⟩ := p6Pick h0 (n := 7) (by omega) (by omega)
 have wa : Aside0 (wrap64 (1 + a) = 1 + a) := ⟨w64 (by omega) (by omega)⟩
 have wb : Aside0 (wrap64 (1 + b) = 1 + b) := ⟨w64 (by omega) (by omega)⟩
 obtain ⟨T, hT, v1, v2, s, v, e, c1, c2, hs, c⟩ := value hd (p := 1 + a) (q := 1 + b) (by omega) (by omega)
 have ok : impl_ValidKinds.f ks = some true := by rw [implKinds, hd.ok]
 refine Ev.step (fun k => by rw [laws_FnPlateCuts.j0]) (Ev.neg (by decide) (Ev.bind ek (Ev.nobind ea (Ev.nobind eb ?_))))
 rw [wa.out, wb.out]
 refine Ev.bind c2 (Ev.bind c1 (Ev.bind v2 (Ev.bind v1 ?_)))
 refine Ev.pos rfl (Ev.bind (sameC s hs) (Ev.pos rfl (Ev.pos rfl (Ev.pos rfl (Ev.pos rfl (Ev.pos rfl (Ev.nobind ok ?_)))))))
 rcases c with ⟨rfl, rfl, z, hz⟩ | rfl
 ·
  exact found hd (by omega) (by omega) hT h1 hs hz
 ·
  refine Ev.step (fun k => by rw [laws_FnPlateCuts.j1]) ?_
  refine Ev.neg (by decide) ?_
  refine Ev.neg (by show ¬ (3 : Int) = 0; decide) ?_
  exact Ev.fin rfl
theorem FnPlateCuts : laws_FnPlateCuts.Pure := by
 intro l0 l1 _ _ w0 _ _ w1
 have h0 : U8 l0 := fun x hx => wfu8 (w0 x hx)
 have h1 : U8 l1 := fun x hx => wfu8 (w1 x hx)
 have skip : Ev (fun k => laws_FnPlateCuts.j0 k l0 l1 true) true := by
  refine Ev.step (fun k => by rw [laws_FnPlateCuts.j0]) ?_
  exact Ev.pos rfl (Ev.fin rfl)
 have key : Ev (fun k => laws_FnPlateCuts.f k l0 l1) true := by
  unfold laws_FnPlateCuts.f
  refine Ev.nobind rfl (Ev.ite (fun _ => skip) (fun _ => Ev.nobind rfl ?_))
  cases (decide ((l1.length : Int) > 4096)) with
  | true => exact skip
  | false => exact main h0 h1
 obtain ⟨k, hk⟩ := key
 exact ⟨k, hk k (Nat.le_refl _)⟩
end Go.Proofs.Ytnkihjabmbeicaa.Pure
