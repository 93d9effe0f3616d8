/- Kinds of pieces: what the reference's and the program's functions come to; the laws' own functions over lists of kinds. -/
import Derived.Test.YtpkbamcfncambaaLoops2
import Derived.Test.YtpkbamcfncambaaPAxgCut
import Derived.Test.YtpkbamcfncambaaPAxgKinds
import Derived.Test.YtpkbamcfncambaaPAxgPlate
namespace Go.Proofs.Ytpkbamcfncambaa.KindsKit
set_option linter.unusedSimpArgs false
set_option linter.unusedVariables false
open Go.RowKit Go.Proofs.Ytpkbamcfncambaa.PA Go.Proofs.Ytpkbamcfncambaa.Base Go.Proofs.YtpkbamcfncambaaW.PrintWords Go.Proofs.YtpkbamcfncambaaW.PrintLast Go.Proofs.YtpkbamcfncambaaW.PrintMore

theorem specIn (n b c : Int) : spec_l00In.f n b c = some (inB n b c) := inB_ite
theorem implIn (n b c : Int) : impl_within.f n b c = some (inB n b c) := inB_ite
theorem specPlate (n : Int) : spec_l04Plate.f n = some (inB n 1 24) := by unfold spec_l04Plate.f; rw [specIn]; rfl
theorem rdK (xs : List S43) (i : Nat) (h : i < xs.length) : rd_T43 xs (i : Int) = xs[i] := getD_nat xs z43 i h
theorem rdK' (xs : List S43) (i : Nat) : rd_T43 xs (i : Int) = xs.getD i z43 := by simp [rd_T43]
theorem rdL (xs : List S45) (i : Nat) (h : i < xs.length) : rd_T45 xs (i : Int) = xs[i] := getD_nat xs z45 i h
def conv (c : S45) : S43 := ⟨c.f0, c.f1, c.f2⟩
def kindB (c : S43) : Bool := inB (wrap64 c.f0) 1 24 && (inB (wrap64 c.f1) 1 24 && inB (wrap64 c.f2) 0 1000)
def kindsB (l : List S43) : Bool := decide ((l.length : Int) ≤ 8) && l.all kindB
theorem implKind (c : S43) : impl_ValidKinds_1.f c.f0 c.f1 c.f2 = some (!kindB c) := by
  unfold impl_ValidKinds_1.f kindB
  rw [implIn, implIn, implIn, Option.bind_some]
  cases inB (wrap64 c.f0) 1 24 with
  | false => rfl
  | true =>
    rw [if_pos rfl, Option.bind_some]
    cases inB (wrap64 c.f1) 1 24 with
    | false => rfl
    | true => rfl
theorem implKinds (l : List S43) : impl_ValidKinds.f l = some (kindsB l) := by
  unfold impl_ValidKinds.f kindsB
  by_cases c : (l.length : Int) ≤ 8
  · rw [if_pos c, decide_eq_true c]
    unfold impl_ValidKinds_1_any.f
    rw [idxO_any (q := fun x => !kindB x) l (fun x _ => implKind x), Option.bind_some]
    congr 1
    rw [Bool.eq_iff_iff]; simp [List.any_eq_true, List.all_eq_true]
  · rw [if_neg c, decide_eq_false c]; rfl
theorem all_getK (l : List S43) (p : S43 → Bool) : ((List.range l.length).all fun i => p (l.getD i z43)) = l.all p := by
  rw [Bool.eq_iff_iff, List.all_eq_true, List.all_eq_true]
  constructor
  · intro h x hx
    obtain ⟨i, hi, rfl⟩ := List.getElem_of_mem hx
    have := h i (by simpa using hi)
    simpa [List.getD_eq_getElem?_getD, hi] using this
  · intro h i hi
    have hi' : i < l.length := by simpa using hi
    rw [List.getD_eq_getElem?_getD, List.getElem?_eq_getElem hi']
    exact h _ (List.getElem_mem hi')
theorem ite_and (a b : Bool) : (if a = true then b else false) = (b && a) := by cases a <;> cases b <;> rfl
theorem specKinds (l : List S43) (hl : l.length ≤ 1048576) : Ev (fun k => spec_l04Kinds.f k l) (kindsB l) := by
  unfold spec_l04Kinds.f kindsB
  refine Ev.to (rangeAll_ev0 (fun k i => spec_l04Kinds.l0 k l i) l.length (fun i => kindB (l.getD i z43)) (decide ((l.length : Int) ≤ 8)) false ?_ ?_ ?_) (by rw [all_getK, ite_and])
  · intro i hi hp r' hr
    unfold kindB at hp
    rw [Bool.and_eq_true, Bool.and_eq_true] at hp
    refine Ev.step (fun k => by rw [spec_l04Kinds.l0]) (Ev.pos (by omega) (Ev.pos (by omega) ?_))
    rw [rdK' l i, w64 (x := (i : Int) + 1) (by omega) (by omega)]
    exact Ev.nobind (specPlate _) (Ev.pos hp.1 (Ev.nobind (specPlate _) (Ev.pos hp.2.1 (Ev.nobind (specIn _ _ _) (Ev.pos hp.2.2 hr)))))
  · intro i hi hp
    unfold kindB at hp
    refine Ev.step (fun k => by rw [spec_l04Kinds.l0]) (Ev.pos (by omega) (Ev.pos (by omega) ?_))
    rw [rdK' l i]
    refine Ev.nobind (specPlate _) (Ev.ite (fun e => ?_) (fun _ => Ev.fin rfl))
    rw [e, Bool.true_and] at hp
    refine Ev.nobind (specPlate _) (Ev.ite (fun e => ?_) (fun _ => Ev.fin rfl))
    rw [e, Bool.true_and] at hp
    exact Ev.nobind (specIn _ _ _) (Ev.neg (by rw [hp]; decide) (Ev.fin rfl))
  · intro _
    refine Ev.step (fun k => by rw [spec_l04Kinds.l0]) ?_
    exact Ev.neg (by omega) (Ev.fin rfl)
theorem szKinds (l : List S45) (hl : l.length ≤ maxLen) : laws_szKindS.f l 1048576 = some (if (1048576 : Int) - (l.length : Int) < 0 then (-1 : Int) else (1048576 : Int) - (l.length : Int)) := by
  have hM : maxLen ≤ 9223372036854775807 := by decide
  unfold laws_szKindS.f
  rw [w64 (by omega) (by omega)]
  split <;> rfl
theorem toKinds (l : List S45) (h : l.length ≤ 1048576) : Ev (fun k => laws_toKindS.f k l) (l.map conv) := by
  unfold laws_toKindS.f
  refine Ev.pos (by omega) (Ev.pos (by omega) ?_)
  refine copy_ev0 l conv z43 (fun k x i => laws_toKindS.l0 k l x i) (fun x3 i hi r h3 hr => ?_) (fun x3 => ?_)
  · refine Ev.step (fun k => by rw [laws_toKindS.l0]) (Ev.pos (by omega) (Ev.pos (by omega) ?_))
    refine Ev.nobind rfl (Ev.pos (by omega) ?_)
    rw [rdL l i hi, w64 (x := (i : Int) + 1) (by omega) (by omega)]
    exact hr
  · refine Ev.step (fun k => by rw [laws_toKindS.l0]) ?_
    exact Ev.neg (by omega) (Ev.fin rfl)
theorem eqKinds (l : List S43) (h : l.length ≤ 1048576) : Ev (fun k => laws_eqKindS.f k l l) true := by
  unfold laws_eqKindS.f
  refine Ev.pos rfl ?_
  refine Ev.to (rangeAll_ev0 (fun k i => laws_eqKindS.l0 k l l i) l.length (fun _ => true) true false ?_ ?_ ?_) (by simp)
  · intro i hi _ r' hr
    refine Ev.step (fun k => by rw [laws_eqKindS.l0]) (Ev.pos (by omega) (Ev.pos (by omega) (Ev.pos (by omega) ?_)))
    refine Ev.nobind (a := true) (by simp [laws_eqKind.f]) (Ev.pos rfl ?_)
    rw [w64 (x := (i : Int) + 1) (by omega) (by omega)]; exact hr
  · intro i hi h'; cases h'
  · intro _
    refine Ev.step (fun k => by rw [laws_eqKindS.l0]) ?_
    exact Ev.neg (by omega) (Ev.fin rfl)
end Go.Proofs.Ytpkbamcfncambaa.KindsKit
