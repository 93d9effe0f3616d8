/- Lengths, saws and pieces in their ranges: what the reference's and the program's functions come to; the laws' own functions over numbers. -/
import Derived.Test.YtadighbpjanjbaaLoops2
import Derived.Test.YtadighbpjanjbaaPAxgImpl
import Derived.Test.YtadighbpjanjbaaPAxgLaw
import Derived.Test.YtadighbpjanjbaaPAxgSpec
namespace Go.Proofs.Ytadighbpjanjbaa.BarsKit
set_option linter.unusedSimpArgs false
set_option linter.unusedVariables false
open Go.RowKit Go.Proofs.Ytadighbpjanjbaa.PA Go.Proofs.Ytadighbpjanjbaa.Base Go.Proofs.YtadighbpjanjbaaW.PrintWords Go.Proofs.YtadighbpjanjbaaW.PrintLast Go.Proofs.YtadighbpjanjbaaW.PrintMore

theorem eqInts (l0 l1 : List Int) (h : l0.length ≤ 9223372036854775806) : Ev (fun k => laws_eqInt64S.f k l0 l1) (decide (l0 = l1)) := by
  unfold laws_eqInt64S.f
  refine Ev.ite (fun e => ?_) (fun e => Ev.fin ?_)
  · exact eq_loop (laws_eqInt64S.l0 · l0 l1 ·) h (by omega) (fun k i => by rw [laws_eqInt64S.l0]) l0.length 0 (by omega)
  · exact (decide_eq_false (fun h => e (by rw [h]))).symm
theorem toInts (l0 : List Int) (h : l0.length ≤ 35184372088832) : Ev (fun k => laws_toInt64S.f k l0) l0 := by
  unfold laws_toInt64S.f
  refine Ev.pos (by omega) (Ev.pos (by omega) ?_)
  exact copy_loop (laws_toInt64S.l0 · l0 · ·) (by omega) (fun k x3 i => by rw [laws_toInt64S.l0]) l0.length 0 _ (by omega) (by simp) (by simp)
theorem rdI (xs : List Int) (i : Nat) : rd xs (i : Int) = xs.getD i 0 := by simp [rd]
theorem specIn (n b c : Int) : spec_l00In.f n b c = some (inB n b c) := inB_ite
theorem implIn (n b c : Int) : impl_within.f n b c = some (inB n b c) := inB_ite
theorem all_getI (l : List Int) (p : Int → Bool) : ((List.range l.length).all fun i => p (l.getD i 0)) = l.all p := by
  rw [Bool.eq_iff_iff, List.all_eq_true, List.all_eq_true]
  constructor
  · intro h x hx
    obtain ⟨i, hi, rfl⟩ := List.getElem_of_mem hx
    have := h i (by simpa using hi)
    simpa [List.getD_eq_getElem?_getD, hi] using this
  · intro h i hi
    have hi' : i < l.length := by simpa using hi
    rw [List.getD_eq_getElem?_getD, List.getElem?_eq_getElem hi']
    exact h _ (List.getElem_mem hi')
def barB (a s : Int) (l : List Int) : Bool := inB a 1 10000 && (inB s 0 10000 && (decide ((l.length : Int) ≤ 14) && l.all fun x => inB x 1 a))
theorem bar_of {a s : Int} {l : List Int} (h : barB a s l = true) : (1 ≤ a ∧ a ≤ 10000) ∧ (0 ≤ s ∧ s ≤ 10000) ∧ l.length ≤ 14 ∧ ∀ x ∈ l, 1 ≤ x ∧ x ≤ a := by
  unfold barB at h
  rw [Bool.and_eq_true, Bool.and_eq_true, Bool.and_eq_true, inB_iff, inB_iff, decide_eq_true_eq, List.all_eq_true] at h
  refine ⟨h.1, h.2.1, by omega, fun x hx => ?_⟩
  exact inB_iff.1 (h.2.2.2 x hx)
theorem specBars (a s : Int) (l : List Int) (hl : l.length ≤ 1048576) : Ev (fun k => spec_l04Sawn.f k a s l) (barB a s l) := by
  unfold spec_l04Sawn.f barB
  refine Ev.to (rangeAll_ev0 (fun k i => spec_l04Sawn.l0 k a s l i) l.length (fun j => inB (l.getD j 0) 1 a) (inB a 1 10000 && (inB s 0 10000 && decide ((l.length : Int) ≤ 14))) false ?_ ?_ ?_) ?_
  · intro i hi hp r' hr
    have ha := w64 (x := (i : Int) + 1) (by omega) (by omega)
    refine Ev.step (fun k => by rw [spec_l04Sawn.l0]) ?_
    rw [ha, rdI]
    exact Ev.pos (by omega) (Ev.pos (by omega) (Ev.nobind (specIn _ _ _) (Ev.pos hp hr)))
  · intro i hi hp
    refine Ev.step (fun k => by rw [spec_l04Sawn.l0]) ?_
    rw [rdI]
    exact Ev.pos (by omega) (Ev.pos (by omega) (Ev.nobind (specIn _ _ _) (Ev.neg (by rw [hp]; decide) (Ev.fin rfl))))
  · intro _
    refine Ev.step (fun k => by rw [spec_l04Sawn.l0]) ?_
    refine Ev.neg (by omega) (Ev.nobind (specIn _ _ _) ?_)
    cases inB a 1 10000 with
    | false => exact Ev.neg (by simp) (Ev.fin rfl)
    | true =>
      refine Ev.pos rfl (Ev.nobind (specIn _ _ _) ?_)
      cases inB s 0 10000 with
      | false => exact Ev.neg (by simp) (Ev.fin rfl)
      | true => exact Ev.pos rfl (Ev.fin rfl)
  · rw [all_getI l (fun x => inB x 1 a)]
    cases inB a 1 10000 <;> cases inB s 0 10000 <;> cases decide ((l.length : Int) ≤ 14) <;> cases (l.all fun x => inB x 1 a) <;> rfl
theorem implBars (a s : Int) (l : List Int) : impl_areBars.f a s l = some (barB a s l) := by
  unfold impl_areBars.f barB
  rw [implIn, Option.bind_some]
  cases inB a 1 10000 with
  | false => rfl
  | true =>
    rw [if_pos rfl, implIn, Option.bind_some]
    cases inB s 0 10000 with
    | false => rfl
    | true =>
      rw [if_pos rfl]
      by_cases c : (l.length : Int) ≤ 14
      · rw [if_pos c, idxO_any (q := fun x => !inB x 1 a) l (fun x _ => by unfold impl_areBars_1.f; rw [implIn]; rfl), Option.bind_some, decide_eq_true c]
        congr 1
        rw [Bool.eq_iff_iff]; simp [List.any_eq_true, List.all_eq_true]
      · rw [if_neg c, decide_eq_false c]; rfl
end Go.Proofs.Ytadighbpjanjbaa.BarsKit
