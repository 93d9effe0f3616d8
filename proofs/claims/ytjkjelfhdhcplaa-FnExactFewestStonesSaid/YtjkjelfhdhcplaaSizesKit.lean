/- The sizes that may be asked for: what the reference's and the program's functions come to; the laws' own functions over numbers. -/
import Derived.Test.YtjkjelfhdhcplaaLoops2
import Derived.Test.YtjkjelfhdhcplaaRowsFns
import Derived.Test.YtjkjelfhdhcplaaPAxgImpl
import Derived.Test.YtjkjelfhdhcplaaPAxgLaw
import Derived.Test.YtjkjelfhdhcplaaPAxgSpec
namespace Go.Proofs.Ytjkjelfhdhcplaa.SizesKit
set_option linter.unusedSimpArgs false
set_option linter.unusedVariables false
open Go.RowKit Go.Proofs.Ytjkjelfhdhcplaa.PA Go.Proofs.Ytjkjelfhdhcplaa.Base Go.Proofs.Ytjkjelfhdhcplaa.RowsFns Go.Proofs.YtjkjelfhdhcplaaW.PrintWords Go.Proofs.YtjkjelfhdhcplaaW.PrintLast Go.Proofs.YtjkjelfhdhcplaaW.PrintMore

theorem eqInts (l0 l1 : List Int) (h : l0.length ≤ 9223372036854775806) : Ev (fun k => laws_eqInt64S.f k l0 l1) (decide (l0 = l1)) := by
  unfold laws_eqInt64S.f
  refine Ev.ite (fun e => ?_) (fun e => Ev.fin ?_)
  · exact eq_loop (laws_eqInt64S.l0 · l0 l1 ·) h (by omega) (fun k i => by rw [laws_eqInt64S.l0]) l0.length 0 (by omega)
  · exact (decide_eq_false (fun h => e (by rw [h]))).symm
theorem toInts (l0 : List Int) (h : l0.length ≤ 35184372088832) : Ev (fun k => laws_toInt64S.f k l0) l0 := by
  unfold laws_toInt64S.f
  refine Ev.pos (by omega) (Ev.pos (by omega) ?_)
  exact copy_loop (laws_toInt64S.l0 · l0 · ·) (by omega) (fun k x3 i => by rw [laws_toInt64S.l0]) l0.length 0 _ (by omega) (by simp) (by simp)
theorem rdI (xs : List Int) (i : Nat) : rd xs (i : Int) = xs.getD i 0 := by simp [rd]
def stp (l : List Int) (j : Nat) : Bool := decide (j = 0) || decide (l.getD (j - 1) 0 < l.getD j 0)
def szB (a s : Int) (l : List Int) : Bool := (inB a 1 2000 && inB s 0 200) && (inB (l.length : Int) 1 8 && (List.range l.length).all fun j => inB (l.getD j 0) 1 200 && stp l j)
theorem all_getI (l : List Int) (p : Int → Bool) : ((List.range l.length).all fun i => p (l.getD i 0)) = l.all p := by
  rw [Bool.eq_iff_iff, List.all_eq_true, List.all_eq_true]
  constructor
  · intro h x hx
    obtain ⟨i, hi, rfl⟩ := List.getElem_of_mem hx
    have := h i (by simpa using hi)
    simpa [List.getD_eq_getElem?_getD, hi] using this
  · intro h i hi
    have hi' : i < l.length := by simpa using hi
    rw [List.getD_eq_getElem?_getD, List.getElem?_eq_getElem hi']
    exact h _ (List.getElem_mem hi')
theorem specSizes (a s : Int) (l : List Int) : Ev (fun k => spec_l05Sizes.f k a s l) (szB a s l) := by
  unfold spec_l05Sizes.f szB
  have bad : Ev (fun k => spec_l05Sizes.j0 k l true) false := by
    refine Ev.step (fun k => by rw [spec_l05Sizes.j0]) ?_
    exact Ev.pos rfl (Ev.fin rfl)
  refine Ev.nobind (specLong a s) ?_
  cases inB a 1 2000 && inB s 0 200 with
  | false => exact Ev.neg (by simp) bad
  | true =>
    refine Ev.pos rfl (Ev.nobind (specIn _ _ _) ?_)
    cases e : inB (l.length : Int) 1 8 with
    | false => exact bad
    | true =>
      rw [inB_iff] at e
      refine Ev.step (fun k => by rw [spec_l05Sizes.j0]) ?_
      refine Ev.neg (by simp) ?_
      refine Ev.to (rangeAll_ev0 (fun k i => spec_l05Sizes.l0 k l i) l.length (fun j => inB (l.getD j 0) 1 200 && stp l j) true false ?_ ?_ ?_) (by cases (List.range l.length).all fun j => inB (l.getD j 0) 1 200 && stp l j <;> rfl)
      · intro i hi hp r' hr
        have ha := w64 (x := (i : Int) + 1) (by omega) (by omega)
        have hb := w64 (x := (i : Int) - 1) (by omega) (by omega)
        rw [Bool.and_eq_true] at hp
        have h2 := hp.2
        unfold stp at h2
        rw [Bool.or_eq_true, decide_eq_true_eq, decide_eq_true_eq] at h2
        refine Ev.step (fun k => by rw [spec_l05Sizes.l0]) ?_
        refine Ev.pos (by omega) (Ev.pos (by omega) ?_)
        rw [ha, hb]
        refine Ev.nobind (specWidth _) (Ev.pos (by rw [rdI]; exact hp.1) ?_)
        refine Ev.ite (fun e0 => Ev.pos (by omega) (Ev.pos (by omega) (Ev.neg ?_ hr))) (fun _ => hr)
        rw [rdI, show (i : Int) - 1 = ((i - 1 : Nat) : Int) by omega, rdI]
        omega
      · intro i hi hp
        have hb := w64 (x := (i : Int) - 1) (by omega) (by omega)
        refine Ev.step (fun k => by rw [spec_l05Sizes.l0]) ?_
        refine Ev.pos (by omega) (Ev.pos (by omega) ?_)
        rw [hb]
        refine Ev.nobind (specWidth _) (Ev.ite (fun e1 => ?_) (fun _ => Ev.fin rfl))
        rw [rdI] at e1
        rw [e1, Bool.true_and] at hp
        unfold stp at hp
        rw [Bool.or_eq_false_iff, decide_eq_false_iff_not, decide_eq_false_iff_not] at hp
        refine Ev.pos (by omega) (Ev.pos (by omega) (Ev.pos (by omega) (Ev.pos ?_ (Ev.fin rfl))))
        rw [rdI, show (i : Int) - 1 = ((i - 1 : Nat) : Int) by omega, rdI]
        omega
      · intro _
        refine Ev.step (fun k => by rw [spec_l05Sizes.l0]) ?_
        exact Ev.neg (by omega) (Ev.fin rfl)
theorem implSizes (a s : Int) (l : List Int) (hl : l.length ≤ 1048576) : Ev (fun k => impl_areSizes.f k a s l) (szB a s l) := by
  unfold impl_areSizes.f szB
  refine Ev.to (rangeAll_ev0 (fun k i => impl_areSizes.l0 k a s l l (l.length : Int) i) l.length (fun j => stp l j) (inB a 1 2000 && (inB s 0 200 && (inB (l.length : Int) 1 8 && l.all fun x => inB x 1 200))) false ?_ ?_ ?_) ?_
  · intro i hi hp r' hr
    have ha := w64 (x := (i : Int) + 1) (by omega) (by omega)
    have hb := w64 (x := (i : Int) - 1) (by omega) (by omega)
    have h2 := hp
    unfold stp at h2
    rw [Bool.or_eq_true, decide_eq_true_eq, decide_eq_true_eq] at h2
    refine Ev.step (fun k => by rw [impl_areSizes.l0]) ?_
    refine Ev.pos (by omega) (Ev.pos (by omega) (Ev.pos (by omega) ?_))
    rw [ha, hb]
    refine Ev.ite (fun e0 => Ev.pos (by omega) (Ev.pos (by omega) (Ev.neg ?_ hr))) (fun _ => hr)
    rw [rdI, show (i : Int) - 1 = ((i - 1 : Nat) : Int) by omega, rdI]
    omega
  · intro i hi hp
    have hb := w64 (x := (i : Int) - 1) (by omega) (by omega)
    unfold stp at hp
    rw [Bool.or_eq_false_iff, decide_eq_false_iff_not, decide_eq_false_iff_not] at hp
    refine Ev.step (fun k => by rw [impl_areSizes.l0]) ?_
    refine Ev.pos (by omega) (Ev.pos (by omega) (Ev.pos (by omega) ?_))
    rw [hb]
    refine Ev.pos (by omega) (Ev.pos (by omega) (Ev.pos (by omega) (Ev.pos ?_ (Ev.fin rfl))))
    rw [rdI, show (i : Int) - 1 = ((i - 1 : Nat) : Int) by omega, rdI]
    omega
  · intro _
    refine Ev.step (fun k => by rw [impl_areSizes.l0]) ?_
    refine Ev.neg (by omega) (Ev.nobind (implLong a) ?_)
    cases inB a 1 2000 with
    | false => exact Ev.neg (by simp) (Ev.fin rfl)
    | true =>
      refine Ev.pos rfl (Ev.nobind (implSeam s) ?_)
      cases inB s 0 200 with
      | false => exact Ev.neg (by simp) (Ev.fin rfl)
      | true =>
        refine Ev.pos rfl (Ev.nobind (implIn _ _ _) ?_)
        cases inB (l.length : Int) 1 8 with
        | false => exact Ev.neg (by simp) (Ev.fin rfl)
        | true => exact Ev.pos rfl (Ev.nobind (implWidth l) (Ev.fin rfl))
  · have : ((List.range l.length).all fun j => inB (l.getD j 0) 1 200 && stp l j) = (((List.range l.length).all fun j => stp l j) && l.all fun x => inB x 1 200) := by
      rw [← all_getI l, Bool.eq_iff_iff, Bool.and_eq_true, List.all_eq_true, List.all_eq_true, List.all_eq_true]
      constructor
      · intro h
        exact ⟨fun j hj => ((Bool.and_eq_true _ _).mp (h j hj)).2, fun j hj => ((Bool.and_eq_true _ _).mp (h j hj)).1⟩
      · rintro ⟨h1, h2⟩ j hj
        rw [Bool.and_eq_true]; exact ⟨h2 j hj, h1 j hj⟩
    rw [this]
    cases (List.range l.length).all fun j => stp l j <;> cases inB a 1 2000 <;> cases inB s 0 200 <;> cases inB (l.length : Int) 1 8 <;> cases (l.all fun x => inB x 1 200) <;> rfl
end Go.Proofs.Ytjkjelfhdhcplaa.SizesKit
