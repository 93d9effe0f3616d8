/- How far two joints are apart; the code of two rows: what the reference's and the program's functions come to. -/
import Derived.Test.YtjkjelfhdhcplaaJointsKit
import Derived.Test.YtjkjelfhdhcplaaPAxgImpl
import Derived.Test.YtjkjelfhdhcplaaPAxgSpec
namespace Go.Proofs.Ytjkjelfhdhcplaa.ApartKit
set_option linter.unusedSimpArgs false
set_option linter.unusedVariables false
open Go.RowKit Go.Proofs.Ytjkjelfhdhcplaa.PA Go.Proofs.Ytjkjelfhdhcplaa.Base Go.Proofs.Ytjkjelfhdhcplaa.RowsFns Go.Proofs.Ytjkjelfhdhcplaa.JointsKit Go.Proofs.YtjkjelfhdhcplaaW.PrintWords Go.Proofs.YtjkjelfhdhcplaaW.PrintLast Go.Proofs.YtjkjelfhdhcplaaW.PrintMore

def both (a b : List Int) (s : Int) : Int := if okB a && okB b then (if inB s 0 200 then 0 else 2) else 1
theorem specBoth {a b : List Int} (ha : Fit a) (hb : Fit b) (s : Int) : Ev (fun k => spec_l05Both.f k a b s) (both a b s) := by
  unfold spec_l05Both.f both
  refine Ev.bind (specOk ha) ?_
  cases okB a with
  | false =>
    refine Ev.neg (by simp) (Ev.step (fun k => by rw [spec_l05Both.j0]) ?_)
    exact Ev.pos rfl (Ev.fin rfl)
  | true =>
    refine Ev.pos rfl (Ev.bind (specOk hb) (Ev.step (fun k => by rw [spec_l05Both.j0]) ?_))
    cases okB b with
    | false => exact Ev.pos rfl (Ev.fin rfl)
    | true =>
      refine Ev.neg (by simp) (Ev.nobind (specSeam s) ?_)
      cases inB s 0 200 <;> exact Ev.fin rfl
/-- The numbers of a joint fit their type. -/
def FitJ (l : List S70) : Prop := ∀ j ∈ l, (-32768 ≤ j.f0 ∧ j.f0 ≤ 32767) ∧ (-32768 ≤ j.f1 ∧ j.f1 ≤ 32767)
theorem wrap16_range (x : Int) : -32768 ≤ IntKind.i16.wrap x ∧ IntKind.i16.wrap x ≤ 32767 := by rw [w16_def]; omega
theorem jts_fit (l : List Int) (a : Int) : FitJ (jts l a) := by
  unfold jts
  have key : ∀ (xs : List Int) (i : Int) (s : List S70 × Int), FitJ s.1 → FitJ (scanG (jtF a) (·.1) xs i s) := by
    intro xs
    induction xs with
    | nil => intro i s h; exact h
    | cons x xs ih =>
      intro i s h
      simp only [scanG, jtF]
      refine ih _ _ (fun j hj => ?_)
      rcases List.mem_append.1 hj with hj | hj
      · exact h j hj
      · rw [List.mem_singleton] at hj; rw [hj]; exact ⟨wrap16_range _, wrap16_range _⟩
  exact key _ _ _ (fun j hj => by cases hj)
def ap (x y : S70) : Int := (if x.f0 < y.f0 then y.f0 else x.f0) - (if y.f1 < x.f1 then y.f1 else x.f1)
theorem specAp {x y : S70} (hx : (-32768 ≤ x.f0 ∧ x.f0 ≤ 32767) ∧ (-32768 ≤ x.f1 ∧ x.f1 ≤ 32767)) (hy : (-32768 ≤ y.f0 ∧ y.f0 ≤ 32767) ∧ (-32768 ≤ y.f1 ∧ y.f1 ≤ 32767)) :
    spec_l05Apart.f x.f0 x.f1 y.f0 y.f1 = some (ap x y) := by
  unfold spec_l05Apart.f spec_l00Max.f spec_l00Min.f ap
  rw [w64 (x := x.f0) (by omega) (by omega), w64 (x := x.f1) (by omega) (by omega), w64 (x := y.f0) (by omega) (by omega), w64 (x := y.f1) (by omega) (by omega)]
  have e1 : (if x.f0 > y.f0 then some x.f0 else some y.f0) = some (if x.f0 < y.f0 then y.f0 else x.f0) := by split <;> split <;> first | rfl | (congr 1; omega)
  have e2 : (if x.f1 < y.f1 then some x.f1 else some y.f1) = some (if y.f1 < x.f1 then y.f1 else x.f1) := by split <;> split <;> first | rfl | (congr 1; omega)
  rw [e1, e2, Option.bind_some, Option.bind_some, w64 (by split <;> split <;> omega) (by split <;> split <;> omega)]
theorem implAp {x y : S70} (hx : (-32768 ≤ x.f0 ∧ x.f0 ≤ 32767) ∧ (-32768 ≤ x.f1 ∧ x.f1 ≤ 32767)) (hy : (-32768 ≤ y.f0 ∧ y.f0 ≤ 32767) ∧ (-32768 ≤ y.f1 ∧ y.f1 ≤ 32767)) :
    impl_apartOf.f x.f0 x.f1 y.f0 y.f1 = some (ap x y) := by
  unfold impl_apartOf.f ap mx mn
  have e1 : wrap64 (if x.f0 < y.f0 then y.f0 else x.f0) = (if x.f0 < y.f0 then y.f0 else x.f0) := w64 (by split <;> omega) (by split <;> omega)
  have e2 : wrap64 (if y.f1 < x.f1 then y.f1 else x.f1) = (if y.f1 < x.f1 then y.f1 else x.f1) := w64 (by split <;> omega) (by split <;> omega)
  rw [e1, e2, w64 (by split <;> split <;> omega) (by split <;> split <;> omega)]
theorem both0 {a b : List Int} {s : Int} (h : both a b s = 0) : (1 ≤ a.length ∧ a.length ≤ 60) ∧ 1 ≤ b.length ∧ b.length ≤ 60 := by
  unfold both at h
  cases e : okB a && okB b with
  | false => rw [e] at h; simp at h
  | true =>
    rw [Bool.and_eq_true] at e
    unfold okB at e
    rw [Bool.and_eq_true, Bool.and_eq_true, inB_iff, inB_iff] at e
    omega
end Go.Proofs.Ytjkjelfhdhcplaa.ApartKit
