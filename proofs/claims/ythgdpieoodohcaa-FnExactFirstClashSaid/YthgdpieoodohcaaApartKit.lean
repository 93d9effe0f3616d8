/- How far joints of two rows are apart at least: what the reference's and the program's functions come to. -/
import Derived.Test.YthgdpieoodohcaaJointsKit
import Derived.Test.YthgdpieoodohcaaPAxf37
import Derived.Test.YthgdpieoodohcaaPAxf38
import Derived.Test.YthgdpieoodohcaaPAxgImpl
import Derived.Test.YthgdpieoodohcaaPAxgSpec
namespace Go.Proofs.Ythgdpieoodohcaa.ApartKit
set_option linter.unusedSimpArgs false
set_option linter.unusedVariables false
open Go.RowKit Go.Proofs.Ythgdpieoodohcaa.PA Go.Proofs.Ythgdpieoodohcaa.Base Go.Proofs.Ythgdpieoodohcaa.RowsFns Go.Proofs.Ythgdpieoodohcaa.JointsKit Go.Proofs.YthgdpieoodohcaaW.PrintWords Go.Proofs.YthgdpieoodohcaaW.PrintLast Go.Proofs.YthgdpieoodohcaaW.PrintMore

def both (a b : List Int) (s : Int) : Int := if okB a && okB b then (if inB s 0 200 then 0 else 2) else 1
theorem specBoth {a b : List Int} (ha : Fit a) (hb : Fit b) (s : Int) : Ev (fun k => spec_l05Both.f k a b s) (both a b s) := by
  unfold spec_l05Both.f both
  refine Ev.bind (specOk ha) ?_
  cases okB a with
  | false =>
    refine Ev.neg (by simp) (Ev.step (fun k => by rw [spec_l05Both.j0]) ?_)
    exact Ev.pos rfl (Ev.fin rfl)
  | true =>
    refine Ev.pos rfl (Ev.bind (specOk hb) (Ev.step (fun k => by rw [spec_l05Both.j0]) ?_))
    cases okB b with
    | false => exact Ev.pos rfl (Ev.fin rfl)
    | true =>
      refine Ev.neg (by simp) (Ev.nobind (specSeam s) ?_)
      cases inB s 0 200 <;> exact Ev.fin rfl
/-- The numbers of a joint fit their type. -/
def FitJ (l : List S90) : Prop := ∀ j ∈ l, (-32768 ≤ j.f0 ∧ j.f0 ≤ 32767) ∧ (-32768 ≤ j.f1 ∧ j.f1 ≤ 32767)
theorem wrap16_range (x : Int) : -32768 ≤ IntKind.i16.wrap x ∧ IntKind.i16.wrap x ≤ 32767 := by rw [w16_def]; omega
theorem jts_fit (l : List Int) (a : Int) : FitJ (jts l a) := by
  unfold jts
  have key : ∀ (xs : List Int) (i : Int) (s : List S90 × Int), FitJ s.1 → FitJ (scanG (jtF a) (·.1) xs i s) := by
    intro xs
    induction xs with
    | nil => intro i s h; exact h
    | cons x xs ih =>
      intro i s h
      simp only [scanG, jtF]
      refine ih _ _ (fun j hj => ?_)
      rcases List.mem_append.1 hj with hj | hj
      · exact h j hj
      · rw [List.mem_singleton] at hj; rw [hj]; exact ⟨wrap16_range _, wrap16_range _⟩
  exact key _ _ _ (fun j hj => by cases hj)
def ap (x y : S90) : Int := (if x.f0 < y.f0 then y.f0 else x.f0) - (if y.f1 < x.f1 then y.f1 else x.f1)
theorem specAp {x y : S90} (hx : (-32768 ≤ x.f0 ∧ x.f0 ≤ 32767) ∧ (-32768 ≤ x.f1 ∧ x.f1 ≤ 32767)) (hy : (-32768 ≤ y.f0 ∧ y.f0 ≤ 32767) ∧ (-32768 ≤ y.f1 ∧ y.f1 ≤ 32767)) :
    spec_l05Apart.f x.f0 x.f1 y.f0 y.f1 = some (ap x y) := by
  unfold spec_l05Apart.f spec_l00Max.f spec_l00Min.f ap
  rw [w64 (x := x.f0) (by omega) (by omega), w64 (x := x.f1) (by omega) (by omega), w64 (x := y.f0) (by omega) (by omega), w64 (x := y.f1) (by omega) (by omega)]
  have e1 : (if x.f0 > y.f0 then some x.f0 else some y.f0) = some (if x.f0 < y.f0 then y.f0 else x.f0) := by split <;> split <;> first | rfl | (congr 1; omega)
  have e2 : (if x.f1 < y.f1 then some x.f1 else some y.f1) = some (if y.f1 < x.f1 then y.f1 else x.f1) := by split <;> split <;> first | rfl | (congr 1; omega)
  rw [e1, e2, Option.bind_some, Option.bind_some, w64 (by split <;> split <;> omega) (by split <;> split <;> omega)]
theorem implAp {x y : S90} (hx : (-32768 ≤ x.f0 ∧ x.f0 ≤ 32767) ∧ (-32768 ≤ x.f1 ∧ x.f1 ≤ 32767)) (hy : (-32768 ≤ y.f0 ∧ y.f0 ≤ 32767) ∧ (-32768 ≤ y.f1 ∧ y.f1 ≤ 32767)) :
    impl_apartOf.f x.f0 x.f1 y.f0 y.f1 = some (ap x y) := by
  unfold impl_apartOf.f ap mx mn
  have e1 : wrap64 (if x.f0 < y.f0 then y.f0 else x.f0) = (if x.f0 < y.f0 then y.f0 else x.f0) := w64 (by split <;> omega) (by split <;> omega)
  have e2 : wrap64 (if y.f1 < x.f1 then y.f1 else x.f1) = (if y.f1 < x.f1 then y.f1 else x.f1) := w64 (by split <;> omega) (by split <;> omega)
  rw [e1, e2, w64 (by split <;> split <;> omega) (by split <;> split <;> omega)]
/-- The lesser of what was found and what is found. -/
def less (m : Int) (d : Int) : Int := if d < m then d else m
def outer (y : List S90) (m : Int) (x : S90) : Int := y.foldl (fun m j => less m (ap x j)) m
def least (x y : List S90) : Int × Int := match x, y with
  | x0 :: xs, y0 :: ys => ((x0 :: xs).foldl (outer (y0 :: ys)) (ap x0 y0), 0)
  | _, _ => (0, 6)
theorem specLoop (x y : List S90) (hx : FitJ x) (hy : FitJ y) (lx : x.length ≤ 1048576) (ly : y.length ≤ 1048576) (m : Int) :
    Ev (fun k => spec_LeastApart.l0 k x y m 0) (x.foldl (outer y) m, 0) := by
  refine fold_cps0 x (fun c m => outer y m c) (fun k m i => spec_LeastApart.l0 k x y m i) _ (fun _ _ => True) m trivial (fun _ _ _ _ => trivial) (fun m i hi _ hr => ?_) (fun _ => ?_)
  · refine Ev.step (fun k => by rw [spec_LeastApart.l0]) (Ev.pos (by omega) ?_)
    refine fold_cps0 y (fun j m => less m (ap x[i] j)) (fun k m j => spec_LeastApart.l1 k x y m i j) _ (fun _ _ => True) m trivial (fun _ _ _ _ => trivial) (fun m j hj _ hr2 => ?_) (fun _ => ?_)
    · have ha := w64 (x := (j : Int) + 1) (by omega) (by omega)
      refine Ev.step (fun k => by rw [spec_LeastApart.l1]) (Ev.pos (by omega) (Ev.pos (by omega) (Ev.pos (by omega) (Ev.pos (by omega) ?_))))
      rw [rdJ x i hi, rdJ y j hj, ha]
      refine Ev.nobind (specAp (hx _ (List.getElem_mem hi)) (hy _ (List.getElem_mem hj))) (Ev.nobind (a := less m (ap x[i] y[j])) ?_ hr2)
      unfold spec_l00Min.f less; split <;> split <;> first | rfl | (congr 1; omega)
    · have ha := w64 (x := (i : Int) + 1) (by omega) (by omega)
      refine Ev.step (fun k => by rw [spec_LeastApart.l1]) (Ev.neg (by omega) ?_)
      rw [ha]; exact hr
  · exact Ev.step (fun k => by rw [spec_LeastApart.l0]) (Ev.neg (by omega) (Ev.fin rfl))
def la (a b : List Int) (s : Int) : Int × Int := if both a b s = 0 then least (jts a s) (jts b s) else (0, both a b s)
theorem both0 {a b : List Int} {s : Int} (h : both a b s = 0) : (1 ≤ a.length ∧ a.length ≤ 60) ∧ 1 ≤ b.length ∧ b.length ≤ 60 := by
  unfold both at h
  cases e : okB a && okB b with
  | false => rw [e] at h; simp at h
  | true =>
    rw [Bool.and_eq_true] at e
    unfold okB at e
    rw [Bool.and_eq_true, Bool.and_eq_true, inB_iff, inB_iff] at e
    omega
theorem specLA {a b : List Int} (ha : Fit a) (hb : Fit b) (s : Int) (la_ : a.length ≤ 1048576) (lb_ : b.length ≤ 1048576) : Ev (fun k => spec_LeastApart.f k a b s) (la a b s) := by
  unfold spec_LeastApart.f la
  refine Ev.bind (specBoth ha hb s) (Ev.ite (fun e => ?_) (fun e => by rw [if_neg e]; exact Ev.fin rfl))
  rw [if_pos e]
  have hl := both0 e
  refine Ev.bind (specJoints a s la_ hl.1.1) (Ev.bind (specJoints b s lb_ hl.2.1) ?_)
  have fx := jts_fit a s
  have fy := jts_fit b s
  have lx : (jts a s).length ≤ 1048576 := by rw [jts_length]; omega
  have ly : (jts b s).length ≤ 1048576 := by rw [jts_length]; omega
  generalize jts a s = x at fx lx ⊢
  generalize jts b s = y at fy ly ⊢
  cases x with
  | nil =>
    refine Ev.pos rfl (Ev.step (fun k => by rw [spec_LeastApart.j0]) ?_)
    exact Ev.pos rfl (Ev.fin rfl)
  | cons x0 xs =>
    refine Ev.neg (by simp <;> omega) (Ev.step (fun k => by rw [spec_LeastApart.j0]) ?_)
    cases y with
    | nil => exact Ev.pos rfl (Ev.fin rfl)
    | cons y0 ys =>
      refine Ev.neg (by simp <;> omega) (Ev.pos (by simp <;> omega) (Ev.pos (by simp <;> omega) ?_))
      have e0 : rd_T90 (x0 :: xs) 0 = x0 := rfl
      have e1 : rd_T90 (y0 :: ys) 0 = y0 := rfl
      rw [e0, e1]
      exact Ev.nobind (specAp (fx _ (by simp)) (fy _ (by simp))) (specLoop (x0 :: xs) (y0 :: ys) fx fy lx ly _)
/-- The program's state: what was found, and whether. -/
def lessF (s : Int × Bool) (d : Int) : Int × Bool := if s.2 then (less s.1 d, true) else (d, true)
theorem implInner (x : S90) (y : List S90) : ∀ m, y.foldl (fun s j => lessF s (ap x j)) (m, true) = (outer y m x, true) := by
  unfold outer
  induction y with
  | nil => intro m; rfl
  | cons j y ih => intro m; simp only [List.foldl_cons, lessF, if_true]; exact ih _
theorem implOuter (x y : List S90) : ∀ m, x.foldl (fun s c => y.foldl (fun s j => lessF s (ap c j)) s) (m, true) = (x.foldl (outer y) m, true) := by
  induction x with
  | nil => intro m; rfl
  | cons c x ih => intro m; simp only [List.foldl_cons]; rw [implInner]; exact ih _
theorem implFold (x y : List S90) : (let s := x.foldl (fun s c => y.foldl (fun s j => lessF s (ap c j)) s) ((0 : Int), false); if s.2 = true then (s.1, (0 : Int)) else (0, 6)) = least x y := by
  cases x with
  | nil => rfl
  | cons x0 xs =>
    cases y with
    | nil =>
      have : ∀ (xs : List S90) (s : Int × Bool), xs.foldl (fun s c => ([] : List S90).foldl (fun s j => lessF s (ap c j)) s) s = s := by
        intro xs; induction xs with
        | nil => intro s; rfl
        | cons c xs ih => intro s; exact ih s
      rw [this]; rfl
    | cons y0 ys =>
      have e1 : (y0 :: ys).foldl (fun s j => lessF s (ap x0 j)) ((0 : Int), false) = ((y0 :: ys).foldl (fun m j => less m (ap x0 j)) (ap x0 y0), true) := by
        simp only [List.foldl_cons]
        have h0 : lessF ((0 : Int), false) (ap x0 y0) = (ap x0 y0, true) := rfl
        have h1 : less (ap x0 y0) (ap x0 y0) = ap x0 y0 := by unfold less; simp
        rw [h0, h1, implInner]; rfl
      have e2 : (x0 :: xs).foldl (fun s c => (y0 :: ys).foldl (fun s j => lessF s (ap c j)) s) ((0 : Int), false) = (xs.foldl (outer (y0 :: ys)) (outer (y0 :: ys) (ap x0 y0) x0), true) := by
        rw [List.foldl_cons, e1, implOuter]; rfl
      rw [e2]; rfl
theorem implLA {a b : List Int} (ha : Fit a) (hb : Fit b) (s : Int) (la_ : a.length ≤ 1048576) (lb_ : b.length ≤ 1048576) : Ev (fun k => impl_LeastApart.f k a b s) (la a b s) := by
  have core : both a b s = 0 → Ev (fun k => impl_LeastApart.j0 k a b s 0) (la a b s) := by
    intro e
    unfold la
    rw [if_pos e]
    have hl := both0 e
    refine Ev.step (fun k => by rw [impl_LeastApart.j0]) (Ev.pos rfl (Ev.bind (implJoints a s la_ hl.1.1) ?_))
    have hy := implJoints b s lb_ hl.2.1
    have fx := jts_fit a s
    have fy := jts_fit b s
    have lx : (jts a s).length ≤ 1048576 := by rw [jts_length]; omega
    have ly : (jts b s).length ≤ 1048576 := by rw [jts_length]; omega
    generalize jts a s = x at fx lx ⊢
    generalize jts b s = y at fy ly hy ⊢
    rw [← implFold x y]
    refine fold_cps0 x (fun c (t : Int × Bool) => y.foldl (fun s j => lessF s (ap c j)) t) (fun k t i => impl_LeastApart.l0 k b s t.1 t.2 x (x.length : Int) i) _ (fun _ _ => True) ((0 : Int), false) trivial (fun _ _ _ _ => trivial) (fun t i hi _ hr => ?_) (fun _ => ?_)
    · refine Ev.step (fun k => by rw [impl_LeastApart.l0]) (Ev.pos (by omega) (Ev.pos (by omega) (Ev.pos (by omega) (Ev.bind hy ?_))))
      rw [rdJ x i hi]
      refine fold_cps0 y (fun j (t : Int × Bool) => lessF t (ap x[i] j)) (fun k t j => impl_LeastApart.l1 k b s t.1 t.2 x (x.length : Int) i y (y.length : Int) j x[i].f0 x[i].f1) _ (fun _ _ => True) t trivial (fun _ _ _ _ => trivial) (fun t j hj _ hr2 => ?_) (fun _ => ?_)
      · have ha := w64 (x := (j : Int) + 1) (by omega) (by omega)
        refine Ev.step (fun k => by rw [impl_LeastApart.l1]) (Ev.pos (by omega) (Ev.pos (by omega) (Ev.pos (by omega) ?_)))
        rw [rdJ y j hj, ha]
        refine Ev.nobind (implAp (fx _ (List.getElem_mem hi)) (fy _ (List.getElem_mem hj))) ?_
        obtain ⟨m, b0⟩ := t
        cases b0 with
        | true =>
          refine Ev.pos rfl (Ev.ite (fun e => ?_) (fun e => ?_))
          · have e' : lessF (m, true) (ap x[i] y[j]) = (ap x[i] y[j], true) := by simp [lessF, less, e]
            rw [e'] at hr2; exact hr2
          · have e' : lessF (m, true) (ap x[i] y[j]) = (m, true) := by simp [lessF, less, e]
            rw [e'] at hr2; exact hr2
        | false => exact Ev.neg (by simp) hr2
      · have ha := w64 (x := (i : Int) + 1) (by omega) (by omega)
        refine Ev.step (fun k => by rw [impl_LeastApart.l1]) (Ev.neg (by omega) ?_)
        rw [ha]; exact hr
    · refine Ev.step (fun k => by rw [impl_LeastApart.l0]) (Ev.neg (by omega) ?_)
      refine Ev.ite (fun e => Ev.fin ?_) (fun e => Ev.fin ?_)
      · simp only [if_pos e]
      · simp only [if_neg e]
  have other : ∀ c, c ≠ 0 → both a b s = c → Ev (fun k => impl_LeastApart.j0 k a b s c) (la a b s) := by
    intro c hc e
    unfold la
    rw [if_neg (by omega), e]
    exact Ev.step (fun k => by rw [impl_LeastApart.j0]) (Ev.neg hc (Ev.fin rfl))
  unfold impl_LeastApart.f
  refine Ev.nobind (implValid ha) ?_
  cases e1 : okB a with
  | false =>
    refine Ev.neg (by simp) (Ev.nobind (implSeam s) (Ev.nobind (codeOf _ _) ?_))
    exact other 1 (by decide) (by unfold both; rw [e1]; rfl)
  | true =>
    refine Ev.pos rfl (Ev.nobind (implValid hb) (Ev.nobind (implSeam s) (Ev.nobind (codeOf _ _) ?_)))
    cases e2 : okB b with
    | false => exact other 1 (by decide) (by unfold both; rw [e1, e2]; rfl)
    | true =>
      cases e3 : inB s 0 200 with
      | false => exact other 2 (by decide) (by unfold both; rw [e1, e2, e3]; rfl)
      | true => exact core (by unfold both; rw [e1, e2, e3]; rfl)
end Go.Proofs.Ythgdpieoodohcaa.ApartKit
