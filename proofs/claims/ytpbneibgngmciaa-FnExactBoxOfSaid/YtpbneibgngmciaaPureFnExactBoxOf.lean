/- The program's BoxOf answers what the reference's BoxOf answers, at all lists of corners; no condition. -/
import Derived.Test.YtpbneibgngmciaaStonesKit
import Derived.Test.YtpbneibgngmciaaLoops2
import Derived.Test.YtpbneibgngmciaaPAxf15
import Derived.Test.YtpbneibgngmciaaPAxf16
import Derived.Test.YtpbneibgngmciaaPAxf17
import Derived.Test.YtpbneibgngmciaaPAxf37
import Derived.Test.YtpbneibgngmciaaPAxf38
import Derived.Test.YtpbneibgngmciaaPAxf4
namespace Go.Proofs.Ytpbneibgngmciaa.Pure
set_option linter.unusedSimpArgs false
set_option linter.unusedVariables false
open Go.RowKit Go.Proofs.Ytpbneibgngmciaa.PA Go.Proofs.Ytpbneibgngmciaa.Base Go.Proofs.Ytpbneibgngmciaa.StonesKit Go.Proofs.YtpbneibgngmciaaW.PrintWords Go.Proofs.YtpbneibgngmciaaW.PrintLast Go.Proofs.YtpbneibgngmciaaW.PrintMore

structure B4 where
  a : Int
  b : Int
  c : Int
  d : Int
def grow (s : B4) (p : S58) : B4 := ⟨mn s.a (wrap64 p.f0), mn s.b (wrap64 p.f1), mx s.c (wrap64 p.f0), mx s.d (wrap64 p.f1)⟩
def start (p : S58) : B4 := ⟨wrap64 p.f0, wrap64 p.f1, wrap64 p.f0, wrap64 p.f1⟩
def box (l : List S58) : B4 := (l.drop 1).foldl grow (start (l.getD 0 z58))
theorem same (p : S58) : grow (start p) p = start p := by
  unfold grow start mn mx
  simp
theorem specMin (x y : Int) : spec_l00Min.f x y = some (mn x y) := by
  unfold spec_l00Min.f mn
  by_cases c : x < y
  · rw [if_pos c]; split
    · omega
    · rfl
  · rw [if_neg c]; split
    · rfl
    · congr 1; omega
theorem specMax (x y : Int) : spec_l00Max.f x y = some (mx x y) := by
  unfold spec_l00Max.f mx
  by_cases c : x > y
  · rw [if_pos c]; split
    · omega
    · rfl
  · rw [if_neg c]; split
    · rfl
    · congr 1; omega
def tell (s : B4) (e : Int) : Int × Int × Int × Int × Int := (s.a, s.b, s.c, s.d, e)
theorem specLoop (l : List S58) (hl : l.length ≤ 1048576) : ∀ (d i : Nat) (s : B4), i + d = l.length → Ev (fun k => spec_BoxOf.l0 k l (i : Int) s.a s.b s.c s.d) (tell ((l.drop i).foldl grow s) 0) := by
  intro d
  induction d with
  | zero =>
    intro i s h
    rw [List.drop_of_length_le (by omega)]
    refine Ev.step (fun k => by rw [spec_BoxOf.l0]) ?_
    exact Ev.neg (by omega) (Ev.fin rfl)
  | succ d ih =>
    intro i s h
    have hi : i < l.length := by omega
    have hw := w64 (x := (i : Int) + 1) (by omega) (by omega)
    rw [drop_at l i hi, List.foldl_cons]
    refine Ev.step (fun k => by rw [spec_BoxOf.l0]) (Ev.pos (by omega) (Ev.pos (by omega) ?_))
    rw [rdC l i hi, hw]
    exact Ev.nobind (specMin _ _) (Ev.nobind (specMin _ _) (Ev.nobind (specMax _ _) (Ev.nobind (specMax _ _) (ih (i + 1) (grow s l[i]) (by omega)))))
theorem implLoop (l : List S58) (hl : l.length ≤ 1048576) : ∀ (d i : Nat) (s : B4), i + d = l.length → Ev (fun k => impl_BoxOf.l0 k l (l.length : Int) (i : Int) s.a s.b s.c s.d) (tell ((l.drop i).foldl grow s) 0) := by
  intro d
  induction d with
  | zero =>
    intro i s h
    rw [List.drop_of_length_le (by omega)]
    refine Ev.step (fun k => by rw [impl_BoxOf.l0]) ?_
    exact Ev.neg (by omega) (Ev.fin rfl)
  | succ d ih =>
    intro i s h
    have hi : i < l.length := by omega
    have hw := w64 (x := (i : Int) + 1) (by omega) (by omega)
    rw [drop_at l i hi, List.foldl_cons]
    refine Ev.step (fun k => by rw [impl_BoxOf.l0]) (Ev.pos (by omega) (Ev.pos (by omega) (Ev.pos (by omega) ?_)))
    rw [rdC l i hi, hw]
    exact ih (i + 1) (grow s l[i]) (by omega)
def res (l : List S58) : Int × Int × Int × Int × Int := if okS l then tell (box l) 0 else (0, 0, 0, 0, 1)
theorem rd0 (l : List S58) : rd_T58 l 0 = l.getD 0 z58 := rdC' l 0
theorem specRes {l : List S58} (hf : Fit l) : Ev (fun k => spec_BoxOf.f k l) (res l) := by
  unfold spec_BoxOf.f res
  refine Ev.bind (specOk hf) ?_
  cases e : okS l with
  | false => exact Ev.neg (by decide) (Ev.fin rfl)
  | true =>
    have hl := okS_len e
    refine Ev.pos rfl (Ev.pos (by omega) ?_)
    rw [rd0]
    exact specLoop l (by omega) (l.length - 1) 1 (start (l.getD 0 z58)) (by omega)
theorem implRes {l : List S58} (hf : Fit l) : Ev (fun k => impl_BoxOf.f k l) (res l) := by
  unfold impl_BoxOf.f res
  refine Ev.bind (implOk hf) ?_
  cases e : okS l with
  | false => exact Ev.neg (by decide) (Ev.fin rfl)
  | true =>
    have hl := okS_len e
    refine Ev.pos rfl (Ev.pos (by omega) ?_)
    rw [rd0]
    refine Ev.to (implLoop l (by omega) l.length 0 (start (l.getD 0 z58)) (by omega)) ?_
    have h0 : l.getD 0 z58 = l[0] := by rw [List.getD_eq_getElem?_getD, List.getElem?_eq_getElem (by omega)]; rfl
    rw [if_pos rfl]
    unfold box
    rw [drop_at l 0 (by omega), List.foldl_cons, h0, same]
theorem eq4 (a b c d : Int) : laws_eqInt64A4.f a b c d a b c d = some true := by
  unfold laws_eqInt64A4.f; simp
theorem FnExactBoxOf : laws_FnExactBoxOf.Pure := by
  intro l0 w0
  have hf := fit_of w0
  refine Ev.rounds (g := fun k => laws_FnExactBoxOf.f k l0) ?_
  unfold laws_FnExactBoxOf.f
  refine Ev.nobind (szStone l0 w0.1) (Ev.ite (fun _ => Ev.fin rfl) (fun h0 => ?_))
  have hl : l0.length ≤ 1048576 := by split at h0 <;> omega
  have t0 := toStone l0 hl
  refine Ev.bind t0 (Ev.bind (specRes hf) (Ev.bind t0 (Ev.bind (implRes hf) (Ev.nobind (eq4 _ _ _ _) (Ev.pos rfl ?_)))))
  refine Ev.step (fun k => by rw [laws_FnExactBoxOf.j0]) ?_
  exact Ev.neg (by simp) (Ev.bind t0 (Ev.bind (eqStone _ (by simpa using hl)) (Ev.pos rfl (Ev.fin rfl))))

end Go.Proofs.Ytpbneibgngmciaa.Pure
