/- The program's MirrorStone answers what the reference's MirrorStone answers, at all lists of corners and all numbers; no condition. -/
import Derived.Test.YtdklfcanifmnpaaStonesKit
import Derived.Test.YtdklfcanifmnpaaPAxf4
namespace Go.Proofs.Ytdklfcanifmnpaa.Pure
set_option linter.unusedSimpArgs false
set_option linter.unusedVariables false
open Go.RowKit Go.Proofs.Ytdklfcanifmnpaa.PA Go.Proofs.Ytdklfcanifmnpaa.Base Go.Proofs.Ytdklfcanifmnpaa.StonesKit Go.Proofs.YtdklfcanifmnpaaW.PrintWords Go.Proofs.YtdklfcanifmnpaaW.PrintLast Go.Proofs.YtdklfcanifmnpaaW.PrintMore

def mir (c : S56) : S56 := ⟨IntKind.i16.wrap (-c.f0), c.f1⟩
def res (l : List S56) : List S56 × Int := if okS l = true then ((l.map mir).reverse, 0) else ([], 1)
theorem res_length (l : List S56) (h : l.length ≤ 1048576) : (res l).1.length ≤ 1048576 := by
  unfold res; split <;> simp; exact h
theorem specRes {l : List S56} (hf : Fit l) (hl : l.length ≤ 1048576) : Ev (fun k => spec_MirrorStone.f k l) (res l) := by
  unfold spec_MirrorStone.f res
  refine Ev.bind (specOk hf) (Ev.ite (fun e => ?_) (fun e => by rw [if_neg e]; exact Ev.fin rfl))
  rw [if_pos e]
  have key : ∀ (d : Nat) (s : List S56), d ≤ l.length → s.length + d = l.length → Ev (fun k => spec_MirrorStone.l0 k l s ((d : Int) - 1)) (s ++ ((l.take d).map mir).reverse, 0) := by
    intro d
    induction d with
    | zero =>
      intro s hd hs
      exact Ev.step (fun k => by rw [spec_MirrorStone.l0]) (Ev.neg (by omega) (Ev.fin (by simp)))
    | succ d ih =>
      intro s hd hs
      have e1 : ((d + 1 : Nat) : Int) - 1 = (d : Int) := by omega
      have ha := w64 (x := (d : Int) - 1) (by omega) (by omega)
      rw [e1]
      refine Ev.step (fun k => by rw [spec_MirrorStone.l0]) (Ev.pos (by omega) (Ev.pos (by omega) (Ev.pos (by omega) (Ev.pos (by omega) ?_))))
      rw [rdC l d (by omega), ha]
      refine Ev.to (ih _ (by omega) (by simp; omega)) ?_
      rw [List.take_succ_eq_append_getElem (by omega), List.map_append, List.reverse_append, List.append_assoc]
      rfl
  rw [w64 (by omega) (by omega)]
  exact Ev.to (key l.length [] (by omega) (by simp)) (by simp)
theorem implRes {l : List S56} (hf : Fit l) (hl : l.length ≤ 1048576) : Ev (fun k => impl_MirrorStone.f k l) (res l) := by
  unfold impl_MirrorStone.f res
  refine Ev.bind (implOk hf) (Ev.ite (fun e => ?_) (fun e => by rw [if_neg e]; exact Ev.fin rfl))
  rw [if_pos e]
  have key : ∀ (d : Nat) (s : List S56), d ≤ l.length → s.length + d = l.length → Ev (fun k => impl_MirrorStone.l0 k l s ((d : Int) - 1)) (s ++ ((l.take d).map mir).reverse, 0) := by
    intro d
    induction d with
    | zero =>
      intro s hd hs
      exact Ev.step (fun k => by rw [impl_MirrorStone.l0]) (Ev.neg (by omega) (Ev.fin (by simp)))
    | succ d ih =>
      intro s hd hs
      have e1 : ((d + 1 : Nat) : Int) - 1 = (d : Int) := by omega
      have ha := w64 (x := (d : Int) - 1) (by omega) (by omega)
      rw [e1]
      refine Ev.step (fun k => by rw [impl_MirrorStone.l0]) (Ev.pos (by omega) (Ev.pos (by omega) (Ev.pos (by omega) (Ev.pos (by omega) ?_))))
      rw [rdC l d (by omega), ha]
      refine Ev.to (ih _ (by omega) (by simp; omega)) ?_
      rw [List.take_succ_eq_append_getElem (by omega), List.map_append, List.reverse_append, List.append_assoc]
      rfl
  rw [w64 (by omega) (by omega)]
  exact Ev.to (key l.length [] (by omega) (by simp)) (by simp)
theorem FnExactMirrorStone : laws_FnExactMirrorStone.Pure := by
  intro l0 w0
  have hf := fit_of w0
  refine Ev.rounds (g := fun k => laws_FnExactMirrorStone.f k l0) ?_
  unfold laws_FnExactMirrorStone.f
  refine Ev.nobind (szStone l0 w0.1) (Ev.ite (fun _ => Ev.fin rfl) (fun h0 => ?_))
  have hl : l0.length ≤ 1048576 := by split at h0 <;> omega
  have t0 := toStone l0 hl
  have hj := res_length (l0.map conv) (by simpa using hl)
  have hs := specRes hf (by simpa using hl)
  have hi := implRes hf (by simpa using hl)
  have hm : (l0.map conv).length ≤ 1048576 := by simpa using hl
  generalize l0.map conv = l at t0 hs hi hj hm
  generalize res l = v at hj hs hi
  have hq := eqStone v.1 hj
  refine Ev.bind t0 (Ev.bind hs (Ev.bind t0 (Ev.bind hi (Ev.bind hq (Ev.pos rfl ?_)))))
  refine Ev.step (fun k => by rw [laws_FnExactMirrorStone.j0]) ?_
  refine Ev.neg (by simp) (Ev.bind t0 (Ev.bind (eqStone l hm) (Ev.pos rfl ?_)))
  refine Ev.bind (markStone l hm) (Ev.neg (by show ¬ (1 + 2 * (l.length : Int) < 0); omega) (Ev.bind hq (Ev.pos rfl ?_)))
  refine Ev.step (fun k => by rw [laws_FnExactMirrorStone.j1]) ?_
  refine Ev.neg (by simp) ?_
  refine Ev.bind (markStone v.1 hj) (Ev.bind (heldStone v.1.length hj) ?_)
  refine Ev.neg (by omega) (Ev.pos rfl ?_)
  refine Ev.bind t0 (Ev.bind hi (Ev.bind hq (Ev.pos rfl ?_)))
  refine Ev.step (fun k => by rw [laws_FnExactMirrorStone.j2]) ?_
  refine Ev.neg (by simp) (Ev.bind (heldStone v.1.length hj) ?_)
  refine Ev.neg (by omega) ?_
  exact Ev.pos rfl (Ev.fin rfl)

end Go.Proofs.Ytdklfcanifmnpaa.Pure
