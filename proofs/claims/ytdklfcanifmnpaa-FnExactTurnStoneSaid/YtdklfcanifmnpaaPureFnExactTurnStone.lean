/- The program's TurnStone answers what the reference's TurnStone answers, at all lists of corners and all numbers; no condition. -/
import Derived.Test.YtdklfcanifmnpaaStonesKit
import Derived.Test.YtdklfcanifmnpaaPAxf5
namespace Go.Proofs.Ytdklfcanifmnpaa.Pure
set_option linter.unusedSimpArgs false
set_option linter.unusedVariables false
open Go.RowKit Go.Proofs.Ytdklfcanifmnpaa.PA Go.Proofs.Ytdklfcanifmnpaa.Base Go.Proofs.Ytdklfcanifmnpaa.StonesKit Go.Proofs.YtdklfcanifmnpaaW.PrintWords Go.Proofs.YtdklfcanifmnpaaW.PrintLast Go.Proofs.YtdklfcanifmnpaaW.PrintMore

def trn (c : S56) : S56 := ⟨IntKind.i16.wrap (-c.f1), c.f0⟩
def res (l : List S56) : List S56 × Int := if okS l = true then (l.map trn, 0) else ([], 1)
theorem res_length (l : List S56) (h : l.length ≤ 1048576) : (res l).1.length ≤ 1048576 := by
  unfold res; split <;> simp; exact h
theorem specRes {l : List S56} (hf : Fit l) (hl : l.length ≤ 1048576) : Ev (fun k => spec_TurnStone.f k l) (res l) := by
  unfold spec_TurnStone.f res
  refine Ev.bind (specOk hf) (Ev.ite (fun e => ?_) (fun e => by rw [if_neg e]; exact Ev.fin rfl))
  rw [if_pos e]
  refine fold_cps0 l (fun c (s : List S56) => s ++ [trn c]) (fun k s i => spec_TurnStone.l0 k l s i) _ (fun i s => s = (l.take i).map trn) [] (by simp) (fun s i h hi => ?_) (fun s i h hi hr => ?_) (fun hi => ?_)
  · rw [hi, List.take_succ_eq_append_getElem h, List.map_append]; rfl
  · have ha := w64 (x := (i : Int) + 1) (by omega) (by omega)
    have hsl : s.length ≤ 1048576 := by rw [hi]; simp; omega
    refine Ev.step (fun k => by rw [spec_TurnStone.l0]) (Ev.pos (by omega) (Ev.pos (by omega) (Ev.pos (by omega) ?_)))
    rw [rdC l i h, ha]; exact hr
  · refine Ev.step (fun k => by rw [spec_TurnStone.l0]) (Ev.neg (by omega) (Ev.fin ?_))
    rw [hi]; simp
theorem implRes {l : List S56} (hf : Fit l) (hl : l.length ≤ 1048576) : Ev (fun k => impl_TurnStone.f k l) (res l) := by
  unfold impl_TurnStone.f res
  refine Ev.bind (implOk hf) (Ev.ite (fun e => ?_) (fun e => by rw [if_neg e]; exact Ev.fin rfl))
  rw [if_pos e]
  refine fold_cps0 l (fun c (s : List S56) => s ++ [trn c]) (fun k s i => impl_TurnStone.l0 k s l (l.length : Int) i) _ (fun i s => s = (l.take i).map trn) [] (by simp) (fun s i h hi => ?_) (fun s i h hi hr => ?_) (fun hi => ?_)
  · rw [hi, List.take_succ_eq_append_getElem h, List.map_append]; rfl
  · have ha := w64 (x := (i : Int) + 1) (by omega) (by omega)
    have hsl : s.length ≤ 1048576 := by rw [hi]; simp; omega
    refine Ev.step (fun k => by rw [impl_TurnStone.l0]) (Ev.pos (by omega) (Ev.pos (by omega) (Ev.pos (by omega) (Ev.pos (by omega) ?_))))
    rw [rdC l i h, ha]; exact hr
  · refine Ev.step (fun k => by rw [impl_TurnStone.l0]) (Ev.neg (by omega) (Ev.fin ?_))
    rw [hi]; simp
theorem FnExactTurnStone : laws_FnExactTurnStone.Pure := by
  intro l0 w0
  have hf := fit_of w0
  refine Ev.rounds (g := fun k => laws_FnExactTurnStone.f k l0) ?_
  unfold laws_FnExactTurnStone.f
  refine Ev.nobind (szStone l0 w0.1) (Ev.ite (fun _ => Ev.fin rfl) (fun h0 => ?_))
  have hl : l0.length ≤ 1048576 := by split at h0 <;> omega
  have t0 := toStone l0 hl
  have hj := res_length (l0.map conv) (by simpa using hl)
  have hs := specRes hf (by simpa using hl)
  have hi := implRes hf (by simpa using hl)
  have hm : (l0.map conv).length ≤ 1048576 := by simpa using hl
  generalize l0.map conv = l at t0 hs hi hj hm
  generalize res l = v at hj hs hi
  have hq := eqStone v.1 hj
  refine Ev.bind t0 (Ev.bind hs (Ev.bind t0 (Ev.bind hi (Ev.bind hq (Ev.pos rfl ?_)))))
  refine Ev.step (fun k => by rw [laws_FnExactTurnStone.j0]) ?_
  refine Ev.neg (by simp) (Ev.bind t0 (Ev.bind (eqStone l hm) (Ev.pos rfl ?_)))
  refine Ev.bind (markStone l hm) (Ev.neg (by show ¬ (1 + 2 * (l.length : Int) < 0); omega) (Ev.bind hq (Ev.pos rfl ?_)))
  refine Ev.step (fun k => by rw [laws_FnExactTurnStone.j1]) ?_
  refine Ev.neg (by simp) ?_
  refine Ev.bind (markStone v.1 hj) (Ev.bind (heldStone v.1.length hj) ?_)
  refine Ev.neg (by omega) (Ev.pos rfl ?_)
  refine Ev.bind t0 (Ev.bind hi (Ev.bind hq (Ev.pos rfl ?_)))
  refine Ev.step (fun k => by rw [laws_FnExactTurnStone.j2]) ?_
  refine Ev.neg (by simp) (Ev.bind (heldStone v.1.length hj) ?_)
  refine Ev.neg (by omega) ?_
  exact Ev.pos rfl (Ev.fin rfl)

end Go.Proofs.Ytdklfcanifmnpaa.Pure
