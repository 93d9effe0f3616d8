/- The program's FewestStones answers what the reference's FewestStones answers, at all numbers and sizes; no condition. -/
import Derived.Test.YtjkjelfhdhcplaaFewBack
import Derived.Test.YtjkjelfhdhcplaaRowsKit
import Derived.Test.YtjkjelfhdhcplaaPAxf6
namespace Go.Proofs.Ytjkjelfhdhcplaa.Pure
set_option linter.unusedSimpArgs false
set_option linter.unusedVariables false
open Go.RowKit Go.Proofs.Ytjkjelfhdhcplaa.PA Go.Proofs.Ytjkjelfhdhcplaa.Base Go.Proofs.Ytjkjelfhdhcplaa.RowsKit Go.Proofs.Ytjkjelfhdhcplaa.RowsFns Go.Proofs.Ytjkjelfhdhcplaa.SizesKit Go.Proofs.Ytjkjelfhdhcplaa.FewKit Go.Proofs.YtjkjelfhdhcplaaW.PrintWords Go.Proofs.YtjkjelfhdhcplaaW.PrintLast Go.Proofs.YtjkjelfhdhcplaaW.PrintMore

theorem FnExactFewestStones : laws_FnExactFewestStones.Pure := by
  intro a0 a1 l2 w0 w1 m2 y2 w2
  refine Ev.rounds (g := fun k => laws_FnExactFewestStones.f k a0 a1 l2) ?_
  unfold laws_FnExactFewestStones.f
  refine Ev.ite (fun _ => Ev.fin rfl) (fun h0 => ?_)
  have t0 := toInts l2 (by omega)
  obtain ⟨r, hr, hs, hi⟩ := both a0 a1 l2 (by omega)
  have hq := eqRow r.1 r.1 (by omega)
  refine Ev.bind t0 (Ev.bind hs (Ev.bind t0 (Ev.bind hi (Ev.bind hq (Ev.pos (by simp) ?_)))))
  refine Ev.step (fun k => by rw [laws_FnExactFewestStones.j0]) ?_
  obtain ⟨m, hm, hm0⟩ : ∃ m, Ev (fun k => laws_markInt64S.f k l2 1) m ∧ 0 ≤ m.1 := by
    unfold laws_markInt64S.f
    exact ⟨_, mark_loop id (laws_markInt64S.l0 · · · ·) (fun k x j i => by rw [laws_markInt64S.l0]; rfl) l2.length 0 1 l2 (by omega) (by omega) (by omega) (by omega), by simp; omega⟩
  refine Ev.neg (by simp) (Ev.bind t0 (Ev.bind (eqInts l2 l2 (by omega)) (Ev.pos (by simp) (Ev.bind hm (Ev.neg (by omega) (Ev.bind hq (Ev.pos (by simp) ?_)))))))
  refine Ev.step (fun k => by rw [laws_FnExactFewestStones.j1]) ?_
  refine Ev.neg (by simp) (Ev.bind (markRow r.1 (by omega)) (Ev.bind (heldRow r.1.length (by omega)) (Ev.neg (by omega) (Ev.pos rfl ?_))))
  refine Ev.bind t0 (Ev.bind hi (Ev.bind hq (Ev.pos (by simp) ?_)))
  refine Ev.step (fun k => by rw [laws_FnExactFewestStones.j2]) ?_
  refine Ev.neg (by simp) (Ev.bind (heldRow r.1.length (by omega)) (Ev.neg (by omega) ?_))
  exact Ev.pos rfl (Ev.fin rfl)

end Go.Proofs.Ytjkjelfhdhcplaa.Pure
