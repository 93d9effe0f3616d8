/- The program's LongBound answers what the reference's LongBound answers, at all numbers and lists; no condition. -/
import Derived.Test.YtaofmbifefbniaaBarsKit
import Derived.Test.YtaofmbifefbniaaPAxf3
namespace Go.Proofs.Ytaofmbifefbniaa.Pure
set_option linter.unusedSimpArgs false
set_option linter.unusedVariables false
open Go.RowKit Go.Proofs.Ytaofmbifefbniaa.PA Go.Proofs.Ytaofmbifefbniaa.Base Go.Proofs.Ytaofmbifefbniaa.BarsKit Go.Proofs.YtaofmbifefbniaaW.PrintWords Go.Proofs.YtaofmbifefbniaaW.PrintLast Go.Proofs.YtaofmbifefbniaaW.PrintMore

def cnt (a s x c : Int) : Int := if wrap64 (wrap64 (2 * x) + s) > a then wrap64 (c + 1) else c
def long (a s : Int) (l : List Int) : Int × Int := scan (fun _ x c => .inr (cnt a s x c) : Int → Int → Int → (Int × Int) ⊕ Int) (fun c => (c, 0)) l 0 0
def res (a s : Int) (l : List Int) : Int × Int := if barB a s l then long a s l else (0, 2)
theorem specRes (a s : Int) (l : List Int) (hl : l.length ≤ 1048576) : Ev (fun k => spec_LongBound.f k a s l) (res a s l) := by
  unfold spec_LongBound.f res
  refine Ev.bind (specBars a s l hl) ?_
  cases barB a s l with
  | false => exact Ev.neg (by simp) (Ev.fin rfl)
  | true =>
    refine Ev.pos rfl ?_
    refine scan_loop0 l (fun _ x c => .inr (cnt a s x c) : Int → Int → Int → (Int × Int) ⊕ Int) (fun c => (c, 0)) (spec_LongBound.l0 · a s l · ·) 0 (by omega) (fun k c i h0 h1 => ?_) (fun k c i h1 => ?_)
    · show spec_LongBound.l0 (k + 1) a s l c i = _
      rw [spec_LongBound.l0, if_pos h1, if_pos h0]
      unfold cnt; split <;> rfl
    · show spec_LongBound.l0 (k + 1) a s l c i = _
      rw [spec_LongBound.l0, if_neg h1]
theorem implRes (a s : Int) (l : List Int) (hl : l.length ≤ 1048576) : Ev (fun k => impl_LongBound.f k a s l) (res a s l) := by
  unfold impl_LongBound.f res
  refine Ev.nobind (implBars a s l) ?_
  cases barB a s l with
  | false => exact Ev.neg (by simp) (Ev.fin rfl)
  | true =>
    refine Ev.pos rfl ?_
    refine scan_loop0 l (fun _ x c => .inr (cnt a s x c) : Int → Int → Int → (Int × Int) ⊕ Int) (fun c => (c, 0)) (fun k c i => impl_LongBound.l0 k a s c l (l.length : Int) i) 0 (by omega) (fun k c i h0 h1 => ?_) (fun k c i h1 => ?_)
    · show impl_LongBound.l0 (k + 1) a s c l (l.length : Int) i = _
      rw [impl_LongBound.l0, if_pos h1, if_pos h0, if_pos h1]
      unfold cnt; split <;> rfl
    · show impl_LongBound.l0 (k + 1) a s c l (l.length : Int) i = _
      rw [impl_LongBound.l0, if_neg h1]
theorem FnExactLongBound : laws_FnExactLongBound.Pure := by
  intro a0 a1 l2 w0 w1 m2 y2 w2
  refine Ev.rounds (g := fun k => laws_FnExactLongBound.f k a0 a1 l2) ?_
  unfold laws_FnExactLongBound.f
  refine Ev.ite (fun _ => Ev.fin rfl) (fun h0 => ?_)
  have t0 := toInts l2 (by omega)
  refine Ev.bind t0 (Ev.bind (specRes a0 a1 l2 (by omega)) (Ev.bind t0 (Ev.bind (implRes a0 a1 l2 (by omega)) (Ev.pos rfl ?_))))
  refine Ev.step (fun k => by rw [laws_FnExactLongBound.j0]) ?_
  exact Ev.neg (by simp) (Ev.bind t0 (Ev.bind (eqInts l2 l2 (by omega)) (Ev.pos (by simp) (Ev.fin rfl))))

end Go.Proofs.Ytaofmbifefbniaa.Pure
