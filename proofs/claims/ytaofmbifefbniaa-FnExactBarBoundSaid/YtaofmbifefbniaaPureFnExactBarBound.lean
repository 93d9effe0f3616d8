/- The program's BarBound answers what the reference's BarBound answers, at all numbers and lists; no condition. -/
import Derived.Test.YtaofmbifefbniaaBarsKit
import Derived.Test.YtaofmbifefbniaaPAxf30
import Derived.Test.YtaofmbifefbniaaPAxf31
import Derived.Test.YtaofmbifefbniaaPAxf4
namespace Go.Proofs.Ytaofmbifefbniaa.Pure
set_option linter.unusedSimpArgs false
set_option linter.unusedVariables false
open Go.RowKit Go.Proofs.Ytaofmbifefbniaa.PA Go.Proofs.Ytaofmbifefbniaa.Base Go.Proofs.Ytaofmbifefbniaa.BarsKit Go.Proofs.YtaofmbifefbniaaW.PrintWords Go.Proofs.YtaofmbifefbniaaW.PrintLast Go.Proofs.YtaofmbifefbniaaW.PrintMore

def sum (l : List Int) : Int := scan (fun _ x c => .inr (wrap64 (c + x)) : Int → Int → Int → Int ⊕ Int) id l 0 0
theorem specSum (l : List Int) (hl : l.length ≤ 1048576) : Ev (fun k => spec_l04Sum.f k l) (sum l) := by
  unfold spec_l04Sum.f
  refine scan_loop0 l (fun _ x c => .inr (wrap64 (c + x)) : Int → Int → Int → Int ⊕ Int) id (spec_l04Sum.l0 · l · ·) 0 (by omega) (fun k c i h0 h1 => ?_) (fun k c i h1 => ?_)
  · show spec_l04Sum.l0 (k + 1) l c i = _
    rw [spec_l04Sum.l0, if_pos h1, if_pos h0]
  · show spec_l04Sum.l0 (k + 1) l c i = _
    rw [spec_l04Sum.l0, if_neg h1]; rfl
theorem implSum (l : List Int) (hl : l.length ≤ 1048576) : Ev (fun k => impl_sumOf.f k l) (sum l) := by
  unfold impl_sumOf.f
  refine scan_loop0 l (fun _ x c => .inr (wrap64 (c + x)) : Int → Int → Int → Int ⊕ Int) id (fun k c i => impl_sumOf.l0 k c l (l.length : Int) i) 0 (by omega) (fun k c i h0 h1 => ?_) (fun k c i h1 => ?_)
  · show impl_sumOf.l0 (k + 1) c l (l.length : Int) i = _
    rw [impl_sumOf.l0, if_pos h1, if_pos h0, if_pos h1]
  · show impl_sumOf.l0 (k + 1) c l (l.length : Int) i = _
    rw [impl_sumOf.l0, if_neg h1]; rfl
def out (t a s n : Int) : Int := wrap64 (Int.tdiv (wrap64 ((wrap64 ((wrap64 ((wrap64 (t + (wrap64 (s * n)))) + a)) + s)) - 1)) (wrap64 (a + s)))
def res (a s : Int) (l : List Int) : Int × Int := if barB a s l then (out (sum l) a s (l.length : Int), 0) else (0, 2)
theorem specRes (a s : Int) (l : List Int) (hl : l.length ≤ 1048576) : Ev (fun k => spec_BarBound.f k a s l) (res a s l) := by
  unfold spec_BarBound.f res
  refine Ev.bind (specBars a s l hl) ?_
  cases e : barB a s l with
  | false => exact Ev.neg (by simp) (Ev.fin rfl)
  | true =>
    have h := bar_of e
    refine Ev.pos rfl (Ev.bind (specSum l hl) (Ev.neg ?_ (Ev.fin rfl)))
    rw [w64 (by omega) (by omega)]; omega
theorem implRes (a s : Int) (l : List Int) (hl : l.length ≤ 1048576) : Ev (fun k => impl_BarBound.f k a s l) (res a s l) := by
  unfold impl_BarBound.f res
  refine Ev.nobind (implBars a s l) ?_
  cases e : barB a s l with
  | false => exact Ev.neg (by simp) (Ev.fin rfl)
  | true =>
    have h := bar_of e
    refine Ev.pos rfl (Ev.bind (implSum l hl) (Ev.neg ?_ (Ev.fin ?_)))
    · rw [w64 (by omega) (by omega)]; omega
    · unfold out; rw [Int.mul_comm (l.length : Int) s]; rfl
theorem FnExactBarBound : laws_FnExactBarBound.Pure := by
  intro a0 a1 l2 w0 w1 m2 y2 w2
  refine Ev.rounds (g := fun k => laws_FnExactBarBound.f k a0 a1 l2) ?_
  unfold laws_FnExactBarBound.f
  refine Ev.ite (fun _ => Ev.fin rfl) (fun h0 => ?_)
  have t0 := toInts l2 (by omega)
  refine Ev.bind t0 (Ev.bind (specRes a0 a1 l2 (by omega)) (Ev.bind t0 (Ev.bind (implRes a0 a1 l2 (by omega)) (Ev.pos rfl ?_))))
  refine Ev.step (fun k => by rw [laws_FnExactBarBound.j0]) ?_
  exact Ev.neg (by simp) (Ev.bind t0 (Ev.bind (eqInts l2 l2 (by omega)) (Ev.pos (by simp) (Ev.fin rfl))))

end Go.Proofs.Ytaofmbifefbniaa.Pure
