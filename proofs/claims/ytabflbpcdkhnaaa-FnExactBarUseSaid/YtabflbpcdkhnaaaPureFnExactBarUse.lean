/- The program's BarUse answers what the reference's BarUse answers, at all numbers and lists; no condition. -/
import Derived.Test.YtabflbpcdkhnaaaUseKit
import Derived.Test.YtabflbpcdkhnaaaPAxf3
namespace Go.Proofs.Ytabflbpcdkhnaaa.Pure
set_option linter.unusedSimpArgs false
set_option linter.unusedVariables false
open Go.RowKit Go.Proofs.Ytabflbpcdkhnaaa.PA Go.Proofs.Ytabflbpcdkhnaaa.Base Go.Proofs.Ytabflbpcdkhnaaa.BarsKit Go.Proofs.Ytabflbpcdkhnaaa.UseKit Go.Proofs.YtabflbpcdkhnaaaW.PrintWords Go.Proofs.YtabflbpcdkhnaaaW.PrintLast Go.Proofs.YtabflbpcdkhnaaaW.PrintMore

def res (p : List Int) (s : Int) (l : List Int) : Int × Int := if barB 10000 s p then (if ixB (p.length : Int) l then (use p s l, 0) else (0, 2)) else (0, 2)
theorem specRes (p : List Int) (s : Int) (l : List Int) (hp : p.length ≤ 1048576) (hl : l.length ≤ 1048576) : Ev (fun k => spec_BarUse.f k p s l) (res p s l) := by
  unfold spec_BarUse.f res
  refine Ev.bind (specBars 10000 s p hp) ?_
  cases e : barB 10000 s p with
  | false => exact Ev.neg (by simp) (Ev.fin rfl)
  | true =>
    refine Ev.pos rfl (Ev.bind (specIndexed l (p.length : Int) hl (by omega)) ?_)
    cases e2 : ixB (p.length : Int) l with
    | false => exact Ev.neg (by simp) (Ev.fin rfl)
    | true => exact Ev.pos rfl (Ev.bind (specUse (small_of e) l hl (ix_of e2)) (Ev.fin rfl))
theorem implRes (p : List Int) (s : Int) (l : List Int) (hp : p.length ≤ 1048576) (hl : l.length ≤ 1048576) : Ev (fun k => impl_BarUse.f k p s l) (res p s l) := by
  unfold impl_BarUse.f res
  refine Ev.nobind (implBars 10000 s p) ?_
  cases e : barB 10000 s p with
  | false => exact Ev.neg (by simp) (Ev.fin rfl)
  | true =>
    refine Ev.pos rfl (Ev.bind (implIndexed p l hl hp) ?_)
    cases e2 : ixB (p.length : Int) l with
    | false => exact Ev.neg (by simp) (Ev.fin rfl)
    | true => exact Ev.pos rfl (Ev.bind (implUse (small_of e) l hl (ix_of e2)) (Ev.fin rfl))
theorem FnExactBarUse : laws_FnExactBarUse.Pure := by
  intro l0 a1 l2 m0 y0 w0 w1 m2 y2 w2
  refine Ev.rounds (g := fun k => laws_FnExactBarUse.f k l0 a1 l2) ?_
  unfold laws_FnExactBarUse.f
  refine Ev.ite (fun _ => Ev.fin rfl) (fun h0 => Ev.ite (fun _ => Ev.fin rfl) (fun h1 => ?_))
  have t0 := toInts l0 (by omega)
  have t2 := toInts l2 (by omega)
  refine Ev.bind t0 (Ev.bind t2 (Ev.bind (specRes l0 a1 l2 (by omega) (by omega)) (Ev.bind t0 (Ev.bind t2 (Ev.bind (implRes l0 a1 l2 (by omega) (by omega)) (Ev.pos rfl ?_))))))
  refine Ev.step (fun k => by rw [laws_FnExactBarUse.j0]) ?_
  exact Ev.neg (by simp) (Ev.bind t0 (Ev.bind (eqInts l0 l0 (by omega)) (Ev.pos (by simp) (Ev.bind t2 (Ev.bind (eqInts l2 l2 (by omega)) (Ev.pos (by simp) (Ev.fin rfl)))))))

end Go.Proofs.Ytabflbpcdkhnaaa.Pure
