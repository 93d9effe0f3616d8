/- The program's CheckBars answers what the reference's CheckBars answers, at all numbers and lists; no condition. -/
import Derived.Test.YtabflbpcdkhnaaaPlanKit
import Derived.Test.YtabflbpcdkhnaaaPAxf5
namespace Go.Proofs.Ytabflbpcdkhnaaa.Pure
set_option linter.unusedSimpArgs false
set_option linter.unusedVariables false
open Go.RowKit Go.Proofs.Ytabflbpcdkhnaaa.PA Go.Proofs.Ytabflbpcdkhnaaa.Base Go.Proofs.Ytabflbpcdkhnaaa.BarsKit Go.Proofs.Ytabflbpcdkhnaaa.UseKit Go.Proofs.Ytabflbpcdkhnaaa.PlanKit Go.Proofs.YtabflbpcdkhnaaaW.PrintWords Go.Proofs.YtabflbpcdkhnaaaW.PrintLast Go.Proofs.YtabflbpcdkhnaaaW.PrintMore

def res (a s : Int) (p : List Int) (bars : List (List Int)) : Bool × Int := if barB a s p then (planB a s p bars, 0) else (false, 2)
theorem specRes (a s : Int) (p : List Int) (bars : List (List Int)) (hp : p.length ≤ 1048576) (hl : bars.length ≤ 1048576) (hf : bars.flatten.length ≤ 1048576) : Ev (fun k => spec_CheckBars.f k a s p bars) (res a s p bars) := by
  unfold spec_CheckBars.f res
  refine Ev.bind (specBars a s p hp) ?_
  cases e : barB a s p with
  | false => exact Ev.neg (by simp) (Ev.fin rfl)
  | true => exact Ev.pos rfl (Ev.bind (specPlan (small_of e) (bar_of e).2.2.1 bars hl hf) (Ev.fin rfl))
theorem implRes (a s : Int) (p : List Int) (bars : List (List Int)) (hl : bars.length ≤ 1048576) (hf : bars.flatten.length ≤ 1048576) : Ev (fun k => impl_CheckBars.f k a s p bars) (res a s p bars) := by
  unfold impl_CheckBars.f res
  refine Ev.nobind (implBars a s p) ?_
  cases e : barB a s p with
  | false => exact Ev.neg (by simp) (Ev.fin rfl)
  | true => exact Ev.pos rfl (Ev.bind (implPlan (small_of e) (bar_of e).2.2.1 bars hl hf) (Ev.fin rfl))
theorem FnExactCheckBars : laws_FnExactCheckBars.Pure := by
  intro a0 a1 l2 l3 w0 w1 m2 y2 w2 w3
  refine Ev.rounds (g := fun k => laws_FnExactCheckBars.f k a0 a1 l2 l3) ?_
  unfold laws_FnExactCheckBars.f
  refine Ev.ite (fun _ => Ev.fin rfl) (fun h0 => ?_)
  obtain ⟨v, hv, hv2⟩ := sizes l3 w3.1 (fun x hx => (w3.2 x hx).1)
  refine Ev.bind hv (Ev.ite (fun _ => Ev.fin rfl) (fun h1 => ?_))
  have h2 : l3.length ≤ 1048576 ∧ l3.flatten.length ≤ 1048576 := by
    rcases hv2 with h | h
    · exact absurd h h1
    · exact h
  have hb : ∀ x ∈ l3, x.length ≤ 1048576 := fun x hx => Nat.le_trans (part_le hx) h2.2
  have t2 := toInts l2 (by omega)
  have t3 := toIntss l3 h2.1 hb
  have hs := specRes a0 a1 l2 l3 (by omega) h2.1 h2.2
  have hi := implRes a0 a1 l2 l3 h2.1 h2.2
  generalize res a0 a1 l2 l3 = u at hs hi
  refine Ev.bind t2 (Ev.bind t3 (Ev.bind hs (Ev.bind t2 (Ev.bind t3 (Ev.bind hi (Ev.neg (by simp) ?_))))))
  refine Ev.step (fun k => by rw [laws_FnExactCheckBars.j0]) ?_
  exact Ev.neg (by simp) (Ev.bind t2 (Ev.bind (eqInts l2 l2 (by omega)) (Ev.pos (by simp) (Ev.bind t3 (Ev.bind (eqIntss l3 h2.1 hb) (Ev.pos rfl (Ev.fin rfl)))))))

end Go.Proofs.Ytabflbpcdkhnaaa.Pure
