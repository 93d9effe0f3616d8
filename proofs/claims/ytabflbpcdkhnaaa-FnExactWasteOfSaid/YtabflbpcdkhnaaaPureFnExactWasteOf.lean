/- The program's WasteOf answers what the reference's WasteOf answers, at all numbers and lists; no condition. -/
import Derived.Test.YtabflbpcdkhnaaaPlanKit
import Derived.Test.YtabflbpcdkhnaaaPAxf6
import Derived.Test.YtabflbpcdkhnaaaPAxgImpl
import Derived.Test.YtabflbpcdkhnaaaPAxgSpec
namespace Go.Proofs.Ytabflbpcdkhnaaa.Pure
set_option linter.unusedSimpArgs false
set_option linter.unusedVariables false
open Go.RowKit Go.Proofs.Ytabflbpcdkhnaaa.PA Go.Proofs.Ytabflbpcdkhnaaa.Base Go.Proofs.Ytabflbpcdkhnaaa.BarsKit Go.Proofs.Ytabflbpcdkhnaaa.UseKit Go.Proofs.Ytabflbpcdkhnaaa.PlanKit Go.Proofs.YtabflbpcdkhnaaaW.PrintWords Go.Proofs.YtabflbpcdkhnaaaW.PrintLast Go.Proofs.YtabflbpcdkhnaaaW.PrintMore

def sum (l : List Int) : Int := scan (fun _ x c => .inr (wrap64 (c + x)) : Int → Int → Int → Int ⊕ Int) id l 0 0
theorem specSum (l : List Int) (hl : l.length ≤ 1048576) : Ev (fun k => spec_l04Sum.f k l) (sum l) := by
  unfold spec_l04Sum.f
  refine scan_loop0 l (fun _ x c => .inr (wrap64 (c + x)) : Int → Int → Int → Int ⊕ Int) id (spec_l04Sum.l0 · l · ·) 0 (by omega) (fun k c i h0 h1 => ?_) (fun k c i h1 => ?_)
  · show spec_l04Sum.l0 (k + 1) l c i = _
    rw [spec_l04Sum.l0, if_pos h1, if_pos h0]
  · show spec_l04Sum.l0 (k + 1) l c i = _
    rw [spec_l04Sum.l0, if_neg h1]; rfl
theorem implSum (l : List Int) (hl : l.length ≤ 1048576) : Ev (fun k => impl_sumOf.f k l) (sum l) := by
  unfold impl_sumOf.f
  refine scan_loop0 l (fun _ x c => .inr (wrap64 (c + x)) : Int → Int → Int → Int ⊕ Int) id (fun k c i => impl_sumOf.l0 k c l (l.length : Int) i) 0 (by omega) (fun k c i h0 h1 => ?_) (fun k c i h1 => ?_)
  · show impl_sumOf.l0 (k + 1) c l (l.length : Int) i = _
    rw [impl_sumOf.l0, if_pos h1, if_pos h0, if_pos h1]
  · show impl_sumOf.l0 (k + 1) c l (l.length : Int) i = _
    rw [impl_sumOf.l0, if_neg h1]; rfl
def res (a s : Int) (p : List Int) (bars : List (List Int)) : Int × Int := if barB a s p then (if planB a s p bars then (wrap64 ((wrap64 (a * (bars.length : Int))) - sum p), 0) else (0, 8)) else (0, 2)
theorem specRes (a s : Int) (p : List Int) (bars : List (List Int)) (hp : p.length ≤ 1048576) (hl : bars.length ≤ 1048576) (hf : bars.flatten.length ≤ 1048576) : Ev (fun k => spec_WasteOf.f k a s p bars) (res a s p bars) := by
  unfold spec_WasteOf.f res
  refine Ev.bind (specBars a s p hp) ?_
  cases e : barB a s p with
  | false => exact Ev.neg (by simp) (Ev.fin rfl)
  | true =>
    refine Ev.pos rfl (Ev.bind (specPlan (small_of e) (bar_of e).2.2.1 bars hl hf) ?_)
    cases e2 : planB a s p bars with
    | false => exact Ev.neg (by simp) (Ev.fin rfl)
    | true => exact Ev.pos rfl (Ev.bind (specSum p hp) (Ev.fin rfl))
theorem implRes (a s : Int) (p : List Int) (bars : List (List Int)) (hp : p.length ≤ 1048576) (hl : bars.length ≤ 1048576) (hf : bars.flatten.length ≤ 1048576) : Ev (fun k => impl_WasteOf.f k a s p bars) (res a s p bars) := by
  unfold impl_WasteOf.f res
  refine Ev.nobind (implBars a s p) ?_
  cases e : barB a s p with
  | false => exact Ev.neg (by simp) (Ev.fin rfl)
  | true =>
    refine Ev.pos rfl (Ev.bind (implPlan (small_of e) (bar_of e).2.2.1 bars hl hf) ?_)
    cases e2 : planB a s p bars with
    | false => exact Ev.neg (by simp) (Ev.fin rfl)
    | true => exact Ev.pos rfl (Ev.bind (implSum p hp) (Ev.fin rfl))
theorem FnExactWasteOf : laws_FnExactWasteOf.Pure := by
  intro a0 a1 l2 l3 w0 w1 m2 y2 w2 w3
  refine Ev.rounds (g := fun k => laws_FnExactWasteOf.f k a0 a1 l2 l3) ?_
  unfold laws_FnExactWasteOf.f
  refine Ev.ite (fun _ => Ev.fin rfl) (fun h0 => ?_)
  obtain ⟨v, hv, hv2⟩ := sizes l3 w3.1 (fun x hx => (w3.2 x hx).1)
  refine Ev.bind hv (Ev.ite (fun _ => Ev.fin rfl) (fun h1 => ?_))
  have h2 : l3.length ≤ 1048576 ∧ l3.flatten.length ≤ 1048576 := by
    rcases hv2 with h | h
    · exact absurd h h1
    · exact h
  have hb : ∀ x ∈ l3, x.length ≤ 1048576 := fun x hx => Nat.le_trans (part_le hx) h2.2
  have t2 := toInts l2 (by omega)
  have t3 := toIntss l3 h2.1 hb
  have hs := specRes a0 a1 l2 l3 (by omega) h2.1 h2.2
  have hi := implRes a0 a1 l2 l3 (by omega) h2.1 h2.2
  generalize res a0 a1 l2 l3 = u at hs hi
  refine Ev.bind t2 (Ev.bind t3 (Ev.bind hs (Ev.bind t2 (Ev.bind t3 (Ev.bind hi (Ev.pos rfl ?_))))))
  refine Ev.step (fun k => by rw [laws_FnExactWasteOf.j0]) ?_
  exact Ev.neg (by simp) (Ev.bind t2 (Ev.bind (eqInts l2 l2 (by omega)) (Ev.pos (by simp) (Ev.bind t3 (Ev.bind (eqIntss l3 h2.1 hb) (Ev.pos rfl (Ev.fin rfl)))))))

end Go.Proofs.Ytabflbpcdkhnaaa.Pure
