/- The program's SameRow answers what the reference's SameRow answers, at all pairs of rows; no condition. -/
import Derived.Test.YthgdpieoodohcaaRowsKit
import Derived.Test.YthgdpieoodohcaaPAx1
namespace Go.Proofs.Ythgdpieoodohcaa.Pure
open Go.RowKit Go.Proofs.Ythgdpieoodohcaa.PA Go.Proofs.Ythgdpieoodohcaa.Base Go.Proofs.Ythgdpieoodohcaa.RowsKit Go.Proofs.YthgdpieoodohcaaW.PrintWords Go.Proofs.YthgdpieoodohcaaW.PrintLast

theorem specSame (l0 l1 : List Int) (h : l0.length ≤ 9223372036854775806) : Ev (fun k => spec_SameRow.f k l0 l1) (decide (l0 = l1)) := by
  unfold spec_SameRow.f spec_l05Same.f
  refine Ev.bind (a := decide (l0 = l1)) ?_ (Ev.now _)
  refine Ev.ite (fun e => ?_) (fun e => Ev.fin ?_)
  · exact eq_loop (spec_l05Same.l0 · l0 l1 ·) h (by omega) (fun k i => by rw [spec_l05Same.l0]) l0.length 0 (by omega)
  · exact (decide_eq_false (fun h => e (by rw [h]))).symm
theorem implSame (l0 l1 : List Int) (h : l0.length ≤ 9223372036854775806) : Ev (fun k => impl_SameRow.f k l0 l1) (decide (l0 = l1)) := by
  unfold impl_SameRow.f impl_Row_int16_62.f
  refine Ev.bind (a := decide (l0 = l1)) ?_ (Ev.now _)
  refine Ev.ite (fun e => ?_) (fun e => Ev.fin ?_)
  · exact equal_loop (impl_Row_int16_62.l0 · l0 l1 (l0.length : Int) ·) h (by omega) (fun k i => by rw [impl_Row_int16_62.l0])
  · exact (decide_eq_false (fun h => e (by rw [h]))).symm
theorem FnExactSameRow : laws_FnExactSameRow.Pure := by
  intro l0 l1 m0 b0 w0 m1 b1 w1
  refine Ev.rounds (g := fun k => laws_FnExactSameRow.f k l0 l1) ?_
  unfold laws_FnExactSameRow.f
  refine Ev.ite (fun _ => Ev.fin rfl) (fun h0 => Ev.ite (fun _ => Ev.fin rfl) (fun h1 => ?_))
  have t0 := toRow l0 (by omega)
  have t1 := toRow l1 (by omega)
  refine Ev.bind t0 (Ev.bind t1 (Ev.bind (specSame l0 l1 (by omega)) (Ev.bind t0 (Ev.bind t1 (Ev.bind (implSame l0 l1 (by omega)) ?_)))))
  refine Ev.neg (by simp) (Ev.bind t0 (Ev.bind (eqRow l0 l0 (by omega)) (Ev.pos (by simp) (Ev.bind t1 (Ev.bind (eqRow l1 l1 (by omega)) (Ev.pos (by simp) (Ev.fin rfl)))))))

end Go.Proofs.Ythgdpieoodohcaa.Pure
