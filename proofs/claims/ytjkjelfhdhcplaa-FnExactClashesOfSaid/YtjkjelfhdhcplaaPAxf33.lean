/- Written by a program of this session out of the translation: pure functions, and that Go's functions come to them. -/
import Derived.Test.YtjkjelfhdhcplaaPAx0
namespace Go.Proofs.Ytjkjelfhdhcplaa.PA
open Go.RowKit Go.Proofs.YtjkjelfhdhcplaaW.PrintWords Go.Proofs.YtjkjelfhdhcplaaW.PrintLast Go.Proofs.YtjkjelfhdhcplaaW.PrintMore
attribute [local go_sem] max2_int min2_int max_two min_two max_three min_three max_four min_four   -- for this text's walks alone
set_option linter.unusedVariables false
set_option linter.unusedSimpArgs false

/-! ### laws_eqInt64A2: function 33 -/
def laws_eqInt64A2.f (a0_0 a0_1 a1_0 a1_1 : Int) : Option Bool := if a0_0 = a1_0 then (if a0_1 = a1_1 then some true else some false) else some false
set_option maxHeartbeats 4000000 in
set_option maxRecDepth 100000 in
theorem laws_eqInt64A2.calls (a0_0 a0_1 a1_0 a1_1 : Int) (r : Bool) (w : World) (h : laws_eqInt64A2.f a0_0 a0_1 a1_0 a1_1 = some r) :
    Calls Try.prog 33 #[.agg #[.int .i64 a0_0, .int .i64 a0_1], .agg #[.int .i64 a1_0, .int .i64 a1_1]] w fun e w' => e = .returned (.bool r) ∧ Below w.heap.size w w' := by
  unfold laws_eqInt64A2.f at h
  have H := Aside0.mk h
  clear h
  go_enter Try.func33, Try.ntmps33
  go_wp2_with (first
    | ((with_reducible refine gate_dst (N := 2) rfl ?_); refine box_event ?hg (N := 2) ?hd (cs := #[.int .i64 a0_0, .int .i64 a0_1]) (t := 53) ?hr ?_; (case hd => rfl); (case hg => rfl); (case hr => first | (go_simp; done) | (go_simp; rfl)); intro g1 hg1 w1 hbox hb; have hb1 := Aside0.mk hb; have BK1 := Aside0.mk hbox; clear hg1 hbox hb)
    | ((with_reducible refine gate_dst (N := 3) rfl ?_); refine box_event ?hg (N := 3) ?hd (cs := #[.int .i64 a1_0, .int .i64 a1_1]) (t := 53) ?hr ?_; (case hd => rfl); (case hg => rfl); (case hr => first | (go_simp; done) | (go_simp; rfl)); intro g2 hg2 w2 hbox hb; have hb2 := Aside0.mk hb; have BK2 := Aside0.mk hbox; have hA0 : w2.cell? ⟨g1, 0, none⟩ = some (.int .i64 a0_0) := (blk_cell (blk_below BK1.out hb) 0).trans rfl; have hA1 : w2.cell? ⟨g1, 1, none⟩ = some (.int .i64 a0_1) := (blk_cell (blk_below BK1.out hb) 1).trans rfl; have hB0 : w2.cell? ⟨g2, 0, none⟩ = some (.int .i64 a1_0) := (blk_cell hbox 0).trans rfl; have hB1 : w2.cell? ⟨g2, 1, none⟩ = some (.int .i64 a1_1) := (blk_cell hbox 1).trans rfl; clear hg2 hbox hb))
  by_cases c0 : a0_0 = a1_0
  · have b0 : (a0_0 != a1_0) = false := by simp [c0]
    by_cases c1 : a0_1 = a1_1
    · have b1 : (a0_1 != a1_1) = false := by simp [c1]
      have hr : r = true := by have := H.out; rw [if_pos c0, if_pos c1] at this; exact (Option.some.inj this).symm
      subst hr
      clear H c0 c1
      refine wp_loop_rounds 3 ?_
      rw [rounds_succ]
      go_wp2
      repeat (go_quiet (fail); try go_wp2)
      rw [rounds_succ]
      go_wp2
      repeat (go_quiet (fail); try go_wp2)
      rw [rounds_succ]
      go_wp2
      go_ret
      exact ⟨rfl, by repeat (first | exact below_step hb1.out hb2.out | apply pw_below_drewN | apply below_drew1)⟩
    · have b1 : (a0_1 != a1_1) = true := by simp [c1]
      have hr : r = false := by have := H.out; rw [if_pos c0, if_neg c1] at this; exact (Option.some.inj this).symm
      subst hr
      clear H c0 c1
      refine wp_loop_rounds 2 ?_
      rw [rounds_succ]
      go_wp2
      repeat (go_quiet (fail); try go_wp2)
      rw [rounds_succ]
      go_wp2
      repeat (go_quiet (fail); try go_wp2)
      go_ret
      exact ⟨rfl, by repeat (first | exact below_step hb1.out hb2.out | apply pw_below_drewN | apply below_drew1)⟩
  · have b0 : (a0_0 != a1_0) = true := by simp [c0]
    have hr : r = false := by have := H.out; rw [if_neg c0] at this; exact (Option.some.inj this).symm
    subst hr
    clear H c0
    refine wp_loop_rounds 1 ?_
    rw [rounds_succ]
    go_wp2
    repeat (go_quiet (fail); try go_wp2)
    go_ret
    exact ⟨rfl, by repeat (first | exact below_step hb1.out hb2.out | apply pw_below_drewN | apply below_drew1)⟩

end Go.Proofs.Ytjkjelfhdhcplaa.PA
