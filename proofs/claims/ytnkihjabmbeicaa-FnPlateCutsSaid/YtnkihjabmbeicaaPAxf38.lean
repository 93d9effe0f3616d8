/- Pure functions, and that Go's functions come to them. -/
import Derived.Test.YtnkihjabmbeicaaPAx0
import Derived.Test.YtnkihjabmbeicaaPAxf33
namespace Go.Proofs.Ytnkihjabmbeicaa.PA
open Go.RowKit Go.Proofs.YtnkihjabmbeicaaW.PrintWords Go.Proofs.YtnkihjabmbeicaaW.PrintLast Go.Proofs.YtnkihjabmbeicaaW.PrintMore
set_option linter.unusedVariables false
set_option linter.unusedSimpArgs false

/-! ### impl_CutLength_1: function 38 -/
def impl_CutLength_1.f (a0_0 : Int) (a0_1 : Int) (a0_2 : Int) (a0_3 : Int) (a1_0 : Int) (a1_1 : Int) : Option (Int) := if a0_0 = 2 then (some a1_1) else (if a0_0 = 3 then (some a1_0) else (some 0))
set_option maxHeartbeats 8000000 in
set_option maxRecDepth 100000 in
theorem impl_CutLength_1.calls (a0_0 : Int) (a0_1 : Int) (a0_2 : Int) (a0_3 : Int) (a1_0 : Int) (a1_1 : Int) (r : Int) (w : World) (h : impl_CutLength_1.f a0_0 a0_1 a0_2 a0_3 a1_0 a1_1 = some r) :
  Calls Try.prog 38 #[.agg #[.int .i8 a0_0, .int .i8 a0_1, .int .i8 a0_2, .int .i8 a0_3], .agg #[.int .i64 a1_0, .int .i64 a1_1]] w fun e w' => e = .returned (.int .i64 r) ∧ Below w.heap.size w w' := by
 have hu48 := Try.underlying48
 have hu49 := Try.underlying49
 have HB := Aside0.mk (Below.refl w.heap.size w)
 have H : (if a0_0 = 2 then (some a1_1) else (if a0_0 = 3 then (some a1_0) else (some 0))) = some r := h
 clear h
 by_cases c3 : a0_0 = 2
 ·
  rw [if_pos c3] at H
  have c3b0 : (a0_0 == 2) = true := beq_iff_eq.mpr c3
  have c3b1 : (a0_0 != 2) = false := bne_eq_false_iff_eq.mpr c3
  clear c3
  obtain rfl := Option.some.inj H
  go_enter Try.func38, Try.ntmps38
  go_wp2_with (first | ((with_reducible refine gate_dst (N := 2) rfl ?_); refine boxM_ 2 #[.int .i8 a0_0, .int .i8 a0_1, .int .i8 a0_2, .int .i8 a0_3] 48 ?_; intro gb281 hg w4 hbox hb; have BK281 := Aside0.mk (hbox); have GW281 := ge_ HB hg; have GE281 := ge_ HB hg; replace HB := bs_ HB hb; clear hb hbox hg) | ((with_reducible refine gate_dst (N := 3) rfl ?_); refine boxM_ 3 #[.int .i64 a1_0, .int .i64 a1_1] 49 ?_; intro gb282 hg w5 hbox hb; have BK282 := Aside0.mk (hbox); have GW282 := ge_ HB hg; have GE282 := ge_ HB hg; replace HB := bs_ HB hb; have NB281_282 := nl_ BK281 hg; have NB282_281 := ng_ BK281 hg; replace BK281 := bd_ BK281 hb; clear hb hbox hg; have hnb6 := NB281_282.out; have hnc6 := NB282_281.out; have hcz7_0 : w5.cell? ⟨gb281, 0, none⟩ = some (.int .i8 a0_0) := (blk_cell BK281.out 0).trans rfl; have hcz7_1 : w5.cell? ⟨gb281, 1, none⟩ = some (.int .i8 a0_1) := (blk_cell BK281.out 1).trans rfl; have hcz7_2 : w5.cell? ⟨gb281, 2, none⟩ = some (.int .i8 a0_2) := (blk_cell BK281.out 2).trans rfl; have hcz7_3 : w5.cell? ⟨gb281, 3, none⟩ = some (.int .i8 a0_3) := (blk_cell BK281.out 3).trans rfl; have hfz7_0 := blk_frozen BK281.out 0; have hfz7_1 := blk_frozen BK281.out 1; have hfz7_2 := blk_frozen BK281.out 2; have hfz7_3 := blk_frozen BK281.out 3; obtain ⟨⟨hcz8_0, hcz8_1⟩, hfz8_0, hfz8_1⟩ := bq_ BK282))
  go_ret
  exact ⟨rt_, k2_ HB GE281 GE282⟩
 rw [if_neg c3] at H
 have c3b0 : (a0_0 == 2) = false := beq_eq_false_iff_ne.mpr c3
 have c3b1 : (a0_0 != 2) = true := bne_iff_ne.mpr c3
 by_cases c9 : a0_0 = 3
 ·
  rw [if_pos c9] at H
  have c9b0 : (a0_0 == 3) = true := beq_iff_eq.mpr c9
  have c9b1 : (a0_0 != 3) = false := bne_eq_false_iff_eq.mpr c9
  clear c9
  obtain rfl := Option.some.inj H
  go_enter Try.func38, Try.ntmps38
  go_wp2_with (first | ((with_reducible refine gate_dst (N := 2) rfl ?_); refine boxM_ 2 #[.int .i8 a0_0, .int .i8 a0_1, .int .i8 a0_2, .int .i8 a0_3] 48 ?_; intro gb281 hg w10 hbox hb; have BK281 := Aside0.mk (hbox); have GW281 := ge_ HB hg; have GE281 := ge_ HB hg; replace HB := bs_ HB hb; clear hb hbox hg) | ((with_reducible refine gate_dst (N := 3) rfl ?_); refine boxM_ 3 #[.int .i64 a1_0, .int .i64 a1_1] 49 ?_; intro gb282 hg w11 hbox hb; have BK282 := Aside0.mk (hbox); have GW282 := ge_ HB hg; have GE282 := ge_ HB hg; replace HB := bs_ HB hb; have NB281_282 := nl_ BK281 hg; have NB282_281 := ng_ BK281 hg; replace BK281 := bd_ BK281 hb; clear hb hbox hg; have hnb12 := NB281_282.out; have hnc12 := NB282_281.out; have hcz13_0 : w11.cell? ⟨gb281, 0, none⟩ = some (.int .i8 a0_0) := (blk_cell BK281.out 0).trans rfl; have hcz13_1 : w11.cell? ⟨gb281, 1, none⟩ = some (.int .i8 a0_1) := (blk_cell BK281.out 1).trans rfl; have hcz13_2 : w11.cell? ⟨gb281, 2, none⟩ = some (.int .i8 a0_2) := (blk_cell BK281.out 2).trans rfl; have hcz13_3 : w11.cell? ⟨gb281, 3, none⟩ = some (.int .i8 a0_3) := (blk_cell BK281.out 3).trans rfl; have hfz13_0 := blk_frozen BK281.out 0; have hfz13_1 := blk_frozen BK281.out 1; have hfz13_2 := blk_frozen BK281.out 2; have hfz13_3 := blk_frozen BK281.out 3; obtain ⟨⟨hcz14_0, hcz14_1⟩, hfz14_0, hfz14_1⟩ := bq_ BK282))
  go_ret
  exact ⟨rt_, k2_ HB GE281 GE282⟩
 ·
  rw [if_neg c9] at H
  have c9b0 : (a0_0 == 3) = false := beq_eq_false_iff_ne.mpr c9
  have c9b1 : (a0_0 != 3) = true := bne_iff_ne.mpr c9
  obtain rfl := Option.some.inj H
  go_enter Try.func38, Try.ntmps38
  go_wp2_with (first | ((with_reducible refine gate_dst (N := 2) rfl ?_); refine boxM_ 2 #[.int .i8 a0_0, .int .i8 a0_1, .int .i8 a0_2, .int .i8 a0_3] 48 ?_; intro gb281 hg w15 hbox hb; have BK281 := Aside0.mk (hbox); have GW281 := ge_ HB hg; have GE281 := ge_ HB hg; replace HB := bs_ HB hb; clear hb hbox hg) | ((with_reducible refine gate_dst (N := 3) rfl ?_); refine boxM_ 3 #[.int .i64 a1_0, .int .i64 a1_1] 49 ?_; intro gb282 hg w16 hbox hb; have BK282 := Aside0.mk (hbox); have GW282 := ge_ HB hg; have GE282 := ge_ HB hg; replace HB := bs_ HB hb; have NB281_282 := nl_ BK281 hg; have NB282_281 := ng_ BK281 hg; replace BK281 := bd_ BK281 hb; clear hb hbox hg; have hnb17 := NB281_282.out; have hnc17 := NB282_281.out; have hcz18_0 : w16.cell? ⟨gb281, 0, none⟩ = some (.int .i8 a0_0) := (blk_cell BK281.out 0).trans rfl; have hcz18_1 : w16.cell? ⟨gb281, 1, none⟩ = some (.int .i8 a0_1) := (blk_cell BK281.out 1).trans rfl; have hcz18_2 : w16.cell? ⟨gb281, 2, none⟩ = some (.int .i8 a0_2) := (blk_cell BK281.out 2).trans rfl; have hcz18_3 : w16.cell? ⟨gb281, 3, none⟩ = some (.int .i8 a0_3) := (blk_cell BK281.out 3).trans rfl; have hfz18_0 := blk_frozen BK281.out 0; have hfz18_1 := blk_frozen BK281.out 1; have hfz18_2 := blk_frozen BK281.out 2; have hfz18_3 := blk_frozen BK281.out 3))
  go_ret
  exact ⟨rt_, k2_ HB GE281 GE282⟩

/-! ### impl_CutLength_1_sum: function 38 -/
def impl_CutLength_1_sum.f (k : Nat) (a0 : Int) (a1 : Int) (l2 : List (S46)) (l3 : List (S48)) : Option (Int × Int) := impl_summed.f impl_CutLength_1.f k a0 a1 l2 l3
theorem impl_CutLength_1_sum.mono : ∀ a0 a1 a2 a3 k, LeO (impl_CutLength_1_sum.f k a0 a1 a2 a3) (impl_CutLength_1_sum.f (k + 1) a0 a1 a2 a3) := fun a0 a1 a2 a3 k => impl_summed.mono impl_CutLength_1.f a0 a1 a2 a3 k
theorem impl_CutLength_1_sum.calls (k : Nat) (a0 : Int) (a1 : Int) (A2 : Option Addr) (c2 : Nat) (l2 : List (S46)) (A3 : Option Addr) (c3 : Nat) (l3 : List (S48)) (r1 : Int) (r2 : Int) (w : World) (hr2 : Kd.C k46 w A2 l2.length l2) (hc2 : l2.length ≤ c2) (hr3 : Kd.C k48 w A3 l3.length l3) (hc3 : l3.length ≤ c3) (h : impl_CutLength_1_sum.f k a0 a1 l2 l3 = some (r1, r2)) :
  Calls Try.prog 33 #[.int .i64 a0, .int .i64 a1, .slice A2 l2.length c2, .slice A3 l3.length c3, .func (.func 38) #[] #[]] w fun e w' => e = .returned (.tuple #[.int .i64 r1, .int .i64 r2]) ∧ Below w.heap.size w w' :=
 impl_summed.calls impl_CutLength_1.f 38 #[] w (enters_of Try.func38 (by kernel_rfl) rfl) (fun c0 c1 c2 c3 s0 s1 r W _ hx => impl_CutLength_1.calls c0 c1 c2 c3 s0 s1 r W hx) k a0 a1 A2 c2 l2 A3 c3 l3 r1 r2 hr2 hc2 hr3 hc3 h

end Go.Proofs.Ytnkihjabmbeicaa.PA
