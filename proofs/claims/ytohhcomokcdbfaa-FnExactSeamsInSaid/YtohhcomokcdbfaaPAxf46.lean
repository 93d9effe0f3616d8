/- Written by a program of this session out of the translation: pure functions, and that Go's functions come to them. -/
import Derived.Test.YtohhcomokcdbfaaPAx0
import Derived.Test.YtohhcomokcdbfaaPAxf35
import Derived.Test.YtohhcomokcdbfaaPAxgImpl
namespace Go.Proofs.Ytohhcomokcdbfaa.PA
open Go.RowKit Go.Proofs.YtohhcomokcdbfaaW.PrintWords Go.Proofs.YtohhcomokcdbfaaW.PrintLast Go.Proofs.YtohhcomokcdbfaaW.PrintMore
attribute [local go_sem] max2_int min2_int max_two min_two max_three min_three max_four min_four   -- for this text's walks alone
set_option linter.unusedVariables false
set_option linter.unusedSimpArgs false

/-! ### impl_common: function 46 -/
mutual
def impl_common.j0 : Nat → Bool → Int → Int → Int → Int → Int → Int → Int → Int → Option (Int)
 | 0, _, _, _, _, _, _, _, _, _ => none
 | k + 1, x22, x242000, x242001, x243000, x243001, x244000, x244001, x245000, x245001 => if x22 = true then (some 0) else ((impl_cornerLess.f x243000 x243001 x242000 x242001).bind fun t247 => (if t247 = true then (impl_common.j1 k x243000 x243001 x242000 x242001 x244000 x244001 x245000 x245001) else (impl_common.j1 k x242000 x242001 x243000 x243001 x244000 x244001 x245000 x245001)))
def impl_common.j1 : Nat → Int → Int → Int → Int → Int → Int → Int → Int → Option (Int)
 | 0, _, _, _, _, _, _, _, _ => none
 | k + 1, x242000, x242001, x243000, x243001, x244000, x244001, x245000, x245001 => (impl_cornerLess.f x245000 x245001 x244000 x244001).bind fun t248 => (if t248 = true then (impl_common.j2 k x242000 x242001 x243000 x243001 x245000 x245001 x244000 x244001) else (impl_common.j2 k x242000 x242001 x243000 x243001 x244000 x244001 x245000 x245001))
def impl_common.j2 : Nat → Int → Int → Int → Int → Int → Int → Int → Int → Option (Int)
 | 0, _, _, _, _, _, _, _, _ => none
 | k + 1, x242000, x242001, x243000, x243001, x244000, x244001, x245000, x245001 => (impl_cornerLess.f x242000 x242001 x244000 x244001).bind fun t249 => (if t249 = true then (impl_common.j3 k x244000 x244001 x243000 x243001 x245000 x245001) else (impl_common.j3 k x242000 x242001 x243000 x243001 x245000 x245001))
def impl_common.j3 : Nat → Int → Int → Int → Int → Int → Int → Option (Int)
 | 0, _, _, _, _, _, _ => none
 | k + 1, x242000, x242001, x243000, x243001, x245000, x245001 => (impl_cornerLess.f x245000 x245001 x243000 x243001).bind fun t250 => (if t250 = true then ((impl_cornerLess.f x242000 x242001 x245000 x245001).bind fun t251 => (if t251 = true then (some (wrap64 ((wrap64 ((wrap64 ((wrap64 (x245000)) - (wrap64 (x242000)))) * (wrap64 ((wrap64 (x245000)) - (wrap64 (x242000)))))) + (wrap64 ((wrap64 ((wrap64 (x245001)) - (wrap64 (x242001)))) * (wrap64 ((wrap64 (x245001)) - (wrap64 (x242001))))))))) else (some 0))) else ((impl_cornerLess.f x242000 x242001 x243000 x243001).bind fun t252 => (if t252 = true then (some (wrap64 ((wrap64 ((wrap64 ((wrap64 (x243000)) - (wrap64 (x242000)))) * (wrap64 ((wrap64 (x243000)) - (wrap64 (x242000)))))) + (wrap64 ((wrap64 ((wrap64 (x243001)) - (wrap64 (x242001)))) * (wrap64 ((wrap64 (x243001)) - (wrap64 (x242001))))))))) else (some 0))))
end
def impl_common.f (k : Nat) (a0_0 : Int) (a0_1 : Int) (a1_0 : Int) (a1_1 : Int) (a2_0 : Int) (a2_1 : Int) (a3_0 : Int) (a3_1 : Int) : Option (Int) := (impl_side.f a0_0 a0_1 a1_0 a1_1 a2_0 a2_1).bind fun t245 => (if t245 = 0 then ((impl_side.f a0_0 a0_1 a1_0 a1_1 a3_0 a3_1).bind fun t246 => (impl_common.j0 k (t246 != 0) a0_0 a0_1 a1_0 a1_1 a2_0 a2_1 a3_0 a3_1)) else (impl_common.j0 k true a0_0 a0_1 a1_0 a1_1 a2_0 a2_1 a3_0 a3_1))
theorem impl_common.mono_l : ∀ k, (∀ y0 y1 y2 y3 y4 y5 y6 y7 y8, LeO (impl_common.j0 k y0 y1 y2 y3 y4 y5 y6 y7 y8) (impl_common.j0 (k + 1) y0 y1 y2 y3 y4 y5 y6 y7 y8)) ∧ (∀ y0 y1 y2 y3 y4 y5 y6 y7, LeO (impl_common.j1 k y0 y1 y2 y3 y4 y5 y6 y7) (impl_common.j1 (k + 1) y0 y1 y2 y3 y4 y5 y6 y7)) ∧ (∀ y0 y1 y2 y3 y4 y5 y6 y7, LeO (impl_common.j2 k y0 y1 y2 y3 y4 y5 y6 y7) (impl_common.j2 (k + 1) y0 y1 y2 y3 y4 y5 y6 y7)) ∧ (∀ y0 y1 y2 y3 y4 y5, LeO (impl_common.j3 k y0 y1 y2 y3 y4 y5) (impl_common.j3 (k + 1) y0 y1 y2 y3 y4 y5))
 | 0 => ⟨fun _ _ _ _ _ _ _ _ _ r h => by simp [impl_common.j0] at h, fun _ _ _ _ _ _ _ _ r h => by simp [impl_common.j1] at h, fun _ _ _ _ _ _ _ _ r h => by simp [impl_common.j2] at h, fun _ _ _ _ _ _ r h => by simp [impl_common.j3] at h⟩
 | k + 1 => by
  obtain ⟨ih0, ih1, ih2, ih3⟩ := impl_common.mono_l k
  refine ⟨?_, ?_, ?_, ?_⟩
  ·
   intro y0 y1 y2 y3 y4 y5 y6 y7 y8
   unfold impl_common.j0
   repeat' first
   | (with_reducible exact ih0 _ _ _ _ _ _ _ _ _)
   | (with_reducible exact ih1 _ _ _ _ _ _ _ _)
   | (with_reducible exact ih2 _ _ _ _ _ _ _ _)
   | (with_reducible exact ih3 _ _ _ _ _ _)
   | (with_reducible exact LeO.refl _)
   | (with_reducible exact LeO.none _)
   | (with_reducible refine LeO.ite ?_ ?_)
   | (with_reducible refine LeO.bind ?_ (fun _ => ?_))
   | exact ih0 _ _ _ _ _ _ _ _ _
   | exact ih1 _ _ _ _ _ _ _ _
   | exact ih2 _ _ _ _ _ _ _ _
   | exact ih3 _ _ _ _ _ _
   | exact LeO.none _
   | refine LeO.ite ?_ ?_
   | refine LeO.bind ?_ (fun _ => ?_)
  ·
   intro y0 y1 y2 y3 y4 y5 y6 y7
   unfold impl_common.j1
   repeat' first
   | (with_reducible exact ih0 _ _ _ _ _ _ _ _ _)
   | (with_reducible exact ih1 _ _ _ _ _ _ _ _)
   | (with_reducible exact ih2 _ _ _ _ _ _ _ _)
   | (with_reducible exact ih3 _ _ _ _ _ _)
   | (with_reducible exact LeO.refl _)
   | (with_reducible exact LeO.none _)
   | (with_reducible refine LeO.ite ?_ ?_)
   | (with_reducible refine LeO.bind ?_ (fun _ => ?_))
   | exact ih0 _ _ _ _ _ _ _ _ _
   | exact ih1 _ _ _ _ _ _ _ _
   | exact ih2 _ _ _ _ _ _ _ _
   | exact ih3 _ _ _ _ _ _
   | exact LeO.none _
   | refine LeO.ite ?_ ?_
   | refine LeO.bind ?_ (fun _ => ?_)
  ·
   intro y0 y1 y2 y3 y4 y5 y6 y7
   unfold impl_common.j2
   repeat' first
   | (with_reducible exact ih0 _ _ _ _ _ _ _ _ _)
   | (with_reducible exact ih1 _ _ _ _ _ _ _ _)
   | (with_reducible exact ih2 _ _ _ _ _ _ _ _)
   | (with_reducible exact ih3 _ _ _ _ _ _)
   | (with_reducible exact LeO.refl _)
   | (with_reducible exact LeO.none _)
   | (with_reducible refine LeO.ite ?_ ?_)
   | (with_reducible refine LeO.bind ?_ (fun _ => ?_))
   | exact ih0 _ _ _ _ _ _ _ _ _
   | exact ih1 _ _ _ _ _ _ _ _
   | exact ih2 _ _ _ _ _ _ _ _
   | exact ih3 _ _ _ _ _ _
   | exact LeO.none _
   | refine LeO.ite ?_ ?_
   | refine LeO.bind ?_ (fun _ => ?_)
  ·
   intro y0 y1 y2 y3 y4 y5
   unfold impl_common.j3
   repeat' first
   | (with_reducible exact ih0 _ _ _ _ _ _ _ _ _)
   | (with_reducible exact ih1 _ _ _ _ _ _ _ _)
   | (with_reducible exact ih2 _ _ _ _ _ _ _ _)
   | (with_reducible exact ih3 _ _ _ _ _ _)
   | (with_reducible exact LeO.refl _)
   | (with_reducible exact LeO.none _)
   | (with_reducible refine LeO.ite ?_ ?_)
   | (with_reducible refine LeO.bind ?_ (fun _ => ?_))
   | exact ih0 _ _ _ _ _ _ _ _ _
   | exact ih1 _ _ _ _ _ _ _ _
   | exact ih2 _ _ _ _ _ _ _ _
   | exact ih3 _ _ _ _ _ _
   | exact LeO.none _
   | refine LeO.ite ?_ ?_
   | refine LeO.bind ?_ (fun _ => ?_)
theorem impl_common.mono : ∀ a0 a1 a2 a3 a4 a5 a6 a7 k, LeO (impl_common.f k a0 a1 a2 a3 a4 a5 a6 a7) (impl_common.f (k + 1) a0 a1 a2 a3 a4 a5 a6 a7) := by
 intro a0 a1 a2 a3 a4 a5 a6 a7 k
 obtain ⟨ih0, ih1, ih2, ih3⟩ := impl_common.mono_l k
 unfold impl_common.f
 repeat' first
   | (with_reducible exact ih0 _ _ _ _ _ _ _ _ _)
   | (with_reducible exact ih1 _ _ _ _ _ _ _ _)
   | (with_reducible exact ih2 _ _ _ _ _ _ _ _)
   | (with_reducible exact ih3 _ _ _ _ _ _)
   | (with_reducible exact LeO.refl _)
   | (with_reducible exact LeO.none _)
   | (with_reducible refine LeO.ite ?_ ?_)
   | (with_reducible refine LeO.bind ?_ (fun _ => ?_))
   | exact ih0 _ _ _ _ _ _ _ _ _
   | exact ih1 _ _ _ _ _ _ _ _
   | exact ih2 _ _ _ _ _ _ _ _
   | exact ih3 _ _ _ _ _ _
   | exact LeO.none _
   | refine LeO.ite ?_ ?_
   | refine LeO.bind ?_ (fun _ => ?_)
set_option maxHeartbeats 8000000 in
set_option maxRecDepth 100000 in
theorem impl_common.calls (k : Nat) (a0_0 : Int) (a0_1 : Int) (a1_0 : Int) (a1_1 : Int) (a2_0 : Int) (a2_1 : Int) (a3_0 : Int) (a3_1 : Int) (r : Int) (w : World) (h : impl_common.f k a0_0 a0_1 a1_0 a1_1 a2_0 a2_1 a3_0 a3_1 = some r) :
  Calls Try.prog 46 #[.agg #[.int .i16 a0_0, .int .i16 a0_1], .agg #[.int .i16 a1_0, .int .i16 a1_1], .agg #[.int .i16 a2_0, .int .i16 a2_1], .agg #[.int .i16 a3_0, .int .i16 a3_1]] w fun e w' => e = .returned (.int .i64 r) ∧ Below w.heap.size w w' := by
 have hu55 := Try.underlying55
 have HB := Aside0.mk (Below.refl w.heap.size w)
 have H : ((impl_side.f a0_0 a0_1 a1_0 a1_1 a2_0 a2_1).bind fun t245 => (if t245 = 0 then ((impl_side.f a0_0 a0_1 a1_0 a1_1 a3_0 a3_1).bind fun t246 => (impl_common.j0 k (t246 != 0) a0_0 a0_1 a1_0 a1_1 a2_0 a2_1 a3_0 a3_1)) else (impl_common.j0 k true a0_0 a0_1 a1_0 a1_1 a2_0 a2_1 a3_0 a3_1))) = some r := h
 clear h
 have HC5 := Aside0.mk H
 clear H
 go_enter Try.func46, Try.ntmps46
 go_upto_region 1 with (first | ((with_reducible refine gate_dst (N := 4) rfl ?_); refine box_event ?hg (N := 4) ?hd (cs := #[.int .i16 a0_0, .int .i16 a0_1]) (t := 55) ?hr ?_; (case hd => rfl); (case hg => rfl); (case hr => first | (go_simp; done) | (go_simp; rfl)); intro gb241 hg w6 hbox hb; have n0_ := Aside0.mk (below_step (by repeat (first | (with_reducible first | exact HB.out | apply below_alloc | apply pw_below_drewN | apply below_drew1) | exact HB.out)) hb); have n1_ := Aside0.mk (hbox); have n2_ := Aside0.mk ((by rw [hg]; exact (below_size (by repeat (first | (with_reducible first | exact HB.out | apply below_alloc | apply pw_below_drewN | apply below_drew1) | exact HB.out))) : w.heap.size ≤ gb241)); have n3_ := Aside0.mk ((by rw [hg]; exact (below_size (by repeat (first | (with_reducible first | exact HB.out | apply below_alloc | apply pw_below_drewN | apply below_drew1) | exact HB.out))) : w.heap.size ≤ gb241)); clear HB; have HB := n0_; have BK241 := n1_; have GW241 := n2_; have GE241 := n3_; clear n0_ n1_ n2_ n3_; clear hb hbox hg) | ((with_reducible refine gate_dst (N := 5) rfl ?_); refine box_event ?hg (N := 5) ?hd (cs := #[.int .i16 a1_0, .int .i16 a1_1]) (t := 55) ?hr ?_; (case hd => rfl); (case hg => rfl); (case hr => first | (go_simp; done) | (go_simp; rfl)); intro gb242 hg w7 hbox hb; have n0_ := bd_ BK241 hb; have n1_ := Aside0.mk (below_step (by repeat (first | (with_reducible first | exact HB.out | apply below_alloc | apply pw_below_drewN | apply below_drew1 | refine below_set ?_ GE241.out) | exact HB.out)) hb); have n2_ := Aside0.mk (hbox); have n3_ := Aside0.mk ((by rw [hg]; exact (below_size (by repeat (first | (with_reducible first | exact HB.out | apply below_alloc | apply pw_below_drewN | apply below_drew1 | refine below_set ?_ GE241.out) | exact HB.out))) : w.heap.size ≤ gb242)); have n4_ := Aside0.mk ((by rw [hg]; exact (below_size (by repeat (first | (with_reducible first | exact HB.out | apply below_alloc | apply pw_below_drewN | apply below_drew1 | refine below_set ?_ GE241.out) | exact HB.out))) : w.heap.size ≤ gb242)); have n5_ := nl_ BK241 hg; have n6_ := ng_ BK241 hg; clear BK241; clear HB; have BK241 := n0_; have HB := n1_; have BK242 := n2_; have GW242 := n3_; have GE242 := n4_; have NB241_242 := n5_; have NB242_241 := n6_; clear n0_ n1_ n2_ n3_ n4_ n5_ n6_; clear hb hbox hg) | ((with_reducible refine gate_dst (N := 6) rfl ?_); refine box_event ?hg (N := 6) ?hd (cs := #[.int .i16 a2_0, .int .i16 a2_1]) (t := 55) ?hr ?_; (case hd => rfl); (case hg => rfl); (case hr => first | (go_simp; done) | (go_simp; rfl)); intro gb243 hg w8 hbox hb; have n0_ := bd_ BK241 hb; have n1_ := bd_ BK242 hb; have n2_ := Aside0.mk (below_step (by repeat (first | (with_reducible first | exact HB.out | apply below_alloc | apply pw_below_drewN | apply below_drew1 | refine below_set ?_ GE241.out | refine below_set ?_ GE242.out) | exact HB.out)) hb); have n3_ := Aside0.mk (hbox); have n4_ := Aside0.mk ((by rw [hg]; exact (below_size (by repeat (first | (with_reducible first | exact HB.out | apply below_alloc | apply pw_below_drewN | apply below_drew1 | refine below_set ?_ GE241.out | refine below_set ?_ GE242.out) | exact HB.out))) : w.heap.size ≤ gb243)); have n5_ := Aside0.mk ((by rw [hg]; exact (below_size (by repeat (first | (with_reducible first | exact HB.out | apply below_alloc | apply pw_below_drewN | apply below_drew1 | refine below_set ?_ GE241.out | refine below_set ?_ GE242.out) | exact HB.out))) : w.heap.size ≤ gb243)); have n6_ := nl_ BK241 hg; have n7_ := ng_ BK241 hg; have n8_ := nl_ BK242 hg; have n9_ := ng_ BK242 hg; clear BK241; clear BK242; clear HB; have BK241 := n0_; have BK242 := n1_; have HB := n2_; have BK243 := n3_; have GW243 := n4_; have GE243 := n5_; have NB241_243 := n6_; have NB243_241 := n7_; have NB242_243 := n8_; have NB243_242 := n9_; clear n0_ n1_ n2_ n3_ n4_ n5_ n6_ n7_ n8_ n9_; clear hb hbox hg) | ((with_reducible refine gate_dst (N := 7) rfl ?_); refine box_event ?hg (N := 7) ?hd (cs := #[.int .i16 a3_0, .int .i16 a3_1]) (t := 55) ?hr ?_; (case hd => rfl); (case hg => rfl); (case hr => first | (go_simp; done) | (go_simp; rfl)); intro gb244 hg w9 hbox hb; have n0_ := bd_ BK241 hb; have n1_ := bd_ BK242 hb; have n2_ := bd_ BK243 hb; have n3_ := Aside0.mk (below_step (by repeat (first | (with_reducible first | exact HB.out | apply below_alloc | apply pw_below_drewN | apply below_drew1 | refine below_set ?_ GE241.out | refine below_set ?_ GE242.out | refine below_set ?_ GE243.out) | exact HB.out)) hb); have n4_ := Aside0.mk (hbox); have n5_ := Aside0.mk ((by rw [hg]; exact (below_size (by repeat (first | (with_reducible first | exact HB.out | apply below_alloc | apply pw_below_drewN | apply below_drew1 | refine below_set ?_ GE241.out | refine below_set ?_ GE242.out | refine below_set ?_ GE243.out) | exact HB.out))) : w.heap.size ≤ gb244)); have n6_ := Aside0.mk ((by rw [hg]; exact (below_size (by repeat (first | (with_reducible first | exact HB.out | apply below_alloc | apply pw_below_drewN | apply below_drew1 | refine below_set ?_ GE241.out | refine below_set ?_ GE242.out | refine below_set ?_ GE243.out) | exact HB.out))) : w.heap.size ≤ gb244)); have n7_ := nl_ BK241 hg; have n8_ := ng_ BK241 hg; have n9_ := nl_ BK242 hg; have n10_ := ng_ BK242 hg; have n11_ := nl_ BK243 hg; have n12_ := ng_ BK243 hg; clear BK241; clear BK242; clear BK243; clear HB; have BK241 := n0_; have BK242 := n1_; have BK243 := n2_; have HB := n3_; have BK244 := n4_; have GW244 := n5_; have GE244 := n6_; have NB241_244 := n7_; have NB244_241 := n8_; have NB242_244 := n9_; have NB244_242 := n10_; have NB243_244 := n11_; have NB244_243 := n12_; clear n0_ n1_ n2_ n3_ n4_ n5_ n6_ n7_ n8_ n9_ n10_ n11_ n12_; clear hb hbox hg))
 repeat (go_quiet (fail); try go_wp2)
 (try simp only [Act.put, List.setIfInBounds_toArray, List.set_cons_zero, List.set_cons_succ])
 go_cut [22] (fun v22 wc => ∃ (kq : Nat) (x22_4 : Bool), v22 = .bool x22_4 ∧ Aside0 (impl_common.j0 kq x22_4 a0_0 a0_1 a1_0 a1_1 a2_0 a2_1 a3_0 a3_1 = some r) ∧ Aside0 (kq ≤ k) ∧ Aside0 (wc.heap[gb241]? = some (.cells #[.int .i16 a0_0, .int .i16 a0_1] 55 (0, 0))) ∧ Aside0 (wc.heap[gb242]? = some (.cells #[.int .i16 a1_0, .int .i16 a1_1] 55 (0, 0))) ∧ Aside0 (wc.heap[gb243]? = some (.cells #[.int .i16 a2_0, .int .i16 a2_1] 55 (0, 0))) ∧ Aside0 (wc.heap[gb244]? = some (.cells #[.int .i16 a3_0, .int .i16 a3_1] 55 (0, 0))) ∧ Aside0 (Below w.heap.size w wc))
 case first =>
  have H := HC5.out
  clear HC5
  replace H := Option.bind_eq_some_iff.mp H
  obtain ⟨t245, A100, H⟩ := H
  replace H : (if t245 = 0 then ((impl_side.f a0_0 a0_1 a1_0 a1_1 a3_0 a3_1).bind fun t246 => (impl_common.j0 k (t246 != 0) a0_0 a0_1 a1_0 a1_1 a2_0 a2_1 a3_0 a3_1)) else (impl_common.j0 k true a0_0 a0_1 a1_0 a1_1 a2_0 a2_1 a3_0 a3_1)) = some r := H
  have A10 := Aside0.mk A100
  clear A100
  by_cases c11 : t245 = 0
  ·
   rw [if_pos c11] at H
   have c11b0 : (t245 == 0) = true := beq_iff_eq.mpr c11
   have c11b1 : (t245 != 0) = false := bne_eq_false_iff_eq.mpr c11
   clear c11
   (first | rw [c11b0] | (simp only [i64_w, i32_w]; rw [c11b0]) | skip)
   replace H := Option.bind_eq_some_iff.mp H
   obtain ⟨t246, A120, H⟩ := H
   replace H : (impl_common.j0 k (t246 != 0) a0_0 a0_1 a1_0 a1_1 a2_0 a2_1 a3_0 a3_1) = some r := H
   have A12 := Aside0.mk A120
   clear A120
   have H' := Aside0.mk H
   clear H
   have hnb13 := NB241_242.out
   have hnc13 := NB242_241.out
   have hnb14 := NB241_243.out
   have hnc14 := NB243_241.out
   have hnb15 := NB241_244.out
   have hnc15 := NB244_241.out
   have hcz16_0 : w9.cell? ⟨gb241, 0, none⟩ = some (.int .i16 a0_0) := (blk_cell BK241.out 0).trans rfl
   have hcz16_1 : w9.cell? ⟨gb241, 1, none⟩ = some (.int .i16 a0_1) := (blk_cell BK241.out 1).trans rfl
   have hfz16_0 := blk_frozen BK241.out 0
   have hfz16_1 := blk_frozen BK241.out 1
   have hnb17 := NB242_243.out
   have hnc17 := NB243_242.out
   have hnb18 := NB242_244.out
   have hnc18 := NB244_242.out
   have hcz19_0 : w9.cell? ⟨gb242, 0, none⟩ = some (.int .i16 a1_0) := (blk_cell BK242.out 0).trans rfl
   have hcz19_1 : w9.cell? ⟨gb242, 1, none⟩ = some (.int .i16 a1_1) := (blk_cell BK242.out 1).trans rfl
   have hfz19_0 := blk_frozen BK242.out 0
   have hfz19_1 := blk_frozen BK242.out 1
   have hnb20 := NB243_244.out
   have hnc20 := NB244_243.out
   have hcz21_0 : w9.cell? ⟨gb243, 0, none⟩ = some (.int .i16 a2_0) := (blk_cell BK243.out 0).trans rfl
   have hcz21_1 : w9.cell? ⟨gb243, 1, none⟩ = some (.int .i16 a2_1) := (blk_cell BK243.out 1).trans rfl
   have hfz21_0 := blk_frozen BK243.out 0
   have hfz21_1 := blk_frozen BK243.out 1
   go_wp2_with (first | (go_at_call 57; (with_reducible refine (impl_side.calls a0_0 a0_1 a1_0 a1_1 a2_0 a2_1 t245 _ A10.out).mono ?_); rintro e w22 ⟨rfl, hb⟩; have n0_ := bd_ BK241 hb; have n1_ := bd_ BK242 hb; have n2_ := bd_ BK243 hb; have n3_ := bd_ BK244 hb; have n4_ := Aside0.mk (below_step (by repeat (first | (with_reducible first | exact HB.out | apply below_alloc | apply pw_below_drewN | apply below_drew1 | refine below_set ?_ GE241.out | refine below_set ?_ GE242.out | refine below_set ?_ GE243.out | refine below_set ?_ GE244.out) | exact HB.out)) hb); clear BK241; clear BK242; clear BK243; clear BK244; clear HB; have BK241 := n0_; have BK242 := n1_; have BK243 := n2_; have BK244 := n3_; have HB := n4_; clear n0_ n1_ n2_ n3_ n4_; (try clear hb); (try clear hb2); (try clear hk); (try clear hi); have hcz23_0 : w22.cell? ⟨gb241, 0, none⟩ = some (.int .i16 a0_0) := (blk_cell BK241.out 0).trans rfl; have hcz23_1 : w22.cell? ⟨gb241, 1, none⟩ = some (.int .i16 a0_1) := (blk_cell BK241.out 1).trans rfl; have hfz23_0 := blk_frozen BK241.out 0; have hfz23_1 := blk_frozen BK241.out 1; have hcz24_0 : w22.cell? ⟨gb242, 0, none⟩ = some (.int .i16 a1_0) := (blk_cell BK242.out 0).trans rfl; have hcz24_1 : w22.cell? ⟨gb242, 1, none⟩ = some (.int .i16 a1_1) := (blk_cell BK242.out 1).trans rfl; have hfz24_0 := blk_frozen BK242.out 0; have hfz24_1 := blk_frozen BK242.out 1; have hcz25_0 : w22.cell? ⟨gb244, 0, none⟩ = some (.int .i16 a3_0) := (blk_cell BK244.out 0).trans rfl; have hcz25_1 : w22.cell? ⟨gb244, 1, none⟩ = some (.int .i16 a3_1) := (blk_cell BK244.out 1).trans rfl; have hfz25_0 := blk_frozen BK244.out 0; have hfz25_1 := blk_frozen BK244.out 1) | (go_at_call 57; (with_reducible refine (impl_side.calls a0_0 a0_1 a1_0 a1_1 a3_0 a3_1 t246 _ A12.out).mono ?_); rintro e w26 ⟨rfl, hb⟩; have n0_ := bd_ BK241 hb; have n1_ := bd_ BK242 hb; have n2_ := bd_ BK243 hb; have n3_ := bd_ BK244 hb; have n4_ := Aside0.mk (below_step (by repeat (first | (with_reducible first | exact HB.out | apply below_alloc | apply pw_below_drewN | apply below_drew1 | refine below_set ?_ GE241.out | refine below_set ?_ GE242.out | refine below_set ?_ GE243.out | refine below_set ?_ GE244.out) | exact HB.out)) hb); clear BK241; clear BK242; clear BK243; clear BK244; clear HB; have BK241 := n0_; have BK242 := n1_; have BK243 := n2_; have BK244 := n3_; have HB := n4_; clear n0_ n1_ n2_ n3_ n4_; (try clear hb); (try clear hb2); (try clear hk); (try clear hi)))
   repeat (go_quiet (fail); try go_wp2)
   go_meet
   case rel => exact ⟨_, ((t246 != 0)), (by first | rfl | (simp; done) | (simp [*]; done)), H', ⟨by first | omega | exact Nat.le_refl _⟩, ⟨bk_ BK241⟩, ⟨bk_ BK242⟩, ⟨bk_ BK243⟩, ⟨bk_ BK244⟩, ⟨by repeat (first | (with_reducible first | exact HB.out | apply below_alloc | apply pw_below_drewN | apply below_drew1 | refine below_set ?_ GE241.out | refine below_set ?_ GE242.out | refine below_set ?_ GE243.out | refine below_set ?_ GE244.out) | exact HB.out)⟩⟩
  ·
   rw [if_neg c11] at H
   have c11b0 : (t245 == 0) = false := beq_eq_false_iff_ne.mpr c11
   have c11b1 : (t245 != 0) = true := bne_iff_ne.mpr c11
   (first | rw [c11b0] | (simp only [i64_w, i32_w]; rw [c11b0]) | skip)
   have H' := Aside0.mk H
   clear H
   have hnb27 := NB241_242.out
   have hnc27 := NB242_241.out
   have hnb28 := NB241_243.out
   have hnc28 := NB243_241.out
   have hnb29 := NB241_244.out
   have hnc29 := NB244_241.out
   have hcz30_0 : w9.cell? ⟨gb241, 0, none⟩ = some (.int .i16 a0_0) := (blk_cell BK241.out 0).trans rfl
   have hcz30_1 : w9.cell? ⟨gb241, 1, none⟩ = some (.int .i16 a0_1) := (blk_cell BK241.out 1).trans rfl
   have hfz30_0 := blk_frozen BK241.out 0
   have hfz30_1 := blk_frozen BK241.out 1
   have hnb31 := NB242_243.out
   have hnc31 := NB243_242.out
   have hnb32 := NB242_244.out
   have hnc32 := NB244_242.out
   have hcz33_0 : w9.cell? ⟨gb242, 0, none⟩ = some (.int .i16 a1_0) := (blk_cell BK242.out 0).trans rfl
   have hcz33_1 : w9.cell? ⟨gb242, 1, none⟩ = some (.int .i16 a1_1) := (blk_cell BK242.out 1).trans rfl
   have hfz33_0 := blk_frozen BK242.out 0
   have hfz33_1 := blk_frozen BK242.out 1
   have hnb34 := NB243_244.out
   have hnc34 := NB244_243.out
   have hcz35_0 : w9.cell? ⟨gb243, 0, none⟩ = some (.int .i16 a2_0) := (blk_cell BK243.out 0).trans rfl
   have hcz35_1 : w9.cell? ⟨gb243, 1, none⟩ = some (.int .i16 a2_1) := (blk_cell BK243.out 1).trans rfl
   have hfz35_0 := blk_frozen BK243.out 0
   have hfz35_1 := blk_frozen BK243.out 1
   go_wp2_with (first | (go_at_call 57; (with_reducible refine (impl_side.calls a0_0 a0_1 a1_0 a1_1 a2_0 a2_1 t245 _ A10.out).mono ?_); rintro e w36 ⟨rfl, hb⟩; have n0_ := bd_ BK241 hb; have n1_ := bd_ BK242 hb; have n2_ := bd_ BK243 hb; have n3_ := bd_ BK244 hb; have n4_ := Aside0.mk (below_step (by repeat (first | (with_reducible first | exact HB.out | apply below_alloc | apply pw_below_drewN | apply below_drew1 | refine below_set ?_ GE241.out | refine below_set ?_ GE242.out | refine below_set ?_ GE243.out | refine below_set ?_ GE244.out) | exact HB.out)) hb); clear BK241; clear BK242; clear BK243; clear BK244; clear HB; have BK241 := n0_; have BK242 := n1_; have BK243 := n2_; have BK244 := n3_; have HB := n4_; clear n0_ n1_ n2_ n3_ n4_; (try clear hb); (try clear hb2); (try clear hk); (try clear hi)))
   repeat (go_quiet (fail); try go_wp2)
   go_meet
   case rel => exact ⟨_, (true), (by first | rfl | (simp; done) | (simp [*]; done)), H', ⟨by first | omega | exact Nat.le_refl _⟩, ⟨bk_ BK241⟩, ⟨bk_ BK242⟩, ⟨bk_ BK243⟩, ⟨bk_ BK244⟩, ⟨by repeat (first | (with_reducible first | exact HB.out | apply below_alloc | apply pw_below_drewN | apply below_drew1 | refine below_set ?_ GE241.out | refine below_set ?_ GE242.out | refine below_set ?_ GE243.out | refine below_set ?_ GE244.out) | exact HB.out)⟩⟩
 case rest =>
  clear HC5
  try clear c1
  try clear c2
  try clear p2
  try clear c3
  try clear c4
  try clear c11
  try clear c11b0
  try clear c11b1
  try clear c13
  try clear c14
  try clear c15
  try clear c17
  try clear c18
  try clear c20
  try clear c27
  try clear c28
  try clear c29
  try clear c31
  try clear c32
  try clear c34
  try clear hcz16_0
  try clear hcz16_1
  try clear hcz19_0
  try clear hcz19_1
  try clear hcz21_0
  try clear hcz21_1
  try clear hcz23_0
  try clear hcz23_1
  try clear hcz24_0
  try clear hcz24_1
  try clear hcz25_0
  try clear hcz25_1
  try clear hcz30_0
  try clear hcz30_1
  try clear hcz33_0
  try clear hcz33_1
  try clear hcz35_0
  try clear hcz35_1
  try clear hfz16_0
  try clear hfz16_1
  try clear hfz19_0
  try clear hfz19_1
  try clear hfz21_0
  try clear hfz21_1
  try clear hfz23_0
  try clear hfz23_1
  try clear hfz24_0
  try clear hfz24_1
  try clear hfz25_0
  try clear hfz25_1
  try clear hfz30_0
  try clear hfz30_1
  try clear hfz33_0
  try clear hfz33_1
  try clear hfz35_0
  try clear hfz35_1
  obtain ⟨kq, x22_4, rfl, HA, HJ4, BK241, BK242, BK243, BK244, HB⟩ := hcut
  cases kq with
  | zero => exact absurd HA.out (by simp [impl_common.j0])
  | succ kj4 =>
   have H := HA.out
   clear HA
   simp only [impl_common.j0] at H
   by_cases c37 : x22_4 = true
   ·
    subst c37
    have H1 : (some 0) = some r := by rw [if_pos rfl] at H; exact H
    clear H
    have H := H1
    clear H1
    obtain rfl := Option.some.inj H
    go_wp2
    repeat (go_quiet (fail); try go_wp2)
    go_ret
    exact ⟨by first | rfl | (simp [errW_none, errW_some] <;> rfl) | (simp [*, errW_none, errW_some] <;> rfl), by repeat (first | (with_reducible first | exact HB.out | apply below_alloc | apply pw_below_drewN | apply below_drew1 | refine below_set ?_ GE241.out | refine below_set ?_ GE242.out | refine below_set ?_ GE243.out | refine below_set ?_ GE244.out) | exact HB.out)⟩
   ·
    replace c37 := Bool.eq_false_iff.mpr c37
    subst c37
    have H1 : ((impl_cornerLess.f a1_0 a1_1 a0_0 a0_1).bind fun t247 => (if t247 = true then (impl_common.j1 kj4 a1_0 a1_1 a0_0 a0_1 a2_0 a2_1 a3_0 a3_1) else (impl_common.j1 kj4 a0_0 a0_1 a1_0 a1_1 a2_0 a2_1 a3_0 a3_1))) = some r := by rw [if_neg (show ¬ (false = true) by decide)] at H; exact H
    clear H
    have H := H1
    clear H1
    replace H := Option.bind_eq_some_iff.mp H
    obtain ⟨t247, A380, H⟩ := H
    replace H : (if t247 = true then (impl_common.j1 kj4 a1_0 a1_1 a0_0 a0_1 a2_0 a2_1 a3_0 a3_1) else (impl_common.j1 kj4 a0_0 a0_1 a1_0 a1_1 a2_0 a2_1 a3_0 a3_1)) = some r := H
    have A38 := Aside0.mk A380
    clear A380
    have HC39 := Aside0.mk H
    clear H
    have hnb40 := NB242_241.out
    have hnc40 := NB241_242.out
    have hnb41 := NB242_243.out
    have hnc41 := NB243_242.out
    have hnb42 := NB242_244.out
    have hnc42 := NB244_242.out
    have hcz43_0 : wc.cell? ⟨gb242, 0, none⟩ = some (.int .i16 a1_0) := (blk_cell BK242.out 0).trans rfl
    have hcz43_1 : wc.cell? ⟨gb242, 1, none⟩ = some (.int .i16 a1_1) := (blk_cell BK242.out 1).trans rfl
    have hfz43_0 := blk_frozen BK242.out 0
    have hfz43_1 := blk_frozen BK242.out 1
    have hnb44 := NB241_243.out
    have hnc44 := NB243_241.out
    have hnb45 := NB241_244.out
    have hnc45 := NB244_241.out
    have hcz46_0 : wc.cell? ⟨gb241, 0, none⟩ = some (.int .i16 a0_0) := (blk_cell BK241.out 0).trans rfl
    have hcz46_1 : wc.cell? ⟨gb241, 1, none⟩ = some (.int .i16 a0_1) := (blk_cell BK241.out 1).trans rfl
    have hfz46_0 := blk_frozen BK241.out 0
    have hfz46_1 := blk_frozen BK241.out 1
    go_upto_if 25 with (first | (go_at_call 35; (with_reducible refine (impl_cornerLess.calls a1_0 a1_1 a0_0 a0_1 t247 _ A38.out).mono ?_); rintro e w47 ⟨rfl, hb⟩; have n0_ := bd_ BK241 hb; have n1_ := bd_ BK242 hb; have n2_ := bd_ BK243 hb; have n3_ := bd_ BK244 hb; have n4_ := Aside0.mk (below_step (by repeat (first | (with_reducible first | exact HB.out | apply below_alloc | apply pw_below_drewN | apply below_drew1 | refine below_set ?_ GE241.out | refine below_set ?_ GE242.out | refine below_set ?_ GE243.out | refine below_set ?_ GE244.out) | exact HB.out)) hb); clear BK241; clear BK242; clear BK243; clear BK244; clear HB; have BK241 := n0_; have BK242 := n1_; have BK243 := n2_; have BK244 := n3_; have HB := n4_; clear n0_ n1_ n2_ n3_ n4_; (try clear hb); (try clear hb2); (try clear hk); (try clear hi)))
    repeat (go_quiet (fail); try go_wp2)
    (try simp only [Act.put, List.setIfInBounds_toArray, List.set_cons_zero, List.set_cons_succ])
    go_cut [] (fun wc => ∃ (kq : Nat) (x242000_38 : Int) (x242001_38 : Int) (x243000_38 : Int) (x243001_38 : Int), Aside0 (impl_common.j1 kq x242000_38 x242001_38 x243000_38 x243001_38 a2_0 a2_1 a3_0 a3_1 = some r) ∧ Aside0 (kq ≤ kj4) ∧ Aside0 (wc.heap[gb241]? = some (.cells #[.int .i16 x242000_38, .int .i16 x242001_38] 55 (0, 0))) ∧ Aside0 (wc.heap[gb242]? = some (.cells #[.int .i16 x243000_38, .int .i16 x243001_38] 55 (0, 0))) ∧ Aside0 (wc.heap[gb243]? = some (.cells #[.int .i16 a2_0, .int .i16 a2_1] 55 (0, 0))) ∧ Aside0 (wc.heap[gb244]? = some (.cells #[.int .i16 a3_0, .int .i16 a3_1] 55 (0, 0))) ∧ Aside0 (Below w.heap.size w wc))
    case first =>
     have H := HC39.out
     clear HC39
     by_cases c48 : t247 = true
     ·
      subst c48
      have H1 : (impl_common.j1 kj4 a1_0 a1_1 a0_0 a0_1 a2_0 a2_1 a3_0 a3_1) = some r := by rw [if_pos rfl] at H; exact H
      clear H
      have H := H1
      clear H1
      have H' := Aside0.mk H
      clear H
      have hnb49 := NB242_241.out
      have hnc49 := NB241_242.out
      have hnb50 := NB242_243.out
      have hnc50 := NB243_242.out
      have hnb51 := NB242_244.out
      have hnc51 := NB244_242.out
      have hcz52_0 : w47.cell? ⟨gb242, 0, none⟩ = some (.int .i16 a1_0) := (blk_cell BK242.out 0).trans rfl
      have hcz52_1 : w47.cell? ⟨gb242, 1, none⟩ = some (.int .i16 a1_1) := (blk_cell BK242.out 1).trans rfl
      have hfz52_0 := blk_frozen BK242.out 0
      have hfz52_1 := blk_frozen BK242.out 1
      have hnb53 := NB241_243.out
      have hnc53 := NB243_241.out
      have hnb54 := NB241_244.out
      have hnc54 := NB244_241.out
      have hcz55_0 : w47.cell? ⟨gb241, 0, none⟩ = some (.int .i16 a0_0) := (blk_cell BK241.out 0).trans rfl
      have hcz55_1 : w47.cell? ⟨gb241, 1, none⟩ = some (.int .i16 a0_1) := (blk_cell BK241.out 1).trans rfl
      have hfz55_0 := blk_frozen BK241.out 0
      have hfz55_1 := blk_frozen BK241.out 1
      go_wp2
      repeat (go_quiet (fail); try go_wp2)
      go_meet
      case rel => exact ⟨_, (a1_0), (a1_1), (a0_0), (a0_1), H', ⟨by have := HJ4.out; first | omega | exact Nat.le_refl _⟩, ⟨by (with_reducible repeat (first | refine blk_drewN ?_ _ | refine blk_drew ?_ | refine blk_alloc ?_ _)); refine blk_far ?_ NB241_242.out _; (with_reducible repeat (first | refine blk_drewN ?_ _ | refine blk_drew ?_ | refine blk_alloc ?_ _)); refine blk_far ?_ NB241_242.out _; (with_reducible repeat (first | refine blk_drewN ?_ _ | refine blk_drew ?_ | refine blk_alloc ?_ _)); refine blk_put (cs := #[.int .i16 a1_0, .int .i16 a0_1]) ?_ 1 _ rfl; (with_reducible repeat (first | refine blk_drewN ?_ _ | refine blk_drew ?_ | refine blk_alloc ?_ _)); refine blk_put (cs := #[.int .i16 a0_0, .int .i16 a0_1]) ?_ 0 _ rfl; (with_reducible repeat (first | refine blk_drewN ?_ _ | refine blk_drew ?_ | refine blk_alloc ?_ _)); exact BK241.out⟩, ⟨by (with_reducible repeat (first | refine blk_drewN ?_ _ | refine blk_drew ?_ | refine blk_alloc ?_ _)); refine blk_put (cs := #[.int .i16 a0_0, .int .i16 a1_1]) ?_ 1 _ rfl; (with_reducible repeat (first | refine blk_drewN ?_ _ | refine blk_drew ?_ | refine blk_alloc ?_ _)); refine blk_put (cs := #[.int .i16 a1_0, .int .i16 a1_1]) ?_ 0 _ rfl; (with_reducible repeat (first | refine blk_drewN ?_ _ | refine blk_drew ?_ | refine blk_alloc ?_ _)); refine blk_far ?_ NB242_241.out _; (with_reducible repeat (first | refine blk_drewN ?_ _ | refine blk_drew ?_ | refine blk_alloc ?_ _)); refine blk_far ?_ NB242_241.out _; (with_reducible repeat (first | refine blk_drewN ?_ _ | refine blk_drew ?_ | refine blk_alloc ?_ _)); exact BK242.out⟩, ⟨by (with_reducible repeat (first | refine blk_drewN ?_ _ | refine blk_drew ?_ | refine blk_alloc ?_ _)); refine blk_far ?_ NB243_242.out _; (with_reducible repeat (first | refine blk_drewN ?_ _ | refine blk_drew ?_ | refine blk_alloc ?_ _)); refine blk_far ?_ NB243_242.out _; (with_reducible repeat (first | refine blk_drewN ?_ _ | refine blk_drew ?_ | refine blk_alloc ?_ _)); refine blk_far ?_ NB243_241.out _; (with_reducible repeat (first | refine blk_drewN ?_ _ | refine blk_drew ?_ | refine blk_alloc ?_ _)); refine blk_far ?_ NB243_241.out _; (with_reducible repeat (first | refine blk_drewN ?_ _ | refine blk_drew ?_ | refine blk_alloc ?_ _)); exact BK243.out⟩, ⟨by (with_reducible repeat (first | refine blk_drewN ?_ _ | refine blk_drew ?_ | refine blk_alloc ?_ _)); refine blk_far ?_ NB244_242.out _; (with_reducible repeat (first | refine blk_drewN ?_ _ | refine blk_drew ?_ | refine blk_alloc ?_ _)); refine blk_far ?_ NB244_242.out _; (with_reducible repeat (first | refine blk_drewN ?_ _ | refine blk_drew ?_ | refine blk_alloc ?_ _)); refine blk_far ?_ NB244_241.out _; (with_reducible repeat (first | refine blk_drewN ?_ _ | refine blk_drew ?_ | refine blk_alloc ?_ _)); refine blk_far ?_ NB244_241.out _; (with_reducible repeat (first | refine blk_drewN ?_ _ | refine blk_drew ?_ | refine blk_alloc ?_ _)); exact BK244.out⟩, ⟨by repeat (first | (with_reducible first | exact HB.out | apply below_alloc | apply pw_below_drewN | apply below_drew1 | refine below_set ?_ GE241.out | refine below_set ?_ GE242.out | refine below_set ?_ GE243.out | refine below_set ?_ GE244.out) | exact HB.out)⟩⟩
     ·
      replace c48 := Bool.eq_false_iff.mpr c48
      subst c48
      have H1 : (impl_common.j1 kj4 a0_0 a0_1 a1_0 a1_1 a2_0 a2_1 a3_0 a3_1) = some r := by rw [if_neg (show ¬ (false = true) by decide)] at H; exact H
      clear H
      have H := H1
      clear H1
      have H' := Aside0.mk H
      clear H
      go_wp2
      repeat (go_quiet (fail); try go_wp2)
      go_meet
      case rel => exact ⟨_, (a0_0), (a0_1), (a1_0), (a1_1), H', ⟨by have := HJ4.out; first | omega | exact Nat.le_refl _⟩, ⟨bk_ BK241⟩, ⟨bk_ BK242⟩, ⟨bk_ BK243⟩, ⟨bk_ BK244⟩, ⟨by repeat (first | (with_reducible first | exact HB.out | apply below_alloc | apply pw_below_drewN | apply below_drew1 | refine below_set ?_ GE241.out | refine below_set ?_ GE242.out | refine below_set ?_ GE243.out | refine below_set ?_ GE244.out) | exact HB.out)⟩⟩
    case rest =>
     clear HC39
     try clear c1
     try clear c2
     try clear p2
     try clear c3
     try clear c4
     try clear c5
     try clear c11
     try clear c11b0
     try clear c11b1
     try clear c13
     try clear c14
     try clear c15
     try clear c17
     try clear c18
     try clear c20
     try clear c27
     try clear c28
     try clear c29
     try clear c31
     try clear c32
     try clear c34
     try clear c37
     try clear c40
     try clear c41
     try clear c42
     try clear c44
     try clear c45
     try clear c46
     try clear c48
     try clear c49
     try clear c50
     try clear c51
     try clear c53
     try clear c54
     try clear hcz16_0
     try clear hcz16_1
     try clear hcz19_0
     try clear hcz19_1
     try clear hcz21_0
     try clear hcz21_1
     try clear hcz23_0
     try clear hcz23_1
     try clear hcz24_0
     try clear hcz24_1
     try clear hcz25_0
     try clear hcz25_1
     try clear hcz30_0
     try clear hcz30_1
     try clear hcz33_0
     try clear hcz33_1
     try clear hcz35_0
     try clear hcz35_1
     try clear hcz43_0
     try clear hcz43_1
     try clear hcz46_0
     try clear hcz46_1
     try clear hcz52_0
     try clear hcz52_1
     try clear hcz55_0
     try clear hcz55_1
     try clear hfz16_0
     try clear hfz16_1
     try clear hfz19_0
     try clear hfz19_1
     try clear hfz21_0
     try clear hfz21_1
     try clear hfz23_0
     try clear hfz23_1
     try clear hfz24_0
     try clear hfz24_1
     try clear hfz25_0
     try clear hfz25_1
     try clear hfz30_0
     try clear hfz30_1
     try clear hfz33_0
     try clear hfz33_1
     try clear hfz35_0
     try clear hfz35_1
     try clear hfz43_0
     try clear hfz43_1
     try clear hfz46_0
     try clear hfz46_1
     try clear hfz52_0
     try clear hfz52_1
     try clear hfz55_0
     try clear hfz55_1
     try clear p2
     obtain ⟨kq, x242000_38, x242001_38, x243000_38, x243001_38, HA, HJ38, BK241, BK242, BK243, BK244, HB⟩ := hcut
     cases kq with
     | zero => exact absurd HA.out (by simp [impl_common.j1])
     | succ kj38 =>
      have H := HA.out
      clear HA
      simp only [impl_common.j1] at H
      replace H := Option.bind_eq_some_iff.mp H
      obtain ⟨t248, A560, H⟩ := H
      replace H : (if t248 = true then (impl_common.j2 kj38 x242000_38 x242001_38 x243000_38 x243001_38 a3_0 a3_1 a2_0 a2_1) else (impl_common.j2 kj38 x242000_38 x242001_38 x243000_38 x243001_38 a2_0 a2_1 a3_0 a3_1)) = some r := H
      have A56 := Aside0.mk A560
      clear A560
      have HC57 := Aside0.mk H
      clear H
      have hnb58 := NB244_241.out
      have hnc58 := NB241_244.out
      have hnb59 := NB244_242.out
      have hnc59 := NB242_244.out
      have hnb60 := NB244_243.out
      have hnc60 := NB243_244.out
      have hcz61_0 : wc.cell? ⟨gb244, 0, none⟩ = some (.int .i16 a3_0) := (blk_cell BK244.out 0).trans rfl
      have hcz61_1 : wc.cell? ⟨gb244, 1, none⟩ = some (.int .i16 a3_1) := (blk_cell BK244.out 1).trans rfl
      have hfz61_0 := blk_frozen BK244.out 0
      have hfz61_1 := blk_frozen BK244.out 1
      have hnb62 := NB243_241.out
      have hnc62 := NB241_243.out
      have hnb63 := NB243_242.out
      have hnc63 := NB242_243.out
      have hcz64_0 : wc.cell? ⟨gb243, 0, none⟩ = some (.int .i16 a2_0) := (blk_cell BK243.out 0).trans rfl
      have hcz64_1 : wc.cell? ⟨gb243, 1, none⟩ = some (.int .i16 a2_1) := (blk_cell BK243.out 1).trans rfl
      have hfz64_0 := blk_frozen BK243.out 0
      have hfz64_1 := blk_frozen BK243.out 1
      go_upto_if 30 with (first | (go_at_call 35; (with_reducible refine (impl_cornerLess.calls a3_0 a3_1 a2_0 a2_1 t248 _ A56.out).mono ?_); rintro e w65 ⟨rfl, hb⟩; have n0_ := bd_ BK241 hb; have n1_ := bd_ BK242 hb; have n2_ := bd_ BK243 hb; have n3_ := bd_ BK244 hb; have n4_ := Aside0.mk (below_step (by repeat (first | (with_reducible first | exact HB.out | apply below_alloc | apply pw_below_drewN | apply below_drew1 | refine below_set ?_ GE241.out | refine below_set ?_ GE242.out | refine below_set ?_ GE243.out | refine below_set ?_ GE244.out) | exact HB.out)) hb); clear BK241; clear BK242; clear BK243; clear BK244; clear HB; have BK241 := n0_; have BK242 := n1_; have BK243 := n2_; have BK244 := n3_; have HB := n4_; clear n0_ n1_ n2_ n3_ n4_; (try clear hb); (try clear hb2); (try clear hk); (try clear hi)))
      repeat (go_quiet (fail); try go_wp2)
      (try simp only [Act.put, List.setIfInBounds_toArray, List.set_cons_zero, List.set_cons_succ])
      go_cut [] (fun wc => ∃ (kq : Nat) (x244000_56 : Int) (x244001_56 : Int) (x245000_56 : Int) (x245001_56 : Int), Aside0 (impl_common.j2 kq x242000_38 x242001_38 x243000_38 x243001_38 x244000_56 x244001_56 x245000_56 x245001_56 = some r) ∧ Aside0 (kq ≤ kj38) ∧ Aside0 (wc.heap[gb241]? = some (.cells #[.int .i16 x242000_38, .int .i16 x242001_38] 55 (0, 0))) ∧ Aside0 (wc.heap[gb242]? = some (.cells #[.int .i16 x243000_38, .int .i16 x243001_38] 55 (0, 0))) ∧ Aside0 (wc.heap[gb243]? = some (.cells #[.int .i16 x244000_56, .int .i16 x244001_56] 55 (0, 0))) ∧ Aside0 (wc.heap[gb244]? = some (.cells #[.int .i16 x245000_56, .int .i16 x245001_56] 55 (0, 0))) ∧ Aside0 (Below w.heap.size w wc))
      case first =>
       have H := HC57.out
       clear HC57
       by_cases c66 : t248 = true
       ·
        subst c66
        have H1 : (impl_common.j2 kj38 x242000_38 x242001_38 x243000_38 x243001_38 a3_0 a3_1 a2_0 a2_1) = some r := by rw [if_pos rfl] at H; exact H
        clear H
        have H := H1
        clear H1
        have H' := Aside0.mk H
        clear H
        have hnb67 := NB244_241.out
        have hnc67 := NB241_244.out
        have hnb68 := NB244_242.out
        have hnc68 := NB242_244.out
        have hnb69 := NB244_243.out
        have hnc69 := NB243_244.out
        have hcz70_0 : w65.cell? ⟨gb244, 0, none⟩ = some (.int .i16 a3_0) := (blk_cell BK244.out 0).trans rfl
        have hcz70_1 : w65.cell? ⟨gb244, 1, none⟩ = some (.int .i16 a3_1) := (blk_cell BK244.out 1).trans rfl
        have hfz70_0 := blk_frozen BK244.out 0
        have hfz70_1 := blk_frozen BK244.out 1
        have hnb71 := NB243_241.out
        have hnc71 := NB241_243.out
        have hnb72 := NB243_242.out
        have hnc72 := NB242_243.out
        have hcz73_0 : w65.cell? ⟨gb243, 0, none⟩ = some (.int .i16 a2_0) := (blk_cell BK243.out 0).trans rfl
        have hcz73_1 : w65.cell? ⟨gb243, 1, none⟩ = some (.int .i16 a2_1) := (blk_cell BK243.out 1).trans rfl
        have hfz73_0 := blk_frozen BK243.out 0
        have hfz73_1 := blk_frozen BK243.out 1
        go_wp2
        repeat (go_quiet (fail); try go_wp2)
        go_meet
        case rel => exact ⟨_, (a3_0), (a3_1), (a2_0), (a2_1), H', ⟨by have := HJ4.out; have := HJ38.out; first | omega | exact Nat.le_refl _⟩, ⟨by (with_reducible repeat (first | refine blk_drewN ?_ _ | refine blk_drew ?_ | refine blk_alloc ?_ _)); refine blk_far ?_ NB241_244.out _; (with_reducible repeat (first | refine blk_drewN ?_ _ | refine blk_drew ?_ | refine blk_alloc ?_ _)); refine blk_far ?_ NB241_244.out _; (with_reducible repeat (first | refine blk_drewN ?_ _ | refine blk_drew ?_ | refine blk_alloc ?_ _)); refine blk_far ?_ NB241_243.out _; (with_reducible repeat (first | refine blk_drewN ?_ _ | refine blk_drew ?_ | refine blk_alloc ?_ _)); refine blk_far ?_ NB241_243.out _; (with_reducible repeat (first | refine blk_drewN ?_ _ | refine blk_drew ?_ | refine blk_alloc ?_ _)); exact BK241.out⟩, ⟨by (with_reducible repeat (first | refine blk_drewN ?_ _ | refine blk_drew ?_ | refine blk_alloc ?_ _)); refine blk_far ?_ NB242_244.out _; (with_reducible repeat (first | refine blk_drewN ?_ _ | refine blk_drew ?_ | refine blk_alloc ?_ _)); refine blk_far ?_ NB242_244.out _; (with_reducible repeat (first | refine blk_drewN ?_ _ | refine blk_drew ?_ | refine blk_alloc ?_ _)); refine blk_far ?_ NB242_243.out _; (with_reducible repeat (first | refine blk_drewN ?_ _ | refine blk_drew ?_ | refine blk_alloc ?_ _)); refine blk_far ?_ NB242_243.out _; (with_reducible repeat (first | refine blk_drewN ?_ _ | refine blk_drew ?_ | refine blk_alloc ?_ _)); exact BK242.out⟩, ⟨by (with_reducible repeat (first | refine blk_drewN ?_ _ | refine blk_drew ?_ | refine blk_alloc ?_ _)); refine blk_far ?_ NB243_244.out _; (with_reducible repeat (first | refine blk_drewN ?_ _ | refine blk_drew ?_ | refine blk_alloc ?_ _)); refine blk_far ?_ NB243_244.out _; (with_reducible repeat (first | refine blk_drewN ?_ _ | refine blk_drew ?_ | refine blk_alloc ?_ _)); refine blk_put (cs := #[.int .i16 a3_0, .int .i16 a2_1]) ?_ 1 _ rfl; (with_reducible repeat (first | refine blk_drewN ?_ _ | refine blk_drew ?_ | refine blk_alloc ?_ _)); refine blk_put (cs := #[.int .i16 a2_0, .int .i16 a2_1]) ?_ 0 _ rfl; (with_reducible repeat (first | refine blk_drewN ?_ _ | refine blk_drew ?_ | refine blk_alloc ?_ _)); exact BK243.out⟩, ⟨by (with_reducible repeat (first | refine blk_drewN ?_ _ | refine blk_drew ?_ | refine blk_alloc ?_ _)); refine blk_put (cs := #[.int .i16 a2_0, .int .i16 a3_1]) ?_ 1 _ rfl; (with_reducible repeat (first | refine blk_drewN ?_ _ | refine blk_drew ?_ | refine blk_alloc ?_ _)); refine blk_put (cs := #[.int .i16 a3_0, .int .i16 a3_1]) ?_ 0 _ rfl; (with_reducible repeat (first | refine blk_drewN ?_ _ | refine blk_drew ?_ | refine blk_alloc ?_ _)); refine blk_far ?_ NB244_243.out _; (with_reducible repeat (first | refine blk_drewN ?_ _ | refine blk_drew ?_ | refine blk_alloc ?_ _)); refine blk_far ?_ NB244_243.out _; (with_reducible repeat (first | refine blk_drewN ?_ _ | refine blk_drew ?_ | refine blk_alloc ?_ _)); exact BK244.out⟩, ⟨by repeat (first | (with_reducible first | exact HB.out | apply below_alloc | apply pw_below_drewN | apply below_drew1 | refine below_set ?_ GE241.out | refine below_set ?_ GE242.out | refine below_set ?_ GE243.out | refine below_set ?_ GE244.out) | exact HB.out)⟩⟩
       ·
        replace c66 := Bool.eq_false_iff.mpr c66
        subst c66
        have H1 : (impl_common.j2 kj38 x242000_38 x242001_38 x243000_38 x243001_38 a2_0 a2_1 a3_0 a3_1) = some r := by rw [if_neg (show ¬ (false = true) by decide)] at H; exact H
        clear H
        have H := H1
        clear H1
        have H' := Aside0.mk H
        clear H
        go_wp2
        repeat (go_quiet (fail); try go_wp2)
        go_meet
        case rel => exact ⟨_, (a2_0), (a2_1), (a3_0), (a3_1), H', ⟨by have := HJ4.out; have := HJ38.out; first | omega | exact Nat.le_refl _⟩, ⟨bk_ BK241⟩, ⟨bk_ BK242⟩, ⟨bk_ BK243⟩, ⟨bk_ BK244⟩, ⟨by repeat (first | (with_reducible first | exact HB.out | apply below_alloc | apply pw_below_drewN | apply below_drew1 | refine below_set ?_ GE241.out | refine below_set ?_ GE242.out | refine below_set ?_ GE243.out | refine below_set ?_ GE244.out) | exact HB.out)⟩⟩
      case rest =>
       clear HC57
       try clear c1
       try clear c2
       try clear p2
       try clear c3
       try clear c4
       try clear c5
       try clear c6
       try clear c7
       try clear c11
       try clear c11b0
       try clear c11b1
       try clear c13
       try clear c14
       try clear c15
       try clear c17
       try clear c18
       try clear c20
       try clear c27
       try clear c28
       try clear c29
       try clear c31
       try clear c32
       try clear c34
       try clear c37
       try clear c40
       try clear c41
       try clear c42
       try clear c44
       try clear c45
       try clear c46
       try clear c48
       try clear c49
       try clear c50
       try clear c51
       try clear c53
       try clear c54
       try clear c58
       try clear c59
       try clear c60
       try clear c62
       try clear c63
       try clear c66
       try clear c67
       try clear c68
       try clear c69
       try clear c71
       try clear c72
       try clear hcz16_0
       try clear hcz16_1
       try clear hcz19_0
       try clear hcz19_1
       try clear hcz21_0
       try clear hcz21_1
       try clear hcz23_0
       try clear hcz23_1
       try clear hcz24_0
       try clear hcz24_1
       try clear hcz25_0
       try clear hcz25_1
       try clear hcz30_0
       try clear hcz30_1
       try clear hcz33_0
       try clear hcz33_1
       try clear hcz35_0
       try clear hcz35_1
       try clear hcz43_0
       try clear hcz43_1
       try clear hcz46_0
       try clear hcz46_1
       try clear hcz52_0
       try clear hcz52_1
       try clear hcz55_0
       try clear hcz55_1
       try clear hcz61_0
       try clear hcz61_1
       try clear hcz64_0
       try clear hcz64_1
       try clear hcz70_0
       try clear hcz70_1
       try clear hcz73_0
       try clear hcz73_1
       try clear hfz16_0
       try clear hfz16_1
       try clear hfz19_0
       try clear hfz19_1
       try clear hfz21_0
       try clear hfz21_1
       try clear hfz23_0
       try clear hfz23_1
       try clear hfz24_0
       try clear hfz24_1
       try clear hfz25_0
       try clear hfz25_1
       try clear hfz30_0
       try clear hfz30_1
       try clear hfz33_0
       try clear hfz33_1
       try clear hfz35_0
       try clear hfz35_1
       try clear hfz43_0
       try clear hfz43_1
       try clear hfz46_0
       try clear hfz46_1
       try clear hfz52_0
       try clear hfz52_1
       try clear hfz55_0
       try clear hfz55_1
       try clear hfz61_0
       try clear hfz61_1
       try clear hfz64_0
       try clear hfz64_1
       try clear hfz70_0
       try clear hfz70_1
       try clear hfz73_0
       try clear hfz73_1
       try clear p2
       obtain ⟨kq, x244000_56, x244001_56, x245000_56, x245001_56, HA, HJ56, BK241, BK242, BK243, BK244, HB⟩ := hcut
       cases kq with
       | zero => exact absurd HA.out (by simp [impl_common.j2])
       | succ kj56 =>
        have H := HA.out
        clear HA
        simp only [impl_common.j2] at H
        replace H := Option.bind_eq_some_iff.mp H
        obtain ⟨t249, A740, H⟩ := H
        replace H : (if t249 = true then (impl_common.j3 kj56 x244000_56 x244001_56 x243000_38 x243001_38 x245000_56 x245001_56) else (impl_common.j3 kj56 x242000_38 x242001_38 x243000_38 x243001_38 x245000_56 x245001_56)) = some r := H
        have A74 := Aside0.mk A740
        clear A740
        have HC75 := Aside0.mk H
        clear H
        have hnb76 := NB241_242.out
        have hnc76 := NB242_241.out
        have hnb77 := NB241_243.out
        have hnc77 := NB243_241.out
        have hnb78 := NB241_244.out
        have hnc78 := NB244_241.out
        have hcz79_0 : wc.cell? ⟨gb241, 0, none⟩ = some (.int .i16 x242000_38) := (blk_cell BK241.out 0).trans rfl
        have hcz79_1 : wc.cell? ⟨gb241, 1, none⟩ = some (.int .i16 x242001_38) := (blk_cell BK241.out 1).trans rfl
        have hfz79_0 := blk_frozen BK241.out 0
        have hfz79_1 := blk_frozen BK241.out 1
        have hnb80 := NB243_242.out
        have hnc80 := NB242_243.out
        have hnb81 := NB243_244.out
        have hnc81 := NB244_243.out
        have hcz82_0 : wc.cell? ⟨gb243, 0, none⟩ = some (.int .i16 x244000_56) := (blk_cell BK243.out 0).trans rfl
        have hcz82_1 : wc.cell? ⟨gb243, 1, none⟩ = some (.int .i16 x244001_56) := (blk_cell BK243.out 1).trans rfl
        have hfz82_0 := blk_frozen BK243.out 0
        have hfz82_1 := blk_frozen BK243.out 1
        go_upto_if 35 with (first | (go_at_call 35; (with_reducible refine (impl_cornerLess.calls x242000_38 x242001_38 x244000_56 x244001_56 t249 _ A74.out).mono ?_); rintro e w83 ⟨rfl, hb⟩; have n0_ := bd_ BK241 hb; have n1_ := bd_ BK242 hb; have n2_ := bd_ BK243 hb; have n3_ := bd_ BK244 hb; have n4_ := Aside0.mk (below_step (by repeat (first | (with_reducible first | exact HB.out | apply below_alloc | apply pw_below_drewN | apply below_drew1 | refine below_set ?_ GE241.out | refine below_set ?_ GE242.out | refine below_set ?_ GE243.out | refine below_set ?_ GE244.out) | exact HB.out)) hb); clear BK241; clear BK242; clear BK243; clear BK244; clear HB; have BK241 := n0_; have BK242 := n1_; have BK243 := n2_; have BK244 := n3_; have HB := n4_; clear n0_ n1_ n2_ n3_ n4_; (try clear hb); (try clear hb2); (try clear hk); (try clear hi)))
        repeat (go_quiet (fail); try go_wp2)
        (try simp only [Act.put, List.setIfInBounds_toArray, List.set_cons_zero, List.set_cons_succ])
        go_cut [] (fun wc => ∃ (kq : Nat) (x242000_74 : Int) (x242001_74 : Int), Aside0 (impl_common.j3 kq x242000_74 x242001_74 x243000_38 x243001_38 x245000_56 x245001_56 = some r) ∧ Aside0 (kq ≤ kj56) ∧ Aside0 (wc.heap[gb241]? = some (.cells #[.int .i16 x242000_74, .int .i16 x242001_74] 55 (0, 0))) ∧ Aside0 (wc.heap[gb242]? = some (.cells #[.int .i16 x243000_38, .int .i16 x243001_38] 55 (0, 0))) ∧ Aside0 (wc.heap[gb243]? = some (.cells #[.int .i16 x244000_56, .int .i16 x244001_56] 55 (0, 0))) ∧ Aside0 (wc.heap[gb244]? = some (.cells #[.int .i16 x245000_56, .int .i16 x245001_56] 55 (0, 0))) ∧ Aside0 (Below w.heap.size w wc))
        case first =>
         have H := HC75.out
         clear HC75
         by_cases c84 : t249 = true
         ·
          subst c84
          have H1 : (impl_common.j3 kj56 x244000_56 x244001_56 x243000_38 x243001_38 x245000_56 x245001_56) = some r := by rw [if_pos rfl] at H; exact H
          clear H
          have H := H1
          clear H1
          have H' := Aside0.mk H
          clear H
          have hnb85 := NB243_241.out
          have hnc85 := NB241_243.out
          have hnb86 := NB243_242.out
          have hnc86 := NB242_243.out
          have hnb87 := NB243_244.out
          have hnc87 := NB244_243.out
          have hcz88_0 : w83.cell? ⟨gb243, 0, none⟩ = some (.int .i16 x244000_56) := (blk_cell BK243.out 0).trans rfl
          have hcz88_1 : w83.cell? ⟨gb243, 1, none⟩ = some (.int .i16 x244001_56) := (blk_cell BK243.out 1).trans rfl
          have hfz88_0 := blk_frozen BK243.out 0
          have hfz88_1 := blk_frozen BK243.out 1
          have hnb89 := NB241_242.out
          have hnc89 := NB242_241.out
          have hnb90 := NB241_244.out
          have hnc90 := NB244_241.out
          have hcz91_0 : w83.cell? ⟨gb241, 0, none⟩ = some (.int .i16 x242000_38) := (blk_cell BK241.out 0).trans rfl
          have hcz91_1 : w83.cell? ⟨gb241, 1, none⟩ = some (.int .i16 x242001_38) := (blk_cell BK241.out 1).trans rfl
          have hfz91_0 := blk_frozen BK241.out 0
          have hfz91_1 := blk_frozen BK241.out 1
          go_wp2
          repeat (go_quiet (fail); try go_wp2)
          go_meet
          case rel => exact ⟨_, (x244000_56), (x244001_56), H', ⟨by have := HJ4.out; have := HJ38.out; have := HJ56.out; first | omega | exact Nat.le_refl _⟩, ⟨by (with_reducible repeat (first | refine blk_drewN ?_ _ | refine blk_drew ?_ | refine blk_alloc ?_ _)); refine blk_put (cs := #[.int .i16 x244000_56, .int .i16 x242001_38]) ?_ 1 _ rfl; (with_reducible repeat (first | refine blk_drewN ?_ _ | refine blk_drew ?_ | refine blk_alloc ?_ _)); refine blk_put (cs := #[.int .i16 x242000_38, .int .i16 x242001_38]) ?_ 0 _ rfl; (with_reducible repeat (first | refine blk_drewN ?_ _ | refine blk_drew ?_ | refine blk_alloc ?_ _)); exact BK241.out⟩, ⟨by (with_reducible repeat (first | refine blk_drewN ?_ _ | refine blk_drew ?_ | refine blk_alloc ?_ _)); refine blk_far ?_ NB242_241.out _; (with_reducible repeat (first | refine blk_drewN ?_ _ | refine blk_drew ?_ | refine blk_alloc ?_ _)); refine blk_far ?_ NB242_241.out _; (with_reducible repeat (first | refine blk_drewN ?_ _ | refine blk_drew ?_ | refine blk_alloc ?_ _)); exact BK242.out⟩, ⟨by (with_reducible repeat (first | refine blk_drewN ?_ _ | refine blk_drew ?_ | refine blk_alloc ?_ _)); refine blk_far ?_ NB243_241.out _; (with_reducible repeat (first | refine blk_drewN ?_ _ | refine blk_drew ?_ | refine blk_alloc ?_ _)); refine blk_far ?_ NB243_241.out _; (with_reducible repeat (first | refine blk_drewN ?_ _ | refine blk_drew ?_ | refine blk_alloc ?_ _)); exact BK243.out⟩, ⟨by (with_reducible repeat (first | refine blk_drewN ?_ _ | refine blk_drew ?_ | refine blk_alloc ?_ _)); refine blk_far ?_ NB244_241.out _; (with_reducible repeat (first | refine blk_drewN ?_ _ | refine blk_drew ?_ | refine blk_alloc ?_ _)); refine blk_far ?_ NB244_241.out _; (with_reducible repeat (first | refine blk_drewN ?_ _ | refine blk_drew ?_ | refine blk_alloc ?_ _)); exact BK244.out⟩, ⟨by repeat (first | (with_reducible first | exact HB.out | apply below_alloc | apply pw_below_drewN | apply below_drew1 | refine below_set ?_ GE241.out | refine below_set ?_ GE242.out | refine below_set ?_ GE243.out | refine below_set ?_ GE244.out) | exact HB.out)⟩⟩
         ·
          replace c84 := Bool.eq_false_iff.mpr c84
          subst c84
          have H1 : (impl_common.j3 kj56 x242000_38 x242001_38 x243000_38 x243001_38 x245000_56 x245001_56) = some r := by rw [if_neg (show ¬ (false = true) by decide)] at H; exact H
          clear H
          have H := H1
          clear H1
          have H' := Aside0.mk H
          clear H
          go_wp2
          repeat (go_quiet (fail); try go_wp2)
          go_meet
          case rel => exact ⟨_, (x242000_38), (x242001_38), H', ⟨by have := HJ4.out; have := HJ38.out; have := HJ56.out; first | omega | exact Nat.le_refl _⟩, ⟨bk_ BK241⟩, ⟨bk_ BK242⟩, ⟨bk_ BK243⟩, ⟨bk_ BK244⟩, ⟨by repeat (first | (with_reducible first | exact HB.out | apply below_alloc | apply pw_below_drewN | apply below_drew1 | refine below_set ?_ GE241.out | refine below_set ?_ GE242.out | refine below_set ?_ GE243.out | refine below_set ?_ GE244.out) | exact HB.out)⟩⟩
        case rest =>
         clear HC75
         try clear c1
         try clear c2
         try clear p2
         try clear c3
         try clear c4
         try clear c5
         try clear c6
         try clear c7
         try clear c8
         try clear c9
         try clear c11
         try clear c11b0
         try clear c11b1
         try clear c13
         try clear c14
         try clear c15
         try clear c17
         try clear c18
         try clear c20
         try clear c27
         try clear c28
         try clear c29
         try clear c31
         try clear c32
         try clear c34
         try clear c37
         try clear c40
         try clear c41
         try clear c42
         try clear c44
         try clear c45
         try clear c46
         try clear c48
         try clear c49
         try clear c50
         try clear c51
         try clear c53
         try clear c54
         try clear c58
         try clear c59
         try clear c60
         try clear c62
         try clear c63
         try clear c66
         try clear c67
         try clear c68
         try clear c69
         try clear c71
         try clear c72
         try clear c76
         try clear c77
         try clear c78
         try clear c80
         try clear c81
         try clear c84
         try clear c85
         try clear c86
         try clear c87
         try clear c89
         try clear c90
         try clear hcz16_0
         try clear hcz16_1
         try clear hcz19_0
         try clear hcz19_1
         try clear hcz21_0
         try clear hcz21_1
         try clear hcz23_0
         try clear hcz23_1
         try clear hcz24_0
         try clear hcz24_1
         try clear hcz25_0
         try clear hcz25_1
         try clear hcz30_0
         try clear hcz30_1
         try clear hcz33_0
         try clear hcz33_1
         try clear hcz35_0
         try clear hcz35_1
         try clear hcz43_0
         try clear hcz43_1
         try clear hcz46_0
         try clear hcz46_1
         try clear hcz52_0
         try clear hcz52_1
         try clear hcz55_0
         try clear hcz55_1
         try clear hcz61_0
         try clear hcz61_1
         try clear hcz64_0
         try clear hcz64_1
         try clear hcz70_0
         try clear hcz70_1
         try clear hcz73_0
         try clear hcz73_1
         try clear hcz79_0
         try clear hcz79_1
         try clear hcz82_0
         try clear hcz82_1
         try clear hcz88_0
         try clear hcz88_1
         try clear hcz91_0
         try clear hcz91_1
         try clear hfz16_0
         try clear hfz16_1
         try clear hfz19_0
         try clear hfz19_1
         try clear hfz21_0
         try clear hfz21_1
         try clear hfz23_0
         try clear hfz23_1
         try clear hfz24_0
         try clear hfz24_1
         try clear hfz25_0
         try clear hfz25_1
         try clear hfz30_0
         try clear hfz30_1
         try clear hfz33_0
         try clear hfz33_1
         try clear hfz35_0
         try clear hfz35_1
         try clear hfz43_0
         try clear hfz43_1
         try clear hfz46_0
         try clear hfz46_1
         try clear hfz52_0
         try clear hfz52_1
         try clear hfz55_0
         try clear hfz55_1
         try clear hfz61_0
         try clear hfz61_1
         try clear hfz64_0
         try clear hfz64_1
         try clear hfz70_0
         try clear hfz70_1
         try clear hfz73_0
         try clear hfz73_1
         try clear hfz79_0
         try clear hfz79_1
         try clear hfz82_0
         try clear hfz82_1
         try clear hfz88_0
         try clear hfz88_1
         try clear hfz91_0
         try clear hfz91_1
         try clear p2
         obtain ⟨kq, x242000_74, x242001_74, HA, HJ74, BK241, BK242, BK243, BK244, HB⟩ := hcut
         cases kq with
         | zero => exact absurd HA.out (by simp [impl_common.j3])
         | succ kj74 =>
          have H := HA.out
          clear HA
          simp only [impl_common.j3] at H
          replace H := Option.bind_eq_some_iff.mp H
          obtain ⟨t250, A920, H⟩ := H
          replace H : (if t250 = true then ((impl_cornerLess.f x242000_74 x242001_74 x245000_56 x245001_56).bind fun t251 => (if t251 = true then (some (wrap64 ((wrap64 ((wrap64 ((wrap64 (x245000_56)) - (wrap64 (x242000_74)))) * (wrap64 ((wrap64 (x245000_56)) - (wrap64 (x242000_74)))))) + (wrap64 ((wrap64 ((wrap64 (x245001_56)) - (wrap64 (x242001_74)))) * (wrap64 ((wrap64 (x245001_56)) - (wrap64 (x242001_74))))))))) else (some 0))) else ((impl_cornerLess.f x242000_74 x242001_74 x243000_38 x243001_38).bind fun t252 => (if t252 = true then (some (wrap64 ((wrap64 ((wrap64 ((wrap64 (x243000_38)) - (wrap64 (x242000_74)))) * (wrap64 ((wrap64 (x243000_38)) - (wrap64 (x242000_74)))))) + (wrap64 ((wrap64 ((wrap64 (x243001_38)) - (wrap64 (x242001_74)))) * (wrap64 ((wrap64 (x243001_38)) - (wrap64 (x242001_74))))))))) else (some 0)))) = some r := H
          have A92 := Aside0.mk A920
          clear A920
          by_cases c93 : t250 = true
          ·
           subst c93
           have H1 : ((impl_cornerLess.f x242000_74 x242001_74 x245000_56 x245001_56).bind fun t251 => (if t251 = true then (some (wrap64 ((wrap64 ((wrap64 ((wrap64 (x245000_56)) - (wrap64 (x242000_74)))) * (wrap64 ((wrap64 (x245000_56)) - (wrap64 (x242000_74)))))) + (wrap64 ((wrap64 ((wrap64 (x245001_56)) - (wrap64 (x242001_74)))) * (wrap64 ((wrap64 (x245001_56)) - (wrap64 (x242001_74))))))))) else (some 0))) = some r := by rw [if_pos rfl] at H; exact H
           clear H
           have H := H1
           clear H1
           replace H := Option.bind_eq_some_iff.mp H
           obtain ⟨t251, A940, H⟩ := H
           replace H : (if t251 = true then (some (wrap64 ((wrap64 ((wrap64 ((wrap64 (x245000_56)) - (wrap64 (x242000_74)))) * (wrap64 ((wrap64 (x245000_56)) - (wrap64 (x242000_74)))))) + (wrap64 ((wrap64 ((wrap64 (x245001_56)) - (wrap64 (x242001_74)))) * (wrap64 ((wrap64 (x245001_56)) - (wrap64 (x242001_74))))))))) else (some 0)) = some r := H
           have A94 := Aside0.mk A940
           clear A940
           by_cases c95 : t251 = true
           ·
            subst c95
            have H1 : (some (wrap64 ((wrap64 ((wrap64 ((wrap64 (x245000_56)) - (wrap64 (x242000_74)))) * (wrap64 ((wrap64 (x245000_56)) - (wrap64 (x242000_74)))))) + (wrap64 ((wrap64 ((wrap64 (x245001_56)) - (wrap64 (x242001_74)))) * (wrap64 ((wrap64 (x245001_56)) - (wrap64 (x242001_74))))))))) = some r := by rw [if_pos rfl] at H; exact H
            clear H
            have H := H1
            clear H1
            obtain rfl := Option.some.inj H
            have hnb96 := NB244_241.out
            have hnc96 := NB241_244.out
            have hnb97 := NB244_242.out
            have hnc97 := NB242_244.out
            have hnb98 := NB244_243.out
            have hnc98 := NB243_244.out
            have hcz99_0 : wc.cell? ⟨gb244, 0, none⟩ = some (.int .i16 x245000_56) := (blk_cell BK244.out 0).trans rfl
            have hcz99_1 : wc.cell? ⟨gb244, 1, none⟩ = some (.int .i16 x245001_56) := (blk_cell BK244.out 1).trans rfl
            have hfz99_0 := blk_frozen BK244.out 0
            have hfz99_1 := blk_frozen BK244.out 1
            have hnb100 := NB242_241.out
            have hnc100 := NB241_242.out
            have hnb101 := NB242_243.out
            have hnc101 := NB243_242.out
            have hcz102_0 : wc.cell? ⟨gb242, 0, none⟩ = some (.int .i16 x243000_38) := (blk_cell BK242.out 0).trans rfl
            have hcz102_1 : wc.cell? ⟨gb242, 1, none⟩ = some (.int .i16 x243001_38) := (blk_cell BK242.out 1).trans rfl
            have hfz102_0 := blk_frozen BK242.out 0
            have hfz102_1 := blk_frozen BK242.out 1
            go_wp2_with (first | (go_at_call 35; (with_reducible refine (impl_cornerLess.calls x245000_56 x245001_56 x243000_38 x243001_38 true _ A92.out).mono ?_); rintro e w103 ⟨rfl, hb⟩; have n0_ := bd_ BK241 hb; have n1_ := bd_ BK242 hb; have n2_ := bd_ BK243 hb; have n3_ := bd_ BK244 hb; have n4_ := Aside0.mk (below_step (by repeat (first | (with_reducible first | exact HB.out | apply below_alloc | apply pw_below_drewN | apply below_drew1 | refine below_set ?_ GE241.out | refine below_set ?_ GE242.out | refine below_set ?_ GE243.out | refine below_set ?_ GE244.out) | exact HB.out)) hb); clear BK241; clear BK242; clear BK243; clear BK244; clear HB; have BK241 := n0_; have BK242 := n1_; have BK243 := n2_; have BK244 := n3_; have HB := n4_; clear n0_ n1_ n2_ n3_ n4_; (try clear hb); (try clear hb2); (try clear hk); (try clear hi); have hcz104_0 : w103.cell? ⟨gb244, 0, none⟩ = some (.int .i16 x245000_56) := (blk_cell BK244.out 0).trans rfl; have hcz104_1 : w103.cell? ⟨gb244, 1, none⟩ = some (.int .i16 x245001_56) := (blk_cell BK244.out 1).trans rfl; have hfz104_0 := blk_frozen BK244.out 0; have hfz104_1 := blk_frozen BK244.out 1; have hcz105_0 : w103.cell? ⟨gb242, 0, none⟩ = some (.int .i16 x243000_38) := (blk_cell BK242.out 0).trans rfl; have hcz105_1 : w103.cell? ⟨gb242, 1, none⟩ = some (.int .i16 x243001_38) := (blk_cell BK242.out 1).trans rfl; have hfz105_0 := blk_frozen BK242.out 0; have hfz105_1 := blk_frozen BK242.out 1; have hnb106 := NB241_243.out; have hnc106 := NB243_241.out; have hcz107_0 : w103.cell? ⟨gb241, 0, none⟩ = some (.int .i16 x242000_74) := (blk_cell BK241.out 0).trans rfl; have hcz107_1 : w103.cell? ⟨gb241, 1, none⟩ = some (.int .i16 x242001_74) := (blk_cell BK241.out 1).trans rfl; have hfz107_0 := blk_frozen BK241.out 0; have hfz107_1 := blk_frozen BK241.out 1) | (go_at_call 35; (with_reducible refine (impl_cornerLess.calls x242000_74 x242001_74 x245000_56 x245001_56 true _ A94.out).mono ?_); rintro e w108 ⟨rfl, hb⟩; have n0_ := Aside0.mk (blk_below (g := gb241) (o := .cells #[.int .i16 x242000_74, .int .i16 x242001_74] 55 (0, 0)) (by (with_reducible repeat (first | refine blk_drewN ?_ _ | refine blk_drew ?_ | refine blk_alloc ?_ _)); refine blk_far ?_ NB241_242.out _; (with_reducible repeat (first | refine blk_drewN ?_ _ | refine blk_drew ?_ | refine blk_alloc ?_ _)); refine blk_far ?_ NB241_242.out _; (with_reducible repeat (first | refine blk_drewN ?_ _ | refine blk_drew ?_ | refine blk_alloc ?_ _)); exact BK241.out) hb); have n1_ := Aside0.mk (blk_below (g := gb242) (o := .cells #[.int .i16 x245000_56, .int .i16 x245001_56] 55 (0, 0)) (by (with_reducible repeat (first | refine blk_drewN ?_ _ | refine blk_drew ?_ | refine blk_alloc ?_ _)); refine blk_put (cs := #[.int .i16 x245000_56, .int .i16 x243001_38]) ?_ 1 _ rfl; (with_reducible repeat (first | refine blk_drewN ?_ _ | refine blk_drew ?_ | refine blk_alloc ?_ _)); refine blk_put (cs := #[.int .i16 x243000_38, .int .i16 x243001_38]) ?_ 0 _ rfl; (with_reducible repeat (first | refine blk_drewN ?_ _ | refine blk_drew ?_ | refine blk_alloc ?_ _)); exact BK242.out) hb); have n2_ := Aside0.mk (blk_below (g := gb243) (o := .cells #[.int .i16 x244000_56, .int .i16 x244001_56] 55 (0, 0)) (by (with_reducible repeat (first | refine blk_drewN ?_ _ | refine blk_drew ?_ | refine blk_alloc ?_ _)); refine blk_far ?_ NB243_242.out _; (with_reducible repeat (first | refine blk_drewN ?_ _ | refine blk_drew ?_ | refine blk_alloc ?_ _)); refine blk_far ?_ NB243_242.out _; (with_reducible repeat (first | refine blk_drewN ?_ _ | refine blk_drew ?_ | refine blk_alloc ?_ _)); exact BK243.out) hb); have n3_ := Aside0.mk (blk_below (g := gb244) (o := .cells #[.int .i16 x245000_56, .int .i16 x245001_56] 55 (0, 0)) (by (with_reducible repeat (first | refine blk_drewN ?_ _ | refine blk_drew ?_ | refine blk_alloc ?_ _)); refine blk_far ?_ NB244_242.out _; (with_reducible repeat (first | refine blk_drewN ?_ _ | refine blk_drew ?_ | refine blk_alloc ?_ _)); refine blk_far ?_ NB244_242.out _; (with_reducible repeat (first | refine blk_drewN ?_ _ | refine blk_drew ?_ | refine blk_alloc ?_ _)); exact BK244.out) hb); have n4_ := Aside0.mk (below_step (by repeat (first | (with_reducible first | exact HB.out | apply below_alloc | apply pw_below_drewN | apply below_drew1 | refine below_set ?_ GE241.out | refine below_set ?_ GE242.out | refine below_set ?_ GE243.out | refine below_set ?_ GE244.out) | exact HB.out)) hb); clear BK241; clear BK242; clear BK243; clear BK244; clear HB; have BK241 := n0_; have BK242 := n1_; have BK243 := n2_; have BK244 := n3_; have HB := n4_; clear n0_ n1_ n2_ n3_ n4_; (try clear hb); (try clear hb2); (try clear hk); (try clear hi); have hcz109_0 : w108.cell? ⟨gb242, 0, none⟩ = some (.int .i16 x245000_56) := (blk_cell BK242.out 0).trans rfl; have hcz109_1 : w108.cell? ⟨gb242, 1, none⟩ = some (.int .i16 x245001_56) := (blk_cell BK242.out 1).trans rfl; have hfz109_0 := blk_frozen BK242.out 0; have hfz109_1 := blk_frozen BK242.out 1; have hcz110_0 : w108.cell? ⟨gb241, 0, none⟩ = some (.int .i16 x242000_74) := (blk_cell BK241.out 0).trans rfl; have hcz110_1 : w108.cell? ⟨gb241, 1, none⟩ = some (.int .i16 x242001_74) := (blk_cell BK241.out 1).trans rfl; have hfz110_0 := blk_frozen BK241.out 0; have hfz110_1 := blk_frozen BK241.out 1))
            repeat (go_quiet (fail); try go_wp2)
            go_ret
            exact ⟨by first | rfl | (simp [errW_none, errW_some] <;> rfl) | (simp [*, errW_none, errW_some] <;> rfl), by repeat (first | (with_reducible first | exact HB.out | apply below_alloc | apply pw_below_drewN | apply below_drew1 | refine below_set ?_ GE241.out | refine below_set ?_ GE242.out | refine below_set ?_ GE243.out | refine below_set ?_ GE244.out) | exact HB.out)⟩
           ·
            replace c95 := Bool.eq_false_iff.mpr c95
            subst c95
            have H1 : (some 0) = some r := by rw [if_neg (show ¬ (false = true) by decide)] at H; exact H
            clear H
            have H := H1
            clear H1
            obtain rfl := Option.some.inj H
            have hnb111 := NB244_241.out
            have hnc111 := NB241_244.out
            have hnb112 := NB244_242.out
            have hnc112 := NB242_244.out
            have hnb113 := NB244_243.out
            have hnc113 := NB243_244.out
            have hcz114_0 : wc.cell? ⟨gb244, 0, none⟩ = some (.int .i16 x245000_56) := (blk_cell BK244.out 0).trans rfl
            have hcz114_1 : wc.cell? ⟨gb244, 1, none⟩ = some (.int .i16 x245001_56) := (blk_cell BK244.out 1).trans rfl
            have hfz114_0 := blk_frozen BK244.out 0
            have hfz114_1 := blk_frozen BK244.out 1
            have hnb115 := NB242_241.out
            have hnc115 := NB241_242.out
            have hnb116 := NB242_243.out
            have hnc116 := NB243_242.out
            have hcz117_0 : wc.cell? ⟨gb242, 0, none⟩ = some (.int .i16 x243000_38) := (blk_cell BK242.out 0).trans rfl
            have hcz117_1 : wc.cell? ⟨gb242, 1, none⟩ = some (.int .i16 x243001_38) := (blk_cell BK242.out 1).trans rfl
            have hfz117_0 := blk_frozen BK242.out 0
            have hfz117_1 := blk_frozen BK242.out 1
            go_wp2_with (first | (go_at_call 35; (with_reducible refine (impl_cornerLess.calls x245000_56 x245001_56 x243000_38 x243001_38 true _ A92.out).mono ?_); rintro e w118 ⟨rfl, hb⟩; have n0_ := bd_ BK241 hb; have n1_ := bd_ BK242 hb; have n2_ := bd_ BK243 hb; have n3_ := bd_ BK244 hb; have n4_ := Aside0.mk (below_step (by repeat (first | (with_reducible first | exact HB.out | apply below_alloc | apply pw_below_drewN | apply below_drew1 | refine below_set ?_ GE241.out | refine below_set ?_ GE242.out | refine below_set ?_ GE243.out | refine below_set ?_ GE244.out) | exact HB.out)) hb); clear BK241; clear BK242; clear BK243; clear BK244; clear HB; have BK241 := n0_; have BK242 := n1_; have BK243 := n2_; have BK244 := n3_; have HB := n4_; clear n0_ n1_ n2_ n3_ n4_; (try clear hb); (try clear hb2); (try clear hk); (try clear hi); have hcz119_0 : w118.cell? ⟨gb244, 0, none⟩ = some (.int .i16 x245000_56) := (blk_cell BK244.out 0).trans rfl; have hcz119_1 : w118.cell? ⟨gb244, 1, none⟩ = some (.int .i16 x245001_56) := (blk_cell BK244.out 1).trans rfl; have hfz119_0 := blk_frozen BK244.out 0; have hfz119_1 := blk_frozen BK244.out 1; have hcz120_0 : w118.cell? ⟨gb242, 0, none⟩ = some (.int .i16 x243000_38) := (blk_cell BK242.out 0).trans rfl; have hcz120_1 : w118.cell? ⟨gb242, 1, none⟩ = some (.int .i16 x243001_38) := (blk_cell BK242.out 1).trans rfl; have hfz120_0 := blk_frozen BK242.out 0; have hfz120_1 := blk_frozen BK242.out 1; have hnb121 := NB241_243.out; have hnc121 := NB243_241.out; have hcz122_0 : w118.cell? ⟨gb241, 0, none⟩ = some (.int .i16 x242000_74) := (blk_cell BK241.out 0).trans rfl; have hcz122_1 : w118.cell? ⟨gb241, 1, none⟩ = some (.int .i16 x242001_74) := (blk_cell BK241.out 1).trans rfl; have hfz122_0 := blk_frozen BK241.out 0; have hfz122_1 := blk_frozen BK241.out 1) | (go_at_call 35; (with_reducible refine (impl_cornerLess.calls x242000_74 x242001_74 x245000_56 x245001_56 false _ A94.out).mono ?_); rintro e w123 ⟨rfl, hb⟩; have n0_ := Aside0.mk (blk_below (g := gb241) (o := .cells #[.int .i16 x242000_74, .int .i16 x242001_74] 55 (0, 0)) (by (with_reducible repeat (first | refine blk_drewN ?_ _ | refine blk_drew ?_ | refine blk_alloc ?_ _)); refine blk_far ?_ NB241_242.out _; (with_reducible repeat (first | refine blk_drewN ?_ _ | refine blk_drew ?_ | refine blk_alloc ?_ _)); refine blk_far ?_ NB241_242.out _; (with_reducible repeat (first | refine blk_drewN ?_ _ | refine blk_drew ?_ | refine blk_alloc ?_ _)); exact BK241.out) hb); have n1_ := Aside0.mk (blk_below (g := gb242) (o := .cells #[.int .i16 x245000_56, .int .i16 x245001_56] 55 (0, 0)) (by (with_reducible repeat (first | refine blk_drewN ?_ _ | refine blk_drew ?_ | refine blk_alloc ?_ _)); refine blk_put (cs := #[.int .i16 x245000_56, .int .i16 x243001_38]) ?_ 1 _ rfl; (with_reducible repeat (first | refine blk_drewN ?_ _ | refine blk_drew ?_ | refine blk_alloc ?_ _)); refine blk_put (cs := #[.int .i16 x243000_38, .int .i16 x243001_38]) ?_ 0 _ rfl; (with_reducible repeat (first | refine blk_drewN ?_ _ | refine blk_drew ?_ | refine blk_alloc ?_ _)); exact BK242.out) hb); have n2_ := Aside0.mk (blk_below (g := gb243) (o := .cells #[.int .i16 x244000_56, .int .i16 x244001_56] 55 (0, 0)) (by (with_reducible repeat (first | refine blk_drewN ?_ _ | refine blk_drew ?_ | refine blk_alloc ?_ _)); refine blk_far ?_ NB243_242.out _; (with_reducible repeat (first | refine blk_drewN ?_ _ | refine blk_drew ?_ | refine blk_alloc ?_ _)); refine blk_far ?_ NB243_242.out _; (with_reducible repeat (first | refine blk_drewN ?_ _ | refine blk_drew ?_ | refine blk_alloc ?_ _)); exact BK243.out) hb); have n3_ := Aside0.mk (blk_below (g := gb244) (o := .cells #[.int .i16 x245000_56, .int .i16 x245001_56] 55 (0, 0)) (by (with_reducible repeat (first | refine blk_drewN ?_ _ | refine blk_drew ?_ | refine blk_alloc ?_ _)); refine blk_far ?_ NB244_242.out _; (with_reducible repeat (first | refine blk_drewN ?_ _ | refine blk_drew ?_ | refine blk_alloc ?_ _)); refine blk_far ?_ NB244_242.out _; (with_reducible repeat (first | refine blk_drewN ?_ _ | refine blk_drew ?_ | refine blk_alloc ?_ _)); exact BK244.out) hb); have n4_ := Aside0.mk (below_step (by repeat (first | (with_reducible first | exact HB.out | apply below_alloc | apply pw_below_drewN | apply below_drew1 | refine below_set ?_ GE241.out | refine below_set ?_ GE242.out | refine below_set ?_ GE243.out | refine below_set ?_ GE244.out) | exact HB.out)) hb); clear BK241; clear BK242; clear BK243; clear BK244; clear HB; have BK241 := n0_; have BK242 := n1_; have BK243 := n2_; have BK244 := n3_; have HB := n4_; clear n0_ n1_ n2_ n3_ n4_; (try clear hb); (try clear hb2); (try clear hk); (try clear hi)))
            repeat (go_quiet (fail); try go_wp2)
            go_ret
            exact ⟨by first | rfl | (simp [errW_none, errW_some] <;> rfl) | (simp [*, errW_none, errW_some] <;> rfl), by repeat (first | (with_reducible first | exact HB.out | apply below_alloc | apply pw_below_drewN | apply below_drew1 | refine below_set ?_ GE241.out | refine below_set ?_ GE242.out | refine below_set ?_ GE243.out | refine below_set ?_ GE244.out) | exact HB.out)⟩
          ·
           replace c93 := Bool.eq_false_iff.mpr c93
           subst c93
           have H1 : ((impl_cornerLess.f x242000_74 x242001_74 x243000_38 x243001_38).bind fun t252 => (if t252 = true then (some (wrap64 ((wrap64 ((wrap64 ((wrap64 (x243000_38)) - (wrap64 (x242000_74)))) * (wrap64 ((wrap64 (x243000_38)) - (wrap64 (x242000_74)))))) + (wrap64 ((wrap64 ((wrap64 (x243001_38)) - (wrap64 (x242001_74)))) * (wrap64 ((wrap64 (x243001_38)) - (wrap64 (x242001_74))))))))) else (some 0))) = some r := by rw [if_neg (show ¬ (false = true) by decide)] at H; exact H
           clear H
           have H := H1
           clear H1
           replace H := Option.bind_eq_some_iff.mp H
           obtain ⟨t252, A1240, H⟩ := H
           replace H : (if t252 = true then (some (wrap64 ((wrap64 ((wrap64 ((wrap64 (x243000_38)) - (wrap64 (x242000_74)))) * (wrap64 ((wrap64 (x243000_38)) - (wrap64 (x242000_74)))))) + (wrap64 ((wrap64 ((wrap64 (x243001_38)) - (wrap64 (x242001_74)))) * (wrap64 ((wrap64 (x243001_38)) - (wrap64 (x242001_74))))))))) else (some 0)) = some r := H
           have A124 := Aside0.mk A1240
           clear A1240
           by_cases c125 : t252 = true
           ·
            subst c125
            have H1 : (some (wrap64 ((wrap64 ((wrap64 ((wrap64 (x243000_38)) - (wrap64 (x242000_74)))) * (wrap64 ((wrap64 (x243000_38)) - (wrap64 (x242000_74)))))) + (wrap64 ((wrap64 ((wrap64 (x243001_38)) - (wrap64 (x242001_74)))) * (wrap64 ((wrap64 (x243001_38)) - (wrap64 (x242001_74))))))))) = some r := by rw [if_pos rfl] at H; exact H
            clear H
            have H := H1
            clear H1
            obtain rfl := Option.some.inj H
            have hnb126 := NB244_241.out
            have hnc126 := NB241_244.out
            have hnb127 := NB244_242.out
            have hnc127 := NB242_244.out
            have hnb128 := NB244_243.out
            have hnc128 := NB243_244.out
            have hcz129_0 : wc.cell? ⟨gb244, 0, none⟩ = some (.int .i16 x245000_56) := (blk_cell BK244.out 0).trans rfl
            have hcz129_1 : wc.cell? ⟨gb244, 1, none⟩ = some (.int .i16 x245001_56) := (blk_cell BK244.out 1).trans rfl
            have hfz129_0 := blk_frozen BK244.out 0
            have hfz129_1 := blk_frozen BK244.out 1
            have hnb130 := NB242_241.out
            have hnc130 := NB241_242.out
            have hnb131 := NB242_243.out
            have hnc131 := NB243_242.out
            have hcz132_0 : wc.cell? ⟨gb242, 0, none⟩ = some (.int .i16 x243000_38) := (blk_cell BK242.out 0).trans rfl
            have hcz132_1 : wc.cell? ⟨gb242, 1, none⟩ = some (.int .i16 x243001_38) := (blk_cell BK242.out 1).trans rfl
            have hfz132_0 := blk_frozen BK242.out 0
            have hfz132_1 := blk_frozen BK242.out 1
            go_wp2_with (first | (go_at_call 35; (with_reducible refine (impl_cornerLess.calls x245000_56 x245001_56 x243000_38 x243001_38 false _ A92.out).mono ?_); rintro e w133 ⟨rfl, hb⟩; have n0_ := bd_ BK241 hb; have n1_ := bd_ BK242 hb; have n2_ := bd_ BK243 hb; have n3_ := bd_ BK244 hb; have n4_ := Aside0.mk (below_step (by repeat (first | (with_reducible first | exact HB.out | apply below_alloc | apply pw_below_drewN | apply below_drew1 | refine below_set ?_ GE241.out | refine below_set ?_ GE242.out | refine below_set ?_ GE243.out | refine below_set ?_ GE244.out) | exact HB.out)) hb); clear BK241; clear BK242; clear BK243; clear BK244; clear HB; have BK241 := n0_; have BK242 := n1_; have BK243 := n2_; have BK244 := n3_; have HB := n4_; clear n0_ n1_ n2_ n3_ n4_; (try clear hb); (try clear hb2); (try clear hk); (try clear hi); have hnb134 := NB241_243.out; have hnc134 := NB243_241.out; have hcz135_0 : w133.cell? ⟨gb241, 0, none⟩ = some (.int .i16 x242000_74) := (blk_cell BK241.out 0).trans rfl; have hcz135_1 : w133.cell? ⟨gb241, 1, none⟩ = some (.int .i16 x242001_74) := (blk_cell BK241.out 1).trans rfl; have hfz135_0 := blk_frozen BK241.out 0; have hfz135_1 := blk_frozen BK241.out 1; have hcz136_0 : w133.cell? ⟨gb242, 0, none⟩ = some (.int .i16 x243000_38) := (blk_cell BK242.out 0).trans rfl; have hcz136_1 : w133.cell? ⟨gb242, 1, none⟩ = some (.int .i16 x243001_38) := (blk_cell BK242.out 1).trans rfl; have hfz136_0 := blk_frozen BK242.out 0; have hfz136_1 := blk_frozen BK242.out 1) | (go_at_call 35; (with_reducible refine (impl_cornerLess.calls x242000_74 x242001_74 x243000_38 x243001_38 true _ A124.out).mono ?_); rintro e w137 ⟨rfl, hb⟩; have n0_ := bd_ BK241 hb; have n1_ := bd_ BK242 hb; have n2_ := bd_ BK243 hb; have n3_ := bd_ BK244 hb; have n4_ := Aside0.mk (below_step (by repeat (first | (with_reducible first | exact HB.out | apply below_alloc | apply pw_below_drewN | apply below_drew1 | refine below_set ?_ GE241.out | refine below_set ?_ GE242.out | refine below_set ?_ GE243.out | refine below_set ?_ GE244.out) | exact HB.out)) hb); clear BK241; clear BK242; clear BK243; clear BK244; clear HB; have BK241 := n0_; have BK242 := n1_; have BK243 := n2_; have BK244 := n3_; have HB := n4_; clear n0_ n1_ n2_ n3_ n4_; (try clear hb); (try clear hb2); (try clear hk); (try clear hi); have hcz138_0 : w137.cell? ⟨gb242, 0, none⟩ = some (.int .i16 x243000_38) := (blk_cell BK242.out 0).trans rfl; have hcz138_1 : w137.cell? ⟨gb242, 1, none⟩ = some (.int .i16 x243001_38) := (blk_cell BK242.out 1).trans rfl; have hfz138_0 := blk_frozen BK242.out 0; have hfz138_1 := blk_frozen BK242.out 1; have hcz139_0 : w137.cell? ⟨gb241, 0, none⟩ = some (.int .i16 x242000_74) := (blk_cell BK241.out 0).trans rfl; have hcz139_1 : w137.cell? ⟨gb241, 1, none⟩ = some (.int .i16 x242001_74) := (blk_cell BK241.out 1).trans rfl; have hfz139_0 := blk_frozen BK241.out 0; have hfz139_1 := blk_frozen BK241.out 1))
            repeat (go_quiet (fail); try go_wp2)
            go_ret
            exact ⟨by first | rfl | (simp [errW_none, errW_some] <;> rfl) | (simp [*, errW_none, errW_some] <;> rfl), by repeat (first | (with_reducible first | exact HB.out | apply below_alloc | apply pw_below_drewN | apply below_drew1 | refine below_set ?_ GE241.out | refine below_set ?_ GE242.out | refine below_set ?_ GE243.out | refine below_set ?_ GE244.out) | exact HB.out)⟩
           ·
            replace c125 := Bool.eq_false_iff.mpr c125
            subst c125
            have H1 : (some 0) = some r := by rw [if_neg (show ¬ (false = true) by decide)] at H; exact H
            clear H
            have H := H1
            clear H1
            obtain rfl := Option.some.inj H
            have hnb140 := NB244_241.out
            have hnc140 := NB241_244.out
            have hnb141 := NB244_242.out
            have hnc141 := NB242_244.out
            have hnb142 := NB244_243.out
            have hnc142 := NB243_244.out
            have hcz143_0 : wc.cell? ⟨gb244, 0, none⟩ = some (.int .i16 x245000_56) := (blk_cell BK244.out 0).trans rfl
            have hcz143_1 : wc.cell? ⟨gb244, 1, none⟩ = some (.int .i16 x245001_56) := (blk_cell BK244.out 1).trans rfl
            have hfz143_0 := blk_frozen BK244.out 0
            have hfz143_1 := blk_frozen BK244.out 1
            have hnb144 := NB242_241.out
            have hnc144 := NB241_242.out
            have hnb145 := NB242_243.out
            have hnc145 := NB243_242.out
            have hcz146_0 : wc.cell? ⟨gb242, 0, none⟩ = some (.int .i16 x243000_38) := (blk_cell BK242.out 0).trans rfl
            have hcz146_1 : wc.cell? ⟨gb242, 1, none⟩ = some (.int .i16 x243001_38) := (blk_cell BK242.out 1).trans rfl
            have hfz146_0 := blk_frozen BK242.out 0
            have hfz146_1 := blk_frozen BK242.out 1
            go_wp2_with (first | (go_at_call 35; (with_reducible refine (impl_cornerLess.calls x245000_56 x245001_56 x243000_38 x243001_38 false _ A92.out).mono ?_); rintro e w147 ⟨rfl, hb⟩; have n0_ := bd_ BK241 hb; have n1_ := bd_ BK242 hb; have n2_ := bd_ BK243 hb; have n3_ := bd_ BK244 hb; have n4_ := Aside0.mk (below_step (by repeat (first | (with_reducible first | exact HB.out | apply below_alloc | apply pw_below_drewN | apply below_drew1 | refine below_set ?_ GE241.out | refine below_set ?_ GE242.out | refine below_set ?_ GE243.out | refine below_set ?_ GE244.out) | exact HB.out)) hb); clear BK241; clear BK242; clear BK243; clear BK244; clear HB; have BK241 := n0_; have BK242 := n1_; have BK243 := n2_; have BK244 := n3_; have HB := n4_; clear n0_ n1_ n2_ n3_ n4_; (try clear hb); (try clear hb2); (try clear hk); (try clear hi); have hnb148 := NB241_243.out; have hnc148 := NB243_241.out; have hcz149_0 : w147.cell? ⟨gb241, 0, none⟩ = some (.int .i16 x242000_74) := (blk_cell BK241.out 0).trans rfl; have hcz149_1 : w147.cell? ⟨gb241, 1, none⟩ = some (.int .i16 x242001_74) := (blk_cell BK241.out 1).trans rfl; have hfz149_0 := blk_frozen BK241.out 0; have hfz149_1 := blk_frozen BK241.out 1; have hcz150_0 : w147.cell? ⟨gb242, 0, none⟩ = some (.int .i16 x243000_38) := (blk_cell BK242.out 0).trans rfl; have hcz150_1 : w147.cell? ⟨gb242, 1, none⟩ = some (.int .i16 x243001_38) := (blk_cell BK242.out 1).trans rfl; have hfz150_0 := blk_frozen BK242.out 0; have hfz150_1 := blk_frozen BK242.out 1) | (go_at_call 35; (with_reducible refine (impl_cornerLess.calls x242000_74 x242001_74 x243000_38 x243001_38 false _ A124.out).mono ?_); rintro e w151 ⟨rfl, hb⟩; have n0_ := bd_ BK241 hb; have n1_ := bd_ BK242 hb; have n2_ := bd_ BK243 hb; have n3_ := bd_ BK244 hb; have n4_ := Aside0.mk (below_step (by repeat (first | (with_reducible first | exact HB.out | apply below_alloc | apply pw_below_drewN | apply below_drew1 | refine below_set ?_ GE241.out | refine below_set ?_ GE242.out | refine below_set ?_ GE243.out | refine below_set ?_ GE244.out) | exact HB.out)) hb); clear BK241; clear BK242; clear BK243; clear BK244; clear HB; have BK241 := n0_; have BK242 := n1_; have BK243 := n2_; have BK244 := n3_; have HB := n4_; clear n0_ n1_ n2_ n3_ n4_; (try clear hb); (try clear hb2); (try clear hk); (try clear hi)))
            repeat (go_quiet (fail); try go_wp2)
            go_ret
            exact ⟨by first | rfl | (simp [errW_none, errW_some] <;> rfl) | (simp [*, errW_none, errW_some] <;> rfl), by repeat (first | (with_reducible first | exact HB.out | apply below_alloc | apply pw_below_drewN | apply below_drew1 | refine below_set ?_ GE241.out | refine below_set ?_ GE242.out | refine below_set ?_ GE243.out | refine below_set ?_ GE244.out) | exact HB.out)⟩

end Go.Proofs.Ytohhcomokcdbfaa.PA
