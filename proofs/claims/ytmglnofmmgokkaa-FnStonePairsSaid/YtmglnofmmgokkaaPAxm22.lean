/- Pure functions, and that Go's functions come to them. -/
import Derived.Test.YtmglnofmmgokkaaPAx0
import Derived.Test.YtmglnofmmgokkaaPAxm15
import Derived.Test.YtmglnofmmgokkaaPAxm20
import Derived.Test.YtmglnofmmgokkaaPAxf60
import Derived.Test.YtmglnofmmgokkaaPAxm21
import Derived.Test.YtmglnofmmgokkaaPAxgSpec
import Derived.Test.YtmglnofmmgokkaaPAxgSpecO
namespace Go.Proofs.Ytmglnofmmgokkaa.PA
open Go.RowKit Go.Proofs.YtmglnofmmgokkaaW.PrintWords Go.Proofs.YtmglnofmmgokkaaW.PrintLast Go.Proofs.YtmglnofmmgokkaaW.PrintMore
set_option linter.unusedVariables false
set_option linter.unusedSimpArgs false

/-! ### spec_l03Near: function 50 -/
def spec_l03Near.f (s0_0 : List Int) (s0_1 : Int) (s0_2 : Int) (a1 : Int) (a2 : Int) (a3 : Int) : Option (Int × Int × Int × Int) := (spec_l00Src_pick.f s0_0 s0_1 s0_2 a3).bind fun bt110 => ((spec_l00Src_pick.f s0_0 bt110.2.1 bt110.2.2 a3).bind fun bt113 => (some (IntKind.i16.wrap (wrap64 (a1 + bt110.1)), IntKind.i16.wrap (wrap64 (a2 + bt113.1)), bt113.2.1, bt113.2.2)))
set_option maxHeartbeats 8000000 in
set_option maxRecDepth 100000 in
theorem spec_l03Near.calls (g : Nat) (s0_0 : List Int) (s0_1 : Int) (s0_2 : Int) (a1 : Int) (a2 : Int) (a3 : Int) (r1 : Int) (r2 : Int) (r3 : Int) (r4 : Int) (w0 w : World) (hI : IsS66 w0 w g s0_0 s0_1 s0_2) (hB : Below w0.heap.size w0 w) (h : spec_l03Near.f s0_0 s0_1 s0_2 a1 a2 a3 = some (r1, r2, r3, r4)) :
  Calls Try.prog 50 #[.pointer (some ⟨g, 0, none⟩), .int .i64 a1, .int .i64 a2, .int .i64 a3] w fun e w' => e = .returned (.agg #[.int .i16 r1, .int .i16 r2]) ∧ IsS66 w0 w' g s0_0 r3 r4 ∧ Below w0.heap.size w0 w' ∧ KeepBut w w' g none := by
 have hu34 := Try.underlying34
 have HI0 := Aside0.mk hI
 have HK := Aside0.mk (KeepBut.refl w g none)
 have HL := Aside0.mk hB.size
 clear hI
 have HW0 := Aside0.mk hB.size
 have HB := Aside0.mk hB
 clear hB
 have H : ((spec_l00Src_pick.f s0_0 s0_1 s0_2 a3).bind fun bt110 => ((spec_l00Src_pick.f s0_0 bt110.2.1 bt110.2.2 a3).bind fun bt113 => (some (IntKind.i16.wrap (wrap64 (a1 + bt110.1)), IntKind.i16.wrap (wrap64 (a2 + bt113.1)), bt113.2.1, bt113.2.2)))) = some (r1, r2, r3, r4) := h
 clear h
 obtain ⟨⟨t110, t111, t112⟩, A5, H⟩ := be_ H
 (try dsimp only at H)
 obtain ⟨⟨t113, t114, t115⟩, A6, H⟩ := be_ H
 (try dsimp only at H)
 simp only [Option.some.injEq, Prod.mk.injEq] at H
 obtain ⟨rfl, rfl, rfl, rfl⟩ := H
 go_enter Try.func50, Try.ntmps50
 go_wp2_with (first | ((with_reducible refine gate_dst (N := 8) rfl ?_); refine boxM_ 8 #[.int .i16 0, .int .i16 0] 34 ?_; intro gb109 hg w7 hbox hb; replace HB := Aside0.mk (below_step (by repeat (first | (with_reducible first | exact HB.out | apply below_alloc | apply pw_below_drewN | apply below_drew1 | refine below_set ?_ (IsS66.ge HI0.out)) | exact HB.out)) hb); have BK109 := Aside0.mk (hbox); have GW109 := Aside0.mk ((by rw [hg]; exact (keep_size (w := w) (g := g) (row := none) (kk_ HK)) : w.heap.size ≤ gb109)); have GE109 := Aside0.mk ((Nat.le_trans HW0.out (by rw [hg]; exact (keep_size (w := w) (g := g) (row := none) (kk_ HK)) : w.heap.size ≤ gb109) : w0.heap.size ≤ gb109)); replace HK := Aside0.mk (KeepBut.trans (kk_ HK) (KeepBut.of_below hb g none) (.inl rfl)); have NB0_109 := Aside0.mk ((by rw [hg]; exact Nat.ne_of_lt (IsS66.lt (show IsS66 w0 _ g s0_0 s0_1 s0_2 from by repeat (first | (with_reducible first | exact HI0.out | apply IsS66.alloc | apply IsS66.drewN | apply IsS66.drew | apply IsS66.set_1 | apply IsS66.set_2) | exact HI0.out))) : g ≠ gb109)); have NB109_0 := Aside0.mk ((by rw [hg]; exact Nat.ne_of_gt (IsS66.lt (show IsS66 w0 _ g s0_0 s0_1 s0_2 from by repeat (first | (with_reducible first | exact HI0.out | apply IsS66.alloc | apply IsS66.drewN | apply IsS66.drew | apply IsS66.set_1 | apply IsS66.set_2) | exact HI0.out))) : gb109 ≠ g)); replace HI0 := Aside0.mk (IsS66.below (by repeat (first | (with_reducible first | exact HI0.out | apply IsS66.alloc | apply IsS66.drewN | apply IsS66.drew | apply IsS66.set_1 | apply IsS66.set_2) | exact HI0.out)) hb); clear hb hbox hg) | ((with_reducible refine gate_callee (f := 23) rfl ?_); refine goM_ (some 13) Try.func23 #[.pointer (some ⟨g, 0, none⟩), .int .i64 a3] ?_; (with_reducible refine (spec_l00Src_pick.calls g s0_0 s0_1 s0_2 a3 t110 t111 t112 w0 _ ?side1 ?side2 A5.out).mono ?_); (case side1 => repeat (first | (with_reducible first | exact HI0.out | apply IsS66.alloc | apply IsS66.drewN | apply IsS66.drew | apply IsS66.set_1 | apply IsS66.set_2 | refine IsS66.far ?_ NB0_109.out _) | exact HI0.out)); (case side2 => repeat (first | (with_reducible first | exact HB.out | apply below_alloc | apply pw_below_drewN | apply below_drew1 | refine below_set ?_ (IsS66.ge HI0.out) | refine below_set ?_ GE109.out) | exact HB.out)); rintro e w8 ⟨rfl, hi, hb, hk⟩; refine ⟨_, rfl, ?_⟩; replace BK109 := Aside0.mk (KeepBut.blk hk (g' := gb109) (o := .cells #[.int .i16 0, .int .i16 0] 34 (0, 0)) (kb_ BK109) NB109_0.out (by simp)); replace HK := Aside0.mk (KeepBut.trans (by repeat (first | (with_reducible first | exact HK.out | apply KeepBut.set_ | apply keep_drewN | apply keep_drew | apply keep_alloc | refine keep_far ?_ GW109.out _) | exact HK.out)) hk (.inl rfl)); replace HB := Aside0.mk (hb); replace HI0 := Aside0.mk (hi); clear hb; clear hk; clear hi) | ((with_reducible refine gate_callee (f := 23) rfl ?_); refine goM_ (some 20) Try.func23 #[.pointer (some ⟨g, 0, none⟩), .int .i64 a3] ?_; (with_reducible refine (spec_l00Src_pick.calls g s0_0 t111 t112 a3 t113 t114 t115 w0 _ ?side1 ?side2 A6.out).mono ?_); (case side1 => repeat (first | (with_reducible first | exact HI0.out | apply IsS66.alloc | apply IsS66.drewN | apply IsS66.drew | apply IsS66.set_1 | apply IsS66.set_2 | refine IsS66.far ?_ NB0_109.out _) | exact HI0.out)); (case side2 => repeat (first | (with_reducible first | exact HB.out | apply below_alloc | apply pw_below_drewN | apply below_drew1 | refine below_set ?_ (IsS66.ge HI0.out) | refine below_set ?_ GE109.out) | exact HB.out)); rintro e w9 ⟨rfl, hi, hb, hk⟩; refine ⟨_, rfl, ?_⟩; replace BK109 := Aside0.mk (KeepBut.blk hk (g' := gb109) (o := .cells #[.int .i16 0, .int .i16 0] 34 (0, 0)) (kb_ BK109) NB109_0.out (by simp)); replace HK := Aside0.mk (KeepBut.trans (by repeat (first | (with_reducible first | exact HK.out | apply KeepBut.set_ | apply keep_drewN | apply keep_drew | apply keep_alloc | refine keep_far ?_ GW109.out _) | exact HK.out)) hk (.inl rfl)); replace HB := Aside0.mk (hb); replace HI0 := Aside0.mk (hi); clear hb; clear hk; clear hi; have hnb10 := NB109_0.out; have hnc10 := NB0_109.out; obtain ⟨⟨hcz11_0, hcz11_1⟩, hfz11_0, hfz11_1⟩ := bq_ BK109))
 refine bodyPost_ret (results_cell_row rfl _ _ gb109 34 #[.int .i16 (IntKind.i16.wrap (wrap64 (a1 + t110))), .int .i16 (IntKind.i16.wrap (wrap64 (a2 + t113)))] (0, 0) _ rfl (by (with_reducible repeat (first | refine blk_drewN ?_ _ | refine blk_drew ?_ | refine blk_alloc ?_ _)); refine blk_put (cs := #[.int .i16 (IntKind.i16.wrap (wrap64 (a1 + t110))), .int .i16 0]) ?_ 1 _ rfl; (with_reducible repeat (first | refine blk_drewN ?_ _ | refine blk_drew ?_ | refine blk_alloc ?_ _)); refine blk_put (cs := #[.int .i16 0, .int .i16 0]) ?_ 0 _ rfl; (with_reducible repeat (first | refine blk_drewN ?_ _ | refine blk_drew ?_ | refine blk_alloc ?_ _)); exact BK109.out) Try.underlying34 rfl (by kernel_rfl)) rfl ?_
 exact ⟨rt_, by repeat (first | (with_reducible first | exact HI0.out | apply IsS66.alloc | apply IsS66.drewN | apply IsS66.drew | apply IsS66.set_1 | apply IsS66.set_2 | refine IsS66.far ?_ NB0_109.out _) | exact HI0.out), by repeat (first | (with_reducible first | exact HB.out | apply below_alloc | apply pw_below_drewN | apply below_drew1 | refine below_set ?_ (IsS66.ge HI0.out) | refine below_set ?_ GE109.out) | exact HB.out), by repeat (first | (with_reducible first | exact HK.out | apply KeepBut.set_ | apply keep_drewN | apply keep_drew | apply keep_alloc | refine keep_far ?_ GW109.out _) | exact HK.out)⟩


/-! ### spec_l03Before: function 66 -/
def spec_l03Before.f (a0_0 : Int) (a0_1 : Int) (a1_0 : Int) (a1_1 : Int) : Option (Bool) := if a0_0 < a1_0 then (some true) else (if a0_0 = a1_0 then (some (decide (a0_1 < a1_1))) else (some false))
set_option maxHeartbeats 8000000 in
set_option maxRecDepth 100000 in
theorem spec_l03Before.calls (a0_0 : Int) (a0_1 : Int) (a1_0 : Int) (a1_1 : Int) (r : Bool) (w : World) (h : spec_l03Before.f a0_0 a0_1 a1_0 a1_1 = some r) :
  Calls Try.prog 66 #[.agg #[.int .i16 a0_0, .int .i16 a0_1], .agg #[.int .i16 a1_0, .int .i16 a1_1]] w fun e w' => e = .returned (.bool r) ∧ Below w.heap.size w w' := by
 have hu34 := Try.underlying34
 have HB := Aside0.mk (Below.refl w.heap.size w)
 have H : (if a0_0 < a1_0 then (some true) else (if a0_0 = a1_0 then (some (decide (a0_1 < a1_1))) else (some false))) = some r := h
 clear h
 by_cases c3 : a0_0 < a1_0
 ·
  rw [if_pos c3] at H
  have c3b0 : decide (a0_0 < a1_0) = true := decide_eq_true c3
  clear c3
  obtain rfl := Option.some.inj H
  go_enter Try.func66, Try.ntmps66
  go_wp2_with (first | ((with_reducible refine gate_dst (N := 2) rfl ?_); refine boxM_ 2 #[.int .i16 a0_0, .int .i16 a0_1] 34 ?_; intro gb123 hg w4 hbox hb; have BK123 := Aside0.mk (hbox); have GW123 := ge_ HB hg; have GE123 := ge_ HB hg; replace HB := bs_ HB hb; clear hb hbox hg) | ((with_reducible refine gate_dst (N := 3) rfl ?_); refine boxM_ 3 #[.int .i16 a1_0, .int .i16 a1_1] 34 ?_; intro gb124 hg w5 hbox hb; have BK124 := Aside0.mk (hbox); have GW124 := ge_ HB hg; have GE124 := ge_ HB hg; replace HB := bs_ HB hb; have NB123_124 := nl_ BK123 hg; have NB124_123 := ng_ BK123 hg; replace BK123 := bd_ BK123 hb; clear hb hbox hg; have hnb6 := NB123_124.out; have hnc6 := NB124_123.out; obtain ⟨⟨hcz7_0, hcz7_1⟩, hfz7_0, hfz7_1⟩ := bq_ BK123; obtain ⟨⟨hcz8_0, hcz8_1⟩, hfz8_0, hfz8_1⟩ := bq_ BK124))
  go_ret
  exact ⟨rt_, bl_ HB⟩
 rw [if_neg c3] at H
 have c3b0 : decide (a0_0 < a1_0) = false := decide_eq_false c3
 clear c3
 by_cases c9 : a0_0 = a1_0
 ·
  rw [if_pos c9] at H
  have c9b0 : (a0_0 == a1_0) = true := beq_iff_eq.mpr c9
  have c9b1 : (a0_0 != a1_0) = false := bne_eq_false_iff_eq.mpr c9
  clear c9
  obtain rfl := Option.some.inj H
  go_enter Try.func66, Try.ntmps66
  go_wp2_with (first | ((with_reducible refine gate_dst (N := 2) rfl ?_); refine boxM_ 2 #[.int .i16 a0_0, .int .i16 a0_1] 34 ?_; intro gb123 hg w10 hbox hb; have BK123 := Aside0.mk (hbox); have GW123 := ge_ HB hg; have GE123 := ge_ HB hg; replace HB := bs_ HB hb; clear hb hbox hg) | ((with_reducible refine gate_dst (N := 3) rfl ?_); refine boxM_ 3 #[.int .i16 a1_0, .int .i16 a1_1] 34 ?_; intro gb124 hg w11 hbox hb; have BK124 := Aside0.mk (hbox); have GW124 := ge_ HB hg; have GE124 := ge_ HB hg; replace HB := bs_ HB hb; have NB123_124 := nl_ BK123 hg; have NB124_123 := ng_ BK123 hg; replace BK123 := bd_ BK123 hb; clear hb hbox hg; have hnb12 := NB123_124.out; have hnc12 := NB124_123.out; obtain ⟨⟨hcz13_0, hcz13_1⟩, hfz13_0, hfz13_1⟩ := bq_ BK123; obtain ⟨⟨hcz14_0, hcz14_1⟩, hfz14_0, hfz14_1⟩ := bq_ BK124))
  go_ret
  exact ⟨rt_, bl_ HB⟩
 ·
  rw [if_neg c9] at H
  have c9b0 : (a0_0 == a1_0) = false := beq_eq_false_iff_ne.mpr c9
  have c9b1 : (a0_0 != a1_0) = true := bne_iff_ne.mpr c9
  obtain rfl := Option.some.inj H
  go_enter Try.func66, Try.ntmps66
  go_wp2_with (first | ((with_reducible refine gate_dst (N := 2) rfl ?_); refine boxM_ 2 #[.int .i16 a0_0, .int .i16 a0_1] 34 ?_; intro gb123 hg w15 hbox hb; have BK123 := Aside0.mk (hbox); have GW123 := ge_ HB hg; have GE123 := ge_ HB hg; replace HB := bs_ HB hb; clear hb hbox hg) | ((with_reducible refine gate_dst (N := 3) rfl ?_); refine boxM_ 3 #[.int .i16 a1_0, .int .i16 a1_1] 34 ?_; intro gb124 hg w16 hbox hb; have BK124 := Aside0.mk (hbox); have GW124 := ge_ HB hg; have GE124 := ge_ HB hg; replace HB := bs_ HB hb; have NB123_124 := nl_ BK123 hg; have NB124_123 := ng_ BK123 hg; replace BK123 := bd_ BK123 hb; clear hb hbox hg; have hnb17 := NB123_124.out; have hnc17 := NB124_123.out; obtain ⟨⟨hcz18_0, hcz18_1⟩, hfz18_0, hfz18_1⟩ := bq_ BK123; obtain ⟨⟨hcz19_0, hcz19_1⟩, hfz19_0, hfz19_1⟩ := bq_ BK124))
  go_ret
  exact ⟨rt_, bl_ HB⟩


/-! ### impl_cornerLess: function 48 -/
def impl_cornerLess.f (a0_0 : Int) (a0_1 : Int) (a1_0 : Int) (a1_1 : Int) : Option (Bool) := if a0_0 < a1_0 then (some true) else (if a0_0 = a1_0 then (some (decide (a0_1 < a1_1))) else (some false))
set_option maxHeartbeats 8000000 in
set_option maxRecDepth 100000 in
theorem impl_cornerLess.calls (a0_0 : Int) (a0_1 : Int) (a1_0 : Int) (a1_1 : Int) (r : Bool) (w : World) (h : impl_cornerLess.f a0_0 a0_1 a1_0 a1_1 = some r) :
  Calls Try.prog 48 #[.agg #[.int .i16 a0_0, .int .i16 a0_1], .agg #[.int .i16 a1_0, .int .i16 a1_1]] w fun e w' => e = .returned (.bool r) ∧ Below w.heap.size w w' := by
 have hu34 := Try.underlying34
 have HB := Aside0.mk (Below.refl w.heap.size w)
 have H : (if a0_0 < a1_0 then (some true) else (if a0_0 = a1_0 then (some (decide (a0_1 < a1_1))) else (some false))) = some r := h
 clear h
 by_cases c3 : a0_0 < a1_0
 ·
  rw [if_pos c3] at H
  have c3b0 : decide (a0_0 < a1_0) = true := decide_eq_true c3
  clear c3
  obtain rfl := Option.some.inj H
  go_enter Try.func48, Try.ntmps48
  go_wp2_with (first | ((with_reducible refine gate_dst (N := 2) rfl ?_); refine boxM_ 2 #[.int .i16 a0_0, .int .i16 a0_1] 34 ?_; intro gb281 hg w4 hbox hb; have BK281 := Aside0.mk (hbox); have GW281 := ge_ HB hg; have GE281 := ge_ HB hg; replace HB := bs_ HB hb; clear hb hbox hg) | ((with_reducible refine gate_dst (N := 3) rfl ?_); refine boxM_ 3 #[.int .i16 a1_0, .int .i16 a1_1] 34 ?_; intro gb282 hg w5 hbox hb; have BK282 := Aside0.mk (hbox); have GW282 := ge_ HB hg; have GE282 := ge_ HB hg; replace HB := bs_ HB hb; have NB281_282 := nl_ BK281 hg; have NB282_281 := ng_ BK281 hg; replace BK281 := bd_ BK281 hb; clear hb hbox hg; have hnb6 := NB281_282.out; have hnc6 := NB282_281.out; obtain ⟨⟨hcz7_0, hcz7_1⟩, hfz7_0, hfz7_1⟩ := bq_ BK281; obtain ⟨⟨hcz8_0, hcz8_1⟩, hfz8_0, hfz8_1⟩ := bq_ BK282))
  go_ret
  exact ⟨rt_, bl_ HB⟩
 rw [if_neg c3] at H
 have c3b0 : decide (a0_0 < a1_0) = false := decide_eq_false c3
 clear c3
 by_cases c9 : a0_0 = a1_0
 ·
  rw [if_pos c9] at H
  have c9b0 : (a0_0 == a1_0) = true := beq_iff_eq.mpr c9
  have c9b1 : (a0_0 != a1_0) = false := bne_eq_false_iff_eq.mpr c9
  clear c9
  obtain rfl := Option.some.inj H
  go_enter Try.func48, Try.ntmps48
  go_wp2_with (first | ((with_reducible refine gate_dst (N := 2) rfl ?_); refine boxM_ 2 #[.int .i16 a0_0, .int .i16 a0_1] 34 ?_; intro gb281 hg w10 hbox hb; have BK281 := Aside0.mk (hbox); have GW281 := ge_ HB hg; have GE281 := ge_ HB hg; replace HB := bs_ HB hb; clear hb hbox hg) | ((with_reducible refine gate_dst (N := 3) rfl ?_); refine boxM_ 3 #[.int .i16 a1_0, .int .i16 a1_1] 34 ?_; intro gb282 hg w11 hbox hb; have BK282 := Aside0.mk (hbox); have GW282 := ge_ HB hg; have GE282 := ge_ HB hg; replace HB := bs_ HB hb; have NB281_282 := nl_ BK281 hg; have NB282_281 := ng_ BK281 hg; replace BK281 := bd_ BK281 hb; clear hb hbox hg; have hnb12 := NB281_282.out; have hnc12 := NB282_281.out; obtain ⟨⟨hcz13_0, hcz13_1⟩, hfz13_0, hfz13_1⟩ := bq_ BK281; obtain ⟨⟨hcz14_0, hcz14_1⟩, hfz14_0, hfz14_1⟩ := bq_ BK282))
  go_ret
  exact ⟨rt_, bl_ HB⟩
 ·
  rw [if_neg c9] at H
  have c9b0 : (a0_0 == a1_0) = false := beq_eq_false_iff_ne.mpr c9
  have c9b1 : (a0_0 != a1_0) = true := bne_iff_ne.mpr c9
  obtain rfl := Option.some.inj H
  go_enter Try.func48, Try.ntmps48
  go_wp2_with (first | ((with_reducible refine gate_dst (N := 2) rfl ?_); refine boxM_ 2 #[.int .i16 a0_0, .int .i16 a0_1] 34 ?_; intro gb281 hg w15 hbox hb; have BK281 := Aside0.mk (hbox); have GW281 := ge_ HB hg; have GE281 := ge_ HB hg; replace HB := bs_ HB hb; clear hb hbox hg) | ((with_reducible refine gate_dst (N := 3) rfl ?_); refine boxM_ 3 #[.int .i16 a1_0, .int .i16 a1_1] 34 ?_; intro gb282 hg w16 hbox hb; have BK282 := Aside0.mk (hbox); have GW282 := ge_ HB hg; have GE282 := ge_ HB hg; replace HB := bs_ HB hb; have NB281_282 := nl_ BK281 hg; have NB282_281 := ng_ BK281 hg; replace BK281 := bd_ BK281 hb; clear hb hbox hg; have hnb17 := NB281_282.out; have hnc17 := NB282_281.out; obtain ⟨⟨hcz18_0, hcz18_1⟩, hfz18_0, hfz18_1⟩ := bq_ BK281; obtain ⟨⟨hcz19_0, hcz19_1⟩, hfz19_0, hfz19_1⟩ := bq_ BK282))
  go_ret
  exact ⟨rt_, bl_ HB⟩


/-! ### spec_l03Seams: function 32 -/
mutual
def spec_l03Seams.l0 : Nat → List (S34) → List (S34) → Int → Int → Option (Int)
 | 0, _, _, _, _ => none
 | k + 1, x0, x1, x5, x6 => if x6 < (x0.length : Int) then (spec_l03Seams.l1 k x0 x1 x5 x6 0) else (some x5)
def spec_l03Seams.l1 : Nat → List (S34) → List (S34) → Int → Int → Int → Option (Int)
 | 0, _, _, _, _, _ => none
 | k + 1, x0, x1, x5, x6, x7 => if x7 < (x1.length : Int) then (if 0 ≤ x6 then (if x6 < (x0.length : Int) then ((spec_l03Next.f x0 x6).bind fun t338 => (if 0 ≤ t338 then (if t338 < (x0.length : Int) then (if 0 ≤ x7 then ((spec_l03Next.f x1 x7).bind fun t341 => (if 0 ≤ t341 then (if t341 < (x1.length : Int) then ((spec_l03Seam.f k ((rd_T34 x0 x6).f0) ((rd_T34 x0 x6).f1) ((rd_T34 x0 t338).f0) ((rd_T34 x0 t338).f1) ((rd_T34 x1 x7).f0) ((rd_T34 x1 x7).f1) ((rd_T34 x1 t341).f0) ((rd_T34 x1 t341).f1)).bind fun t343 => ((spec_l00Max.f x5 t343).bind fun t344 => (spec_l03Seams.l1 k x0 x1 t344 x6 (wrap64 (x7 + 1))))) else (none)) else (none))) else (none)) else (none)) else (none))) else (none)) else (none)) else (spec_l03Seams.l0 k x0 x1 x5 (wrap64 (x6 + 1)))
end
def spec_l03Seams.f (k : Nat) (l0 : List (S34)) (l1 : List (S34)) : Option (Int) := (spec_l03Over.f k l0 l1).bind fun t336 => (if t336 = true then (some 0) else (spec_l03Seams.l0 k l0 l1 0 0))
theorem spec_l03Seams.mono_l : ∀ k, (∀ y0 y1 y2 y3, LeO (spec_l03Seams.l0 k y0 y1 y2 y3) (spec_l03Seams.l0 (k + 1) y0 y1 y2 y3)) ∧ (∀ y0 y1 y2 y3 y4, LeO (spec_l03Seams.l1 k y0 y1 y2 y3 y4) (spec_l03Seams.l1 (k + 1) y0 y1 y2 y3 y4))
 | 0 => ⟨fun _ _ _ _ r h => by simp [spec_l03Seams.l0] at h, fun _ _ _ _ _ r h => by simp [spec_l03Seams.l1] at h⟩
 | k + 1 => by
  obtain ⟨ih0, ih1⟩ := spec_l03Seams.mono_l k
  refine ⟨?_, ?_⟩ <;> intros
  all_goals first | unfold spec_l03Seams.l0 | unfold spec_l03Seams.l1
  all_goals repeat' first | (with_reducible first | exact ih0 _ _ _ _ | exact ih1 _ _ _ _ _ | exact spec_l03Over.mono _ _ _ | exact spec_l03Seam.mono _ _ _ _ _ _ _ _ _ | exact LeO.refl _ | exact LeO.none _ | refine LeO.ite ?_ ?_ | refine LeO.bind ?_ (fun _ => ?_))
theorem spec_l03Seams.mono : ∀ a0 a1 k, LeO (spec_l03Seams.f k a0 a1) (spec_l03Seams.f (k + 1) a0 a1) := by
 intro a0 a1 k
 obtain ⟨ih0, ih1⟩ := spec_l03Seams.mono_l k
 unfold spec_l03Seams.f
 repeat' first | (with_reducible first | exact ih0 _ _ _ _ | exact ih1 _ _ _ _ _ | exact spec_l03Over.mono _ _ _ | exact spec_l03Seam.mono _ _ _ _ _ _ _ _ _ | exact LeO.refl _ | exact LeO.none _ | refine LeO.ite ?_ ?_ | refine LeO.bind ?_ (fun _ => ?_))
def spec_l03Seams.T10 : Bool × List (List Nat × List Nat) := (true, [([], []), ([], []), ([], []), ([1, 2], [1, 2]), ([3], [3]), ([], []), ([], []), ([], []), ([6, 7], [6, 7]), ([5, 8], [5, 8]), ([9], [9]), ([], []), ([], []), ([11, 12], [11, 12]), ([13], [13]), ([], []), ([], []), ([], []), ([16, 17, 8], [16, 17]), ([15, 18], [15, 18]), ([19], [19]), ([4, 10, 14, 20, 18], [4, 10, 14, 20]), ([0, 21, 21], [0, 21]), ([22, 22, 0, 1, 2, 3, 4, 5, 6, 7, 8, 9, 10, 11, 12, 13, 14, 15, 16, 17, 18, 19, 20, 21, 22], [0, 22])])
def spec_l03Seams.B10 : List Nat := [0, 0, 0, 6, 14, 0, 0, 0, 192, 480, 992, 0, 0, 6144, 14336, 0, 0, 0, 197056, 491968, 1016256, 2097150, 4194303, 8388607]
theorem spec_l03Seams.tab10 : rtab .any (opsOf Try.f32 10) = spec_l03Seams.T10 := by kernel_rfl
theorem spec_l03Seams.bits10 : waitsOk spec_l03Seams.T10.2 spec_l03Seams.B10 = true := by kernel_rfl
set_option maxHeartbeats 8000000 in
set_option maxRecDepth 100000 in
theorem spec_l03Seams.calls (k : Nat) (A0 : Option Addr) (c0 : Nat) (l0 : List (S34)) (A1 : Option Addr) (c1 : Nat) (l1 : List (S34)) (r : Int) (w : World) (hr0 : Kd.C k34 w A0 l0.length l0) (hc0 : l0.length ≤ c0) (hr1 : Kd.C k34 w A1 l1.length l1) (hc1 : l1.length ≤ c1) (h : spec_l03Seams.f k l0 l1 = some r) :
  Calls Try.prog 32 #[.slice A0 l0.length c0, .slice A1 l1.length c1] w fun e w' => e = .returned (.int .i64 r) ∧ Below w.heap.size w w' := by
 have hu34 := Try.underlying34
 have HR0 := Aside0.mk hr0
 have HC0 := Aside0.mk hc0
 clear hr0 hc0
 have HR1 := Aside0.mk hr1
 have HC1 := Aside0.mk hc1
 clear hr1 hc1
 have HB := Aside0.mk (Below.refl w.heap.size w)
 have H : ((spec_l03Over.f k l0 l1).bind fun t336 => (if t336 = true then (some 0) else (spec_l03Seams.l0 k l0 l1 0 0))) = some r := h
 clear h
 obtain ⟨t336, A3, H⟩ := be_ H
 (try dsimp only at H)
 by_cases c4 : t336 = true
 ·
  subst c4
  replace H := gt_ H
  obtain rfl := Option.some.inj H
  go_enter Try.func32, Try.ntmps32
  go_wp2_with (first | ((with_reducible refine gate_callee (f := 28) rfl ?_); refine goM_ (some 10) Try.func28 #[.slice A0 l0.length c0, .slice A1 l1.length c1] ?_; (with_reducible refine (spec_l03Over.calls k _ _ l0 _ _ l1 true _ ?side1 ?side2 ?side3 ?side4 A3.out).mono ?_); (case side1 => exact kc_ HR0.out); (case side2 => exact HC0.out); (case side3 => exact kc_ HR1.out); (case side4 => exact HC1.out); rintro e w5 ⟨rfl, hb⟩; refine ⟨_, rfl, ?_⟩; replace HB := bs_ HB hb; clear hb))
  go_ret
  exact ⟨rt_, bl_ HB⟩
 replace c4 := Bool.eq_false_iff.mpr c4
 subst c4
 replace H := gf_ H
 have H' := Aside0.mk H
 clear H
 go_enter Try.func32, Try.ntmps32
 go_wp2_with (first | ((with_reducible refine gate_callee (f := 28) rfl ?_); refine goM_ (some 10) Try.func28 #[.slice A0 l0.length c0, .slice A1 l1.length c1] ?_; (with_reducible refine (spec_l03Over.calls k _ _ l0 _ _ l1 false _ ?side1 ?side2 ?side3 ?side4 A3.out).mono ?_); (case side1 => exact kc_ HR0.out); (case side2 => exact HC0.out); (case side3 => exact kc_ HR1.out); (case side4 => exact HC1.out); rintro e w6 ⟨rfl, hb⟩; refine ⟨_, rfl, ?_⟩; replace HB := bs_ HB hb; clear hb))
 go_loopg [5, 6] k (fun kq v5 v6 w' => ∃ (x5_1 : Int) (x6_1 : Int), v5 = .int .i64 x5_1 ∧ v6 = .int .i64 x6_1 ∧ Aside0 (spec_l03Seams.l0 kq l0 l1 x5_1 x6_1 = some r) ∧ Aside0 (kq ≤ k) ∧ Aside0 (Below w.heap.size w w'))
 case atStart => exact ⟨(0), (0), (by first | rfl | (simp; done) | (simp [*]; done)), (by first | rfl | (simp; done) | (simp [*]; done)), H', ⟨Nat.le_refl _⟩, ⟨bl_ HB⟩⟩
 case round =>
  clear H'
  obtain ⟨x5_1, x6_1, rfl, rfl, HA, HK1, HB⟩ := hrel
  rcases gk with _ | k1
  · exact absurd HA.out (by simp [spec_l03Seams.l0])
  have H := HA.out
  clear HA
  simp only [spec_l03Seams.l0] at H
  rcases (Decidable.em (x6_1 < (l0.length : Int))).symm with c7 | c7
  ·
   rw [if_neg c7] at H
   have c7b0 : decide (x6_1 < (l0.length : Int)) = false := decide_eq_false c7
   clear c7
   obtain rfl := Option.some.inj H
   go_wp2
   go_ret
   exact ⟨rt_, bl_ HB⟩

  rw [if_pos c7] at H
  have c7b0 : decide (x6_1 < (l0.length : Int)) = true := decide_eq_true c7
  clear c7
  have H' := Aside0.mk H
  clear H
  go_wp2
  go_loopg [5, 7] k1 (fun kq v5 v7 w' => ∃ (x5_2 : Int) (x7_2 : Int), v5 = .int .i64 x5_2 ∧ v7 = .int .i64 x7_2 ∧ Aside0 (spec_l03Seams.l1 kq l0 l1 x5_2 x6_1 x7_2 = some r) ∧ Aside0 (kq ≤ k1) ∧ Aside0 (Below w.heap.size w w'))
  case atStart => exact ⟨(x5_1), (0), (by first | rfl | (simp; done) | (simp [*]; done)), (by first | rfl | (simp; done) | (simp [*]; done)), H', ⟨Nat.le_refl _⟩, ⟨bl_ HB⟩⟩
  case round =>
   clear H'
   obtain ⟨x5_2, x7_2, rfl, rfl, HA, HK2, HB⟩ := hrel
   rcases gk with _ | k2
   · exact absurd HA.out (by simp [spec_l03Seams.l1])
   have H := HA.out
   clear HA
   simp only [spec_l03Seams.l1] at H
   rcases (Decidable.em (x7_2 < (l1.length : Int))).symm with c8 | c8
   ·
    rw [if_neg c8] at H
    have c8b0 : decide (x7_2 < (l1.length : Int)) = false := decide_eq_false c8
    clear c8
    have H' := Aside0.mk H
    clear H
    go_wp2
    go_roundg k2
    case measure => have := HK1.out; have := HK2.out; omega
    case rel => exact ⟨(x5_2), (wrap64 (x6_1 + 1)), (by first | rfl | (simp; done) | (simp [*]; done)), (by first | rfl | (simp; done) | (simp [*]; done)), H', ⟨by have := HK1.out; have := HK2.out; omega⟩, ⟨bl_ HB⟩⟩
   rw [if_pos c8] at H
   have c8b0 : decide (x7_2 < (l1.length : Int)) = true := decide_eq_true c8
   clear c8
   obtain ⟨c9b0, H⟩ := gx_ H
   obtain ⟨c10b0, H⟩ := gx_ H
   obtain ⟨t338, A11, H⟩ := be_ H
   (try dsimp only at H)
   obtain ⟨c12b0, H⟩ := gx_ H
   obtain ⟨c13b0, H⟩ := gx_ H
   obtain ⟨c14b0, H⟩ := gx_ H
   obtain ⟨t341, A15, H⟩ := be_ H
   (try dsimp only at H)
   obtain ⟨c16b0, H⟩ := gx_ H
   obtain ⟨c17b0, H⟩ := gx_ H
   obtain ⟨t343, A18, H⟩ := be_ H
   (try dsimp only at H)
   obtain ⟨t344, A19, H⟩ := be_ H
   (try dsimp only at H)
   have H' := Aside0.mk H
   clear H
   try go_wp2
   have n0_ := Aside0.mk (below_drew1 HB.out)
   clear HB
   have HB := n0_
   clear n0_
   have p337 : 0 ≤ (x6_1 : Int) := od_
   have q337 : x6_1 < (l0.length : Int) := od_
   obtain ⟨ad337, e337, hx337_0, hx337_1⟩ := at_T34 HR0.out x6_1 p337 q337
   have hw337_1 := hx337_1
   have hw337_0 := hx337_0
   cases e337
   replace hx337_0 := (hw_ HB hx337_0 :)
   replace hx337_1 := (hw_ HB hx337_1 :)
   replace p337 := eq_true p337
   replace q337 := eq_true q337
   have p340 : 0 ≤ (x7_2 : Int) := od_
   have q340 : x7_2 < (l1.length : Int) := od_
   obtain ⟨ad340, e340, hx340_0, hx340_1⟩ := at_T34 HR1.out x7_2 p340 q340
   have hw340_1 := hx340_1
   have hw340_0 := hx340_0
   cases e340
   replace hx340_0 := (hw_ HB hx340_0 :)
   replace hx340_1 := (hw_ HB hx340_1 :)
   replace p340 := eq_true p340
   replace q340 := eq_true q340
   have p339 : 0 ≤ (t338 : Int) := od_
   have q339 : t338 < (l0.length : Int) := od_
   obtain ⟨ad339, e339, hx339_0, hx339_1⟩ := at_T34 HR0.out t338 p339 q339
   have hw339_1 := hx339_1
   have hw339_0 := hx339_0
   obtain rfl : ad337 = ad339 := (by injection e339)
   replace hx339_0 := (hw_ HB hx339_0 :)
   replace hx339_1 := (hw_ HB hx339_1 :)
   replace p339 := eq_true p339
   replace q339 := eq_true q339
   have p342 : 0 ≤ (t341 : Int) := od_
   have q342 : t341 < (l1.length : Int) := od_
   obtain ⟨ad342, e342, hx342_0, hx342_1⟩ := at_T34 HR1.out t341 p342 q342
   have hw342_1 := hx342_1
   have hw342_0 := hx342_0
   obtain rfl : ad340 = ad342 := (by injection e342)
   replace hx342_0 := (hw_ HB hx342_0 :)
   replace hx342_1 := (hw_ HB hx342_1 :)
   replace p342 := eq_true p342
   replace q342 := eq_true q342
   refine start_ (n := 24) (S := fun w' => w'.cell? (ad337.add ((x6_1).toNat * 2)) = some (.int .i16 ((rd_T34 l0 x6_1).f0)) ∧ w'.cell? ⟨(ad337.add ((x6_1).toNat * 2)).block, (ad337.add ((x6_1).toNat * 2)).off + 1, none⟩ = some (.int .i16 ((rd_T34 l0 x6_1).f1)) ∧ w'.cell? (ad340.add ((x7_2).toNat * 2)) = some (.int .i16 ((rd_T34 l1 x7_2).f0)) ∧ w'.cell? ⟨(ad340.add ((x7_2).toNat * 2)).block, (ad340.add ((x7_2).toNat * 2)).off + 1, none⟩ = some (.int .i16 ((rd_T34 l1 x7_2).f1)) ∧ w'.cell? (ad337.add ((t338).toNat * 2)) = some (.int .i16 ((rd_T34 l0 t338).f0)) ∧ w'.cell? ⟨(ad337.add ((t338).toNat * 2)).block, (ad337.add ((t338).toNat * 2)).off + 1, none⟩ = some (.int .i16 ((rd_T34 l0 t338).f1)) ∧ w'.cell? (ad340.add ((t341).toNat * 2)) = some (.int .i16 ((rd_T34 l1 t341).f0)) ∧ w'.cell? ⟨(ad340.add ((t341).toNat * 2)).block, (ad340.add ((t341).toNat * 2)).off + 1, none⟩ = some (.int .i16 ((rd_T34 l1 t341).f1))) (ds := []) #[false, false, false, false, false, false, false, false, false, false, false, false, false, false, false, false, false, false, false, false, false, false, false, false] (by kernel_rfl) rfl rfl ⟨((hw_ HB hw337_0 :)), ((hw_ HB hw337_1 :)), ((hw_ HB hw340_0 :)), ((hw_ HB hw340_1 :)), ((hw_ HB hw339_0 :)), ((hw_ HB hw339_1 :)), ((hw_ HB hw342_0 :)), ((hw_ HB hw342_1 :))⟩ (fun hHeld => ?_); refine with_tabW spec_l03Seams.tab10 spec_l03Seams.bits10 (fun HT_ HW_ => ?_)
   generalize wr.drew = w20 at HB hx337_0 hx337_1 hx339_0 hx339_1 hx340_0 hx340_1 hx342_0 hx342_1 hHeld ⊢
   refine pu_ 0 23 (lA 24 1) ?_ ?_ HT_ ?_
   refine pu_ 1 24 (lA 24 3) ?_ ?_ HT_ ?_
   refine pu_ 2 25 (lA 24 7) ?_ ?_ HT_ ?_
   refine pu_ 3 26 (lA 24 15) ?_ ?_ HT_ ?_
   refine pu_ 5 28 (lA 24 47) ?_ ?_ HT_ ?_
   refine pu_ 6 29 (lA 24 111) ?_ ?_ HT_ ?_
   refine pu_ 7 30 (lA 24 239) ?_ ?_ HT_ ?_
   refine pu_ 11 34 (lA 24 2287) ?_ ?_ HT_ ?_
   refine pu_ 12 35 (lA 24 6383) ?_ ?_ HT_ ?_
   refine pu_ 13 36 (lA 24 14575) ?_ ?_ HT_ ?_
   refine pu_ 15 38 (lA 24 47343) ?_ ?_ HT_ ?_
   refine pu_ 16 39 (lA 24 112879) ?_ ?_ HT_ ?_
   refine pu_ 17 40 (lA 24 243951) ?_ ?_ HT_ ?_
   refine tk_ 4 27 (lA 24 243967) ?_ ?_ HT_ HW_ hHeld ?_
   refine tk_ 14 37 (lA 24 260351) ?_ ?_ HT_ HW_ hHeld ?_
   refine one_ (i := 8) (N := some 31) #[true, true, true, true, true, true, true, true, true, false, false, true, true, true, true, true, true, true, false, false, false, false, false, false] rfl rfl (one_of HT_.out (by kernel_rfl)) (by decide) (fun K hK => ?_)
   refine goes_ Try.func46 (by kernel_rfl) rfl #[.slice (some ad337) l0.length c0, .int .i64 x6_1] (by rfl) rfl rfl (by (try simp only [List.map_toArray, List.map_cons, List.map_nil]); first | done | rfl | (simp only [List.length_drop, List.length_take]; rfl)) ?_
   with_reducible refine (spec_l03Next.calls _ _ l0 x6_1 t338 _ ?side1 ?side2 A11.out).mono ?_
   (case side1 => exact kc_ (Kd.C_below HR0.out HB.out))
   (case side2 => exact HC0.out)
   rintro e w' ⟨rfl, ⟨nd, rfl⟩⟩
   refine ⟨_, rfl, ?_⟩
   refine hK.out _ _ ⟨((hw_ HB hw337_0 :)), ((hw_ HB hw337_1 :)), ((hw_ HB hw340_0 :)), ((hw_ HB hw340_1 :)), ((hw_ HB hw339_0 :)), ((hw_ HB hw339_1 :)), ((hw_ HB hw342_0 :)), ((hw_ HB hw342_1 :))⟩ (fun hHeld => ?_)
   clear hK K
   refine norm_ (a' := ?_) ?_ ?_
   rotate_left
   ·
    show Act.put _ (some 31) _ = _
    simp only [Act.put, List.setIfInBounds_toArray, List.set_cons_zero, List.set_cons_succ, i64_w, i32_w]
    rfl
   refine pu_ 9 32 (lA 24 261119) ?_ ?_ HT_ ?_
   refine tk_ 10 33 (lA 24 262143) ?_ ?_ HT_ HW_ hHeld ?_
   refine one_ (i := 18) (N := some 41) #[true, true, true, true, true, true, true, true, true, true, true, true, true, true, true, true, true, true, true, false, false, false, false, false] rfl rfl (one_of HT_.out (by kernel_rfl)) (by decide) (fun K hK => ?_)
   refine goes_ Try.func46 (by kernel_rfl) rfl #[.slice (some ad340) l1.length c1, .int .i64 x7_2] (by rfl) rfl rfl (by (try simp only [List.map_toArray, List.map_cons, List.map_nil]); first | done | rfl | (simp only [List.length_drop, List.length_take]; rfl)) ?_
   with_reducible refine (spec_l03Next.calls _ _ l1 x7_2 t341 _ ?side1 ?side2 A15.out).mono ?_
   (case side1 => repeat (first | exact (Kd.C_below HR1.out (kB_ HB)) | (with_reducible refine Kd.C_alloc ?_ _) | (with_reducible refine Kd.C_drewN ?_ _) | (with_reducible refine Kd.C_drew ?_)))
   (case side2 => exact HC1.out)
   rintro e w' ⟨rfl, ⟨nd, rfl⟩⟩
   refine ⟨_, rfl, ?_⟩
   refine hK.out _ _ ⟨((hw_ HB hw337_0 :)), ((hw_ HB hw337_1 :)), ((hw_ HB hw340_0 :)), ((hw_ HB hw340_1 :)), ((hw_ HB hw339_0 :)), ((hw_ HB hw339_1 :)), ((hw_ HB hw342_0 :)), ((hw_ HB hw342_1 :))⟩ (fun hHeld => ?_)
   clear hK K
   refine norm_ (a' := ?_) ?_ ?_
   rotate_left
   ·
    show Act.put _ (some 41) _ = _
    simp only [Act.put, List.setIfInBounds_toArray, List.set_cons_zero, List.set_cons_succ, i64_w, i32_w]
    rfl
   refine pu_ 19 42 (lA 24 1048575) ?_ ?_ HT_ ?_
   refine tk_ 20 43 (lA 24 2097151) ?_ ?_ HT_ HW_ hHeld ?_
   refine one_ (i := 21) (N := some 44) #[true, true, true, true, true, true, true, true, true, true, true, true, true, true, true, true, true, true, true, true, true, true, false, false] rfl rfl (one_of HT_.out (by kernel_rfl)) (by decide) (fun K hK => ?_)
   refine goes_ Try.func60 (by kernel_rfl) rfl #[.agg #[.int .i16 ((rd_T34 l0 x6_1).f0), .int .i16 ((rd_T34 l0 x6_1).f1)], .agg #[.int .i16 ((rd_T34 l0 t338).f0), .int .i16 ((rd_T34 l0 t338).f1)], .agg #[.int .i16 ((rd_T34 l1 x7_2).f0), .int .i16 ((rd_T34 l1 x7_2).f1)], .agg #[.int .i16 ((rd_T34 l1 t341).f0), .int .i16 ((rd_T34 l1 t341).f1)]] (by rfl) rfl rfl (by (try simp only [List.map_toArray, List.map_cons, List.map_nil]); first | done | rfl | (simp only [List.length_drop, List.length_take]; rfl)) ?_
   with_reducible refine (spec_l03Seam.calls k2 ((rd_T34 l0 x6_1).f0) ((rd_T34 l0 x6_1).f1) ((rd_T34 l0 t338).f0) ((rd_T34 l0 t338).f1) ((rd_T34 l1 x7_2).f0) ((rd_T34 l1 x7_2).f1) ((rd_T34 l1 t341).f0) ((rd_T34 l1 t341).f1) t343 _ A18.out).mono ?_
   rintro e w21 ⟨rfl, hb⟩
   refine ⟨_, rfl, ?_⟩
   have n0_ := bs_ HB hb
   clear HB
   have HB := n0_
   clear n0_
   refine hK.out _ _ ⟨((hw_ HB hw337_0 :)), ((hw_ HB hw337_1 :)), ((hw_ HB hw340_0 :)), ((hw_ HB hw340_1 :)), ((hw_ HB hw339_0 :)), ((hw_ HB hw339_1 :)), ((hw_ HB hw342_0 :)), ((hw_ HB hw342_1 :))⟩ (fun hHeld => ?_)
   clear hK K
   refine norm_ (a' := ?_) ?_ ?_
   rotate_left
   ·
    show Act.put _ (some 44) _ = _
    simp only [Act.put, List.setIfInBounds_toArray, List.set_cons_zero, List.set_cons_succ, i64_w, i32_w]
    rfl
   refine one_ (i := 22) (N := some 45) #[true, true, true, true, true, true, true, true, true, true, true, true, true, true, true, true, true, true, true, true, true, true, true, false] rfl rfl (one_of HT_.out (by kernel_rfl)) (by decide) (fun K hK => ?_)
   refine goes_ Try.func59 (by kernel_rfl) rfl #[.int .i64 x5_2, .int .i64 t343] (by rfl) rfl rfl (by (try simp only [List.map_toArray, List.map_cons, List.map_nil]); first | done | rfl | (simp only [List.length_drop, List.length_take]; rfl)) ?_
   with_reducible refine (spec_l00Max.calls x5_2 t343 t344 _ A19.out).mono ?_
   rintro e w' ⟨rfl, ⟨nd, rfl⟩⟩
   refine ⟨_, rfl, ?_⟩
   refine hK.out _ _ ⟨((hw_ HB hw337_0 :)), ((hw_ HB hw337_1 :)), ((hw_ HB hw340_0 :)), ((hw_ HB hw340_1 :)), ((hw_ HB hw339_0 :)), ((hw_ HB hw339_1 :)), ((hw_ HB hw342_0 :)), ((hw_ HB hw342_1 :))⟩ (fun hHeld => ?_)
   clear hK K
   refine norm_ (a' := ?_) ?_ ?_
   rotate_left
   ·
    show Act.put _ (some 45) _ = _
    simp only [Act.put, List.setIfInBounds_toArray, List.set_cons_zero, List.set_cons_succ, i64_w, i32_w]
    rfl
   refine pu_ 23 5 (lA 24 16777215) ?_ ?_ HT_ ?_
   refine done_ (done_of HT_.out (by kernel_rfl)) ?_
   try go_wp2
   go_roundg k2
   case measure => have := HK1.out; have := HK2.out; omega
   case rel => exact ⟨(t344), (wrap64 (x7_2 + 1)), (by first | rfl | (simp; done) | (simp [*]; done)), (by first | rfl | (simp; done) | (simp [*]; done)), H', ⟨by have := HK1.out; have := HK2.out; omega⟩, ⟨bl_ HB⟩⟩
end Go.Proofs.Ytmglnofmmgokkaa.PA
