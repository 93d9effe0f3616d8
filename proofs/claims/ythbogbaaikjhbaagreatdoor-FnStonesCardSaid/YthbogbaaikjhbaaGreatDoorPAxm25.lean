/- Pure functions, and that Go's functions come to them. -/
import Derived.Test.YthbogbaaikjhbaaGreatDoorPAx0
import Derived.Test.YthbogbaaikjhbaaGreatDoorPAxm17
import Derived.Test.YthbogbaaikjhbaaGreatDoorPAxm29
import Derived.Test.YthbogbaaikjhbaaGreatDoorPAxm20
import Derived.Test.YthbogbaaikjhbaaGreatDoorPAxgSpec
namespace Go.Proofs.YthbogbaaikjhbaaGreatDoor.PA
open Go.RowKit Go.Proofs.YthbogbaaikjhbaaGreatDoorW.PrintWords Go.Proofs.YthbogbaaikjhbaaGreatDoorW.PrintLast Go.Proofs.YthbogbaaikjhbaaGreatDoorW.PrintMore
set_option linter.unusedVariables false
set_option linter.unusedSimpArgs false

/-! ### impl_HullOf_2: function 52 -/
def impl_HullOf_2.f (a0_0 : Int) (a0_1 : Int) (a1_0 : Int) (a1_1 : Int) : Option (Int) := (impl_cornerLess.f a0_0 a0_1 a1_0 a1_1).bind fun t507 => (if t507 = true then (some (-1)) else ((impl_cornerLess.f a1_0 a1_1 a0_0 a0_1).bind fun t508 => (if t508 = true then (some 1) else (some 0))))
set_option maxHeartbeats 8000000 in
set_option maxRecDepth 100000 in
theorem impl_HullOf_2.calls (a0_0 : Int) (a0_1 : Int) (a1_0 : Int) (a1_1 : Int) (r : Int) (w : World) (h : impl_HullOf_2.f a0_0 a0_1 a1_0 a1_1 = some r) :
  Calls Tryz.prog 52 #[.agg #[.int .i16 a0_0, .int .i16 a0_1], .agg #[.int .i16 a1_0, .int .i16 a1_1]] w fun e w' => e = .returned (.int .i64 r) ∧ Below w.heap.size w w' := by
 have hu43 := Tryz.underlying43
 have HB := Aside0.mk (Below.refl w.heap.size w)
 have H : ((impl_cornerLess.f a0_0 a0_1 a1_0 a1_1).bind fun t507 => (if t507 = true then (some (-1)) else ((impl_cornerLess.f a1_0 a1_1 a0_0 a0_1).bind fun t508 => (if t508 = true then (some 1) else (some 0))))) = some r := h
 clear h
 obtain ⟨t507, A3, H⟩ := be_ H
 (try dsimp only at H)
 by_cases c4 : t507 = true
 ·
  subst c4
  replace H := gt_ H
  obtain rfl := Option.some.inj H
  go_enter Tryz.func52, Tryz.ntmps52
  go_wp2_with (first | ((with_reducible refine gate_dst (N := 2) rfl ?_); refine boxM_ 2 #[.int .i16 a0_0, .int .i16 a0_1] 43 ?_; intro gb505 hg w5 hbox hb; have BK505 := Aside0.mk (hbox); have GW505 := ge_ HB hg; have GE505 := ge_ HB hg; replace HB := bs_ HB hb; clear hb hbox hg) | ((with_reducible refine gate_dst (N := 3) rfl ?_); refine boxM_ 3 #[.int .i16 a1_0, .int .i16 a1_1] 43 ?_; intro gb506 hg w6 hbox hb; have BK506 := Aside0.mk (hbox); have GW506 := ge_ HB hg; have GE506 := ge_ HB hg; replace HB := bs_ HB hb; have NB505_506 := nl_ BK505 hg; have NB506_505 := ng_ BK505 hg; replace BK505 := bd_ BK505 hb; clear hb hbox hg; have hnb7 := NB505_506.out; have hnc7 := NB506_505.out; obtain ⟨⟨hcz8_0, hcz8_1⟩, hfz8_0, hfz8_1⟩ := bq_ BK505; obtain ⟨⟨hcz9_0, hcz9_1⟩, hfz9_0, hfz9_1⟩ := bq_ BK506) | ((with_reducible refine gate_callee (f := 43) rfl ?_); refine goM_ (some 8) Tryz.func43 #[.agg #[.int .i16 a0_0, .int .i16 a0_1], .agg #[.int .i16 a1_0, .int .i16 a1_1]] ?_; (with_reducible refine (impl_cornerLess.calls a0_0 a0_1 a1_0 a1_1 true _ A3.out).mono ?_); rintro e w10 ⟨rfl, hb⟩; refine ⟨_, rfl, ?_⟩; replace BK505 := bd_ BK505 hb; replace BK506 := bd_ BK506 hb; replace HB := bs_ HB hb; clear hb))
  go_ret
  exact ⟨rt_, k2_ HB GE505 GE506⟩
 replace c4 := Bool.eq_false_iff.mpr c4
 subst c4
 replace H := gf_ H
 obtain ⟨t508, A11, H⟩ := be_ H
 (try dsimp only at H)
 by_cases c12 : t508 = true
 ·
  subst c12
  replace H := gt_ H
  obtain rfl := Option.some.inj H
  go_enter Tryz.func52, Tryz.ntmps52
  go_wp2_with (first | ((with_reducible refine gate_dst (N := 2) rfl ?_); refine boxM_ 2 #[.int .i16 a0_0, .int .i16 a0_1] 43 ?_; intro gb505 hg w13 hbox hb; have BK505 := Aside0.mk (hbox); have GW505 := ge_ HB hg; have GE505 := ge_ HB hg; replace HB := bs_ HB hb; clear hb hbox hg) | ((with_reducible refine gate_dst (N := 3) rfl ?_); refine boxM_ 3 #[.int .i16 a1_0, .int .i16 a1_1] 43 ?_; intro gb506 hg w14 hbox hb; have BK506 := Aside0.mk (hbox); have GW506 := ge_ HB hg; have GE506 := ge_ HB hg; replace HB := bs_ HB hb; have NB505_506 := nl_ BK505 hg; have NB506_505 := ng_ BK505 hg; replace BK505 := bd_ BK505 hb; clear hb hbox hg; have hnb15 := NB505_506.out; have hnc15 := NB506_505.out; obtain ⟨⟨hcz16_0, hcz16_1⟩, hfz16_0, hfz16_1⟩ := bq_ BK505; obtain ⟨⟨hcz17_0, hcz17_1⟩, hfz17_0, hfz17_1⟩ := bq_ BK506) | ((with_reducible refine gate_callee (f := 43) rfl ?_); refine goM_ (some 8) Tryz.func43 #[.agg #[.int .i16 a0_0, .int .i16 a0_1], .agg #[.int .i16 a1_0, .int .i16 a1_1]] ?_; (with_reducible refine (impl_cornerLess.calls a0_0 a0_1 a1_0 a1_1 false _ A3.out).mono ?_); rintro e w18 ⟨rfl, hb⟩; refine ⟨_, rfl, ?_⟩; replace BK505 := bd_ BK505 hb; replace BK506 := bd_ BK506 hb; replace HB := bs_ HB hb; clear hb; obtain ⟨⟨hcz19_0, hcz19_1⟩, hfz19_0, hfz19_1⟩ := bq_ BK506; obtain ⟨⟨hcz20_0, hcz20_1⟩, hfz20_0, hfz20_1⟩ := bq_ BK505) | ((with_reducible refine gate_callee (f := 43) rfl ?_); refine goM_ (some 12) Tryz.func43 #[.agg #[.int .i16 a1_0, .int .i16 a1_1], .agg #[.int .i16 a0_0, .int .i16 a0_1]] ?_; (with_reducible refine (impl_cornerLess.calls a1_0 a1_1 a0_0 a0_1 true _ A11.out).mono ?_); rintro e w21 ⟨rfl, hb⟩; refine ⟨_, rfl, ?_⟩; replace BK505 := bd_ BK505 hb; replace BK506 := bd_ BK506 hb; replace HB := bs_ HB hb; clear hb))
  go_ret
  exact ⟨rt_, k2_ HB GE505 GE506⟩
 replace c12 := Bool.eq_false_iff.mpr c12
 subst c12
 replace H := gf_ H
 obtain rfl := Option.some.inj H
 go_enter Tryz.func52, Tryz.ntmps52
 go_wp2_with (first | ((with_reducible refine gate_dst (N := 2) rfl ?_); refine boxM_ 2 #[.int .i16 a0_0, .int .i16 a0_1] 43 ?_; intro gb505 hg w22 hbox hb; have BK505 := Aside0.mk (hbox); have GW505 := ge_ HB hg; have GE505 := ge_ HB hg; replace HB := bs_ HB hb; clear hb hbox hg) | ((with_reducible refine gate_dst (N := 3) rfl ?_); refine boxM_ 3 #[.int .i16 a1_0, .int .i16 a1_1] 43 ?_; intro gb506 hg w23 hbox hb; have BK506 := Aside0.mk (hbox); have GW506 := ge_ HB hg; have GE506 := ge_ HB hg; replace HB := bs_ HB hb; have NB505_506 := nl_ BK505 hg; have NB506_505 := ng_ BK505 hg; replace BK505 := bd_ BK505 hb; clear hb hbox hg; have hnb24 := NB505_506.out; have hnc24 := NB506_505.out; obtain ⟨⟨hcz25_0, hcz25_1⟩, hfz25_0, hfz25_1⟩ := bq_ BK505; obtain ⟨⟨hcz26_0, hcz26_1⟩, hfz26_0, hfz26_1⟩ := bq_ BK506) | ((with_reducible refine gate_callee (f := 43) rfl ?_); refine goM_ (some 8) Tryz.func43 #[.agg #[.int .i16 a0_0, .int .i16 a0_1], .agg #[.int .i16 a1_0, .int .i16 a1_1]] ?_; (with_reducible refine (impl_cornerLess.calls a0_0 a0_1 a1_0 a1_1 false _ A3.out).mono ?_); rintro e w27 ⟨rfl, hb⟩; refine ⟨_, rfl, ?_⟩; replace BK505 := bd_ BK505 hb; replace BK506 := bd_ BK506 hb; replace HB := bs_ HB hb; clear hb; obtain ⟨⟨hcz28_0, hcz28_1⟩, hfz28_0, hfz28_1⟩ := bq_ BK506; obtain ⟨⟨hcz29_0, hcz29_1⟩, hfz29_0, hfz29_1⟩ := bq_ BK505) | ((with_reducible refine gate_callee (f := 43) rfl ?_); refine goM_ (some 12) Tryz.func43 #[.agg #[.int .i16 a1_0, .int .i16 a1_1], .agg #[.int .i16 a0_0, .int .i16 a0_1]] ?_; (with_reducible refine (impl_cornerLess.calls a1_0 a1_1 a0_0 a0_1 false _ A11.out).mono ?_); rintro e w30 ⟨rfl, hb⟩; refine ⟨_, rfl, ?_⟩; replace BK505 := bd_ BK505 hb; replace BK506 := bd_ BK506 hb; replace HB := bs_ HB hb; clear hb))
 go_ret
 exact ⟨rt_, k2_ HB GE505 GE506⟩


/-! ### spec_l00Src_pick: function 27 -/
def spec_l00Src_pick.f (s0_0 : List Int) (s0_1 : Int) (s0_2 : Int) (a1 : Int) : Option (Int × Int × Int) := if a1 ≤ 1 then (some (0, s0_1, s0_2)) else ((spec_l00Src_next.f s0_0 s0_1 s0_2).bind fun bt103 => (if a1 > 200 then ((spec_l00Src_next.f s0_0 bt103.2.1 bt103.2.2).bind fun bt106 => (if a1 = 0 then (none) else (some (Int.tmod (wrap64 ((wrap64 (bt103.1 * 256)) + bt106.1)) a1, bt106.2.1, bt106.2.2)))) else (if a1 = 0 then (none) else (some (Int.tmod bt103.1 a1, bt103.2.1, bt103.2.2)))))
set_option maxHeartbeats 8000000 in
set_option maxRecDepth 100000 in
theorem spec_l00Src_pick.calls (g : Nat) (s0_0 : List Int) (s0_1 : Int) (s0_2 : Int) (a1 : Int) (r1 : Int) (r2 : Int) (r3 : Int) (w0 w : World) (hI : IsS80 w0 w g s0_0 s0_1 s0_2) (hB : Below w0.heap.size w0 w) (h : spec_l00Src_pick.f s0_0 s0_1 s0_2 a1 = some (r1, r2, r3)) :
  Calls Tryz.prog 27 #[.pointer (some ⟨g, 0, none⟩), .int .i64 a1] w fun e w' => e = .returned (.int .i64 r1) ∧ IsS80 w0 w' g s0_0 r2 r3 ∧ Below w0.heap.size w0 w' ∧ KeepBut w w' g none := by
 have HI0 := Aside0.mk hI
 have HK := Aside0.mk (KeepBut.refl w g none)
 have HL := Aside0.mk hB.size
 clear hI
 have HW0 := Aside0.mk hB.size
 have HB := Aside0.mk hB
 clear hB
 have H : (if a1 ≤ 1 then (some (0, s0_1, s0_2)) else ((spec_l00Src_next.f s0_0 s0_1 s0_2).bind fun bt103 => (if a1 > 200 then ((spec_l00Src_next.f s0_0 bt103.2.1 bt103.2.2).bind fun bt106 => (if a1 = 0 then (none) else (some (Int.tmod (wrap64 ((wrap64 (bt103.1 * 256)) + bt106.1)) a1, bt106.2.1, bt106.2.2)))) else (if a1 = 0 then (none) else (some (Int.tmod bt103.1 a1, bt103.2.1, bt103.2.2)))))) = some (r1, r2, r3) := h
 clear h
 by_cases c3 : a1 ≤ 1
 ·
  rw [if_pos c3] at H
  have c3b0 : decide (a1 ≤ 1) = true := decide_eq_true c3
  clear c3
  simp only [Option.some.injEq, Prod.mk.injEq] at H
  obtain ⟨rfl, rfl, rfl⟩ := H
  go_enter Tryz.func27, Tryz.ntmps27
  go_wp2
  go_ret
  exact ⟨rt_, by repeat (first | (with_reducible first | exact HI0.out | apply IsS80.alloc | apply IsS80.drewN | apply IsS80.drew | apply IsS80.set_1 | apply IsS80.set_2) | exact HI0.out), by repeat (first | (with_reducible first | exact HB.out | apply below_alloc | apply pw_below_drewN | apply below_drew1 | refine below_set ?_ (IsS80.ge HI0.out)) | exact HB.out), kk_ HK⟩
 rw [if_neg c3] at H
 have c3b0 : decide (a1 ≤ 1) = false := decide_eq_false c3
 clear c3
 obtain ⟨⟨t103, t104, t105⟩, A4, H⟩ := be_ H
 (try dsimp only at H)
 rcases (Decidable.em (a1 > 200)).symm with c5 | c5
 ·
  rw [if_neg c5] at H
  have c5b0 : decide (200 < a1) = false := decide_eq_false c5
  clear c5
  by_cases c10 : a1 = 0
  ·
   rw [if_pos c10] at H
   exact absurd H (by simp)
  rw [if_neg c10] at H
  have c10b0 : (a1 == 0) = false := beq_eq_false_iff_ne.mpr c10
  have c10b1 : (a1 != 0) = true := bne_iff_ne.mpr c10
  simp only [Option.some.injEq, Prod.mk.injEq] at H
  obtain ⟨rfl, rfl, rfl⟩ := H
  go_enter Tryz.func27, Tryz.ntmps27
  go_wp2_with (first | ((with_reducible refine gate_callee (f := 60) rfl ?_); refine goM_ (some 9) Tryz.func60 #[.pointer (some ⟨g, 0, none⟩)] ?_; (with_reducible refine (spec_l00Src_next.calls g s0_0 s0_1 s0_2 t103 t104 t105 w0 _ ?side1 ?side2 A4.out).mono ?_); (case side1 => repeat (first | (with_reducible first | exact HI0.out | apply IsS80.alloc | apply IsS80.drewN | apply IsS80.drew | apply IsS80.set_1 | apply IsS80.set_2) | exact HI0.out)); (case side2 => repeat (first | (with_reducible first | exact HB.out | apply below_alloc | apply pw_below_drewN | apply below_drew1 | refine below_set ?_ (IsS80.ge HI0.out)) | exact HB.out)); rintro e w11 ⟨rfl, hi, hb, hk⟩; refine ⟨_, rfl, ?_⟩; replace HK := Aside0.mk (KeepBut.trans (kk_ HK) hk (.inl rfl)); replace HB := Aside0.mk (hb); replace HI0 := Aside0.mk (hi); clear hb; clear hk; clear hi))
  go_ret
  exact ⟨rt_, by repeat (first | (with_reducible first | exact HI0.out | apply IsS80.alloc | apply IsS80.drewN | apply IsS80.drew | apply IsS80.set_1 | apply IsS80.set_2) | exact HI0.out), by repeat (first | (with_reducible first | exact HB.out | apply below_alloc | apply pw_below_drewN | apply below_drew1 | refine below_set ?_ (IsS80.ge HI0.out)) | exact HB.out), kk_ HK⟩

 rw [if_pos c5] at H
 have c5b0 : decide (200 < a1) = true := decide_eq_true c5
 clear c5
 obtain ⟨⟨t106, t107, t108⟩, A6, H⟩ := be_ H
 (try dsimp only at H)
 by_cases c7 : a1 = 0
 ·
  rw [if_pos c7] at H
  exact absurd H (by simp)
 rw [if_neg c7] at H
 have c7b0 : (a1 == 0) = false := beq_eq_false_iff_ne.mpr c7
 have c7b1 : (a1 != 0) = true := bne_iff_ne.mpr c7
 simp only [Option.some.injEq, Prod.mk.injEq] at H
 obtain ⟨rfl, rfl, rfl⟩ := H
 go_enter Tryz.func27, Tryz.ntmps27
 go_wp2_with (first | ((with_reducible refine gate_callee (f := 60) rfl ?_); refine goM_ (some 9) Tryz.func60 #[.pointer (some ⟨g, 0, none⟩)] ?_; (with_reducible refine (spec_l00Src_next.calls g s0_0 s0_1 s0_2 t103 t104 t105 w0 _ ?side1 ?side2 A4.out).mono ?_); (case side1 => repeat (first | (with_reducible first | exact HI0.out | apply IsS80.alloc | apply IsS80.drewN | apply IsS80.drew | apply IsS80.set_1 | apply IsS80.set_2) | exact HI0.out)); (case side2 => repeat (first | (with_reducible first | exact HB.out | apply below_alloc | apply pw_below_drewN | apply below_drew1 | refine below_set ?_ (IsS80.ge HI0.out)) | exact HB.out)); rintro e w8 ⟨rfl, hi, hb, hk⟩; refine ⟨_, rfl, ?_⟩; replace HK := Aside0.mk (KeepBut.trans (kk_ HK) hk (.inl rfl)); replace HB := Aside0.mk (hb); replace HI0 := Aside0.mk (hi); clear hb; clear hk; clear hi) | ((with_reducible refine gate_callee (f := 60) rfl ?_); refine goM_ (some 15) Tryz.func60 #[.pointer (some ⟨g, 0, none⟩)] ?_; (with_reducible refine (spec_l00Src_next.calls g s0_0 t104 t105 t106 t107 t108 w0 _ ?side1 ?side2 A6.out).mono ?_); (case side1 => repeat (first | (with_reducible first | exact HI0.out | apply IsS80.alloc | apply IsS80.drewN | apply IsS80.drew | apply IsS80.set_1 | apply IsS80.set_2) | exact HI0.out)); (case side2 => repeat (first | (with_reducible first | exact HB.out | apply below_alloc | apply pw_below_drewN | apply below_drew1 | refine below_set ?_ (IsS80.ge HI0.out)) | exact HB.out)); rintro e w9 ⟨rfl, hi, hb, hk⟩; refine ⟨_, rfl, ?_⟩; replace HK := Aside0.mk (KeepBut.trans (kk_ HK) hk (.inl rfl)); replace HB := Aside0.mk (hb); replace HI0 := Aside0.mk (hi); clear hb; clear hk; clear hi))
 go_ret
 exact ⟨rt_, by repeat (first | (with_reducible first | exact HI0.out | apply IsS80.alloc | apply IsS80.drewN | apply IsS80.drew | apply IsS80.set_1 | apply IsS80.set_2) | exact HI0.out), by repeat (first | (with_reducible first | exact HB.out | apply below_alloc | apply pw_below_drewN | apply below_drew1 | refine below_set ?_ (IsS80.ge HI0.out)) | exact HB.out), kk_ HK⟩

/-! ### spec_P6Pick: function 17 -/
def spec_P6Pick.f (l0 : List Int) (a1 : Int) : Option (Int) := (spec_l00From.f l0).bind fun bt383 => ((spec_l00Src_pick.f bt383.1 bt383.2.1 bt383.2.2 a1).bind fun bt387 => (some bt387.1))
set_option maxHeartbeats 8000000 in
set_option maxRecDepth 100000 in
theorem spec_P6Pick.calls (A0 : Option Addr) (c0 : Nat) (l0 : List Int) (a1 : Int) (r : Int) (w : World) (hr0 : Kd.C (Kd.int .u8) w A0 l0.length l0) (hc0 : l0.length ≤ c0) (h : spec_P6Pick.f l0 a1 = some r) :
  Calls Tryz.prog 17 #[.slice A0 l0.length c0, .int .i64 a1] w fun e w' => e = .returned (.int .i64 r) ∧ Below w.heap.size w w' := by
 have HR0 := Aside0.mk hr0
 have HC0 := Aside0.mk hc0
 clear hr0 hc0
 have HB := Aside0.mk (Below.refl w.heap.size w)
 have H : ((spec_l00From.f l0).bind fun bt383 => ((spec_l00Src_pick.f bt383.1 bt383.2.1 bt383.2.2 a1).bind fun bt387 => (some bt387.1))) = some r := h
 clear h
 obtain ⟨⟨t383, t384, t385⟩, A3, H⟩ := be_ H
 (try dsimp only at H)
 obtain ⟨⟨t387, t388, t389⟩, A4, H⟩ := be_ H
 (try dsimp only at H)
 obtain rfl := Option.some.inj H
 go_enter Tryz.func17, Tryz.ntmps17
 go_wp2_with (first | ((with_reducible refine gate_callee (f := 26) rfl ?_); refine goM_ (some 6) Tryz.func26 #[.slice A0 l0.length c0] ?_; (with_reducible refine (spec_l00From.calls _ _ l0 t383 t384 t385 w _ ?side1 ?side2 ?side3 A3.out).mono ?_); (case side1 => repeat (first | (with_reducible first | exact HB.out | apply below_alloc | apply pw_below_drewN | apply below_drew1) | exact HB.out)); (case side2 => exact HR0.out); (case side3 => exact HC0.out); rintro e w5 ⟨g386, rfl, hi, hb, hb2⟩; refine ⟨_, rfl, ?_⟩; replace HB := Aside0.mk (hb); have HI386 := Aside0.mk (hi); clear hb; clear hb2; clear hi) | ((with_reducible refine gate_callee (f := 27) rfl ?_); refine goM_ (some 8) Tryz.func27 #[.pointer (some ⟨g386, 0, none⟩), .int .i64 a1] ?_; (with_reducible refine (spec_l00Src_pick.calls g386 t383 t384 t385 a1 t387 t388 t389 w _ ?side1 ?side2 A4.out).mono ?_); (case side1 => repeat (first | (with_reducible first | exact HI386.out | apply IsS80.alloc | apply IsS80.drewN | apply IsS80.drew | apply IsS80.set_1 | apply IsS80.set_2) | exact HI386.out)); (case side2 => repeat (first | (with_reducible first | exact HB.out | apply below_alloc | apply pw_below_drewN | apply below_drew1 | refine below_set ?_ (IsS80.ge HI386.out)) | exact HB.out)); rintro e w6 ⟨rfl, hi, hb, hk⟩; refine ⟨_, rfl, ?_⟩; replace HB := Aside0.mk (hb); replace HI386 := Aside0.mk (hi); clear hb; clear hk; clear hi))
 go_ret
 exact ⟨rt_, by repeat (first | (with_reducible first | exact HB.out | apply below_alloc | apply pw_below_drewN | apply below_drew1 | refine below_set ?_ (IsS80.ge HI386.out)) | exact HB.out)⟩


/-! ### spec_AreaTwice: function 9 -/
def spec_AreaTwice.f (k : Nat) (l0 : List (S43)) : Option (Int × Int) := (spec_l03Ok.f k l0).bind fun t333 => (if t333 = true then ((spec_l03Area.f k l0).bind fun t334 => (some (t334, 0))) else (some (0, 1)))
theorem spec_AreaTwice.mono : ∀ a0 k, LeO (spec_AreaTwice.f k a0) (spec_AreaTwice.f (k + 1) a0) := by
 intro a0 k
 unfold spec_AreaTwice.f
 repeat' first | (with_reducible first | exact spec_l03Area.mono _ _ | exact spec_l03Ok.mono _ _ | exact LeO.refl _ | exact LeO.none _ | refine LeO.ite ?_ ?_ | refine LeO.bind ?_ (fun _ => ?_))
set_option maxHeartbeats 8000000 in
set_option maxRecDepth 100000 in
theorem spec_AreaTwice.calls (k : Nat) (A0 : Option Addr) (c0 : Nat) (l0 : List (S43)) (r1 : Int) (r2 : Int) (w : World) (hr0 : Kd.C k43 w A0 l0.length l0) (hc0 : l0.length ≤ c0) (h : spec_AreaTwice.f k l0 = some (r1, r2)) :
  Calls Tryz.prog 9 #[.slice A0 l0.length c0] w fun e w' => e = .returned (.tuple #[.int .i64 r1, .int .i64 r2]) ∧ Below w.heap.size w w' := by
 have HR0 := Aside0.mk hr0
 have HC0 := Aside0.mk hc0
 clear hr0 hc0
 have HB := Aside0.mk (Below.refl w.heap.size w)
 have H : ((spec_l03Ok.f k l0).bind fun t333 => (if t333 = true then ((spec_l03Area.f k l0).bind fun t334 => (some (t334, 0))) else (some (0, 1)))) = some (r1, r2) := h
 clear h
 obtain ⟨t333, A2, H⟩ := be_ H
 (try dsimp only at H)
 rcases (Decidable.em (t333 = true)).symm with c3 | c3
 ·
  replace c3 := Bool.eq_false_iff.mpr c3
  subst c3
  replace H := gf_ H
  simp only [Option.some.injEq, Prod.mk.injEq] at H
  obtain ⟨rfl, rfl⟩ := H
  go_enter Tryz.func9, Tryz.ntmps9
  go_wp2_with (first | ((with_reducible refine gate_callee (f := 35) rfl ?_); refine goM_ (some 5) Tryz.func35 #[.slice A0 l0.length c0] ?_; (with_reducible refine (spec_l03Ok.calls k _ _ l0 false _ ?side1 ?side2 A2.out).mono ?_); (case side1 => exact kc_ HR0.out); (case side2 => exact HC0.out); rintro e w7 ⟨rfl, hb⟩; refine ⟨_, rfl, ?_⟩; replace HB := bs_ HB hb; clear hb))
  go_ret2
  exact ⟨rt_, bl_ HB⟩

 subst c3
 replace H := gt_ H
 obtain ⟨t334, A4, H⟩ := be_ H
 (try dsimp only at H)
 simp only [Option.some.injEq, Prod.mk.injEq] at H
 obtain ⟨rfl, rfl⟩ := H
 go_enter Tryz.func9, Tryz.ntmps9
 go_wp2_with (first | ((with_reducible refine gate_callee (f := 35) rfl ?_); refine goM_ (some 5) Tryz.func35 #[.slice A0 l0.length c0] ?_; (with_reducible refine (spec_l03Ok.calls k _ _ l0 true _ ?side1 ?side2 A2.out).mono ?_); (case side1 => exact kc_ HR0.out); (case side2 => exact HC0.out); rintro e w5 ⟨rfl, hb⟩; refine ⟨_, rfl, ?_⟩; replace HB := bs_ HB hb; clear hb) | ((with_reducible refine gate_callee (f := 36) rfl ?_); refine goM_ (some 8) Tryz.func36 #[.slice A0 l0.length c0] ?_; (with_reducible refine (spec_l03Area.calls k _ _ l0 t334 _ ?side1 ?side2 A4.out).mono ?_); (case side1 => exact kc_ (Kd.C_below HR0.out HB.out)); (case side2 => exact HC0.out); rintro e w6 ⟨rfl, hb⟩; refine ⟨_, rfl, ?_⟩; replace HB := bs_ HB hb; clear hb))
 go_ret2
 exact ⟨rt_, bl_ HB⟩

attribute [local go_sem high] eqA43
/-! ### spec_l03Same: function 37 -/
def spec_l03Same.l0 : Nat → List (S43) → List (S43) → Int → Option (Bool)
 | 0, _, _, _ => none
 | k + 1, x0, x1, x5 => if x5 < (x0.length : Int) then (if 0 ≤ x5 then (if x5 < (x1.length : Int) then (if (!(((rd_T43 x0 x5).f0) == ((rd_T43 x1 x5).f0)) || (!(((rd_T43 x0 x5).f1) == ((rd_T43 x1 x5).f1)))) = true then (some false) else (spec_l03Same.l0 k x0 x1 (wrap64 (x5 + 1)))) else (none)) else (none)) else (some true)
def spec_l03Same.f (k : Nat) (l0 : List (S43)) (l1 : List (S43)) : Option (Bool) := if (l0.length : Int) = (l1.length : Int) then (spec_l03Same.l0 k l0 l1 0) else (some false)
theorem spec_l03Same.mono_l : ∀ k, (∀ y0 y1 y2, LeO (spec_l03Same.l0 k y0 y1 y2) (spec_l03Same.l0 (k + 1) y0 y1 y2))
 | 0 => fun _ _ _ r h => by simp [spec_l03Same.l0] at h
 | k + 1 => by
  have ih0 := spec_l03Same.mono_l k
  ·
   intro y0 y1 y2
   unfold spec_l03Same.l0
   repeat' first | (with_reducible first | exact ih0 _ _ _ | exact LeO.refl _ | exact LeO.none _ | refine LeO.ite ?_ ?_ | refine LeO.bind ?_ (fun _ => ?_))
theorem spec_l03Same.mono : ∀ a0 a1 k, LeO (spec_l03Same.f k a0 a1) (spec_l03Same.f (k + 1) a0 a1) := by
 intro a0 a1 k
 have ih0 := spec_l03Same.mono_l k
 unfold spec_l03Same.f
 repeat' first | (with_reducible first | exact ih0 _ _ _ | exact LeO.refl _ | exact LeO.none _ | refine LeO.ite ?_ ?_ | refine LeO.bind ?_ (fun _ => ?_))
set_option maxHeartbeats 8000000 in
set_option maxRecDepth 100000 in
theorem spec_l03Same.calls (k : Nat) (A0 : Option Addr) (c0 : Nat) (l0 : List (S43)) (A1 : Option Addr) (c1 : Nat) (l1 : List (S43)) (r : Bool) (w : World) (hr0 : Kd.C k43 w A0 l0.length l0) (hc0 : l0.length ≤ c0) (hr1 : Kd.C k43 w A1 l1.length l1) (hc1 : l1.length ≤ c1) (h : spec_l03Same.f k l0 l1 = some r) :
  Calls Tryz.prog 37 #[.slice A0 l0.length c0, .slice A1 l1.length c1] w fun e w' => e = .returned (.bool r) ∧ Drawn0 w w' := by
 have hu43 := Tryz.underlying43
 have HR0 := Aside0.mk hr0
 have HC0 := Aside0.mk hc0
 clear hr0 hc0
 have HR1 := Aside0.mk hr1
 have HC1 := Aside0.mk hc1
 clear hr1 hc1
 have H : (if (l0.length : Int) = (l1.length : Int) then (spec_l03Same.l0 k l0 l1 0) else (some false)) = some r := h
 clear h
 rcases (Decidable.em ((l0.length : Int) = (l1.length : Int))).symm with c3 | c3
 ·
  rw [if_neg c3] at H
  have c3b0 : ((l0.length : Int) == (l1.length : Int)) = false := beq_eq_false_iff_ne.mpr c3
  have c3b1 : ((l0.length : Int) != (l1.length : Int)) = true := bne_iff_ne.mpr c3
  have c3b2 : (l0.length == l1.length) = false := by first | simpa using c3 | (simp at c3 ⊢; omega)
  obtain rfl := Option.some.inj H
  go_enter Tryz.func37, Tryz.ntmps37
  go_wp2
  repeat (go_quiet (fail); try go_wp2)
  go_ret
  exact ⟨by first | rfl | (simp; done) | (simp [*]; done), by repeat (first | exact Drawn0.refl _ | apply Drawn0.step)⟩

 rw [if_pos c3] at H
 have c3b0 : ((l0.length : Int) == (l1.length : Int)) = true := beq_iff_eq.mpr c3
 have c3b1 : ((l0.length : Int) != (l1.length : Int)) = false := bne_eq_false_iff_eq.mpr c3
 have c3b2 : (l0.length == l1.length) = true := by first | simpa using c3 | (simp at c3 ⊢; omega)
 clear c3
 have H' := Aside0.mk H
 clear H
 go_enter Tryz.func37, Tryz.ntmps37
 go_wp2
 repeat (go_quiet (fail); try go_wp2)
 go_loopg [5] k (fun kq v5 w' => ∃ (x5_1 : Int), v5 = .int .i64 x5_1 ∧ Aside0 (spec_l03Same.l0 kq l0 l1 x5_1 = some r) ∧ Aside0 (kq ≤ k) ∧ Drawn0 w w')
 case atStart => exact ⟨(0), (by first | rfl | (simp; done) | (simp [*]; done)), H', ⟨Nat.le_refl _⟩, by repeat (first | exact Drawn0.refl _ | apply Drawn0.step)⟩
 case round =>
  clear H'
  obtain ⟨x5_1, rfl, HA, HK1, ⟨m1, rfl⟩⟩ := hrel
  rcases gk with _ | k1
  · exact absurd HA.out (by simp [spec_l03Same.l0])
  have H := HA.out
  clear HA
  simp only [spec_l03Same.l0] at H
  rcases (Decidable.em (x5_1 < (l0.length : Int))).symm with c4 | c4
  ·
   rw [if_neg c4] at H
   have c4b0 : decide (x5_1 < (l0.length : Int)) = false := decide_eq_false c4
   clear c4
   obtain rfl := Option.some.inj H
   go_wp2
   repeat (go_quiet (fail); try go_wp2)
   go_ret
   exact ⟨by first | rfl | (simp; done) | (simp [*]; done), by repeat (first | exact Drawn0.refl _ | apply Drawn0.step)⟩
  rw [if_pos c4] at H
  have c4b0 : decide (x5_1 < (l0.length : Int)) = true := decide_eq_true c4
  clear c4
  obtain ⟨c5b0, H⟩ := gx_ H
  obtain ⟨c6b0, H⟩ := gx_ H
  by_cases c7 : (!(((rd_T43 l0 x5_1).f0) == ((rd_T43 l1 x5_1).f0)) || (!(((rd_T43 l0 x5_1).f1) == ((rd_T43 l1 x5_1).f1)))) = true
  ·
   rw [if_pos c7] at H
   have c7b0 : (!(((rd_T43 l0 x5_1).f0) == ((rd_T43 l1 x5_1).f0)) || (!(((rd_T43 l0 x5_1).f1) == ((rd_T43 l1 x5_1).f1)))) = true := c7
   clear c7
   obtain rfl := Option.some.inj H
   have p356 : 0 ≤ (x5_1 : Int) := od_
   have q356 : x5_1 < (l0.length : Int) := od_
   obtain ⟨ad356, e356, hx356_0, hx356_1⟩ := at_T43 HR0.out x5_1 p356 q356
   cases e356
   replace p356 := eq_true p356
   replace q356 := eq_true q356
   have p357 : 0 ≤ (x5_1 : Int) := od_
   have q357 : x5_1 < (l1.length : Int) := od_
   obtain ⟨ad357, e357, hx357_0, hx357_1⟩ := at_T43 HR1.out x5_1 p357 q357
   cases e357
   replace p357 := eq_true p357
   replace q357 := eq_true q357
   go_wp2
   repeat (go_quiet (fail); try go_wp2)
   go_ret
   exact ⟨by first | rfl | (simp; done) | (simp [*]; done), by repeat (first | exact Drawn0.refl _ | apply Drawn0.step)⟩
  rw [if_neg c7] at H
  have c7b0 : (!(((rd_T43 l0 x5_1).f0) == ((rd_T43 l1 x5_1).f0)) || (!(((rd_T43 l0 x5_1).f1) == ((rd_T43 l1 x5_1).f1)))) = false := by simpa using c7
  clear c7
  have H' := Aside0.mk H
  clear H
  have p356 : 0 ≤ (x5_1 : Int) := od_
  have q356 : x5_1 < (l0.length : Int) := od_
  obtain ⟨ad356, e356, hx356_0, hx356_1⟩ := at_T43 HR0.out x5_1 p356 q356
  cases e356
  replace p356 := eq_true p356
  replace q356 := eq_true q356
  have p357 : 0 ≤ (x5_1 : Int) := od_
  have q357 : x5_1 < (l1.length : Int) := od_
  obtain ⟨ad357, e357, hx357_0, hx357_1⟩ := at_T43 HR1.out x5_1 p357 q357
  cases e357
  replace p357 := eq_true p357
  replace q357 := eq_true q357
  go_wp2
  repeat (go_quiet (fail); try go_wp2)
  go_roundg k1
  case measure => have := HK1.out; omega
  case rel => exact ⟨(wrap64 (x5_1 + 1)), (by first | rfl | (simp; done) | (simp [*]; done)), H', ⟨by have := HK1.out; omega⟩, by repeat (first | exact Drawn0.refl _ | apply Drawn0.step)⟩
end Go.Proofs.YthbogbaaikjhbaaGreatDoor.PA
