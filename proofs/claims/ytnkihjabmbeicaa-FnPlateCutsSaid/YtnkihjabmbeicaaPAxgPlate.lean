/- Pure functions, and that Go's functions come to them. -/
import Derived.Test.YtnkihjabmbeicaaPAx0
import Derived.Test.YtnkihjabmbeicaaPAxm6
namespace Go.Proofs.Ytnkihjabmbeicaa.PA
open Go.RowKit Go.Proofs.YtnkihjabmbeicaaW.PrintWords Go.Proofs.YtnkihjabmbeicaaW.PrintLast Go.Proofs.YtnkihjabmbeicaaW.PrintMore
set_option linter.unusedVariables false
set_option linter.unusedSimpArgs false

/-! ### spec_l04Plate: function 43 -/
def spec_l04Plate.f (a0 : Int) : Option (Bool) := (spec_l00In.f a0 1 24).bind fun t147 => (some t147)
set_option maxHeartbeats 8000000 in
set_option maxRecDepth 100000 in
theorem spec_l04Plate.calls (a0 : Int) (r : Bool) (w : World) (h : spec_l04Plate.f a0 = some r) :
  Calls Try.prog 43 #[.int .i64 a0] w fun e w' => e = .returned (.bool r) ∧ Drawn0 w w' := by
 have H : ((spec_l00In.f a0 1 24).bind fun t147 => (some t147)) = some r := h
 clear h
 obtain ⟨t147, A2, H⟩ := be_ H
 (try dsimp only at H)
 obtain rfl := Option.some.inj H
 go_enter Try.func43, Try.ntmps43
 go_wp2_with (first | ((with_reducible refine gate_callee (f := 46) rfl ?_); refine goM_ (some 4) Try.func46 #[.int .i64 a0, .int .i64 1, .int .i64 24] ?_; (with_reducible refine (spec_l00In.calls a0 1 24 t147 _ A2.out).mono ?_); rintro e w' ⟨rfl, ⟨nd, rfl⟩⟩; refine ⟨_, rfl, ?_⟩))
 go_ret
 exact ⟨by first | rfl | (simp; done) | (simp [*]; done), by repeat (first | exact Drawn0.refl _ | apply Drawn0.step)⟩

/-! ### spec_l04Kinds: function 42 -/
def spec_l04Kinds.l0 : Nat → List (S46) → Int → Option (Bool)
 | 0, _, _ => none
 | k + 1, x0, x3 => if x3 < (x0.length : Int) then (if 0 ≤ x3 then ((spec_l04Plate.f (wrap64 ((rd_T46 x0 x3).f0))).bind fun t149 => (if t149 = true then ((spec_l04Plate.f (wrap64 ((rd_T46 x0 x3).f1))).bind fun t151 => (if t151 = true then ((spec_l00In.f (wrap64 ((rd_T46 x0 x3).f2)) 0 1000).bind fun t153 => (if t153 = true then (spec_l04Kinds.l0 k x0 (wrap64 (x3 + 1))) else (some false))) else (some false))) else (some false))) else (none)) else (some (decide ((x0.length : Int) ≤ 8)))
def spec_l04Kinds.f (k : Nat) (l0 : List (S46)) : Option (Bool) := spec_l04Kinds.l0 k l0 0
theorem spec_l04Kinds.mono_l : ∀ k, (∀ y0 y1, LeO (spec_l04Kinds.l0 k y0 y1) (spec_l04Kinds.l0 (k + 1) y0 y1))
 | 0 => fun _ _ r h => by simp [spec_l04Kinds.l0] at h
 | k + 1 => by
  have ih0 := spec_l04Kinds.mono_l k
  ·
   intro y0 y1
   unfold spec_l04Kinds.l0
   repeat' first | (with_reducible first | exact ih0 _ _ | exact LeO.refl _ | exact LeO.none _ | refine LeO.ite ?_ ?_ | refine LeO.bind ?_ (fun _ => ?_))
theorem spec_l04Kinds.mono : ∀ a0 k, LeO (spec_l04Kinds.f k a0) (spec_l04Kinds.f (k + 1) a0) := by
 intro a0 k
 have ih0 := spec_l04Kinds.mono_l k
 unfold spec_l04Kinds.f
 repeat' first | (with_reducible first | exact ih0 _ _ | exact LeO.refl _ | exact LeO.none _ | refine LeO.ite ?_ ?_ | refine LeO.bind ?_ (fun _ => ?_))
set_option maxHeartbeats 8000000 in
set_option maxRecDepth 100000 in
theorem spec_l04Kinds.calls (k : Nat) (A0 : Option Addr) (c0 : Nat) (l0 : List (S46)) (r : Bool) (w : World) (hr0 : Kd.C k46 w A0 l0.length l0) (hc0 : l0.length ≤ c0) (h : spec_l04Kinds.f k l0 = some r) :
  Calls Try.prog 42 #[.slice A0 l0.length c0] w fun e w' => e = .returned (.bool r) ∧ Drawn0 w w' := by
 have HR0 := Aside0.mk hr0
 have HC0 := Aside0.mk hc0
 clear hr0 hc0
 have H : (spec_l04Kinds.l0 k l0 0) = some r := h
 clear h
 have H' := Aside0.mk H
 clear H
 go_enter Try.func42, Try.ntmps42
 go_wp2
 go_loopg [3] k (fun kq v3 w' => ∃ (x3_1 : Int), v3 = .int .i64 x3_1 ∧ Aside0 (spec_l04Kinds.l0 kq l0 x3_1 = some r) ∧ Aside0 (kq ≤ k) ∧ Drawn0 w w')
 case atStart => exact ⟨(0), (by first | rfl | (simp; done) | (simp [*]; done)), H', ⟨Nat.le_refl _⟩, by repeat (first | exact Drawn0.refl _ | apply Drawn0.step)⟩
 case round =>
  clear H'
  obtain ⟨x3_1, rfl, HA, HK1, ⟨m1, rfl⟩⟩ := hrel
  rcases gk with _ | k1
  · exact absurd HA.out (by simp [spec_l04Kinds.l0])
  have H := HA.out
  clear HA
  simp only [spec_l04Kinds.l0] at H
  rcases (Decidable.em (x3_1 < (l0.length : Int))).symm with c2 | c2
  ·
   rw [if_neg c2] at H
   have c2b0 : decide (x3_1 < (l0.length : Int)) = false := decide_eq_false c2
   clear c2
   obtain rfl := Option.some.inj H
   go_wp2
   go_ret
   exact ⟨by first | rfl | (simp; done) | (simp [*]; done), by repeat (first | exact Drawn0.refl _ | apply Drawn0.step)⟩

  rw [if_pos c2] at H
  have c2b0 : decide (x3_1 < (l0.length : Int)) = true := decide_eq_true c2
  clear c2
  obtain ⟨c3b0, H⟩ := gx_ H
  obtain ⟨t149, A4, H⟩ := be_ H
  (try dsimp only at H)
  rcases (Decidable.em (t149 = true)).symm with c5 | c5
  ·
   replace c5 := Bool.eq_false_iff.mpr c5
   subst c5
   replace H := gf_ H
   obtain rfl := Option.some.inj H
   have p148 : 0 ≤ (x3_1 : Int) := od_
   have q148 : x3_1 < (l0.length : Int) := od_
   obtain ⟨ad148, e148, hx148_0, hx148_1, hx148_2⟩ := at_T46 HR0.out x3_1 p148 q148
   cases e148
   replace p148 := eq_true p148
   replace q148 := eq_true q148
   go_wp2_with (first | ((with_reducible refine gate_callee (f := 43) rfl ?_); refine goM_ (some 16) Try.func43 #[.int .i64 (wrap64 ((rd_T46 l0 x3_1).f0))] ?_; (with_reducible refine (spec_l04Plate.calls (wrap64 ((rd_T46 l0 x3_1).f0)) false _ A4.out).mono ?_); rintro e w' ⟨rfl, ⟨nd, rfl⟩⟩; refine ⟨_, rfl, ?_⟩))
   go_ret
   exact ⟨by first | rfl | (simp; done) | (simp [*]; done), by repeat (first | exact Drawn0.refl _ | apply Drawn0.step)⟩
  subst c5
  replace H := gt_ H
  obtain ⟨t151, A6, H⟩ := be_ H
  (try dsimp only at H)
  rcases (Decidable.em (t151 = true)).symm with c7 | c7
  ·
   replace c7 := Bool.eq_false_iff.mpr c7
   subst c7
   replace H := gf_ H
   obtain rfl := Option.some.inj H
   have p148 : 0 ≤ (x3_1 : Int) := od_
   have q148 : x3_1 < (l0.length : Int) := od_
   obtain ⟨ad148, e148, hx148_0, hx148_1, hx148_2⟩ := at_T46 HR0.out x3_1 p148 q148
   cases e148
   replace p148 := eq_true p148
   replace q148 := eq_true q148
   go_wp2_with (first | ((with_reducible refine gate_callee (f := 43) rfl ?_); refine goM_ (some 16) Try.func43 #[.int .i64 (wrap64 ((rd_T46 l0 x3_1).f0))] ?_; (with_reducible refine (spec_l04Plate.calls (wrap64 ((rd_T46 l0 x3_1).f0)) true _ A4.out).mono ?_); rintro e w' ⟨rfl, ⟨nd, rfl⟩⟩; refine ⟨_, rfl, ?_⟩; have p150 : 0 ≤ (x3_1 : Int) := od_; have q150 : x3_1 < (l0.length : Int) := od_; obtain ⟨ad150, e150, hx150_0, hx150_1, hx150_2⟩ := at_T46 HR0.out x3_1 p150 q150; obtain rfl : ad148 = ad150 := (by injection e150); replace p150 := eq_true p150; replace q150 := eq_true q150) | (go_at_call 43; (with_reducible refine (spec_l04Plate.calls (wrap64 ((rd_T46 l0 x3_1).f1)) false _ A6.out).mono ?_); rintro e w' ⟨rfl, ⟨nd, rfl⟩⟩))
   go_ret
   exact ⟨by first | rfl | (simp; done) | (simp [*]; done), by repeat (first | exact Drawn0.refl _ | apply Drawn0.step)⟩
  subst c7
  replace H := gt_ H
  obtain ⟨t153, A8, H⟩ := be_ H
  (try dsimp only at H)
  rcases (Decidable.em (t153 = true)).symm with c9 | c9
  ·
   replace c9 := Bool.eq_false_iff.mpr c9
   subst c9
   replace H := gf_ H
   obtain rfl := Option.some.inj H
   have p148 : 0 ≤ (x3_1 : Int) := od_
   have q148 : x3_1 < (l0.length : Int) := od_
   obtain ⟨ad148, e148, hx148_0, hx148_1, hx148_2⟩ := at_T46 HR0.out x3_1 p148 q148
   cases e148
   replace p148 := eq_true p148
   replace q148 := eq_true q148
   go_wp2_with (first | ((with_reducible refine gate_callee (f := 43) rfl ?_); refine goM_ (some 16) Try.func43 #[.int .i64 (wrap64 ((rd_T46 l0 x3_1).f0))] ?_; (with_reducible refine (spec_l04Plate.calls (wrap64 ((rd_T46 l0 x3_1).f0)) true _ A4.out).mono ?_); rintro e w' ⟨rfl, ⟨nd, rfl⟩⟩; refine ⟨_, rfl, ?_⟩; have p150 : 0 ≤ (x3_1 : Int) := od_; have q150 : x3_1 < (l0.length : Int) := od_; obtain ⟨ad150, e150, hx150_0, hx150_1, hx150_2⟩ := at_T46 HR0.out x3_1 p150 q150; obtain rfl : ad148 = ad150 := (by injection e150); replace p150 := eq_true p150; replace q150 := eq_true q150) | (go_at_call 43; (with_reducible refine (spec_l04Plate.calls (wrap64 ((rd_T46 l0 x3_1).f1)) true _ A6.out).mono ?_); rintro e w' ⟨rfl, ⟨nd, rfl⟩⟩; have p152 : 0 ≤ (x3_1 : Int) := od_; have q152 : x3_1 < (l0.length : Int) := od_; obtain ⟨ad152, e152, hx152_0, hx152_1, hx152_2⟩ := at_T46 HR0.out x3_1 p152 q152; obtain rfl : ad148 = ad152 := (by injection e152); replace p152 := eq_true p152; replace q152 := eq_true q152) | (go_at_call 46; (with_reducible refine (spec_l00In.calls (wrap64 ((rd_T46 l0 x3_1).f2)) 0 1000 false _ A8.out).mono ?_); rintro e w' ⟨rfl, ⟨nd, rfl⟩⟩))
   go_ret
   exact ⟨by first | rfl | (simp; done) | (simp [*]; done), by repeat (first | exact Drawn0.refl _ | apply Drawn0.step)⟩
  subst c9
  replace H := gt_ H
  have H' := Aside0.mk H
  clear H
  have p148 : 0 ≤ (x3_1 : Int) := od_
  have q148 : x3_1 < (l0.length : Int) := od_
  obtain ⟨ad148, e148, hx148_0, hx148_1, hx148_2⟩ := at_T46 HR0.out x3_1 p148 q148
  cases e148
  replace p148 := eq_true p148
  replace q148 := eq_true q148
  go_wp2_with (first | ((with_reducible refine gate_callee (f := 43) rfl ?_); refine goM_ (some 16) Try.func43 #[.int .i64 (wrap64 ((rd_T46 l0 x3_1).f0))] ?_; (with_reducible refine (spec_l04Plate.calls (wrap64 ((rd_T46 l0 x3_1).f0)) true _ A4.out).mono ?_); rintro e w' ⟨rfl, ⟨nd, rfl⟩⟩; refine ⟨_, rfl, ?_⟩; have p150 : 0 ≤ (x3_1 : Int) := od_; have q150 : x3_1 < (l0.length : Int) := od_; obtain ⟨ad150, e150, hx150_0, hx150_1, hx150_2⟩ := at_T46 HR0.out x3_1 p150 q150; obtain rfl : ad148 = ad150 := (by injection e150); replace p150 := eq_true p150; replace q150 := eq_true q150) | (go_at_call 43; (with_reducible refine (spec_l04Plate.calls (wrap64 ((rd_T46 l0 x3_1).f1)) true _ A6.out).mono ?_); rintro e w' ⟨rfl, ⟨nd, rfl⟩⟩; have p152 : 0 ≤ (x3_1 : Int) := od_; have q152 : x3_1 < (l0.length : Int) := od_; obtain ⟨ad152, e152, hx152_0, hx152_1, hx152_2⟩ := at_T46 HR0.out x3_1 p152 q152; obtain rfl : ad148 = ad152 := (by injection e152); replace p152 := eq_true p152; replace q152 := eq_true q152) | (go_at_call 46; (with_reducible refine (spec_l00In.calls (wrap64 ((rd_T46 l0 x3_1).f2)) 0 1000 true _ A8.out).mono ?_); rintro e w' ⟨rfl, ⟨nd, rfl⟩⟩))
  go_roundg k1
  case measure => have := HK1.out; omega
  case rel => exact ⟨(wrap64 (x3_1 + 1)), (by first | rfl | (simp; done) | (simp [*]; done)), H', ⟨by have := HK1.out; omega⟩, by repeat (first | exact Drawn0.refl _ | apply Drawn0.step)⟩
/-! ### spec_l04Given: function 47 -/
def spec_l04Given.f (l0 : List (S49)) (a1 : Int) (a2_0 : Int) (a2_1 : Int) (a2_2 : Int) (a2_3 : Int) : Option (Bool) := (spec_l00In.f (wrap64 (a2_2)) (wrap64 (a1 + 1)) (wrap64 ((l0.length : Int) - 1))).bind fun t217 => (if t217 = true then ((spec_l00In.f (wrap64 (a2_3)) (wrap64 (a1 + 1)) (wrap64 ((l0.length : Int) - 1))).bind fun t218 => (if t218 = true then (if a2_2 = a2_3 then (some false) else (if 0 ≤ a2_2 then (if a2_2 < (l0.length : Int) then (if ((rd_T49 l0 a2_2).f0) = 0 then (if 0 ≤ a2_3 then (if a2_3 < (l0.length : Int) then (some (((rd_T49 l0 a2_3).f0) == 0)) else (none)) else (none)) else (some false)) else (none)) else (none))) else (some false))) else (some false))
set_option maxHeartbeats 8000000 in
set_option maxRecDepth 100000 in
theorem spec_l04Given.calls (A0 : Option Addr) (c0 : Nat) (l0 : List (S49)) (a1 : Int) (a2_0 : Int) (a2_1 : Int) (a2_2 : Int) (a2_3 : Int) (r : Bool) (w : World) (hr0 : Kd.C k49 w A0 l0.length l0) (hc0 : l0.length ≤ c0) (h : spec_l04Given.f l0 a1 a2_0 a2_1 a2_2 a2_3 = some r) :
  Calls Try.prog 47 #[.slice A0 l0.length c0, .int .i64 a1, .agg #[.int .i8 a2_0, .int .i8 a2_1, .int .i8 a2_2, .int .i8 a2_3]] w fun e w' => e = .returned (.bool r) ∧ Below w.heap.size w w' := by
 have hu48 := Try.underlying48
 have HR0 := Aside0.mk hr0
 have HC0 := Aside0.mk hc0
 clear hr0 hc0
 have HB := Aside0.mk (Below.refl w.heap.size w)
 have H : ((spec_l00In.f (wrap64 (a2_2)) (wrap64 (a1 + 1)) (wrap64 ((l0.length : Int) - 1))).bind fun t217 => (if t217 = true then ((spec_l00In.f (wrap64 (a2_3)) (wrap64 (a1 + 1)) (wrap64 ((l0.length : Int) - 1))).bind fun t218 => (if t218 = true then (if a2_2 = a2_3 then (some false) else (if 0 ≤ a2_2 then (if a2_2 < (l0.length : Int) then (if ((rd_T49 l0 a2_2).f0) = 0 then (if 0 ≤ a2_3 then (if a2_3 < (l0.length : Int) then (some (((rd_T49 l0 a2_3).f0) == 0)) else (none)) else (none)) else (some false)) else (none)) else (none))) else (some false))) else (some false))) = some r := h
 clear h
 obtain ⟨t217, A4, H⟩ := be_ H
 (try dsimp only at H)
 rcases (Decidable.em (t217 = true)).symm with c5 | c5
 ·
  replace c5 := Bool.eq_false_iff.mpr c5
  subst c5
  replace H := gf_ H
  obtain rfl := Option.some.inj H
  go_enter Try.func47, Try.ntmps47
  go_wp2_with (first | ((with_reducible refine gate_dst (N := 5) rfl ?_); refine boxM_ 5 #[.int .i8 a2_0, .int .i8 a2_1, .int .i8 a2_2, .int .i8 a2_3] 48 ?_; intro gb216 hg w22 hbox hb; have BK216 := Aside0.mk (hbox); have GW216 := ge_ HB hg; have GE216 := ge_ HB hg; replace HB := bs_ HB hb; clear hb hbox hg; have hcz23_0 : w22.cell? ⟨gb216, 0, none⟩ = some (.int .i8 a2_0) := (blk_cell BK216.out 0).trans rfl; have hcz23_1 : w22.cell? ⟨gb216, 1, none⟩ = some (.int .i8 a2_1) := (blk_cell BK216.out 1).trans rfl; have hcz23_2 : w22.cell? ⟨gb216, 2, none⟩ = some (.int .i8 a2_2) := (blk_cell BK216.out 2).trans rfl; have hcz23_3 : w22.cell? ⟨gb216, 3, none⟩ = some (.int .i8 a2_3) := (blk_cell BK216.out 3).trans rfl; have hfz23_0 := blk_frozen BK216.out 0; have hfz23_1 := blk_frozen BK216.out 1; have hfz23_2 := blk_frozen BK216.out 2; have hfz23_3 := blk_frozen BK216.out 3) | ((with_reducible refine gate_callee (f := 46) rfl ?_); refine goM_ (some 17) Try.func46 #[.int .i64 (wrap64 (a2_2)), .int .i64 (wrap64 (a1 + 1)), .int .i64 (wrap64 ((l0.length : Int) - 1))] ?_; (with_reducible refine (spec_l00In.calls (wrap64 (a2_2)) (wrap64 (a1 + 1)) (wrap64 ((l0.length : Int) - 1)) false _ A4.out).mono ?_); rintro e w' ⟨rfl, ⟨nd, rfl⟩⟩; refine ⟨_, rfl, ?_⟩))
  go_ret
  exact ⟨rt_, k1_ HB GE216⟩

 subst c5
 replace H := gt_ H
 obtain ⟨t218, A6, H⟩ := be_ H
 (try dsimp only at H)
 rcases (Decidable.em (t218 = true)).symm with c7 | c7
 ·
  replace c7 := Bool.eq_false_iff.mpr c7
  subst c7
  replace H := gf_ H
  obtain rfl := Option.some.inj H
  go_enter Try.func47, Try.ntmps47
  go_wp2_with (first | ((with_reducible refine gate_dst (N := 5) rfl ?_); refine boxM_ 5 #[.int .i8 a2_0, .int .i8 a2_1, .int .i8 a2_2, .int .i8 a2_3] 48 ?_; intro gb216 hg w20 hbox hb; have BK216 := Aside0.mk (hbox); have GW216 := ge_ HB hg; have GE216 := ge_ HB hg; replace HB := bs_ HB hb; clear hb hbox hg; have hcz21_0 : w20.cell? ⟨gb216, 0, none⟩ = some (.int .i8 a2_0) := (blk_cell BK216.out 0).trans rfl; have hcz21_1 : w20.cell? ⟨gb216, 1, none⟩ = some (.int .i8 a2_1) := (blk_cell BK216.out 1).trans rfl; have hcz21_2 : w20.cell? ⟨gb216, 2, none⟩ = some (.int .i8 a2_2) := (blk_cell BK216.out 2).trans rfl; have hcz21_3 : w20.cell? ⟨gb216, 3, none⟩ = some (.int .i8 a2_3) := (blk_cell BK216.out 3).trans rfl; have hfz21_0 := blk_frozen BK216.out 0; have hfz21_1 := blk_frozen BK216.out 1; have hfz21_2 := blk_frozen BK216.out 2; have hfz21_3 := blk_frozen BK216.out 3) | ((with_reducible refine gate_callee (f := 46) rfl ?_); refine goM_ (some 17) Try.func46 #[.int .i64 (wrap64 (a2_2)), .int .i64 (wrap64 (a1 + 1)), .int .i64 (wrap64 ((l0.length : Int) - 1))] ?_; (with_reducible refine (spec_l00In.calls (wrap64 (a2_2)) (wrap64 (a1 + 1)) (wrap64 ((l0.length : Int) - 1)) true _ A4.out).mono ?_); rintro e w' ⟨rfl, ⟨nd, rfl⟩⟩; refine ⟨_, rfl, ?_⟩) | (go_at_call 46; (with_reducible refine (spec_l00In.calls (wrap64 (a2_3)) (wrap64 (a1 + 1)) (wrap64 ((l0.length : Int) - 1)) false _ A6.out).mono ?_); rintro e w' ⟨rfl, ⟨nd, rfl⟩⟩))
  go_ret
  exact ⟨rt_, k1_ HB GE216⟩
 subst c7
 replace H := gt_ H
 by_cases c8 : a2_2 = a2_3
 ·
  rw [if_pos c8] at H
  have c8b0 : (a2_2 == a2_3) = true := beq_iff_eq.mpr c8
  have c8b1 : (a2_2 != a2_3) = false := bne_eq_false_iff_eq.mpr c8
  clear c8
  obtain rfl := Option.some.inj H
  go_enter Try.func47, Try.ntmps47
  go_wp2_with (first | ((with_reducible refine gate_dst (N := 5) rfl ?_); refine boxM_ 5 #[.int .i8 a2_0, .int .i8 a2_1, .int .i8 a2_2, .int .i8 a2_3] 48 ?_; intro gb216 hg w9 hbox hb; have BK216 := Aside0.mk (hbox); have GW216 := ge_ HB hg; have GE216 := ge_ HB hg; replace HB := bs_ HB hb; clear hb hbox hg; have hcz10_0 : w9.cell? ⟨gb216, 0, none⟩ = some (.int .i8 a2_0) := (blk_cell BK216.out 0).trans rfl; have hcz10_1 : w9.cell? ⟨gb216, 1, none⟩ = some (.int .i8 a2_1) := (blk_cell BK216.out 1).trans rfl; have hcz10_2 : w9.cell? ⟨gb216, 2, none⟩ = some (.int .i8 a2_2) := (blk_cell BK216.out 2).trans rfl; have hcz10_3 : w9.cell? ⟨gb216, 3, none⟩ = some (.int .i8 a2_3) := (blk_cell BK216.out 3).trans rfl; have hfz10_0 := blk_frozen BK216.out 0; have hfz10_1 := blk_frozen BK216.out 1; have hfz10_2 := blk_frozen BK216.out 2; have hfz10_3 := blk_frozen BK216.out 3) | ((with_reducible refine gate_callee (f := 46) rfl ?_); refine goM_ (some 17) Try.func46 #[.int .i64 (wrap64 (a2_2)), .int .i64 (wrap64 (a1 + 1)), .int .i64 (wrap64 ((l0.length : Int) - 1))] ?_; (with_reducible refine (spec_l00In.calls (wrap64 (a2_2)) (wrap64 (a1 + 1)) (wrap64 ((l0.length : Int) - 1)) true _ A4.out).mono ?_); rintro e w' ⟨rfl, ⟨nd, rfl⟩⟩; refine ⟨_, rfl, ?_⟩) | (go_at_call 46; (with_reducible refine (spec_l00In.calls (wrap64 (a2_3)) (wrap64 (a1 + 1)) (wrap64 ((l0.length : Int) - 1)) true _ A6.out).mono ?_); rintro e w' ⟨rfl, ⟨nd, rfl⟩⟩))
  go_ret
  exact ⟨rt_, k1_ HB GE216⟩
 rw [if_neg c8] at H
 have c8b0 : (a2_2 == a2_3) = false := beq_eq_false_iff_ne.mpr c8
 have c8b1 : (a2_2 != a2_3) = true := bne_iff_ne.mpr c8
 obtain ⟨c11b0, H⟩ := gx_ H
 obtain ⟨c12b0, H⟩ := gx_ H
 rcases (Decidable.em (((rd_T49 l0 a2_2).f0) = 0)).symm with c13 | c13
 ·
  rw [if_neg c13] at H
  have c13b0 : (((rd_T49 l0 a2_2).f0) == 0) = false := beq_eq_false_iff_ne.mpr c13
  have c13b1 : (((rd_T49 l0 a2_2).f0) != 0) = true := bne_iff_ne.mpr c13
  obtain rfl := Option.some.inj H
  go_enter Try.func47, Try.ntmps47
  go_wp2_with (first | ((with_reducible refine gate_dst (N := 5) rfl ?_); refine boxM_ 5 #[.int .i8 a2_0, .int .i8 a2_1, .int .i8 a2_2, .int .i8 a2_3] 48 ?_; intro gb216 hg w18 hbox hb; have BK216 := Aside0.mk (hbox); have GW216 := ge_ HB hg; have GE216 := ge_ HB hg; replace HB := bs_ HB hb; clear hb hbox hg; have hcz19_0 : w18.cell? ⟨gb216, 0, none⟩ = some (.int .i8 a2_0) := (blk_cell BK216.out 0).trans rfl; have hcz19_1 : w18.cell? ⟨gb216, 1, none⟩ = some (.int .i8 a2_1) := (blk_cell BK216.out 1).trans rfl; have hcz19_2 : w18.cell? ⟨gb216, 2, none⟩ = some (.int .i8 a2_2) := (blk_cell BK216.out 2).trans rfl; have hcz19_3 : w18.cell? ⟨gb216, 3, none⟩ = some (.int .i8 a2_3) := (blk_cell BK216.out 3).trans rfl; have hfz19_0 := blk_frozen BK216.out 0; have hfz19_1 := blk_frozen BK216.out 1; have hfz19_2 := blk_frozen BK216.out 2; have hfz19_3 := blk_frozen BK216.out 3) | ((with_reducible refine gate_callee (f := 46) rfl ?_); refine goM_ (some 17) Try.func46 #[.int .i64 (wrap64 (a2_2)), .int .i64 (wrap64 (a1 + 1)), .int .i64 (wrap64 ((l0.length : Int) - 1))] ?_; (with_reducible refine (spec_l00In.calls (wrap64 (a2_2)) (wrap64 (a1 + 1)) (wrap64 ((l0.length : Int) - 1)) true _ A4.out).mono ?_); rintro e w' ⟨rfl, ⟨nd, rfl⟩⟩; refine ⟨_, rfl, ?_⟩) | (go_at_call 46; (with_reducible refine (spec_l00In.calls (wrap64 (a2_3)) (wrap64 (a1 + 1)) (wrap64 ((l0.length : Int) - 1)) true _ A6.out).mono ?_); rintro e w' ⟨rfl, ⟨nd, rfl⟩⟩; have p219 : 0 ≤ (a2_2 : Int) := od_; have q219 : a2_2 < (l0.length : Int) := od_; obtain ⟨ad219, e219, hx219_0, hx219_1⟩ := af_ HB (at_T49 HR0.out a2_2 p219 q219); cases e219; replace p219 := eq_true p219; replace q219 := eq_true q219))
  go_ret
  exact ⟨rt_, k1_ HB GE216⟩
 rw [if_pos c13] at H
 have c13b0 : (((rd_T49 l0 a2_2).f0) == 0) = true := beq_iff_eq.mpr c13
 have c13b1 : (((rd_T49 l0 a2_2).f0) != 0) = false := bne_eq_false_iff_eq.mpr c13
 clear c13
 obtain ⟨c14b0, H⟩ := gx_ H
 obtain ⟨c15b0, H⟩ := gx_ H
 obtain rfl := Option.some.inj H
 go_enter Try.func47, Try.ntmps47
 go_wp2_with (first | ((with_reducible refine gate_dst (N := 5) rfl ?_); refine boxM_ 5 #[.int .i8 a2_0, .int .i8 a2_1, .int .i8 a2_2, .int .i8 a2_3] 48 ?_; intro gb216 hg w16 hbox hb; have BK216 := Aside0.mk (hbox); have GW216 := ge_ HB hg; have GE216 := ge_ HB hg; replace HB := bs_ HB hb; clear hb hbox hg; have hcz17_0 : w16.cell? ⟨gb216, 0, none⟩ = some (.int .i8 a2_0) := (blk_cell BK216.out 0).trans rfl; have hcz17_1 : w16.cell? ⟨gb216, 1, none⟩ = some (.int .i8 a2_1) := (blk_cell BK216.out 1).trans rfl; have hcz17_2 : w16.cell? ⟨gb216, 2, none⟩ = some (.int .i8 a2_2) := (blk_cell BK216.out 2).trans rfl; have hcz17_3 : w16.cell? ⟨gb216, 3, none⟩ = some (.int .i8 a2_3) := (blk_cell BK216.out 3).trans rfl; have hfz17_0 := blk_frozen BK216.out 0; have hfz17_1 := blk_frozen BK216.out 1; have hfz17_2 := blk_frozen BK216.out 2; have hfz17_3 := blk_frozen BK216.out 3) | ((with_reducible refine gate_callee (f := 46) rfl ?_); refine goM_ (some 17) Try.func46 #[.int .i64 (wrap64 (a2_2)), .int .i64 (wrap64 (a1 + 1)), .int .i64 (wrap64 ((l0.length : Int) - 1))] ?_; (with_reducible refine (spec_l00In.calls (wrap64 (a2_2)) (wrap64 (a1 + 1)) (wrap64 ((l0.length : Int) - 1)) true _ A4.out).mono ?_); rintro e w' ⟨rfl, ⟨nd, rfl⟩⟩; refine ⟨_, rfl, ?_⟩) | (go_at_call 46; (with_reducible refine (spec_l00In.calls (wrap64 (a2_3)) (wrap64 (a1 + 1)) (wrap64 ((l0.length : Int) - 1)) true _ A6.out).mono ?_); rintro e w' ⟨rfl, ⟨nd, rfl⟩⟩; have p219 : 0 ≤ (a2_2 : Int) := od_; have q219 : a2_2 < (l0.length : Int) := od_; obtain ⟨ad219, e219, hx219_0, hx219_1⟩ := af_ HB (at_T49 HR0.out a2_2 p219 q219); cases e219; replace p219 := eq_true p219; replace q219 := eq_true q219; have p220 : 0 ≤ (a2_3 : Int) := od_; have q220 : a2_3 < (l0.length : Int) := od_; obtain ⟨ad220, e220, hx220_0, hx220_1⟩ := af_ HB (at_T49 HR0.out a2_3 p220 q220); obtain rfl : ad219 = ad220 := (by injection e220); replace p220 := eq_true p220; replace q220 := eq_true q220))
 go_ret
 exact ⟨rt_, k1_ HB GE216⟩
end Go.Proofs.Ytnkihjabmbeicaa.PA
