/- Pure functions, and that Go's functions come to them. -/
import Derived.Test.YthbogbaaikjhbaaGreatDoorPAx0
import Derived.Test.YthbogbaaikjhbaaGreatDoorPAxm29
namespace Go.Proofs.YthbogbaaikjhbaaGreatDoor.PA
open Go.RowKit Go.Proofs.YthbogbaaikjhbaaGreatDoorW.PrintWords Go.Proofs.YthbogbaaikjhbaaGreatDoorW.PrintLast Go.Proofs.YthbogbaaikjhbaaGreatDoorW.PrintMore
set_option linter.unusedVariables false
set_option linter.unusedSimpArgs false

/-! ### spec_l00In: function 68 -/
def spec_l00In.f (a0 : Int) (a1 : Int) (a2 : Int) : Option (Bool) := if a0 ≥ a1 then (some (decide (a0 ≤ a2))) else (some false)
set_option maxHeartbeats 8000000 in
set_option maxRecDepth 100000 in
theorem spec_l00In.calls (a0 : Int) (a1 : Int) (a2 : Int) (r : Bool) (w : World) (h : spec_l00In.f a0 a1 a2 = some r) :
  Calls Tryz.prog 68 #[.int .i64 a0, .int .i64 a1, .int .i64 a2] w fun e w' => e = .returned (.bool r) ∧ Drawn0 w w' := by
 have H : (if a0 ≥ a1 then (some (decide (a0 ≤ a2))) else (some false)) = some r := h
 clear h
 by_cases c4 : a0 ≥ a1
 ·
  rw [if_pos c4] at H
  have c4b0 : decide (a1 ≤ a0) = true := decide_eq_true c4
  clear c4
  obtain rfl := Option.some.inj H
  go_enter Tryz.func68, Tryz.ntmps68
  go_wp2
  go_ret
  exact ⟨by first | rfl | (simp; done) | (simp [*]; done), by repeat (first | exact Drawn0.refl _ | apply Drawn0.step)⟩
 rw [if_neg c4] at H
 have c4b0 : decide (a1 ≤ a0) = false := decide_eq_false c4
 clear c4
 obtain rfl := Option.some.inj H
 go_enter Tryz.func68, Tryz.ntmps68
 go_wp2
 go_ret
 exact ⟨by first | rfl | (simp; done) | (simp [*]; done), by repeat (first | exact Drawn0.refl _ | apply Drawn0.step)⟩

/-! ### spec_l03Place: function 77 -/
def spec_l03Place.f (a0 : Int) : Option (Bool) := (spec_l00In.f a0 (-1000) 1000).bind fun t109 => (some t109)
set_option maxHeartbeats 8000000 in
set_option maxRecDepth 100000 in
theorem spec_l03Place.calls (a0 : Int) (r : Bool) (w : World) (h : spec_l03Place.f a0 = some r) :
  Calls Tryz.prog 77 #[.int .i64 a0] w fun e w' => e = .returned (.bool r) ∧ Drawn0 w w' := by
 have H : ((spec_l00In.f a0 (-1000) 1000).bind fun t109 => (some t109)) = some r := h
 clear h
 obtain ⟨t109, A2, H⟩ := be_ H
 (try dsimp only at H)
 obtain rfl := Option.some.inj H
 go_enter Tryz.func77, Tryz.ntmps77
 go_wp2_with (first | ((with_reducible refine gate_callee (f := 68) rfl ?_); refine goM_ (some 4) Tryz.func68 #[.int .i64 a0, .int .i64 (-1000), .int .i64 1000] ?_; (with_reducible refine (spec_l00In.calls a0 (-1000) 1000 t109 _ A2.out).mono ?_); rintro e w' ⟨rfl, ⟨nd, rfl⟩⟩; refine ⟨_, rfl, ?_⟩))
 go_ret
 exact ⟨by first | rfl | (simp; done) | (simp [*]; done), by repeat (first | exact Drawn0.refl _ | apply Drawn0.step)⟩

/-! ### spec_l03Corner: function 56 -/
def spec_l03Corner.f (a0_0 : Int) (a0_1 : Int) : Option (Bool) := (spec_l03Place.f (wrap64 (a0_0))).bind fun t111 => (if t111 = true then ((spec_l03Place.f (wrap64 (a0_1))).bind fun t112 => (some t112)) else (some false))
set_option maxHeartbeats 8000000 in
set_option maxRecDepth 100000 in
theorem spec_l03Corner.calls (a0_0 : Int) (a0_1 : Int) (r : Bool) (w : World) (h : spec_l03Corner.f a0_0 a0_1 = some r) :
  Calls Tryz.prog 56 #[.agg #[.int .i16 a0_0, .int .i16 a0_1]] w fun e w' => e = .returned (.bool r) ∧ Below w.heap.size w w' := by
 have hu43 := Tryz.underlying43
 have HB := Aside0.mk (Below.refl w.heap.size w)
 have H : ((spec_l03Place.f (wrap64 (a0_0))).bind fun t111 => (if t111 = true then ((spec_l03Place.f (wrap64 (a0_1))).bind fun t112 => (some t112)) else (some false))) = some r := h
 clear h
 obtain ⟨t111, A2, H⟩ := be_ H
 (try dsimp only at H)
 rcases (Decidable.em (t111 = true)).symm with c3 | c3
 ·
  replace c3 := Bool.eq_false_iff.mpr c3
  subst c3
  replace H := gf_ H
  obtain rfl := Option.some.inj H
  go_enter Tryz.func56, Tryz.ntmps56
  go_wp2_with (first | ((with_reducible refine gate_dst (N := 1) rfl ?_); refine boxM_ 1 #[.int .i16 a0_0, .int .i16 a0_1] 43 ?_; intro gb110 hg w7 hbox hb; have BK110 := Aside0.mk (hbox); have GW110 := ge_ HB hg; have GE110 := ge_ HB hg; replace HB := bs_ HB hb; clear hb hbox hg; obtain ⟨⟨hcz8_0, hcz8_1⟩, hfz8_0, hfz8_1⟩ := bq_ BK110) | ((with_reducible refine gate_callee (f := 77) rfl ?_); refine goM_ (some 6) Tryz.func77 #[.int .i64 (wrap64 (a0_0))] ?_; (with_reducible refine (spec_l03Place.calls (wrap64 (a0_0)) false _ A2.out).mono ?_); rintro e w' ⟨rfl, ⟨nd, rfl⟩⟩; refine ⟨_, rfl, ?_⟩))
  go_ret
  exact ⟨rt_, k1_ HB GE110⟩

 subst c3
 replace H := gt_ H
 obtain ⟨t112, A4, H⟩ := be_ H
 (try dsimp only at H)
 obtain rfl := Option.some.inj H
 go_enter Tryz.func56, Tryz.ntmps56
 go_wp2_with (first | ((with_reducible refine gate_dst (N := 1) rfl ?_); refine boxM_ 1 #[.int .i16 a0_0, .int .i16 a0_1] 43 ?_; intro gb110 hg w5 hbox hb; have BK110 := Aside0.mk (hbox); have GW110 := ge_ HB hg; have GE110 := ge_ HB hg; replace HB := bs_ HB hb; clear hb hbox hg; obtain ⟨⟨hcz6_0, hcz6_1⟩, hfz6_0, hfz6_1⟩ := bq_ BK110) | ((with_reducible refine gate_callee (f := 77) rfl ?_); refine goM_ (some 6) Tryz.func77 #[.int .i64 (wrap64 (a0_0))] ?_; (with_reducible refine (spec_l03Place.calls (wrap64 (a0_0)) true _ A2.out).mono ?_); rintro e w' ⟨rfl, ⟨nd, rfl⟩⟩; refine ⟨_, rfl, ?_⟩) | (go_at_call 77; (with_reducible refine (spec_l03Place.calls (wrap64 (a0_1)) t112 _ A4.out).mono ?_); rintro e w' ⟨rfl, ⟨nd, rfl⟩⟩))
 go_ret
 exact ⟨rt_, k1_ HB GE110⟩
/-! ### spec_l03Side: function 58 -/
def spec_l03Side.f (a0_0 : Int) (a0_1 : Int) (a1_0 : Int) (a1_1 : Int) (a2_0 : Int) (a2_1 : Int) : Option (Int) := some (wrap64 ((wrap64 ((wrap64 ((wrap64 (a1_0)) - (wrap64 (a0_0)))) * (wrap64 ((wrap64 (a2_1)) - (wrap64 (a0_1)))))) - (wrap64 ((wrap64 ((wrap64 (a1_1)) - (wrap64 (a0_1)))) * (wrap64 ((wrap64 (a2_0)) - (wrap64 (a0_0))))))))
set_option maxHeartbeats 8000000 in
set_option maxRecDepth 100000 in
theorem spec_l03Side.calls (a0_0 : Int) (a0_1 : Int) (a1_0 : Int) (a1_1 : Int) (a2_0 : Int) (a2_1 : Int) (r : Int) (w : World) (h : spec_l03Side.f a0_0 a0_1 a1_0 a1_1 a2_0 a2_1 = some r) :
  Calls Tryz.prog 58 #[.agg #[.int .i16 a0_0, .int .i16 a0_1], .agg #[.int .i16 a1_0, .int .i16 a1_1], .agg #[.int .i16 a2_0, .int .i16 a2_1]] w fun e w' => e = .returned (.int .i64 r) ∧ Below w.heap.size w w' := by
 have hu43 := Tryz.underlying43
 have HB := Aside0.mk (Below.refl w.heap.size w)
 have H : (some (wrap64 ((wrap64 ((wrap64 ((wrap64 (a1_0)) - (wrap64 (a0_0)))) * (wrap64 ((wrap64 (a2_1)) - (wrap64 (a0_1)))))) - (wrap64 ((wrap64 ((wrap64 (a1_1)) - (wrap64 (a0_1)))) * (wrap64 ((wrap64 (a2_0)) - (wrap64 (a0_0))))))))) = some r := h
 clear h
 obtain rfl := Option.some.inj H
 go_enter Tryz.func58, Tryz.ntmps58
 go_wp2_with (first | ((with_reducible refine gate_dst (N := 3) rfl ?_); refine boxM_ 3 #[.int .i16 a0_0, .int .i16 a0_1] 43 ?_; intro gb115 hg w4 hbox hb; have BK115 := Aside0.mk (hbox); have GW115 := ge_ HB hg; have GE115 := ge_ HB hg; replace HB := bs_ HB hb; clear hb hbox hg) | ((with_reducible refine gate_dst (N := 4) rfl ?_); refine boxM_ 4 #[.int .i16 a1_0, .int .i16 a1_1] 43 ?_; intro gb116 hg w5 hbox hb; have BK116 := Aside0.mk (hbox); have GW116 := ge_ HB hg; have GE116 := ge_ HB hg; replace HB := bs_ HB hb; have NB115_116 := nl_ BK115 hg; have NB116_115 := ng_ BK115 hg; replace BK115 := bd_ BK115 hb; clear hb hbox hg) | ((with_reducible refine gate_dst (N := 5) rfl ?_); refine boxM_ 5 #[.int .i16 a2_0, .int .i16 a2_1] 43 ?_; intro gb117 hg w6 hbox hb; have BK117 := Aside0.mk (hbox); have GW117 := ge_ HB hg; have GE117 := ge_ HB hg; replace HB := bs_ HB hb; have NB115_117 := nl_ BK115 hg; have NB117_115 := ng_ BK115 hg; replace BK115 := bd_ BK115 hb; have NB116_117 := nl_ BK116 hg; have NB117_116 := ng_ BK116 hg; replace BK116 := bd_ BK116 hb; clear hb hbox hg; have hnb7 := NB116_115.out; have hnc7 := NB115_116.out; have hnb8 := NB116_117.out; have hnc8 := NB117_116.out; obtain ⟨⟨hcz9_0, hcz9_1⟩, hfz9_0, hfz9_1⟩ := bq_ BK116; have hnb10 := NB115_117.out; have hnc10 := NB117_115.out; obtain ⟨⟨hcz11_0, hcz11_1⟩, hfz11_0, hfz11_1⟩ := bq_ BK115; obtain ⟨⟨hcz12_0, hcz12_1⟩, hfz12_0, hfz12_1⟩ := bq_ BK117))
 go_ret
 exact ⟨rt_, k3_ HB GE115 GE116 GE117⟩

/-! ### spec_l03Next: function 70 -/
def spec_l03Next.f (l0 : List (S43)) (a1 : Int) : Option (Int) := if (l0.length : Int) = 0 then (none) else (some (Int.tmod (wrap64 (a1 + 1)) (l0.length : Int)))
set_option maxHeartbeats 8000000 in
set_option maxRecDepth 100000 in
theorem spec_l03Next.calls (A0 : Option Addr) (c0 : Nat) (l0 : List (S43)) (a1 : Int) (r : Int) (w : World) (hr0 : Kd.C k43 w A0 l0.length l0) (hc0 : l0.length ≤ c0) (h : spec_l03Next.f l0 a1 = some r) :
  Calls Tryz.prog 70 #[.slice A0 l0.length c0, .int .i64 a1] w fun e w' => e = .returned (.int .i64 r) ∧ Drawn0 w w' := by
 have HR0 := Aside0.mk hr0
 have HC0 := Aside0.mk hc0
 clear hr0 hc0
 have H : (if (l0.length : Int) = 0 then (none) else (some (Int.tmod (wrap64 (a1 + 1)) (l0.length : Int)))) = some r := h
 clear h
 by_cases c3 : (l0.length : Int) = 0
 ·
  rw [if_pos c3] at H
  exact absurd H (by simp)
 rw [if_neg c3] at H
 have c3b0 : ((l0.length : Int) == 0) = false := beq_eq_false_iff_ne.mpr c3
 have c3b1 : ((l0.length : Int) != 0) = true := bne_iff_ne.mpr c3
 have c3b2 : ¬ (l0 = []) := fun h_ => c3 (by rw [h_]; rfl)
 obtain rfl := Option.some.inj H
 go_enter Tryz.func70, Tryz.ntmps70
 go_wp2
 go_ret
 exact ⟨by first | rfl | (simp; done) | (simp [*]; done), by repeat (first | exact Drawn0.refl _ | apply Drawn0.step)⟩

/-! ### spec_l03Convex: function 69 -/
mutual
def spec_l03Convex.l0 : Nat → List (S43) → Int → Option (Bool)
 | 0, _, _ => none
 | k + 1, x0, x3 => if x3 < (x0.length : Int) then ((spec_l03Next.f x0 x3).bind fun t319 => (spec_l03Convex.l1 k x0 x3 t319 0)) else (some true)
def spec_l03Convex.l1 : Nat → List (S43) → Int → Int → Int → Option (Bool)
 | 0, _, _, _, _ => none
 | k + 1, x0, x3, x4, x5 => if x5 < (x0.length : Int) then (if x5 = x3 then (spec_l03Convex.l1 k x0 x3 x4 (wrap64 (x5 + 1))) else (if x5 = x4 then (spec_l03Convex.l1 k x0 x3 x4 (wrap64 (x5 + 1))) else (if 0 ≤ x3 then (if x3 < (x0.length : Int) then (if 0 ≤ x4 then (if x4 < (x0.length : Int) then (if 0 ≤ x5 then ((spec_l03Side.f ((rd_T43 x0 x3).f0) ((rd_T43 x0 x3).f1) ((rd_T43 x0 x4).f0) ((rd_T43 x0 x4).f1) ((rd_T43 x0 x5).f0) ((rd_T43 x0 x5).f1)).bind fun t323 => (if t323 ≤ 0 then (some false) else (spec_l03Convex.l1 k x0 x3 x4 (wrap64 (x5 + 1))))) else (none)) else (none)) else (none)) else (none)) else (none)))) else (spec_l03Convex.l0 k x0 (wrap64 (x3 + 1)))
end
def spec_l03Convex.f (k : Nat) (l0 : List (S43)) : Option (Bool) := if (l0.length : Int) < 3 then (some false) else (spec_l03Convex.l0 k l0 0)
theorem spec_l03Convex.mono_l : ∀ k, (∀ y0 y1, LeO (spec_l03Convex.l0 k y0 y1) (spec_l03Convex.l0 (k + 1) y0 y1)) ∧ (∀ y0 y1 y2 y3, LeO (spec_l03Convex.l1 k y0 y1 y2 y3) (spec_l03Convex.l1 (k + 1) y0 y1 y2 y3))
 | 0 => ⟨fun _ _ r h => by simp [spec_l03Convex.l0] at h, fun _ _ _ _ r h => by simp [spec_l03Convex.l1] at h⟩
 | k + 1 => by
  obtain ⟨ih0, ih1⟩ := spec_l03Convex.mono_l k
  refine ⟨?_, ?_⟩ <;> intros
  all_goals first | unfold spec_l03Convex.l0 | unfold spec_l03Convex.l1
  all_goals repeat' first | (with_reducible first | exact ih0 _ _ | exact ih1 _ _ _ _ | exact LeO.refl _ | exact LeO.none _ | refine LeO.ite ?_ ?_ | refine LeO.bind ?_ (fun _ => ?_))
theorem spec_l03Convex.mono : ∀ a0 k, LeO (spec_l03Convex.f k a0) (spec_l03Convex.f (k + 1) a0) := by
 intro a0 k
 obtain ⟨ih0, ih1⟩ := spec_l03Convex.mono_l k
 unfold spec_l03Convex.f
 repeat' first | (with_reducible first | exact ih0 _ _ | exact ih1 _ _ _ _ | exact LeO.refl _ | exact LeO.none _ | refine LeO.ite ?_ ?_ | refine LeO.bind ?_ (fun _ => ?_))
def spec_l03Convex.T10 : Bool × List (List Nat × List Nat) := (true, [([], []), ([], []), ([0, 1], [0, 1]), ([2], [2]), ([3], [3]), ([3], [3]), ([4, 5, 3], [3, 4, 5]), ([3, 6], [3, 6]), ([7, 3], [7]), ([8], [8]), ([8], [8]), ([9, 10, 8], [8, 9, 10]), ([11, 8], [8, 11]), ([8], [8]), ([8], [8]), ([13, 14, 8], [8, 13, 14]), ([15, 8], [8, 15]), ([8], [8]), ([8], [8]), ([17, 18, 8], [8, 17, 18]), ([19, 8], [8, 19]), ([12, 16, 20, 8, 8], [8, 12, 16, 20]), ([21, 8], [8, 21]), ([8, 22], [8, 22])])
def spec_l03Convex.B10 : List Nat := [0, 0, 3, 7, 15, 15, 63, 127, 255, 511, 511, 2047, 4095, 511, 511, 25087, 57855, 511, 511, 393727, 918015, 2097151, 4194303, 8388607]
theorem spec_l03Convex.tab10 : rtab .any (opsOf Tryz.f69 10) = spec_l03Convex.T10 := by kernel_rfl
theorem spec_l03Convex.bits10 : waitsOk spec_l03Convex.T10.2 spec_l03Convex.B10 = true := by kernel_rfl
set_option maxHeartbeats 8000000 in
set_option maxRecDepth 100000 in
theorem spec_l03Convex.calls (k : Nat) (A0 : Option Addr) (c0 : Nat) (l0 : List (S43)) (r : Bool) (w : World) (hr0 : Kd.C k43 w A0 l0.length l0) (hc0 : l0.length ≤ c0) (h : spec_l03Convex.f k l0 = some r) :
  Calls Tryz.prog 69 #[.slice A0 l0.length c0] w fun e w' => e = .returned (.bool r) ∧ Below w.heap.size w w' := by
 have hu43 := Tryz.underlying43
 have HR0 := Aside0.mk hr0
 have HC0 := Aside0.mk hc0
 clear hr0 hc0
 have HB := Aside0.mk (Below.refl w.heap.size w)
 have H : (if (l0.length : Int) < 3 then (some false) else (spec_l03Convex.l0 k l0 0)) = some r := h
 clear h
 by_cases c2 : (l0.length : Int) < 3
 ·
  rw [if_pos c2] at H
  have c2b0 : decide ((l0.length : Int) < 3) = true := decide_eq_true c2
  have c2b1 : decide (l0.length < 3) = true := decide_eq_true (by omega)
  clear c2
  obtain rfl := Option.some.inj H
  go_enter Tryz.func69, Tryz.ntmps69
  go_wp2
  go_ret
  exact ⟨rt_, bl_ HB⟩
 rw [if_neg c2] at H
 have c2b0 : decide ((l0.length : Int) < 3) = false := decide_eq_false c2
 have c2b1 : decide (l0.length < 3) = false := decide_eq_false (by omega)
 clear c2
 have H' := Aside0.mk H
 clear H
 go_enter Tryz.func69, Tryz.ntmps69
 go_wp2
 go_loopg [3] k (fun kq v3 w' => ∃ (x3_1 : Int), v3 = .int .i64 x3_1 ∧ Aside0 (spec_l03Convex.l0 kq l0 x3_1 = some r) ∧ Aside0 (kq ≤ k) ∧ Aside0 (Below w.heap.size w w'))
 case atStart => exact ⟨(0), (by first | rfl | (simp; done) | (simp [*]; done)), H', ⟨Nat.le_refl _⟩, ⟨bl_ HB⟩⟩
 case round =>
  clear H'
  obtain ⟨x3_1, rfl, HA, HK1, HB⟩ := hrel
  rcases gk with _ | k1
  · exact absurd HA.out (by simp [spec_l03Convex.l0])
  have H := HA.out
  clear HA
  simp only [spec_l03Convex.l0] at H
  rcases (Decidable.em (x3_1 < (l0.length : Int))).symm with c3 | c3
  ·
   rw [if_neg c3] at H
   have c3b0 : decide (x3_1 < (l0.length : Int)) = false := decide_eq_false c3
   clear c3
   obtain rfl := Option.some.inj H
   go_wp2
   go_ret
   exact ⟨rt_, bl_ HB⟩

  rw [if_pos c3] at H
  have c3b0 : decide (x3_1 < (l0.length : Int)) = true := decide_eq_true c3
  clear c3
  obtain ⟨t319, A4, H⟩ := be_ H
  (try dsimp only at H)
  have H' := Aside0.mk H
  clear H
  go_wp2_with (first | ((with_reducible refine gate_callee (f := 70) rfl ?_); refine goM_ (some 17) Tryz.func70 #[.slice A0 l0.length c0, .int .i64 x3_1] ?_; (with_reducible refine (spec_l03Next.calls _ _ l0 x3_1 t319 _ ?side1 ?side2 A4.out).mono ?_); (case side1 => exact kc_ (Kd.C_below HR0.out HB.out)); (case side2 => exact HC0.out); rintro e w' ⟨rfl, ⟨nd, rfl⟩⟩; refine ⟨_, rfl, ?_⟩))
  go_loopg [5] k1 (fun kq v5 w' => ∃ (x5_2 : Int), v5 = .int .i64 x5_2 ∧ Aside0 (spec_l03Convex.l1 kq l0 x3_1 t319 x5_2 = some r) ∧ Aside0 (kq ≤ k1) ∧ Aside0 (Below w.heap.size w w'))
  case atStart => exact ⟨(0), (by first | rfl | (simp; done) | (simp [*]; done)), H', ⟨Nat.le_refl _⟩, ⟨bl_ HB⟩⟩
  case round =>
   clear H'
   obtain ⟨x5_2, rfl, HA, HK2, HB⟩ := hrel
   rcases gk with _ | k2
   · exact absurd HA.out (by simp [spec_l03Convex.l1])
   have H := HA.out
   clear HA
   simp only [spec_l03Convex.l1] at H
   rcases (Decidable.em (x5_2 < (l0.length : Int))).symm with c5 | c5
   ·
    rw [if_neg c5] at H
    have c5b0 : decide (x5_2 < (l0.length : Int)) = false := decide_eq_false c5
    clear c5
    have H' := Aside0.mk H
    clear H
    go_wp2
    go_roundg k2
    case measure => have := HK1.out; have := HK2.out; omega
    case rel => exact ⟨(wrap64 (x3_1 + 1)), (by first | rfl | (simp; done) | (simp [*]; done)), H', ⟨by have := HK1.out; have := HK2.out; omega⟩, ⟨bl_ HB⟩⟩
   rw [if_pos c5] at H
   have c5b0 : decide (x5_2 < (l0.length : Int)) = true := decide_eq_true c5
   clear c5
   by_cases c6 : x5_2 = x3_1
   ·
    rw [if_pos c6] at H
    have c6b0 : (x5_2 == x3_1) = true := beq_iff_eq.mpr c6
    have c6b1 : (x5_2 != x3_1) = false := bne_eq_false_iff_eq.mpr c6
    clear c6
    have H' := Aside0.mk H
    clear H
    try go_wp2
    have n0_ := Aside0.mk (below_drew1 HB.out)
    clear HB
    have HB := n0_
    clear n0_
    refine start_ (n := 24) (S := fun w' => True) (ds := []) #[false, false, false, false, false, false, false, false, false, false, false, false, false, false, false, false, false, false, false, false, false, false, false, false] (by kernel_rfl) rfl rfl trivial (fun hHeld => ?_); refine with_tabW spec_l03Convex.tab10 spec_l03Convex.bits10 (fun HT_ HW_ => ?_)
    generalize wr.drew = w7 at HB hHeld ⊢
    refine pu_ 0 24 (lA 24 1) ?_ ?_ HT_ ?_
    refine pu_ 1 25 (lA 24 3) ?_ ?_ HT_ ?_
    refine pu_ 2 26 (lA 24 7) ?_ ?_ HT_ ?_
    refine pu_ 3 27 (lA 24 15) ?_ ?_ HT_ ?_
    refine pn_ 4 28 (lA 24 31) ?_ HT_ ?_
    refine pn_ 5 29 (lA 24 63) ?_ HT_ ?_
    refine pn_ 6 30 (lA 24 127) ?_ HT_ ?_
    refine pu_ 7 31 (lA 24 255) ?_ ?_ HT_ ?_
    refine pu_ 8 32 (lA 24 511) ?_ ?_ HT_ ?_
    refine pn_ 9 33 (lA 24 1023) ?_ HT_ ?_
    refine pn_ 10 34 (lA 24 2047) ?_ HT_ ?_
    refine pn_ 11 35 (lA 24 4095) ?_ HT_ ?_
    refine pn_ 12 36 (lA 24 8191) ?_ HT_ ?_
    refine pn_ 13 37 (lA 24 16383) ?_ HT_ ?_
    refine pn_ 14 38 (lA 24 32767) ?_ HT_ ?_
    refine pn_ 15 39 (lA 24 65535) ?_ HT_ ?_
    refine pn_ 16 40 (lA 24 131071) ?_ HT_ ?_
    refine pn_ 17 41 (lA 24 262143) ?_ HT_ ?_
    refine pn_ 18 42 (lA 24 524287) ?_ HT_ ?_
    refine pn_ 19 43 (lA 24 1048575) ?_ HT_ ?_
    refine pn_ 20 44 (lA 24 2097151) ?_ HT_ ?_
    refine pn_ 21 45 (lA 24 4194303) ?_ HT_ ?_
    refine pn_ 22 46 (lA 24 8388607) ?_ HT_ ?_
    refine pu_ 23 47 (lA 24 16777215) ?_ ?_ HT_ ?_
    refine done_ (done_of HT_.out (by kernel_rfl)) ?_
    try go_wp2
    go_roundg k2
    case measure => have := HK1.out; have := HK2.out; omega
    case rel => exact ⟨(wrap64 (x5_2 + 1)), (by first | rfl | (simp; done) | (simp [*]; done)), H', ⟨by have := HK1.out; have := HK2.out; omega⟩, ⟨bl_ HB⟩⟩
   rw [if_neg c6] at H
   have c6b0 : (x5_2 == x3_1) = false := beq_eq_false_iff_ne.mpr c6
   have c6b1 : (x5_2 != x3_1) = true := bne_iff_ne.mpr c6
   by_cases c8 : x5_2 = t319
   ·
    rw [if_pos c8] at H
    have c8b0 : (x5_2 == t319) = true := beq_iff_eq.mpr c8
    have c8b1 : (x5_2 != t319) = false := bne_eq_false_iff_eq.mpr c8
    clear c8
    have H' := Aside0.mk H
    clear H
    try go_wp2
    have n0_ := Aside0.mk (below_drew1 HB.out)
    clear HB
    have HB := n0_
    clear n0_
    refine start_ (n := 24) (S := fun w' => True) (ds := []) #[false, false, false, false, false, false, false, false, false, false, false, false, false, false, false, false, false, false, false, false, false, false, false, false] (by kernel_rfl) rfl rfl trivial (fun hHeld => ?_); refine with_tabW spec_l03Convex.tab10 spec_l03Convex.bits10 (fun HT_ HW_ => ?_)
    generalize wr.drew = w9 at HB hHeld ⊢
    refine pu_ 0 24 (lA 24 1) ?_ ?_ HT_ ?_
    refine pu_ 1 25 (lA 24 3) ?_ ?_ HT_ ?_
    refine pu_ 2 26 (lA 24 7) ?_ ?_ HT_ ?_
    refine pu_ 3 27 (lA 24 15) ?_ ?_ HT_ ?_
    refine pu_ 4 28 (lA 24 31) ?_ ?_ HT_ ?_
    refine pu_ 5 29 (lA 24 63) ?_ ?_ HT_ ?_
    refine pu_ 6 30 (lA 24 127) ?_ ?_ HT_ ?_
    refine pu_ 7 31 (lA 24 255) ?_ ?_ HT_ ?_
    refine pu_ 8 32 (lA 24 511) ?_ ?_ HT_ ?_
    refine pn_ 9 33 (lA 24 1023) ?_ HT_ ?_
    refine pn_ 10 34 (lA 24 2047) ?_ HT_ ?_
    refine pn_ 11 35 (lA 24 4095) ?_ HT_ ?_
    refine pn_ 12 36 (lA 24 8191) ?_ HT_ ?_
    refine pn_ 13 37 (lA 24 16383) ?_ HT_ ?_
    refine pn_ 14 38 (lA 24 32767) ?_ HT_ ?_
    refine pn_ 15 39 (lA 24 65535) ?_ HT_ ?_
    refine pn_ 16 40 (lA 24 131071) ?_ HT_ ?_
    refine pn_ 17 41 (lA 24 262143) ?_ HT_ ?_
    refine pn_ 18 42 (lA 24 524287) ?_ HT_ ?_
    refine pn_ 19 43 (lA 24 1048575) ?_ HT_ ?_
    refine pn_ 20 44 (lA 24 2097151) ?_ HT_ ?_
    refine pn_ 21 45 (lA 24 4194303) ?_ HT_ ?_
    refine pn_ 22 46 (lA 24 8388607) ?_ HT_ ?_
    refine pu_ 23 47 (lA 24 16777215) ?_ ?_ HT_ ?_
    refine done_ (done_of HT_.out (by kernel_rfl)) ?_
    try go_wp2
    go_roundg k2
    case measure => have := HK1.out; have := HK2.out; omega
    case rel => exact ⟨(wrap64 (x5_2 + 1)), (by first | rfl | (simp; done) | (simp [*]; done)), H', ⟨by have := HK1.out; have := HK2.out; omega⟩, ⟨bl_ HB⟩⟩
   rw [if_neg c8] at H
   have c8b0 : (x5_2 == t319) = false := beq_eq_false_iff_ne.mpr c8
   have c8b1 : (x5_2 != t319) = true := bne_iff_ne.mpr c8
   obtain ⟨c10b0, H⟩ := gx_ H
   obtain ⟨c11b0, H⟩ := gx_ H
   obtain ⟨c12b0, H⟩ := gx_ H
   obtain ⟨c13b0, H⟩ := gx_ H
   obtain ⟨c14b0, H⟩ := gx_ H
   obtain ⟨t323, A15, H⟩ := be_ H
   (try dsimp only at H)
   by_cases c16 : t323 ≤ 0
   ·
    rw [if_pos c16] at H
    have c16b0 : decide (t323 ≤ 0) = true := decide_eq_true c16
    clear c16
    obtain rfl := Option.some.inj H
    try go_wp2
    have n0_ := Aside0.mk (below_drew1 HB.out)
    clear HB
    have HB := n0_
    clear n0_
    have p320 : 0 ≤ (x3_1 : Int) := od_
    have q320 : x3_1 < (l0.length : Int) := od_
    obtain ⟨ad320, e320, hx320_0, hx320_1⟩ := at_T43 HR0.out x3_1 p320 q320
    have hw320_1 := hx320_1
    have hw320_0 := hx320_0
    cases e320
    replace hx320_0 := (hw_ HB hx320_0 :)
    replace hx320_1 := (hw_ HB hx320_1 :)
    replace p320 := eq_true p320
    replace q320 := eq_true q320
    have p321 : 0 ≤ (t319 : Int) := od_
    have q321 : t319 < (l0.length : Int) := od_
    obtain ⟨ad321, e321, hx321_0, hx321_1⟩ := at_T43 HR0.out t319 p321 q321
    have hw321_1 := hx321_1
    have hw321_0 := hx321_0
    obtain rfl : ad320 = ad321 := (by injection e321)
    replace hx321_0 := (hw_ HB hx321_0 :)
    replace hx321_1 := (hw_ HB hx321_1 :)
    replace p321 := eq_true p321
    replace q321 := eq_true q321
    have p322 : 0 ≤ (x5_2 : Int) := od_
    have q322 : x5_2 < (l0.length : Int) := od_
    obtain ⟨ad322, e322, hx322_0, hx322_1⟩ := at_T43 HR0.out x5_2 p322 q322
    have hw322_1 := hx322_1
    have hw322_0 := hx322_0
    obtain rfl : ad320 = ad322 := (by injection e322)
    replace hx322_0 := (hw_ HB hx322_0 :)
    replace hx322_1 := (hw_ HB hx322_1 :)
    replace p322 := eq_true p322
    replace q322 := eq_true q322
    refine start_ (n := 24) (S := fun w' => w'.cell? (ad320.add ((x3_1).toNat * 2)) = some (.int .i16 ((rd_T43 l0 x3_1).f0)) ∧ w'.cell? ⟨(ad320.add ((x3_1).toNat * 2)).block, (ad320.add ((x3_1).toNat * 2)).off + 1, none⟩ = some (.int .i16 ((rd_T43 l0 x3_1).f1)) ∧ w'.cell? (ad320.add ((t319).toNat * 2)) = some (.int .i16 ((rd_T43 l0 t319).f0)) ∧ w'.cell? ⟨(ad320.add ((t319).toNat * 2)).block, (ad320.add ((t319).toNat * 2)).off + 1, none⟩ = some (.int .i16 ((rd_T43 l0 t319).f1)) ∧ w'.cell? (ad320.add ((x5_2).toNat * 2)) = some (.int .i16 ((rd_T43 l0 x5_2).f0)) ∧ w'.cell? ⟨(ad320.add ((x5_2).toNat * 2)).block, (ad320.add ((x5_2).toNat * 2)).off + 1, none⟩ = some (.int .i16 ((rd_T43 l0 x5_2).f1))) (ds := []) #[false, false, false, false, false, false, false, false, false, false, false, false, false, false, false, false, false, false, false, false, false, false, false, false] (by kernel_rfl) rfl rfl ⟨((hw_ HB hw320_0 :)), ((hw_ HB hw320_1 :)), ((hw_ HB hw321_0 :)), ((hw_ HB hw321_1 :)), ((hw_ HB hw322_0 :)), ((hw_ HB hw322_1 :))⟩ (fun hHeld => ?_); refine with_tabW spec_l03Convex.tab10 spec_l03Convex.bits10 (fun HT_ HW_ => ?_)
    generalize wr.drew = w17 at HB hx320_0 hx320_1 hx321_0 hx321_1 hx322_0 hx322_1 hHeld ⊢
    refine pu_ 0 24 (lA 24 1) ?_ ?_ HT_ ?_
    refine pu_ 1 25 (lA 24 3) ?_ ?_ HT_ ?_
    refine pu_ 2 26 (lA 24 7) ?_ ?_ HT_ ?_
    refine pu_ 3 27 (lA 24 15) ?_ ?_ HT_ ?_
    refine pu_ 4 28 (lA 24 31) ?_ ?_ HT_ ?_
    refine pu_ 5 29 (lA 24 63) ?_ ?_ HT_ ?_
    refine pu_ 6 30 (lA 24 127) ?_ ?_ HT_ ?_
    refine pu_ 7 31 (lA 24 255) ?_ ?_ HT_ ?_
    refine pu_ 8 32 (lA 24 511) ?_ ?_ HT_ ?_
    refine pu_ 9 33 (lA 24 1023) ?_ ?_ HT_ ?_
    refine pu_ 10 34 (lA 24 2047) ?_ ?_ HT_ ?_
    refine pu_ 11 35 (lA 24 4095) ?_ ?_ HT_ ?_
    refine pu_ 13 37 (lA 24 12287) ?_ ?_ HT_ ?_
    refine pu_ 14 38 (lA 24 28671) ?_ ?_ HT_ ?_
    refine pu_ 15 39 (lA 24 61439) ?_ ?_ HT_ ?_
    refine pu_ 17 41 (lA 24 192511) ?_ ?_ HT_ ?_
    refine pu_ 18 42 (lA 24 454655) ?_ ?_ HT_ ?_
    refine pu_ 19 43 (lA 24 978943) ?_ ?_ HT_ ?_
    refine tk_ 12 36 (lA 24 983039) ?_ ?_ HT_ HW_ hHeld ?_
    refine tk_ 16 40 (lA 24 1048575) ?_ ?_ HT_ HW_ hHeld ?_
    refine tk_ 20 44 (lA 24 2097151) ?_ ?_ HT_ HW_ hHeld ?_
    refine one_ (i := 21) (N := some 45) #[true, true, true, true, true, true, true, true, true, true, true, true, true, true, true, true, true, true, true, true, true, true, false, false] rfl rfl (one_of HT_.out (by kernel_rfl)) (by decide) (fun K hK => ?_)
    refine goes_ Tryz.func58 (by kernel_rfl) rfl #[.agg #[.int .i16 ((rd_T43 l0 x3_1).f0), .int .i16 ((rd_T43 l0 x3_1).f1)], .agg #[.int .i16 ((rd_T43 l0 t319).f0), .int .i16 ((rd_T43 l0 t319).f1)], .agg #[.int .i16 ((rd_T43 l0 x5_2).f0), .int .i16 ((rd_T43 l0 x5_2).f1)]] (by rfl) rfl rfl (by (try simp only [List.map_toArray, List.map_cons, List.map_nil]); first | done | rfl | (simp only [List.length_drop, List.length_take]; rfl)) ?_
    with_reducible refine (spec_l03Side.calls ((rd_T43 l0 x3_1).f0) ((rd_T43 l0 x3_1).f1) ((rd_T43 l0 t319).f0) ((rd_T43 l0 t319).f1) ((rd_T43 l0 x5_2).f0) ((rd_T43 l0 x5_2).f1) t323 _ A15.out).mono ?_
    rintro e w18 ⟨rfl, hb⟩
    refine ⟨_, rfl, ?_⟩
    have n0_ := bs_ HB hb
    clear HB
    have HB := n0_
    clear n0_
    refine hK.out _ _ ⟨((hw_ HB hw320_0 :)), ((hw_ HB hw320_1 :)), ((hw_ HB hw321_0 :)), ((hw_ HB hw321_1 :)), ((hw_ HB hw322_0 :)), ((hw_ HB hw322_1 :))⟩ (fun hHeld => ?_)
    clear hK K
    refine norm_ (a' := ?_) ?_ ?_
    rotate_left
    ·
     show Act.put _ (some 45) _ = _
     simp only [Act.put, List.setIfInBounds_toArray, List.set_cons_zero, List.set_cons_succ, i64_w, i32_w]
     rfl
    refine pu_ 22 46 (lA 24 8388607) ?_ ?_ HT_ ?_
    refine pu_ 23 47 (lA 24 16777215) ?_ ?_ HT_ ?_
    refine done_ (done_of HT_.out (by kernel_rfl)) ?_
    try go_wp2
    go_ret
    exact ⟨rt_, bl_ HB⟩
   rw [if_neg c16] at H
   have c16b0 : decide (t323 ≤ 0) = false := decide_eq_false c16
   clear c16
   have H' := Aside0.mk H
   clear H
   try go_wp2
   have n0_ := Aside0.mk (below_drew1 HB.out)
   clear HB
   have HB := n0_
   clear n0_
   have p320 : 0 ≤ (x3_1 : Int) := od_
   have q320 : x3_1 < (l0.length : Int) := od_
   obtain ⟨ad320, e320, hx320_0, hx320_1⟩ := at_T43 HR0.out x3_1 p320 q320
   have hw320_1 := hx320_1
   have hw320_0 := hx320_0
   cases e320
   replace hx320_0 := (hw_ HB hx320_0 :)
   replace hx320_1 := (hw_ HB hx320_1 :)
   replace p320 := eq_true p320
   replace q320 := eq_true q320
   have p321 : 0 ≤ (t319 : Int) := od_
   have q321 : t319 < (l0.length : Int) := od_
   obtain ⟨ad321, e321, hx321_0, hx321_1⟩ := at_T43 HR0.out t319 p321 q321
   have hw321_1 := hx321_1
   have hw321_0 := hx321_0
   obtain rfl : ad320 = ad321 := (by injection e321)
   replace hx321_0 := (hw_ HB hx321_0 :)
   replace hx321_1 := (hw_ HB hx321_1 :)
   replace p321 := eq_true p321
   replace q321 := eq_true q321
   have p322 : 0 ≤ (x5_2 : Int) := od_
   have q322 : x5_2 < (l0.length : Int) := od_
   obtain ⟨ad322, e322, hx322_0, hx322_1⟩ := at_T43 HR0.out x5_2 p322 q322
   have hw322_1 := hx322_1
   have hw322_0 := hx322_0
   obtain rfl : ad320 = ad322 := (by injection e322)
   replace hx322_0 := (hw_ HB hx322_0 :)
   replace hx322_1 := (hw_ HB hx322_1 :)
   replace p322 := eq_true p322
   replace q322 := eq_true q322
   refine start_ (n := 24) (S := fun w' => w'.cell? (ad320.add ((x3_1).toNat * 2)) = some (.int .i16 ((rd_T43 l0 x3_1).f0)) ∧ w'.cell? ⟨(ad320.add ((x3_1).toNat * 2)).block, (ad320.add ((x3_1).toNat * 2)).off + 1, none⟩ = some (.int .i16 ((rd_T43 l0 x3_1).f1)) ∧ w'.cell? (ad320.add ((t319).toNat * 2)) = some (.int .i16 ((rd_T43 l0 t319).f0)) ∧ w'.cell? ⟨(ad320.add ((t319).toNat * 2)).block, (ad320.add ((t319).toNat * 2)).off + 1, none⟩ = some (.int .i16 ((rd_T43 l0 t319).f1)) ∧ w'.cell? (ad320.add ((x5_2).toNat * 2)) = some (.int .i16 ((rd_T43 l0 x5_2).f0)) ∧ w'.cell? ⟨(ad320.add ((x5_2).toNat * 2)).block, (ad320.add ((x5_2).toNat * 2)).off + 1, none⟩ = some (.int .i16 ((rd_T43 l0 x5_2).f1))) (ds := []) #[false, false, false, false, false, false, false, false, false, false, false, false, false, false, false, false, false, false, false, false, false, false, false, false] (by kernel_rfl) rfl rfl ⟨((hw_ HB hw320_0 :)), ((hw_ HB hw320_1 :)), ((hw_ HB hw321_0 :)), ((hw_ HB hw321_1 :)), ((hw_ HB hw322_0 :)), ((hw_ HB hw322_1 :))⟩ (fun hHeld => ?_); refine with_tabW spec_l03Convex.tab10 spec_l03Convex.bits10 (fun HT_ HW_ => ?_)
   generalize wr.drew = w19 at HB hx320_0 hx320_1 hx321_0 hx321_1 hx322_0 hx322_1 hHeld ⊢
   refine pu_ 0 24 (lA 24 1) ?_ ?_ HT_ ?_
   refine pu_ 1 25 (lA 24 3) ?_ ?_ HT_ ?_
   refine pu_ 2 26 (lA 24 7) ?_ ?_ HT_ ?_
   refine pu_ 3 27 (lA 24 15) ?_ ?_ HT_ ?_
   refine pu_ 4 28 (lA 24 31) ?_ ?_ HT_ ?_
   refine pu_ 5 29 (lA 24 63) ?_ ?_ HT_ ?_
   refine pu_ 6 30 (lA 24 127) ?_ ?_ HT_ ?_
   refine pu_ 7 31 (lA 24 255) ?_ ?_ HT_ ?_
   refine pu_ 8 32 (lA 24 511) ?_ ?_ HT_ ?_
   refine pu_ 9 33 (lA 24 1023) ?_ ?_ HT_ ?_
   refine pu_ 10 34 (lA 24 2047) ?_ ?_ HT_ ?_
   refine pu_ 11 35 (lA 24 4095) ?_ ?_ HT_ ?_
   refine pu_ 13 37 (lA 24 12287) ?_ ?_ HT_ ?_
   refine pu_ 14 38 (lA 24 28671) ?_ ?_ HT_ ?_
   refine pu_ 15 39 (lA 24 61439) ?_ ?_ HT_ ?_
   refine pu_ 17 41 (lA 24 192511) ?_ ?_ HT_ ?_
   refine pu_ 18 42 (lA 24 454655) ?_ ?_ HT_ ?_
   refine pu_ 19 43 (lA 24 978943) ?_ ?_ HT_ ?_
   refine tk_ 12 36 (lA 24 983039) ?_ ?_ HT_ HW_ hHeld ?_
   refine tk_ 16 40 (lA 24 1048575) ?_ ?_ HT_ HW_ hHeld ?_
   refine tk_ 20 44 (lA 24 2097151) ?_ ?_ HT_ HW_ hHeld ?_
   refine one_ (i := 21) (N := some 45) #[true, true, true, true, true, true, true, true, true, true, true, true, true, true, true, true, true, true, true, true, true, true, false, false] rfl rfl (one_of HT_.out (by kernel_rfl)) (by decide) (fun K hK => ?_)
   refine goes_ Tryz.func58 (by kernel_rfl) rfl #[.agg #[.int .i16 ((rd_T43 l0 x3_1).f0), .int .i16 ((rd_T43 l0 x3_1).f1)], .agg #[.int .i16 ((rd_T43 l0 t319).f0), .int .i16 ((rd_T43 l0 t319).f1)], .agg #[.int .i16 ((rd_T43 l0 x5_2).f0), .int .i16 ((rd_T43 l0 x5_2).f1)]] (by rfl) rfl rfl (by (try simp only [List.map_toArray, List.map_cons, List.map_nil]); first | done | rfl | (simp only [List.length_drop, List.length_take]; rfl)) ?_
   with_reducible refine (spec_l03Side.calls ((rd_T43 l0 x3_1).f0) ((rd_T43 l0 x3_1).f1) ((rd_T43 l0 t319).f0) ((rd_T43 l0 t319).f1) ((rd_T43 l0 x5_2).f0) ((rd_T43 l0 x5_2).f1) t323 _ A15.out).mono ?_
   rintro e w20 ⟨rfl, hb⟩
   refine ⟨_, rfl, ?_⟩
   have n0_ := bs_ HB hb
   clear HB
   have HB := n0_
   clear n0_
   refine hK.out _ _ ⟨((hw_ HB hw320_0 :)), ((hw_ HB hw320_1 :)), ((hw_ HB hw321_0 :)), ((hw_ HB hw321_1 :)), ((hw_ HB hw322_0 :)), ((hw_ HB hw322_1 :))⟩ (fun hHeld => ?_)
   clear hK K
   refine norm_ (a' := ?_) ?_ ?_
   rotate_left
   ·
    show Act.put _ (some 45) _ = _
    simp only [Act.put, List.setIfInBounds_toArray, List.set_cons_zero, List.set_cons_succ, i64_w, i32_w]
    rfl
   refine pu_ 22 46 (lA 24 8388607) ?_ ?_ HT_ ?_
   refine pu_ 23 47 (lA 24 16777215) ?_ ?_ HT_ ?_
   refine done_ (done_of HT_.out (by kernel_rfl)) ?_
   try go_wp2
   go_roundg k2
   case measure => have := HK1.out; have := HK2.out; omega
   case rel => exact ⟨(wrap64 (x5_2 + 1)), (by first | rfl | (simp; done) | (simp [*]; done)), H', ⟨by have := HK1.out; have := HK2.out; omega⟩, ⟨bl_ HB⟩⟩
/-! ### spec_l03Ok: function 35 -/
def spec_l03Ok.l0 : Nat → List (S43) → Int → Option (Bool)
 | 0, _, _ => none
 | k + 1, x0, x3 => if x3 < (x0.length : Int) then (if 0 ≤ x3 then ((spec_l03Corner.f ((rd_T43 x0 x3).f0) ((rd_T43 x0 x3).f1)).bind fun t326 => (if t326 = true then (spec_l03Ok.l0 k x0 (wrap64 (x3 + 1))) else (some false))) else (none)) else ((spec_l03Convex.f k x0).bind fun t327 => (some t327))
def spec_l03Ok.f (k : Nat) (l0 : List (S43)) : Option (Bool) := (spec_l00In.f (l0.length : Int) 3 8).bind fun t324 => (if t324 = true then (spec_l03Ok.l0 k l0 0) else (some false))
theorem spec_l03Ok.mono_l : ∀ k, (∀ y0 y1, LeO (spec_l03Ok.l0 k y0 y1) (spec_l03Ok.l0 (k + 1) y0 y1))
 | 0 => fun _ _ r h => by simp [spec_l03Ok.l0] at h
 | k + 1 => by
  have ih0 := spec_l03Ok.mono_l k
  ·
   intro y0 y1
   unfold spec_l03Ok.l0
   repeat' first | (with_reducible first | exact ih0 _ _ | exact spec_l03Convex.mono _ _ | exact LeO.refl _ | exact LeO.none _ | refine LeO.ite ?_ ?_ | refine LeO.bind ?_ (fun _ => ?_))
theorem spec_l03Ok.mono : ∀ a0 k, LeO (spec_l03Ok.f k a0) (spec_l03Ok.f (k + 1) a0) := by
 intro a0 k
 have ih0 := spec_l03Ok.mono_l k
 unfold spec_l03Ok.f
 repeat' first | (with_reducible first | exact ih0 _ _ | exact spec_l03Convex.mono _ _ | exact LeO.refl _ | exact LeO.none _ | refine LeO.ite ?_ ?_ | refine LeO.bind ?_ (fun _ => ?_))
set_option maxHeartbeats 8000000 in
set_option maxRecDepth 100000 in
theorem spec_l03Ok.calls (k : Nat) (A0 : Option Addr) (c0 : Nat) (l0 : List (S43)) (r : Bool) (w : World) (hr0 : Kd.C k43 w A0 l0.length l0) (hc0 : l0.length ≤ c0) (h : spec_l03Ok.f k l0 = some r) :
  Calls Tryz.prog 35 #[.slice A0 l0.length c0] w fun e w' => e = .returned (.bool r) ∧ Below w.heap.size w w' := by
 have hu43 := Tryz.underlying43
 have HR0 := Aside0.mk hr0
 have HC0 := Aside0.mk hc0
 clear hr0 hc0
 have HB := Aside0.mk (Below.refl w.heap.size w)
 have H : ((spec_l00In.f (l0.length : Int) 3 8).bind fun t324 => (if t324 = true then (spec_l03Ok.l0 k l0 0) else (some false))) = some r := h
 clear h
 obtain ⟨t324, A2, H⟩ := be_ H
 (try dsimp only at H)
 rcases (Decidable.em (t324 = true)).symm with c3 | c3
 ·
  replace c3 := Bool.eq_false_iff.mpr c3
  subst c3
  replace H := gf_ H
  obtain rfl := Option.some.inj H
  go_enter Tryz.func35, Tryz.ntmps35
  go_wp2_with (first | ((with_reducible refine gate_callee (f := 68) rfl ?_); refine goM_ (some 6) Tryz.func68 #[.int .i64 (l0.length : Int), .int .i64 3, .int .i64 8] ?_; (with_reducible refine (spec_l00In.calls (l0.length : Int) 3 8 false _ A2.out).mono ?_); rintro e w' ⟨rfl, ⟨nd, rfl⟩⟩; refine ⟨_, rfl, ?_⟩))
  go_ret
  exact ⟨rt_, bl_ HB⟩

 subst c3
 replace H := gt_ H
 have H' := Aside0.mk H
 clear H
 go_enter Tryz.func35, Tryz.ntmps35
 go_wp2_with (first | ((with_reducible refine gate_callee (f := 68) rfl ?_); refine goM_ (some 6) Tryz.func68 #[.int .i64 (l0.length : Int), .int .i64 3, .int .i64 8] ?_; (with_reducible refine (spec_l00In.calls (l0.length : Int) 3 8 true _ A2.out).mono ?_); rintro e w' ⟨rfl, ⟨nd, rfl⟩⟩; refine ⟨_, rfl, ?_⟩))
 go_loopg [3] k (fun kq v3 w' => ∃ (x3_1 : Int), v3 = .int .i64 x3_1 ∧ Aside0 (spec_l03Ok.l0 kq l0 x3_1 = some r) ∧ Aside0 (kq ≤ k) ∧ Aside0 (Below w.heap.size w w'))
 case atStart => exact ⟨(0), (by first | rfl | (simp; done) | (simp [*]; done)), H', ⟨Nat.le_refl _⟩, ⟨bl_ HB⟩⟩
 case round =>
  clear H'
  obtain ⟨x3_1, rfl, HA, HK1, HB⟩ := hrel
  rcases gk with _ | k1
  · exact absurd HA.out (by simp [spec_l03Ok.l0])
  have H := HA.out
  clear HA
  simp only [spec_l03Ok.l0] at H
  rcases (Decidable.em (x3_1 < (l0.length : Int))).symm with c4 | c4
  ·
   rw [if_neg c4] at H
   have c4b0 : decide (x3_1 < (l0.length : Int)) = false := decide_eq_false c4
   clear c4
   obtain ⟨t327, A10, H⟩ := be_ H
   (try dsimp only at H)
   obtain rfl := Option.some.inj H
   go_wp2_with (first | ((with_reducible refine gate_callee (f := 69) rfl ?_); refine goM_ (some 21) Tryz.func69 #[.slice A0 l0.length c0] ?_; (with_reducible refine (spec_l03Convex.calls k1 _ _ l0 t327 _ ?side1 ?side2 A10.out).mono ?_); (case side1 => exact kc_ (Kd.C_below HR0.out HB.out)); (case side2 => exact HC0.out); rintro e w11 ⟨rfl, hb⟩; refine ⟨_, rfl, ?_⟩; replace HB := bs_ HB hb; clear hb))
   go_ret
   exact ⟨rt_, bl_ HB⟩
  rw [if_pos c4] at H
  have c4b0 : decide (x3_1 < (l0.length : Int)) = true := decide_eq_true c4
  clear c4
  obtain ⟨c5b0, H⟩ := gx_ H
  obtain ⟨t326, A6, H⟩ := be_ H
  (try dsimp only at H)
  rcases (Decidable.em (t326 = true)).symm with c7 | c7
  ·
   replace c7 := Bool.eq_false_iff.mpr c7
   subst c7
   replace H := gf_ H
   obtain rfl := Option.some.inj H
   have p325 : 0 ≤ (x3_1 : Int) := od_
   have q325 : x3_1 < (l0.length : Int) := od_
   obtain ⟨ad325, e325, hx325_0, hx325_1⟩ := af_ HB (at_T43 HR0.out x3_1 p325 q325)
   cases e325
   replace p325 := eq_true p325
   replace q325 := eq_true q325
   go_wp2_with (first | ((with_reducible refine gate_callee (f := 56) rfl ?_); refine goM_ (some 18) Tryz.func56 #[.agg #[.int .i16 ((rd_T43 l0 x3_1).f0), .int .i16 ((rd_T43 l0 x3_1).f1)]] ?_; (with_reducible refine (spec_l03Corner.calls ((rd_T43 l0 x3_1).f0) ((rd_T43 l0 x3_1).f1) false _ A6.out).mono ?_); rintro e w9 ⟨rfl, hb⟩; refine ⟨_, rfl, ?_⟩; replace HB := bs_ HB hb; clear hb))
   go_ret
   exact ⟨rt_, bl_ HB⟩
  subst c7
  replace H := gt_ H
  have H' := Aside0.mk H
  clear H
  have p325 : 0 ≤ (x3_1 : Int) := od_
  have q325 : x3_1 < (l0.length : Int) := od_
  obtain ⟨ad325, e325, hx325_0, hx325_1⟩ := af_ HB (at_T43 HR0.out x3_1 p325 q325)
  cases e325
  replace p325 := eq_true p325
  replace q325 := eq_true q325
  go_wp2_with (first | ((with_reducible refine gate_callee (f := 56) rfl ?_); refine goM_ (some 18) Tryz.func56 #[.agg #[.int .i16 ((rd_T43 l0 x3_1).f0), .int .i16 ((rd_T43 l0 x3_1).f1)]] ?_; (with_reducible refine (spec_l03Corner.calls ((rd_T43 l0 x3_1).f0) ((rd_T43 l0 x3_1).f1) true _ A6.out).mono ?_); rintro e w8 ⟨rfl, hb⟩; refine ⟨_, rfl, ?_⟩; replace HB := bs_ HB hb; clear hb))
  go_roundg k1
  case measure => have := HK1.out; omega
  case rel => exact ⟨(wrap64 (x3_1 + 1)), (by first | rfl | (simp; done) | (simp [*]; done)), H', ⟨by have := HK1.out; omega⟩, ⟨bl_ HB⟩⟩
end Go.Proofs.YthbogbaaikjhbaaGreatDoor.PA
