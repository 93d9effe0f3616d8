/- Pure functions, and that Go's functions come to them. -/
import Derived.Test.YtllfeehchiikoaaPAx0
import Derived.Test.YtllfeehchiikoaaPAxgSpec
import Derived.Test.YtllfeehchiikoaaPAxgSpecO
namespace Go.Proofs.Ytllfeehchiikoaa.PA
open Go.RowKit Go.Proofs.YtllfeehchiikoaaW.PrintWords Go.Proofs.YtllfeehchiikoaaW.PrintLast Go.Proofs.YtllfeehchiikoaaW.PrintMore
set_option linter.unusedVariables false
set_option linter.unusedSimpArgs false

/-! ### spec_l03Frame: function 51 -/
def spec_l03Frame.f (a0_0 : Int) (a0_1 : Int) : Option (Bool) := (spec_l00In.f (wrap64 (a0_0)) 1 1000).bind fun t303 => (if t303 = true then ((spec_l00In.f (wrap64 (a0_1)) 1 1000).bind fun t304 => (some t304)) else (some false))
set_option maxHeartbeats 8000000 in
set_option maxRecDepth 100000 in
theorem spec_l03Frame.calls (a0_0 : Int) (a0_1 : Int) (r : Bool) (w : World) (h : spec_l03Frame.f a0_0 a0_1 = some r) :
  Calls Try.prog 51 #[.agg #[.int .i16 a0_0, .int .i16 a0_1]] w fun e w' => e = .returned (.bool r) ∧ Below w.heap.size w w' := by
 have hu26 := Try.underlying26
 have HB := Aside0.mk (Below.refl w.heap.size w)
 have H : ((spec_l00In.f (wrap64 (a0_0)) 1 1000).bind fun t303 => (if t303 = true then ((spec_l00In.f (wrap64 (a0_1)) 1 1000).bind fun t304 => (some t304)) else (some false))) = some r := h
 clear h
 replace H := Option.bind_eq_some_iff.mp H
 obtain ⟨t303, A20, H⟩ := H
 (try dsimp only at H)
 have A2 := Aside0.mk A20
 clear A20
 rcases (Decidable.em (t303 = true)).symm with c3 | c3
 ·
  replace c3 := Bool.eq_false_iff.mpr c3
  subst c3
  replace H := gf_ H
  obtain rfl := Option.some.inj H
  go_enter Try.func51, Try.ntmps51
  go_wp2_with (first | ((with_reducible refine gate_dst (N := 1) rfl ?_); refine boxM_ 1 #[.int .i16 a0_0, .int .i16 a0_1] 26 ?_; intro gb302 hg w7 hbox hb; have BK302 := Aside0.mk (hbox); have GW302 := ge_ HB hg; have GE302 := ge_ HB hg; replace HB := bs_ HB hb; clear hb hbox hg; obtain ⟨⟨hcz8_0, hcz8_1⟩, hfz8_0, hfz8_1⟩ := bq_ BK302) | ((with_reducible refine gate_callee (f := 47) rfl ?_); refine goM_ (some 6) Try.func47 #[.int .i64 (wrap64 (a0_0)), .int .i64 1, .int .i64 1000] ?_; (with_reducible refine (spec_l00In.calls (wrap64 (a0_0)) 1 1000 false _ A2.out).mono ?_); rintro e w' ⟨rfl, ⟨nd, rfl⟩⟩; refine ⟨_, rfl, ?_⟩))
  go_ret
  exact ⟨rt_, bl_ HB⟩

 subst c3
 replace H := gt_ H
 replace H := Option.bind_eq_some_iff.mp H
 obtain ⟨t304, A40, H⟩ := H
 (try dsimp only at H)
 have A4 := Aside0.mk A40
 clear A40
 obtain rfl := Option.some.inj H
 go_enter Try.func51, Try.ntmps51
 go_wp2_with (first | ((with_reducible refine gate_dst (N := 1) rfl ?_); refine boxM_ 1 #[.int .i16 a0_0, .int .i16 a0_1] 26 ?_; intro gb302 hg w5 hbox hb; have BK302 := Aside0.mk (hbox); have GW302 := ge_ HB hg; have GE302 := ge_ HB hg; replace HB := bs_ HB hb; clear hb hbox hg; obtain ⟨⟨hcz6_0, hcz6_1⟩, hfz6_0, hfz6_1⟩ := bq_ BK302) | ((with_reducible refine gate_callee (f := 47) rfl ?_); refine goM_ (some 6) Try.func47 #[.int .i64 (wrap64 (a0_0)), .int .i64 1, .int .i64 1000] ?_; (with_reducible refine (spec_l00In.calls (wrap64 (a0_0)) 1 1000 true _ A2.out).mono ?_); rintro e w' ⟨rfl, ⟨nd, rfl⟩⟩; refine ⟨_, rfl, ?_⟩) | (go_at_call 47; (with_reducible refine (spec_l00In.calls (wrap64 (a0_1)) 1 1000 t304 _ A4.out).mono ?_); rintro e w' ⟨rfl, ⟨nd, rfl⟩⟩))
 go_ret
 exact ⟨rt_, bl_ HB⟩
/-! ### spec_l03Stones: function 28 -/
mutual
def spec_l03Stones.j0 : Nat → List (List (S43)) → Bool → Option (Bool)
 | 0, _, _ => none
 | k + 1, x1, x13 => if x13 = true then (some false) else (spec_l03Stones.l0 k x1 0)
def spec_l03Stones.l0 : Nat → List (List (S43)) → Int → Option (Bool)
 | 0, _, _ => none
 | k + 1, x1, x5 => if x5 < (x1.length : Int) then (if 0 ≤ x5 then ((spec_l03Ok.f k (rd_L3 x1 x5)).bind fun t308 => (if t308 = true then (spec_l03Stones.l0 k x1 (wrap64 (x5 + 1))) else (some false))) else (none)) else (some true)
end
def spec_l03Stones.f (k : Nat) (a0_0 : Int) (a0_1 : Int) (l1 : List (List (S43))) : Option (Bool) := (spec_l03Frame.f a0_0 a0_1).bind fun t306 => (if t306 = true then (spec_l03Stones.j0 k l1 (decide ((l1.length : Int) > 40))) else (spec_l03Stones.j0 k l1 true))
theorem spec_l03Stones.mono_l : ∀ k, (∀ y0 y1, LeO (spec_l03Stones.j0 k y0 y1) (spec_l03Stones.j0 (k + 1) y0 y1)) ∧ (∀ y0 y1, LeO (spec_l03Stones.l0 k y0 y1) (spec_l03Stones.l0 (k + 1) y0 y1))
 | 0 => ⟨fun _ _ r h => by simp [spec_l03Stones.j0] at h, fun _ _ r h => by simp [spec_l03Stones.l0] at h⟩
 | k + 1 => by
  obtain ⟨ih0, ih1⟩ := spec_l03Stones.mono_l k
  refine ⟨?_, ?_⟩ <;> intros
  all_goals first | unfold spec_l03Stones.j0 | unfold spec_l03Stones.l0
  all_goals repeat' first
  | (with_reducible exact ih0 _ _)
  | (with_reducible exact ih1 _ _)
  | (with_reducible exact spec_l03Ok.mono _ _)
  | (with_reducible exact LeO.refl _)
  | (with_reducible exact LeO.none _)
  | (with_reducible refine LeO.ite ?_ ?_)
  | (with_reducible refine LeO.bind ?_ (fun _ => ?_))
theorem spec_l03Stones.mono : ∀ a0 a1 a2 k, LeO (spec_l03Stones.f k a0 a1 a2) (spec_l03Stones.f (k + 1) a0 a1 a2) := by
 intro a0 a1 a2 k
 obtain ⟨ih0, ih1⟩ := spec_l03Stones.mono_l k
 unfold spec_l03Stones.f
 repeat' first
   | (with_reducible exact ih0 _ _)
   | (with_reducible exact ih1 _ _)
   | (with_reducible exact spec_l03Ok.mono _ _)
   | (with_reducible exact LeO.refl _)
   | (with_reducible exact LeO.none _)
   | (with_reducible refine LeO.ite ?_ ?_)
   | (with_reducible refine LeO.bind ?_ (fun _ => ?_))
set_option maxHeartbeats 8000000 in
set_option maxRecDepth 100000 in
theorem spec_l03Stones.calls (k : Nat) (a0_0 : Int) (a0_1 : Int) (A1 : Option Addr) (c1 : Nat) (l1 : List (List (S43))) (r : Bool) (w : World) (hr1 : Kd.C (Kd.slice 43 k43) w A1 l1.length l1) (hc1 : l1.length ≤ c1) (h : spec_l03Stones.f k a0_0 a0_1 l1 = some r) :
  Calls Try.prog 28 #[.agg #[.int .i16 a0_0, .int .i16 a0_1], .slice A1 l1.length c1] w fun e w' => e = .returned (.bool r) ∧ Below w.heap.size w w' := by
 have hu26 := Try.underlying26
 have HR1 := Aside0.mk hr1
 have HC1 := Aside0.mk hc1
 clear hr1 hc1
 have HB := Aside0.mk (Below.refl w.heap.size w)
 have H : ((spec_l03Frame.f a0_0 a0_1).bind fun t306 => (if t306 = true then (spec_l03Stones.j0 k l1 (decide ((l1.length : Int) > 40))) else (spec_l03Stones.j0 k l1 true))) = some r := h
 clear h
 have HC3 := Aside0.mk H
 clear H
 go_enter Try.func28, Try.ntmps28
 go_upto_region 1 with (first | ((with_reducible refine gate_dst (N := 2) rfl ?_); (try (refine gate_guard (by rfl) ?_; dsimp only)); refine boxM_ 2 #[.int .i16 a0_0, .int .i16 a0_1] 26 ?_; intro gb305 hg w4 hbox hb; have BK305 := Aside0.mk (hbox); have GW305 := ge_ HB hg; have GE305 := ge_ HB hg; replace HB := bs_ HB hb; clear hb hbox hg))
 (try simp only [Act.put, List.setIfInBounds_toArray, List.set_cons_zero, List.set_cons_succ])
 go_cut [13] (fun v13 wc => ∃ (kq : Nat) (x13_2 : Bool), v13 = .bool x13_2 ∧ Aside0 (spec_l03Stones.j0 kq l1 x13_2 = some r) ∧ Aside0 (kq ≤ k) ∧ Aside0 (wc.heap[gb305]? = some (.cells #[.int .i16 a0_0, .int .i16 a0_1] 26 (0, 0))) ∧ Aside0 (Below w.heap.size w wc))
 case first =>
  have H := HC3.out
  clear HC3
  replace H := Option.bind_eq_some_iff.mp H
  obtain ⟨t306, A50, H⟩ := H
  (try dsimp only at H)
  have A5 := Aside0.mk A50
  clear A50
  by_cases c6 : t306 = true
  ·
   subst c6
   replace H := gt_ H
   have H' := Aside0.mk H
   clear H
   obtain ⟨⟨hcz7_0, hcz7_1⟩, hfz7_0, hfz7_1⟩ := bq_ BK305
   go_wp2_with (first | ((with_reducible refine gate_callee (f := 51) rfl ?_); refine goM_ (some 7) Try.func51 #[.agg #[.int .i16 a0_0, .int .i16 a0_1]] ?_; (with_reducible refine (spec_l03Frame.calls a0_0 a0_1 true _ A5.out).mono ?_); rintro e w8 ⟨rfl, hb⟩; refine ⟨_, rfl, ?_⟩; replace BK305 := bd_ BK305 hb; replace HB := bs_ HB hb; clear hb))
   go_meet
   case rel => exact ⟨_, (decide ((l1.length : Int) > 40)), (by first | rfl | (simp; done) | (simp [*]; done)), H', ⟨by first | omega | exact Nat.le_refl _⟩, ⟨bk_ BK305⟩, ⟨bl_ HB⟩⟩
  replace c6 := Bool.eq_false_iff.mpr c6
  subst c6
  replace H := gf_ H
  have H' := Aside0.mk H
  clear H
  obtain ⟨⟨hcz9_0, hcz9_1⟩, hfz9_0, hfz9_1⟩ := bq_ BK305
  go_wp2_with (first | ((with_reducible refine gate_callee (f := 51) rfl ?_); refine goM_ (some 7) Try.func51 #[.agg #[.int .i16 a0_0, .int .i16 a0_1]] ?_; (with_reducible refine (spec_l03Frame.calls a0_0 a0_1 false _ A5.out).mono ?_); rintro e w10 ⟨rfl, hb⟩; refine ⟨_, rfl, ?_⟩; replace BK305 := bd_ BK305 hb; replace HB := bs_ HB hb; clear hb))
  go_meet
  case rel => exact ⟨_, (true), (by first | rfl | (simp; done) | (simp [*]; done)), H', ⟨by first | omega | exact Nat.le_refl _⟩, ⟨bk_ BK305⟩, ⟨bl_ HB⟩⟩
 case rest =>
  clear HC3
  obtain ⟨kq, x13_2, rfl, HA, HJ2, BK305, HB⟩ := hcut
  rcases kq with _ | kj2
  · exact absurd HA.out (by simp [spec_l03Stones.j0])
  have H := HA.out
  clear HA
  simp only [spec_l03Stones.j0] at H
  by_cases c11 : x13_2 = true
  ·
   subst c11
   replace H := gt_ H
   obtain rfl := Option.some.inj H
   go_wp2
   go_ret
   exact ⟨rt_, bl_ HB⟩
  replace c11 := Bool.eq_false_iff.mpr c11
  subst c11
  replace H := gf_ H
  have H' := Aside0.mk H
  clear H
  go_wp2
  go_loopg [5] kj2 (fun kq v5 w' => ∃ (x5_2 : Int), v5 = .int .i64 x5_2 ∧ Aside0 (spec_l03Stones.l0 kq l1 x5_2 = some r) ∧ Aside0 (kq ≤ kj2) ∧ Aside0 (w'.heap[gb305]? = some (.cells #[.int .i16 a0_0, .int .i16 a0_1] 26 (0, 0))) ∧ Aside0 (Below w.heap.size w w'))
  case atStart => exact ⟨(0), (by first | rfl | (simp; done) | (simp [*]; done)), H', ⟨Nat.le_refl _⟩, ⟨bk_ BK305⟩, ⟨bl_ HB⟩⟩
  case round =>
   clear H'
   obtain ⟨x5_2, rfl, HA, HK2, BK305, HB⟩ := hrel
   rcases gk with _ | k2
   · exact absurd HA.out (by simp [spec_l03Stones.l0])
   have H := HA.out
   clear HA
   simp only [spec_l03Stones.l0] at H
   rcases (Decidable.em (x5_2 < (l1.length : Int))).symm with c12 | c12
   ·
    rw [if_neg c12] at H
    have c12b0 : decide (x5_2 < (l1.length : Int)) = false := decide_eq_false c12
    clear c12
    obtain rfl := Option.some.inj H
    go_wp2
    go_ret
    exact ⟨rt_, bl_ HB⟩

   rw [if_pos c12] at H
   have c12b0 : decide (x5_2 < (l1.length : Int)) = true := decide_eq_true c12
   clear c12
   obtain ⟨(c13 : 0 ≤ x5_2), H⟩ := gd_ H
   have c13b0 : decide (0 ≤ x5_2) = true := decide_eq_true c13
   clear c13
   replace H := Option.bind_eq_some_iff.mp H
   obtain ⟨t308, A140, H⟩ := H
   (try dsimp only at H)
   have A14 := Aside0.mk A140
   clear A140
   rcases (Decidable.em (t308 = true)).symm with c15 | c15
   ·
    replace c15 := Bool.eq_false_iff.mpr c15
    subst c15
    replace H := gf_ H
    obtain rfl := Option.some.inj H
    have p307 : 0 ≤ (x5_2 : Int) := od_
    have q307 : x5_2 < (l1.length : Int) := od_
    obtain ⟨ad307, A307_0, c307_0, e307, hx307_0, hl307_0, hi307_0⟩ := at_L3 HR1.out x5_2 p307 q307
    cases e307
    replace hx307_0 := (hw_ HB hx307_0 :)
    have HR307_0 := Aside0.mk hi307_0
    have HC307_0 := Aside0.mk hl307_0
    clear hi307_0 hl307_0
    replace p307 := eq_true p307
    replace q307 := eq_true q307
    go_wp2_with (first | ((with_reducible refine gate_callee (f := 46) rfl ?_); refine goM_ (some 24) Try.func46 #[.slice A307_0 (rd_L3 l1 x5_2).length c307_0] ?_; (with_reducible refine (spec_l03Ok.calls k2 _ _ (rd_L3 l1 x5_2) false _ ?side1 ?side2 A14.out).mono ?_); (case side1 => exact kc_ (Kd.C_below HR307_0.out HB.out)); (case side2 => exact HC307_0.out); rintro e w17 ⟨rfl, hb⟩; refine ⟨_, rfl, ?_⟩; replace BK305 := bd_ BK305 hb; replace HB := bs_ HB hb; clear hb))
    go_ret
    exact ⟨rt_, bl_ HB⟩
   subst c15
   replace H := gt_ H
   have H' := Aside0.mk H
   clear H
   have p307 : 0 ≤ (x5_2 : Int) := od_
   have q307 : x5_2 < (l1.length : Int) := od_
   obtain ⟨ad307, A307_0, c307_0, e307, hx307_0, hl307_0, hi307_0⟩ := at_L3 HR1.out x5_2 p307 q307
   cases e307
   replace hx307_0 := (hw_ HB hx307_0 :)
   have HR307_0 := Aside0.mk hi307_0
   have HC307_0 := Aside0.mk hl307_0
   clear hi307_0 hl307_0
   replace p307 := eq_true p307
   replace q307 := eq_true q307
   go_wp2_with (first | ((with_reducible refine gate_callee (f := 46) rfl ?_); refine goM_ (some 24) Try.func46 #[.slice A307_0 (rd_L3 l1 x5_2).length c307_0] ?_; (with_reducible refine (spec_l03Ok.calls k2 _ _ (rd_L3 l1 x5_2) true _ ?side1 ?side2 A14.out).mono ?_); (case side1 => exact kc_ (Kd.C_below HR307_0.out HB.out)); (case side2 => exact HC307_0.out); rintro e w16 ⟨rfl, hb⟩; refine ⟨_, rfl, ?_⟩; replace BK305 := bd_ BK305 hb; replace HB := bs_ HB hb; clear hb))
   go_roundg k2
   case measure => have := HJ2.out; have := HK2.out; omega
   case rel => exact ⟨(wrap64 (x5_2 + 1)), (by first | rfl | (simp; done) | (simp [*]; done)), H', ⟨by have := HJ2.out; have := HK2.out; omega⟩, ⟨bk_ BK305⟩, ⟨bl_ HB⟩⟩
/-! ### spec_l03Point: function 69 -/
def spec_l03Point.f (a0_0 : Int) (a0_1 : Int) (a1 : Int) (a2 : Int) : Option (Bool) := (spec_l00In.f a1 0 (wrap64 (a0_0))).bind fun t310 => (if t310 = true then ((spec_l00In.f a2 0 (wrap64 (a0_1))).bind fun t311 => (some t311)) else (some false))
set_option maxHeartbeats 8000000 in
set_option maxRecDepth 100000 in
theorem spec_l03Point.calls (a0_0 : Int) (a0_1 : Int) (a1 : Int) (a2 : Int) (r : Bool) (w : World) (h : spec_l03Point.f a0_0 a0_1 a1 a2 = some r) :
  Calls Try.prog 69 #[.agg #[.int .i16 a0_0, .int .i16 a0_1], .int .i64 a1, .int .i64 a2] w fun e w' => e = .returned (.bool r) ∧ Below w.heap.size w w' := by
 have hu26 := Try.underlying26
 have HB := Aside0.mk (Below.refl w.heap.size w)
 have H : ((spec_l00In.f a1 0 (wrap64 (a0_0))).bind fun t310 => (if t310 = true then ((spec_l00In.f a2 0 (wrap64 (a0_1))).bind fun t311 => (some t311)) else (some false))) = some r := h
 clear h
 replace H := Option.bind_eq_some_iff.mp H
 obtain ⟨t310, A40, H⟩ := H
 (try dsimp only at H)
 have A4 := Aside0.mk A40
 clear A40
 rcases (Decidable.em (t310 = true)).symm with c5 | c5
 ·
  replace c5 := Bool.eq_false_iff.mpr c5
  subst c5
  replace H := gf_ H
  obtain rfl := Option.some.inj H
  go_enter Try.func69, Try.ntmps69
  go_wp2_with (first | ((with_reducible refine gate_dst (N := 3) rfl ?_); refine boxM_ 3 #[.int .i16 a0_0, .int .i16 a0_1] 26 ?_; intro gb309 hg w9 hbox hb; have BK309 := Aside0.mk (hbox); have GW309 := ge_ HB hg; have GE309 := ge_ HB hg; replace HB := bs_ HB hb; clear hb hbox hg; obtain ⟨⟨hcz10_0, hcz10_1⟩, hfz10_0, hfz10_1⟩ := bq_ BK309) | ((with_reducible refine gate_callee (f := 47) rfl ?_); refine goM_ (some 11) Try.func47 #[.int .i64 a1, .int .i64 0, .int .i64 (wrap64 (a0_0))] ?_; (with_reducible refine (spec_l00In.calls a1 0 (wrap64 (a0_0)) false _ A4.out).mono ?_); rintro e w' ⟨rfl, ⟨nd, rfl⟩⟩; refine ⟨_, rfl, ?_⟩))
  go_ret
  exact ⟨rt_, bl_ HB⟩

 subst c5
 replace H := gt_ H
 replace H := Option.bind_eq_some_iff.mp H
 obtain ⟨t311, A60, H⟩ := H
 (try dsimp only at H)
 have A6 := Aside0.mk A60
 clear A60
 obtain rfl := Option.some.inj H
 go_enter Try.func69, Try.ntmps69
 go_wp2_with (first | ((with_reducible refine gate_dst (N := 3) rfl ?_); refine boxM_ 3 #[.int .i16 a0_0, .int .i16 a0_1] 26 ?_; intro gb309 hg w7 hbox hb; have BK309 := Aside0.mk (hbox); have GW309 := ge_ HB hg; have GE309 := ge_ HB hg; replace HB := bs_ HB hb; clear hb hbox hg; obtain ⟨⟨hcz8_0, hcz8_1⟩, hfz8_0, hfz8_1⟩ := bq_ BK309) | ((with_reducible refine gate_callee (f := 47) rfl ?_); refine goM_ (some 11) Try.func47 #[.int .i64 a1, .int .i64 0, .int .i64 (wrap64 (a0_0))] ?_; (with_reducible refine (spec_l00In.calls a1 0 (wrap64 (a0_0)) true _ A4.out).mono ?_); rintro e w' ⟨rfl, ⟨nd, rfl⟩⟩; refine ⟨_, rfl, ?_⟩) | (go_at_call 47; (with_reducible refine (spec_l00In.calls a2 0 (wrap64 (a0_1)) t311 _ A6.out).mono ?_); rintro e w' ⟨rfl, ⟨nd, rfl⟩⟩))
 go_ret
 exact ⟨rt_, bl_ HB⟩
/-! ### spec_l03In: function 52 -/
def spec_l03In.l0 : Nat → List (S43) → Int → Int → Int → Option (Bool)
 | 0, _, _, _, _ => none
 | k + 1, x1, x5, x313000, x313001 => if x5 < (x1.length : Int) then (if 0 ≤ x5 then ((spec_l03Point.f x313000 x313001 (wrap64 ((rd_T43 x1 x5).f0)) (wrap64 ((rd_T43 x1 x5).f1))).bind fun t315 => (if t315 = true then (spec_l03In.l0 k x1 (wrap64 (x5 + 1)) x313000 x313001) else (some false))) else (none)) else (some true)
def spec_l03In.f (k : Nat) (a0_0 : Int) (a0_1 : Int) (l1 : List (S43)) : Option (Bool) := spec_l03In.l0 k l1 0 a0_0 a0_1
theorem spec_l03In.mono_l : ∀ k, (∀ y0 y1 y2 y3, LeO (spec_l03In.l0 k y0 y1 y2 y3) (spec_l03In.l0 (k + 1) y0 y1 y2 y3))
 | 0 => fun _ _ _ _ r h => by simp [spec_l03In.l0] at h
 | k + 1 => by
  have ih0 := spec_l03In.mono_l k
  ·
   intro y0 y1 y2 y3
   unfold spec_l03In.l0
   repeat' first
   | (with_reducible exact ih0 _ _ _ _)
   | (with_reducible exact LeO.refl _)
   | (with_reducible exact LeO.none _)
   | (with_reducible refine LeO.ite ?_ ?_)
   | (with_reducible refine LeO.bind ?_ (fun _ => ?_))
theorem spec_l03In.mono : ∀ a0 a1 a2 k, LeO (spec_l03In.f k a0 a1 a2) (spec_l03In.f (k + 1) a0 a1 a2) := by
 intro a0 a1 a2 k
 have ih0 := spec_l03In.mono_l k
 unfold spec_l03In.f
 repeat' first
   | (with_reducible exact ih0 _ _ _ _)
   | (with_reducible exact LeO.refl _)
   | (with_reducible exact LeO.none _)
   | (with_reducible refine LeO.ite ?_ ?_)
   | (with_reducible refine LeO.bind ?_ (fun _ => ?_))
def spec_l03In.T4 : Bool × List (List Nat × List Nat) := (true, [([], []), ([], []), ([], []), ([1, 2], [1, 2]), ([3], [3]), ([4], [4]), ([5], [5]), ([], []), ([], []), ([7, 8], [7, 8]), ([9], [9]), ([10], [10]), ([11], [11]), ([0, 6, 12], [0, 6, 12]), ([13], [13])])
def spec_l03In.B4 : List Nat := [0, 0, 0, 6, 14, 30, 62, 0, 0, 384, 896, 1920, 3968, 8191, 16383]
theorem spec_l03In.tab4 : rtab .any (opsOf Try.f52 4) = spec_l03In.T4 := by kernel_rfl
theorem spec_l03In.bits4 : waitsOk spec_l03In.T4.2 spec_l03In.B4 = true := by kernel_rfl
set_option maxHeartbeats 8000000 in
set_option maxRecDepth 100000 in
theorem spec_l03In.calls (k : Nat) (a0_0 : Int) (a0_1 : Int) (A1 : Option Addr) (c1 : Nat) (l1 : List (S43)) (r : Bool) (w : World) (hr1 : Kd.C k43 w A1 l1.length l1) (hc1 : l1.length ≤ c1) (h : spec_l03In.f k a0_0 a0_1 l1 = some r) :
  Calls Try.prog 52 #[.agg #[.int .i16 a0_0, .int .i16 a0_1], .slice A1 l1.length c1] w fun e w' => e = .returned (.bool r) ∧ Below w.heap.size w w' := by
 have hu26 := Try.underlying26
 have HR1 := Aside0.mk hr1
 have HC1 := Aside0.mk hc1
 clear hr1 hc1
 have HB := Aside0.mk (Below.refl w.heap.size w)
 have H : (spec_l03In.l0 k l1 0 a0_0 a0_1) = some r := h
 clear h
 have H' := Aside0.mk H
 clear H
 go_enter Try.func52, Try.ntmps52
 go_wp2_with (first | ((with_reducible refine gate_dst (N := 2) rfl ?_); refine boxM_ 2 #[.int .i16 a0_0, .int .i16 a0_1] 26 ?_; intro gb312 hg w3 hbox hb; have BK312 := Aside0.mk (hbox); have GW312 := ge_ HB hg; have GE312 := ge_ HB hg; replace HB := bs_ HB hb; clear hb hbox hg))
 go_loopg [5] k (fun kq v5 w' => ∃ (x5_1 : Int), v5 = .int .i64 x5_1 ∧ Aside0 (spec_l03In.l0 kq l1 x5_1 a0_0 a0_1 = some r) ∧ Aside0 (kq ≤ k) ∧ Aside0 (w'.heap[gb312]? = some (.cells #[.int .i16 a0_0, .int .i16 a0_1] 26 (0, 0))) ∧ Aside0 (Below w.heap.size w w'))
 case atStart => exact ⟨(0), (by first | rfl | (simp; done) | (simp [*]; done)), H', ⟨Nat.le_refl _⟩, ⟨bk_ BK312⟩, ⟨bl_ HB⟩⟩
 case round =>
  clear H'
  obtain ⟨x5_1, rfl, HA, HK1, BK312, HB⟩ := hrel
  rcases gk with _ | k1
  · exact absurd HA.out (by simp [spec_l03In.l0])
  have H := HA.out
  clear HA
  simp only [spec_l03In.l0] at H
  rcases (Decidable.em (x5_1 < (l1.length : Int))).symm with c4 | c4
  ·
   rw [if_neg c4] at H
   have c4b0 : decide (x5_1 < (l1.length : Int)) = false := decide_eq_false c4
   clear c4
   obtain rfl := Option.some.inj H
   go_wp2
   go_ret
   exact ⟨rt_, bl_ HB⟩

  rw [if_pos c4] at H
  have c4b0 : decide (x5_1 < (l1.length : Int)) = true := decide_eq_true c4
  clear c4
  obtain ⟨(c5 : 0 ≤ x5_1), H⟩ := gd_ H
  have c5b0 : decide (0 ≤ x5_1) = true := decide_eq_true c5
  clear c5
  replace H := Option.bind_eq_some_iff.mp H
  obtain ⟨t315, A60, H⟩ := H
  (try dsimp only at H)
  have A6 := Aside0.mk A60
  clear A60
  rcases (Decidable.em (t315 = true)).symm with c7 | c7
  ·
   replace c7 := Bool.eq_false_iff.mpr c7
   subst c7
   replace H := gf_ H
   obtain rfl := Option.some.inj H
   try go_wp2
   have n0_ := Aside0.mk (blk_drew BK312.out)
   have n1_ := Aside0.mk (below_drew1 HB.out)
   clear BK312
   clear HB
   have BK312 := n0_
   have HB := n1_
   clear n0_ n1_
   have p313 : 0 ≤ (x5_1 : Int) := od_
   have q313 : x5_1 < (l1.length : Int) := od_
   obtain ⟨ad313, e313, hx313_0, hx313_1⟩ := at_T43 HR1.out x5_1 p313 q313
   have hw313_1 := hx313_1
   have hw313_0 := hx313_0
   cases e313
   replace hx313_0 := (hw_ HB hx313_0 :)
   replace hx313_1 := (hw_ HB hx313_1 :)
   replace p313 := eq_true p313
   replace q313 := eq_true q313
   have p314 : 0 ≤ (x5_1 : Int) := od_
   have q314 : x5_1 < (l1.length : Int) := od_
   obtain ⟨ad314, e314, hx314_0, hx314_1⟩ := at_T43 HR1.out x5_1 p314 q314
   have hw314_1 := hx314_1
   have hw314_0 := hx314_0
   obtain rfl : ad313 = ad314 := (by injection e314)
   replace hx314_0 := (hw_ HB hx314_0 :)
   replace hx314_1 := (hw_ HB hx314_1 :)
   replace p314 := eq_true p314
   replace q314 := eq_true q314
   refine start_ (n := 15) (S := fun w' => w'.cell? ⟨gb312, 0, none⟩ = some (.int .i16 a0_0) ∧ w'.cell? ⟨gb312, 1, none⟩ = some (.int .i16 a0_1) ∧ w'.cell? (ad313.add ((x5_1).toNat * 2)) = some (.int .i16 ((rd_T43 l1 x5_1).f0)) ∧ w'.cell? ⟨(ad313.add ((x5_1).toNat * 2)).block, (ad313.add ((x5_1).toNat * 2)).off + 1, none⟩ = some (.int .i16 ((rd_T43 l1 x5_1).f1)) ∧ w'.cell? (ad313.add ((x5_1).toNat * 2)) = some (.int .i16 ((rd_T43 l1 x5_1).f0)) ∧ w'.cell? ⟨(ad313.add ((x5_1).toNat * 2)).block, (ad313.add ((x5_1).toNat * 2)).off + 1, none⟩ = some (.int .i16 ((rd_T43 l1 x5_1).f1))) (ds := []) #[false, false, false, false, false, false, false, false, false, false, false, false, false, false, false] (by kernel_rfl) rfl rfl ⟨(blk_cell BK312.out 0).trans rfl, (blk_cell BK312.out 1).trans rfl, ((hw_ HB hw313_0 :)), ((hw_ HB hw313_1 :)), ((hw_ HB hw314_0 :)), ((hw_ HB hw314_1 :))⟩ (fun hHeld => ?_); refine with_tabW spec_l03In.tab4 spec_l03In.bits4 (fun HT_ HW_ => ?_)
   generalize wr.drew = w10 at BK312 HB hx313_0 hx313_1 hx314_0 hx314_1 hHeld ⊢
   refine pu_ 1 13 (lA 15 2) ?_ ?_ HT_ ?_
   refine pu_ 2 14 (lA 15 6) ?_ ?_ HT_ ?_
   refine pu_ 3 15 (lA 15 14) ?_ ?_ HT_ ?_
   refine pu_ 4 16 (lA 15 30) ?_ ?_ HT_ ?_
   refine pu_ 7 19 (lA 15 158) ?_ ?_ HT_ ?_
   refine pu_ 8 20 (lA 15 414) ?_ ?_ HT_ ?_
   refine pu_ 9 21 (lA 15 926) ?_ ?_ HT_ ?_
   refine pu_ 10 22 (lA 15 1950) ?_ ?_ HT_ ?_
   refine tk_ 0 12 (lA 15 1951) ?_ ?_ HT_ HW_ hHeld ?_
   refine tk_ 5 17 (lA 15 1983) ?_ ?_ HT_ HW_ hHeld ?_
   refine pu_ 6 18 (lA 15 2047) ?_ ?_ HT_ ?_
   refine tk_ 11 23 (lA 15 4095) ?_ ?_ HT_ HW_ hHeld ?_
   refine pu_ 12 24 (lA 15 8191) ?_ ?_ HT_ ?_
   refine one_ (i := 13) (N := some 25) #[true, true, true, true, true, true, true, true, true, true, true, true, true, true, false] rfl rfl (one_of HT_.out (by kernel_rfl)) (by decide) (fun K hK => ?_)
   refine goes_ Try.func69 (by kernel_rfl) rfl #[.agg #[.int .i16 a0_0, .int .i16 a0_1], .int .i64 (wrap64 ((rd_T43 l1 x5_1).f0)), .int .i64 (wrap64 ((rd_T43 l1 x5_1).f1))] (by rfl) rfl rfl (by (try simp only [List.map_toArray, List.map_cons, List.map_nil]); first | done | rfl | (simp only [List.length_drop, List.length_take]; rfl)) ?_
   with_reducible refine (spec_l03Point.calls a0_0 a0_1 (wrap64 ((rd_T43 l1 x5_1).f0)) (wrap64 ((rd_T43 l1 x5_1).f1)) false _ A6.out).mono ?_
   rintro e w11 ⟨rfl, hb⟩
   refine ⟨_, rfl, ?_⟩
   have n0_ := bd_ BK312 hb
   have n1_ := bs_ HB hb
   clear BK312
   clear HB
   have BK312 := n0_
   have HB := n1_
   clear n0_ n1_
   refine hK.out _ _ ⟨(blk_cell BK312.out 0).trans rfl, (blk_cell BK312.out 1).trans rfl, ((hw_ HB hw313_0 :)), ((hw_ HB hw313_1 :)), ((hw_ HB hw314_0 :)), ((hw_ HB hw314_1 :))⟩ (fun hHeld => ?_)
   clear hK K
   refine norm_ (a' := ?_) ?_ ?_
   rotate_left
   ·
    show Act.put _ (some 25) _ = _
    simp only [Act.put, List.setIfInBounds_toArray, List.set_cons_zero, List.set_cons_succ, i64_w, i32_w]
    rfl
   refine pu_ 14 26 (lA 15 32767) ?_ ?_ HT_ ?_
   refine done_ (done_of HT_.out (by kernel_rfl)) ?_
   try go_wp2
   go_ret
   exact ⟨rt_, bl_ HB⟩
  subst c7
  replace H := gt_ H
  have H' := Aside0.mk H
  clear H
  try go_wp2
  have n0_ := Aside0.mk (blk_drew BK312.out)
  have n1_ := Aside0.mk (below_drew1 HB.out)
  clear BK312
  clear HB
  have BK312 := n0_
  have HB := n1_
  clear n0_ n1_
  have p313 : 0 ≤ (x5_1 : Int) := od_
  have q313 : x5_1 < (l1.length : Int) := od_
  obtain ⟨ad313, e313, hx313_0, hx313_1⟩ := at_T43 HR1.out x5_1 p313 q313
  have hw313_1 := hx313_1
  have hw313_0 := hx313_0
  cases e313
  replace hx313_0 := (hw_ HB hx313_0 :)
  replace hx313_1 := (hw_ HB hx313_1 :)
  replace p313 := eq_true p313
  replace q313 := eq_true q313
  have p314 : 0 ≤ (x5_1 : Int) := od_
  have q314 : x5_1 < (l1.length : Int) := od_
  obtain ⟨ad314, e314, hx314_0, hx314_1⟩ := at_T43 HR1.out x5_1 p314 q314
  have hw314_1 := hx314_1
  have hw314_0 := hx314_0
  obtain rfl : ad313 = ad314 := (by injection e314)
  replace hx314_0 := (hw_ HB hx314_0 :)
  replace hx314_1 := (hw_ HB hx314_1 :)
  replace p314 := eq_true p314
  replace q314 := eq_true q314
  refine start_ (n := 15) (S := fun w' => w'.cell? ⟨gb312, 0, none⟩ = some (.int .i16 a0_0) ∧ w'.cell? ⟨gb312, 1, none⟩ = some (.int .i16 a0_1) ∧ w'.cell? (ad313.add ((x5_1).toNat * 2)) = some (.int .i16 ((rd_T43 l1 x5_1).f0)) ∧ w'.cell? ⟨(ad313.add ((x5_1).toNat * 2)).block, (ad313.add ((x5_1).toNat * 2)).off + 1, none⟩ = some (.int .i16 ((rd_T43 l1 x5_1).f1)) ∧ w'.cell? (ad313.add ((x5_1).toNat * 2)) = some (.int .i16 ((rd_T43 l1 x5_1).f0)) ∧ w'.cell? ⟨(ad313.add ((x5_1).toNat * 2)).block, (ad313.add ((x5_1).toNat * 2)).off + 1, none⟩ = some (.int .i16 ((rd_T43 l1 x5_1).f1))) (ds := []) #[false, false, false, false, false, false, false, false, false, false, false, false, false, false, false] (by kernel_rfl) rfl rfl ⟨(blk_cell BK312.out 0).trans rfl, (blk_cell BK312.out 1).trans rfl, ((hw_ HB hw313_0 :)), ((hw_ HB hw313_1 :)), ((hw_ HB hw314_0 :)), ((hw_ HB hw314_1 :))⟩ (fun hHeld => ?_); refine with_tabW spec_l03In.tab4 spec_l03In.bits4 (fun HT_ HW_ => ?_)
  generalize wr.drew = w8 at BK312 HB hx313_0 hx313_1 hx314_0 hx314_1 hHeld ⊢
  refine pu_ 1 13 (lA 15 2) ?_ ?_ HT_ ?_
  refine pu_ 2 14 (lA 15 6) ?_ ?_ HT_ ?_
  refine pu_ 3 15 (lA 15 14) ?_ ?_ HT_ ?_
  refine pu_ 4 16 (lA 15 30) ?_ ?_ HT_ ?_
  refine pu_ 7 19 (lA 15 158) ?_ ?_ HT_ ?_
  refine pu_ 8 20 (lA 15 414) ?_ ?_ HT_ ?_
  refine pu_ 9 21 (lA 15 926) ?_ ?_ HT_ ?_
  refine pu_ 10 22 (lA 15 1950) ?_ ?_ HT_ ?_
  refine tk_ 0 12 (lA 15 1951) ?_ ?_ HT_ HW_ hHeld ?_
  refine tk_ 5 17 (lA 15 1983) ?_ ?_ HT_ HW_ hHeld ?_
  refine pu_ 6 18 (lA 15 2047) ?_ ?_ HT_ ?_
  refine tk_ 11 23 (lA 15 4095) ?_ ?_ HT_ HW_ hHeld ?_
  refine pu_ 12 24 (lA 15 8191) ?_ ?_ HT_ ?_
  refine one_ (i := 13) (N := some 25) #[true, true, true, true, true, true, true, true, true, true, true, true, true, true, false] rfl rfl (one_of HT_.out (by kernel_rfl)) (by decide) (fun K hK => ?_)
  refine goes_ Try.func69 (by kernel_rfl) rfl #[.agg #[.int .i16 a0_0, .int .i16 a0_1], .int .i64 (wrap64 ((rd_T43 l1 x5_1).f0)), .int .i64 (wrap64 ((rd_T43 l1 x5_1).f1))] (by rfl) rfl rfl (by (try simp only [List.map_toArray, List.map_cons, List.map_nil]); first | done | rfl | (simp only [List.length_drop, List.length_take]; rfl)) ?_
  with_reducible refine (spec_l03Point.calls a0_0 a0_1 (wrap64 ((rd_T43 l1 x5_1).f0)) (wrap64 ((rd_T43 l1 x5_1).f1)) true _ A6.out).mono ?_
  rintro e w9 ⟨rfl, hb⟩
  refine ⟨_, rfl, ?_⟩
  have n0_ := bd_ BK312 hb
  have n1_ := bs_ HB hb
  clear BK312
  clear HB
  have BK312 := n0_
  have HB := n1_
  clear n0_ n1_
  refine hK.out _ _ ⟨(blk_cell BK312.out 0).trans rfl, (blk_cell BK312.out 1).trans rfl, ((hw_ HB hw313_0 :)), ((hw_ HB hw313_1 :)), ((hw_ HB hw314_0 :)), ((hw_ HB hw314_1 :))⟩ (fun hHeld => ?_)
  clear hK K
  refine norm_ (a' := ?_) ?_ ?_
  rotate_left
  ·
   show Act.put _ (some 25) _ = _
   simp only [Act.put, List.setIfInBounds_toArray, List.set_cons_zero, List.set_cons_succ, i64_w, i32_w]
   rfl
  refine pu_ 14 26 (lA 15 32767) ?_ ?_ HT_ ?_
  refine done_ (done_of HT_.out (by kernel_rfl)) ?_
  try go_wp2
  go_roundg k1
  case measure => have := HK1.out; omega
  case rel => exact ⟨(wrap64 (x5_1 + 1)), (by first | rfl | (simp; done) | (simp [*]; done)), H', ⟨by have := HK1.out; omega⟩, ⟨bk_ BK312⟩, ⟨bl_ HB⟩⟩
/-! ### spec_l03Fault: function 29 -/
mutual
def spec_l03Fault.l0 : Nat → List (List (S43)) → Int → Int → Int → Option (Int × Int × Bool)
 | 0, _, _, _, _ => none
 | k + 1, x1, x7, x324000, x324001 => if x7 < (x1.length : Int) then (if 0 ≤ x7 then ((spec_l03In.f k x324000 x324001 (rd_L3 x1 x7)).bind fun t325 => (if t325 = true then (spec_l03Fault.l0 k x1 (wrap64 (x7 + 1)) x324000 x324001) else (some (x7, (-1), true)))) else (none)) else (spec_l03Fault.l1 k x1 0)
def spec_l03Fault.l1 : Nat → List (List (S43)) → Int → Option (Int × Int × Bool)
 | 0, _, _ => none
 | k + 1, x1, x8 => if x8 < (x1.length : Int) then (spec_l03Fault.l2 k x1 x8 (wrap64 (x8 + 1))) else (some (0, 0, false))
def spec_l03Fault.l2 : Nat → List (List (S43)) → Int → Int → Option (Int × Int × Bool)
 | 0, _, _, _ => none
 | k + 1, x1, x8, x9 => if x9 < (x1.length : Int) then (if 0 ≤ x8 then (if x8 < (x1.length : Int) then (if 0 ≤ x9 then ((spec_l03Over.f k (rd_L3 x1 x8) (rd_L3 x1 x9)).bind fun t328 => (if t328 = true then (some (x8, x9, true)) else (spec_l03Fault.l2 k x1 x8 (wrap64 (x9 + 1))))) else (none)) else (none)) else (none)) else (spec_l03Fault.l1 k x1 (wrap64 (x8 + 1)))
end
def spec_l03Fault.f (k : Nat) (a0_0 : Int) (a0_1 : Int) (l1 : List (List (S43))) : Option (Int × Int × Bool) := spec_l03Fault.l0 k l1 0 a0_0 a0_1
theorem spec_l03Fault.mono_l : ∀ k, (∀ y0 y1 y2 y3, LeO (spec_l03Fault.l0 k y0 y1 y2 y3) (spec_l03Fault.l0 (k + 1) y0 y1 y2 y3)) ∧ (∀ y0 y1, LeO (spec_l03Fault.l1 k y0 y1) (spec_l03Fault.l1 (k + 1) y0 y1)) ∧ (∀ y0 y1 y2, LeO (spec_l03Fault.l2 k y0 y1 y2) (spec_l03Fault.l2 (k + 1) y0 y1 y2))
 | 0 => ⟨fun _ _ _ _ r h => by simp [spec_l03Fault.l0] at h, fun _ _ r h => by simp [spec_l03Fault.l1] at h, fun _ _ _ r h => by simp [spec_l03Fault.l2] at h⟩
 | k + 1 => by
  obtain ⟨ih0, ih1, ih2⟩ := spec_l03Fault.mono_l k
  refine ⟨?_, ?_, ?_⟩ <;> intros
  all_goals first | unfold spec_l03Fault.l0 | unfold spec_l03Fault.l1 | unfold spec_l03Fault.l2
  all_goals repeat' first
  | (with_reducible exact ih0 _ _ _ _)
  | (with_reducible exact ih1 _ _)
  | (with_reducible exact ih2 _ _ _)
  | (with_reducible exact spec_l03In.mono _ _ _ _)
  | (with_reducible exact spec_l03Over.mono _ _ _)
  | (with_reducible exact LeO.refl _)
  | (with_reducible exact LeO.none _)
  | (with_reducible refine LeO.ite ?_ ?_)
  | (with_reducible refine LeO.bind ?_ (fun _ => ?_))
theorem spec_l03Fault.mono : ∀ a0 a1 a2 k, LeO (spec_l03Fault.f k a0 a1 a2) (spec_l03Fault.f (k + 1) a0 a1 a2) := by
 intro a0 a1 a2 k
 obtain ⟨ih0, ih1, ih2⟩ := spec_l03Fault.mono_l k
 unfold spec_l03Fault.f
 repeat' first
   | (with_reducible exact ih0 _ _ _ _)
   | (with_reducible exact ih1 _ _)
   | (with_reducible exact ih2 _ _ _)
   | (with_reducible exact spec_l03In.mono _ _ _ _)
   | (with_reducible exact spec_l03Over.mono _ _ _)
   | (with_reducible exact LeO.refl _)
   | (with_reducible exact LeO.none _)
   | (with_reducible refine LeO.ite ?_ ?_)
   | (with_reducible refine LeO.bind ?_ (fun _ => ?_))
def spec_l03Fault.T12 : Bool × List (List Nat × List Nat) := (true, [([], []), ([], []), ([0, 1], [0, 1]), ([2], [2]), ([], []), ([], []), ([4, 5], [4, 5]), ([6], [6]), ([3, 7], [3, 7])])
def spec_l03Fault.B12 : List Nat := [0, 0, 3, 7, 0, 0, 48, 112, 255]
theorem spec_l03Fault.tab12 : rtab .any (opsOf Try.f29 12) = spec_l03Fault.T12 := by kernel_rfl
theorem spec_l03Fault.bits12 : waitsOk spec_l03Fault.T12.2 spec_l03Fault.B12 = true := by kernel_rfl
set_option maxHeartbeats 8000000 in
set_option maxRecDepth 100000 in
theorem spec_l03Fault.calls (k : Nat) (a0_0 : Int) (a0_1 : Int) (A1 : Option Addr) (c1 : Nat) (l1 : List (List (S43))) (r1 : Int) (r2 : Int) (r3 : Bool) (w : World) (hr1 : Kd.C (Kd.slice 43 k43) w A1 l1.length l1) (hc1 : l1.length ≤ c1) (h : spec_l03Fault.f k a0_0 a0_1 l1 = some (r1, r2, r3)) :
  Calls Try.prog 29 #[.agg #[.int .i16 a0_0, .int .i16 a0_1], .slice A1 l1.length c1] w fun e w' => e = .returned (.tuple #[.int .i64 r1, .int .i64 r2, .bool r3]) ∧ Below w.heap.size w w' := by
 have hu26 := Try.underlying26
 have HR1 := Aside0.mk hr1
 have HC1 := Aside0.mk hc1
 clear hr1 hc1
 have HB := Aside0.mk (Below.refl w.heap.size w)
 have H : (spec_l03Fault.l0 k l1 0 a0_0 a0_1) = some (r1, r2, r3) := h
 clear h
 have H' := Aside0.mk H
 clear H
 go_enter Try.func29, Try.ntmps29
 go_wp2_with (first | ((with_reducible refine gate_dst (N := 2) rfl ?_); refine boxM_ 2 #[.int .i16 a0_0, .int .i16 a0_1] 26 ?_; intro gb323 hg w3 hbox hb; have BK323 := Aside0.mk (hbox); have GW323 := ge_ HB hg; have GE323 := ge_ HB hg; replace HB := bs_ HB hb; clear hb hbox hg))
 go_loopg [7] k (fun kq v7 w' => ∃ (x7_1 : Int), v7 = .int .i64 x7_1 ∧ Aside0 (spec_l03Fault.l0 kq l1 x7_1 a0_0 a0_1 = some (r1, r2, r3)) ∧ Aside0 (kq ≤ k) ∧ Aside0 (w'.heap[gb323]? = some (.cells #[.int .i16 a0_0, .int .i16 a0_1] 26 (0, 0))) ∧ Aside0 (Below w.heap.size w w'))
 case atStart => exact ⟨(0), (by first | rfl | (simp; done) | (simp [*]; done)), H', ⟨Nat.le_refl _⟩, ⟨bk_ BK323⟩, ⟨bl_ HB⟩⟩
 case round =>
  clear H'
  obtain ⟨x7_1, rfl, HA, HK1, BK323, HB⟩ := hrel
  rcases gk with _ | k1
  · exact absurd HA.out (by simp [spec_l03Fault.l0])
  have H := HA.out
  clear HA
  simp only [spec_l03Fault.l0] at H
  rcases (Decidable.em (x7_1 < (l1.length : Int))).symm with c4 | c4
  ·
   rw [if_neg c4] at H
   have c4b0 : decide (x7_1 < (l1.length : Int)) = false := decide_eq_false c4
   clear c4
   have H' := Aside0.mk H
   clear H
   go_wp2
   go_loopg [8] k1 (fun kq v8 w' => ∃ (x8_2 : Int), v8 = .int .i64 x8_2 ∧ Aside0 (spec_l03Fault.l1 kq l1 x8_2 = some (r1, r2, r3)) ∧ Aside0 (kq ≤ k1) ∧ Aside0 (w'.heap[gb323]? = some (.cells #[.int .i16 a0_0, .int .i16 a0_1] 26 (0, 0))) ∧ Aside0 (Below w.heap.size w w'))
   case atStart => exact ⟨(0), (by first | rfl | (simp; done) | (simp [*]; done)), H', ⟨Nat.le_refl _⟩, ⟨bk_ BK323⟩, ⟨bl_ HB⟩⟩
   case round =>
    clear H'
    obtain ⟨x8_2, rfl, HA, HK2, BK323, HB⟩ := hrel
    rcases gk with _ | k2
    · exact absurd HA.out (by simp [spec_l03Fault.l1])
    have H := HA.out
    clear HA
    simp only [spec_l03Fault.l1] at H
    rcases (Decidable.em (x8_2 < (l1.length : Int))).symm with c12 | c12
    ·
     rw [if_neg c12] at H
     have c12b0 : decide (x8_2 < (l1.length : Int)) = false := decide_eq_false c12
     clear c12
     simp only [Option.some.injEq, Prod.mk.injEq] at H
     obtain ⟨rfl, rfl, rfl⟩ := H
     go_wp2
     go_ret3
     exact ⟨rt_, bl_ HB⟩

    rw [if_pos c12] at H
    have c12b0 : decide (x8_2 < (l1.length : Int)) = true := decide_eq_true c12
    clear c12
    have H' := Aside0.mk H
    clear H
    go_wp2
    go_loopg [9] k2 (fun kq v9 w' => ∃ (x9_3 : Int), v9 = .int .i64 x9_3 ∧ Aside0 (spec_l03Fault.l2 kq l1 x8_2 x9_3 = some (r1, r2, r3)) ∧ Aside0 (kq ≤ k2) ∧ Aside0 (w'.heap[gb323]? = some (.cells #[.int .i16 a0_0, .int .i16 a0_1] 26 (0, 0))) ∧ Aside0 (Below w.heap.size w w'))
    case atStart => exact ⟨(wrap64 (x8_2 + 1)), (by first | rfl | (simp; done) | (simp [*]; done)), H', ⟨Nat.le_refl _⟩, ⟨bk_ BK323⟩, ⟨bl_ HB⟩⟩
    case round =>
     clear H'
     obtain ⟨x9_3, rfl, HA, HK3, BK323, HB⟩ := hrel
     rcases gk with _ | k3
     · exact absurd HA.out (by simp [spec_l03Fault.l2])
     have H := HA.out
     clear HA
     simp only [spec_l03Fault.l2] at H
     rcases (Decidable.em (x9_3 < (l1.length : Int))).symm with c13 | c13
     ·
      rw [if_neg c13] at H
      have c13b0 : decide (x9_3 < (l1.length : Int)) = false := decide_eq_false c13
      clear c13
      have H' := Aside0.mk H
      clear H
      go_wp2
      go_roundg k3
      case measure => have := HK1.out; have := HK2.out; have := HK3.out; omega
      case rel => exact ⟨(wrap64 (x8_2 + 1)), (by first | rfl | (simp; done) | (simp [*]; done)), H', ⟨by have := HK1.out; have := HK2.out; have := HK3.out; omega⟩, ⟨bk_ BK323⟩, ⟨bl_ HB⟩⟩
     rw [if_pos c13] at H
     have c13b0 : decide (x9_3 < (l1.length : Int)) = true := decide_eq_true c13
     clear c13
     obtain ⟨(c14 : 0 ≤ x8_2), H⟩ := gd_ H
     have c14b0 : decide (0 ≤ x8_2) = true := decide_eq_true c14
     clear c14
     obtain ⟨(c15 : x8_2 < (l1.length : Int)), H⟩ := gd_ H
     have c15b0 : decide (x8_2 < (l1.length : Int)) = true := decide_eq_true c15
     clear c15
     obtain ⟨(c16 : 0 ≤ x9_3), H⟩ := gd_ H
     have c16b0 : decide (0 ≤ x9_3) = true := decide_eq_true c16
     clear c16
     replace H := Option.bind_eq_some_iff.mp H
     obtain ⟨t328, A170, H⟩ := H
     (try dsimp only at H)
     have A17 := Aside0.mk A170
     clear A170
     by_cases c18 : t328 = true
     ·
      subst c18
      replace H := gt_ H
      simp only [Option.some.injEq, Prod.mk.injEq] at H
      obtain ⟨rfl, rfl, rfl⟩ := H
      try go_wp2
      have n0_ := Aside0.mk (blk_drew BK323.out)
      have n1_ := Aside0.mk (below_drew1 HB.out)
      clear BK323
      clear HB
      have BK323 := n0_
      have HB := n1_
      clear n0_ n1_
      have p326 : 0 ≤ (x8_2 : Int) := od_
      have q326 : x8_2 < (l1.length : Int) := od_
      obtain ⟨ad326, A326_0, c326_0, e326, hx326_0, hl326_0, hi326_0⟩ := at_L3 HR1.out x8_2 p326 q326
      have hw326_0 := hx326_0
      cases e326
      replace hx326_0 := (hw_ HB hx326_0 :)
      have HR326_0 := Aside0.mk hi326_0
      have HC326_0 := Aside0.mk hl326_0
      clear hi326_0 hl326_0
      replace p326 := eq_true p326
      replace q326 := eq_true q326
      have p327 : 0 ≤ (x9_3 : Int) := od_
      have q327 : x9_3 < (l1.length : Int) := od_
      obtain ⟨ad327, A327_0, c327_0, e327, hx327_0, hl327_0, hi327_0⟩ := at_L3 HR1.out x9_3 p327 q327
      have hw327_0 := hx327_0
      obtain rfl : ad326 = ad327 := (by injection e327)
      replace hx327_0 := (hw_ HB hx327_0 :)
      have HR327_0 := Aside0.mk hi327_0
      have HC327_0 := Aside0.mk hl327_0
      clear hi327_0 hl327_0
      replace p327 := eq_true p327
      replace q327 := eq_true q327
      refine start_ (n := 9) (S := fun w' => w'.cell? (ad326.add (x8_2).toNat) = some (.slice A326_0 (rd_L3 l1 x8_2).length c326_0) ∧ w'.cell? (ad326.add (x9_3).toNat) = some (.slice A327_0 (rd_L3 l1 x9_3).length c327_0)) (ds := []) #[false, false, false, false, false, false, false, false, false] (by kernel_rfl) rfl rfl ⟨((hw_ HB hw326_0 :)), ((hw_ HB hw327_0 :))⟩ (fun hHeld => ?_); refine with_tabW spec_l03Fault.tab12 spec_l03Fault.bits12 (fun HT_ HW_ => ?_)
      generalize wr.drew = w19 at BK323 HB HR326_0 HR327_0 hx326_0 hx327_0 hHeld ⊢
      refine pu_ 0 38 (lA 9 1) ?_ ?_ HT_ ?_
      refine pu_ 1 39 (lA 9 3) ?_ ?_ HT_ ?_
      refine pu_ 2 40 (lA 9 7) ?_ ?_ HT_ ?_
      refine pu_ 4 42 (lA 9 23) ?_ ?_ HT_ ?_
      refine pu_ 5 43 (lA 9 55) ?_ ?_ HT_ ?_
      refine pu_ 6 44 (lA 9 119) ?_ ?_ HT_ ?_
      refine tk_ 3 41 (lA 9 127) ?_ ?_ HT_ HW_ hHeld ?_
      refine tk_ 7 45 (lA 9 255) ?_ ?_ HT_ HW_ hHeld ?_
      refine one_ (i := 8) (N := some 46) #[true, true, true, true, true, true, true, true, true] rfl rfl (one_of HT_.out (by kernel_rfl)) (by decide) (fun K hK => ?_)
      refine goes_ Try.func53 (by kernel_rfl) rfl #[.slice A326_0 (rd_L3 l1 x8_2).length c326_0, .slice A327_0 (rd_L3 l1 x9_3).length c327_0] (by rfl) rfl rfl (by (try simp only [List.map_toArray, List.map_cons, List.map_nil]); first | done | rfl | (simp only [List.length_drop, List.length_take]; rfl)) ?_
      with_reducible refine (spec_l03Over.calls k3 _ _ (rd_L3 l1 x8_2) _ _ (rd_L3 l1 x9_3) true _ ?side1 ?side2 ?side3 ?side4 A17.out).mono ?_
      (case side1 => exact kc_ (Kd.C_below HR326_0.out HB.out))
      (case side2 => exact HC326_0.out)
      (case side3 => exact kc_ (Kd.C_below HR327_0.out HB.out))
      (case side4 => exact HC327_0.out)
      rintro e w20 ⟨rfl, hb⟩
      refine ⟨_, rfl, ?_⟩
      have n0_ := bd_ BK323 hb
      have n1_ := bs_ HB hb
      clear BK323
      clear HB
      have BK323 := n0_
      have HB := n1_
      clear n0_ n1_
      refine hK.out _ _ ⟨((hw_ HB hw326_0 :)), ((hw_ HB hw327_0 :))⟩ (fun hHeld => ?_)
      clear hK K
      refine norm_ (a' := ?_) ?_ ?_
      rotate_left
      ·
       show Act.put _ (some 46) _ = _
       simp only [Act.put, List.setIfInBounds_toArray, List.set_cons_zero, List.set_cons_succ, i64_w, i32_w]
       rfl
      refine done_ (done_of HT_.out (by kernel_rfl)) ?_
      try go_wp2
      go_ret3
      exact ⟨rt_, bl_ HB⟩
     replace c18 := Bool.eq_false_iff.mpr c18
     subst c18
     replace H := gf_ H
     have H' := Aside0.mk H
     clear H
     try go_wp2
     have n0_ := Aside0.mk (blk_drew BK323.out)
     have n1_ := Aside0.mk (below_drew1 HB.out)
     clear BK323
     clear HB
     have BK323 := n0_
     have HB := n1_
     clear n0_ n1_
     have p326 : 0 ≤ (x8_2 : Int) := od_
     have q326 : x8_2 < (l1.length : Int) := od_
     obtain ⟨ad326, A326_0, c326_0, e326, hx326_0, hl326_0, hi326_0⟩ := at_L3 HR1.out x8_2 p326 q326
     have hw326_0 := hx326_0
     cases e326
     replace hx326_0 := (hw_ HB hx326_0 :)
     have HR326_0 := Aside0.mk hi326_0
     have HC326_0 := Aside0.mk hl326_0
     clear hi326_0 hl326_0
     replace p326 := eq_true p326
     replace q326 := eq_true q326
     have p327 : 0 ≤ (x9_3 : Int) := od_
     have q327 : x9_3 < (l1.length : Int) := od_
     obtain ⟨ad327, A327_0, c327_0, e327, hx327_0, hl327_0, hi327_0⟩ := at_L3 HR1.out x9_3 p327 q327
     have hw327_0 := hx327_0
     obtain rfl : ad326 = ad327 := (by injection e327)
     replace hx327_0 := (hw_ HB hx327_0 :)
     have HR327_0 := Aside0.mk hi327_0
     have HC327_0 := Aside0.mk hl327_0
     clear hi327_0 hl327_0
     replace p327 := eq_true p327
     replace q327 := eq_true q327
     refine start_ (n := 9) (S := fun w' => w'.cell? (ad326.add (x8_2).toNat) = some (.slice A326_0 (rd_L3 l1 x8_2).length c326_0) ∧ w'.cell? (ad326.add (x9_3).toNat) = some (.slice A327_0 (rd_L3 l1 x9_3).length c327_0)) (ds := []) #[false, false, false, false, false, false, false, false, false] (by kernel_rfl) rfl rfl ⟨((hw_ HB hw326_0 :)), ((hw_ HB hw327_0 :))⟩ (fun hHeld => ?_); refine with_tabW spec_l03Fault.tab12 spec_l03Fault.bits12 (fun HT_ HW_ => ?_)
     generalize wr.drew = w21 at BK323 HB HR326_0 HR327_0 hx326_0 hx327_0 hHeld ⊢
     refine pu_ 0 38 (lA 9 1) ?_ ?_ HT_ ?_
     refine pu_ 1 39 (lA 9 3) ?_ ?_ HT_ ?_
     refine pu_ 2 40 (lA 9 7) ?_ ?_ HT_ ?_
     refine pu_ 4 42 (lA 9 23) ?_ ?_ HT_ ?_
     refine pu_ 5 43 (lA 9 55) ?_ ?_ HT_ ?_
     refine pu_ 6 44 (lA 9 119) ?_ ?_ HT_ ?_
     refine tk_ 3 41 (lA 9 127) ?_ ?_ HT_ HW_ hHeld ?_
     refine tk_ 7 45 (lA 9 255) ?_ ?_ HT_ HW_ hHeld ?_
     refine one_ (i := 8) (N := some 46) #[true, true, true, true, true, true, true, true, true] rfl rfl (one_of HT_.out (by kernel_rfl)) (by decide) (fun K hK => ?_)
     refine goes_ Try.func53 (by kernel_rfl) rfl #[.slice A326_0 (rd_L3 l1 x8_2).length c326_0, .slice A327_0 (rd_L3 l1 x9_3).length c327_0] (by rfl) rfl rfl (by (try simp only [List.map_toArray, List.map_cons, List.map_nil]); first | done | rfl | (simp only [List.length_drop, List.length_take]; rfl)) ?_
     with_reducible refine (spec_l03Over.calls k3 _ _ (rd_L3 l1 x8_2) _ _ (rd_L3 l1 x9_3) false _ ?side1 ?side2 ?side3 ?side4 A17.out).mono ?_
     (case side1 => exact kc_ (Kd.C_below HR326_0.out HB.out))
     (case side2 => exact HC326_0.out)
     (case side3 => exact kc_ (Kd.C_below HR327_0.out HB.out))
     (case side4 => exact HC327_0.out)
     rintro e w22 ⟨rfl, hb⟩
     refine ⟨_, rfl, ?_⟩
     have n0_ := bd_ BK323 hb
     have n1_ := bs_ HB hb
     clear BK323
     clear HB
     have BK323 := n0_
     have HB := n1_
     clear n0_ n1_
     refine hK.out _ _ ⟨((hw_ HB hw326_0 :)), ((hw_ HB hw327_0 :))⟩ (fun hHeld => ?_)
     clear hK K
     refine norm_ (a' := ?_) ?_ ?_
     rotate_left
     ·
      show Act.put _ (some 46) _ = _
      simp only [Act.put, List.setIfInBounds_toArray, List.set_cons_zero, List.set_cons_succ, i64_w, i32_w]
      rfl
     refine done_ (done_of HT_.out (by kernel_rfl)) ?_
     try go_wp2
     go_roundg k3
     case measure => have := HK1.out; have := HK2.out; have := HK3.out; omega
     case rel => exact ⟨(wrap64 (x9_3 + 1)), (by first | rfl | (simp; done) | (simp [*]; done)), H', ⟨by have := HK1.out; have := HK2.out; have := HK3.out; omega⟩, ⟨bk_ BK323⟩, ⟨bl_ HB⟩⟩
  rw [if_pos c4] at H
  have c4b0 : decide (x7_1 < (l1.length : Int)) = true := decide_eq_true c4
  clear c4
  obtain ⟨(c5 : 0 ≤ x7_1), H⟩ := gd_ H
  have c5b0 : decide (0 ≤ x7_1) = true := decide_eq_true c5
  clear c5
  replace H := Option.bind_eq_some_iff.mp H
  obtain ⟨t325, A60, H⟩ := H
  (try dsimp only at H)
  have A6 := Aside0.mk A60
  clear A60
  rcases (Decidable.em (t325 = true)).symm with c7 | c7
  ·
   replace c7 := Bool.eq_false_iff.mpr c7
   subst c7
   replace H := gf_ H
   simp only [Option.some.injEq, Prod.mk.injEq] at H
   obtain ⟨rfl, rfl, rfl⟩ := H
   try go_wp2
   have n0_ := Aside0.mk (blk_drew BK323.out)
   have n1_ := Aside0.mk (below_drew1 HB.out)
   clear BK323
   clear HB
   have BK323 := n0_
   have HB := n1_
   clear n0_ n1_
   have p324 : 0 ≤ (x7_1 : Int) := od_
   have q324 : x7_1 < (l1.length : Int) := od_
   obtain ⟨ad324, A324_0, c324_0, e324, hx324_0, hl324_0, hi324_0⟩ := at_L3 HR1.out x7_1 p324 q324
   have hw324_0 := hx324_0
   cases e324
   replace hx324_0 := (hw_ HB hx324_0 :)
   have HR324_0 := Aside0.mk hi324_0
   have HC324_0 := Aside0.mk hl324_0
   clear hi324_0 hl324_0
   replace p324 := eq_true p324
   replace q324 := eq_true q324
   refine start_ (n := 7) (S := fun w' => w'.cell? ⟨gb323, 0, none⟩ = some (.int .i16 a0_0) ∧ w'.cell? ⟨gb323, 1, none⟩ = some (.int .i16 a0_1) ∧ w'.cell? (ad324.add (x7_1).toNat) = some (.slice A324_0 (rd_L3 l1 x7_1).length c324_0)) (ds := []) #[false, false, false, false, false, false, false] (by kernel_rfl) rfl rfl ⟨(blk_cell BK323.out 0).trans rfl, (blk_cell BK323.out 1).trans rfl, ((hw_ HB hw324_0 :))⟩ (fun hHeld => ?_)
   generalize wr.drew = w10 at BK323 HB HR324_0 hx324_0 hHeld ⊢
   refine pure_ (i := 1) (N := some 17) (v := ?_) (a' := ?_) #[false, true, false, false, false, false, false] rfl rfl (by kernel_rfl) (fun _ _ _ h => h) (Or.inl ⟨by rfl, ?_⟩) ?_ ?_
   rotate_left
   ·
    intro w'
    go_simp
    with_reducible rfl
   rotate_left
   ·
    simp only [Act.put, List.setIfInBounds_toArray, List.set_cons_zero, List.set_cons_succ, i64_w, i32_w]
    rfl
   refine pure_ (i := 2) (N := some 18) (v := ?_) (a' := ?_) #[false, true, true, false, false, false, false] rfl rfl (by kernel_rfl) (fun _ _ _ h => h) (Or.inl ⟨by rfl, ?_⟩) ?_ ?_
   rotate_left
   ·
    intro w'
    go_simp
    with_reducible rfl
   rotate_left
   ·
    simp only [Act.put, List.setIfInBounds_toArray, List.set_cons_zero, List.set_cons_succ, i64_w, i32_w]
    rfl
   refine pure_ (i := 3) (N := some 19) (v := ?_) (a' := ?_) #[false, true, true, true, false, false, false] rfl rfl (by kernel_rfl) (fun _ _ _ h => h) (Or.inl ⟨by rfl, ?_⟩) ?_ ?_
   rotate_left
   ·
    intro w'
    go_simp
    with_reducible rfl
   rotate_left
   ·
    simp only [Act.put, List.setIfInBounds_toArray, List.set_cons_zero, List.set_cons_succ, i64_w, i32_w]
    rfl
   refine take_ (i := 0) (N := some 16) (v := ?_) (a' := ?_) #[true, true, true, true, false, false, false] rfl rfl (by kernel_rfl) (fun _ _ _ h => h) (Or.inl ⟨by rfl, ?_⟩) hHeld ?_ ?_
   rotate_left
   ·
    rintro w' ⟨s0, s1, s2⟩
    go_simp
    with_reducible rfl
   rotate_left
   ·
    simp only [Act.put, List.setIfInBounds_toArray, List.set_cons_zero, List.set_cons_succ, i64_w, i32_w]
    rfl
   refine take_ (i := 4) (N := some 20) (v := ?_) (a' := ?_) #[true, true, true, true, true, false, false] rfl rfl (by kernel_rfl) (fun _ _ _ h => h) (Or.inl ⟨by rfl, ?_⟩) hHeld ?_ ?_
   rotate_left
   ·
    rintro w' ⟨s0, s1, s2⟩
    go_simp
    with_reducible rfl
   rotate_left
   ·
    simp only [Act.put, List.setIfInBounds_toArray, List.set_cons_zero, List.set_cons_succ, i64_w, i32_w]
    rfl
   refine one_ (i := 5) (N := some 21) #[true, true, true, true, true, true, false] rfl rfl (by kernel_rfl) (by decide) (fun K hK => ?_)
   refine goes_ Try.func52 (by kernel_rfl) rfl #[.agg #[.int .i16 a0_0, .int .i16 a0_1], .slice A324_0 (rd_L3 l1 x7_1).length c324_0] (by rfl) rfl rfl (by (try simp only [List.map_toArray, List.map_cons, List.map_nil]); first | done | rfl | (simp only [List.length_drop, List.length_take]; rfl)) ?_
   with_reducible refine (spec_l03In.calls k1 a0_0 a0_1 _ _ (rd_L3 l1 x7_1) false _ ?side1 ?side2 A6.out).mono ?_
   (case side1 => exact kc_ (Kd.C_below HR324_0.out HB.out))
   (case side2 => exact HC324_0.out)
   rintro e w11 ⟨rfl, hb⟩
   refine ⟨_, rfl, ?_⟩
   have n0_ := bd_ BK323 hb
   have n1_ := bs_ HB hb
   clear BK323
   clear HB
   have BK323 := n0_
   have HB := n1_
   clear n0_ n1_
   refine hK.out _ _ ⟨(blk_cell BK323.out 0).trans rfl, (blk_cell BK323.out 1).trans rfl, ((hw_ HB hw324_0 :))⟩ (fun hHeld => ?_)
   clear hK K
   refine norm_ (a' := ?_) ?_ ?_
   rotate_left
   ·
    show Act.put _ (some 21) _ = _
    simp only [Act.put, List.setIfInBounds_toArray, List.set_cons_zero, List.set_cons_succ, i64_w, i32_w]
    rfl
   refine pure_ (i := 6) (N := some 22) (v := ?_) (a' := ?_) #[true, true, true, true, true, true, true] rfl rfl (by kernel_rfl) (fun _ _ _ h => h) (Or.inl ⟨by rfl, ?_⟩) ?_ ?_
   rotate_left
   ·
    intro w'
    go_simp
    with_reducible rfl
   rotate_left
   ·
    simp only [Act.put, List.setIfInBounds_toArray, List.set_cons_zero, List.set_cons_succ, i64_w, i32_w]
    rfl
   refine done_ (by kernel_rfl) ?_
   try go_wp2
   go_ret3
   exact ⟨rt_, bl_ HB⟩
  subst c7
  replace H := gt_ H
  have H' := Aside0.mk H
  clear H
  try go_wp2
  have n0_ := Aside0.mk (blk_drew BK323.out)
  have n1_ := Aside0.mk (below_drew1 HB.out)
  clear BK323
  clear HB
  have BK323 := n0_
  have HB := n1_
  clear n0_ n1_
  have p324 : 0 ≤ (x7_1 : Int) := od_
  have q324 : x7_1 < (l1.length : Int) := od_
  obtain ⟨ad324, A324_0, c324_0, e324, hx324_0, hl324_0, hi324_0⟩ := at_L3 HR1.out x7_1 p324 q324
  have hw324_0 := hx324_0
  cases e324
  replace hx324_0 := (hw_ HB hx324_0 :)
  have HR324_0 := Aside0.mk hi324_0
  have HC324_0 := Aside0.mk hl324_0
  clear hi324_0 hl324_0
  replace p324 := eq_true p324
  replace q324 := eq_true q324
  refine start_ (n := 7) (S := fun w' => w'.cell? ⟨gb323, 0, none⟩ = some (.int .i16 a0_0) ∧ w'.cell? ⟨gb323, 1, none⟩ = some (.int .i16 a0_1) ∧ w'.cell? (ad324.add (x7_1).toNat) = some (.slice A324_0 (rd_L3 l1 x7_1).length c324_0)) (ds := []) #[false, false, false, false, false, false, false] (by kernel_rfl) rfl rfl ⟨(blk_cell BK323.out 0).trans rfl, (blk_cell BK323.out 1).trans rfl, ((hw_ HB hw324_0 :))⟩ (fun hHeld => ?_)
  generalize wr.drew = w8 at BK323 HB HR324_0 hx324_0 hHeld ⊢
  refine pure_ (i := 1) (N := some 17) (v := ?_) (a' := ?_) #[false, true, false, false, false, false, false] rfl rfl (by kernel_rfl) (fun _ _ _ h => h) (Or.inl ⟨by rfl, ?_⟩) ?_ ?_
  rotate_left
  ·
   intro w'
   go_simp
   with_reducible rfl
  rotate_left
  ·
   simp only [Act.put, List.setIfInBounds_toArray, List.set_cons_zero, List.set_cons_succ, i64_w, i32_w]
   rfl
  refine pure_ (i := 2) (N := some 18) (v := ?_) (a' := ?_) #[false, true, true, false, false, false, false] rfl rfl (by kernel_rfl) (fun _ _ _ h => h) (Or.inl ⟨by rfl, ?_⟩) ?_ ?_
  rotate_left
  ·
   intro w'
   go_simp
   with_reducible rfl
  rotate_left
  ·
   simp only [Act.put, List.setIfInBounds_toArray, List.set_cons_zero, List.set_cons_succ, i64_w, i32_w]
   rfl
  refine pure_ (i := 3) (N := some 19) (v := ?_) (a' := ?_) #[false, true, true, true, false, false, false] rfl rfl (by kernel_rfl) (fun _ _ _ h => h) (Or.inl ⟨by rfl, ?_⟩) ?_ ?_
  rotate_left
  ·
   intro w'
   go_simp
   with_reducible rfl
  rotate_left
  ·
   simp only [Act.put, List.setIfInBounds_toArray, List.set_cons_zero, List.set_cons_succ, i64_w, i32_w]
   rfl
  refine take_ (i := 0) (N := some 16) (v := ?_) (a' := ?_) #[true, true, true, true, false, false, false] rfl rfl (by kernel_rfl) (fun _ _ _ h => h) (Or.inl ⟨by rfl, ?_⟩) hHeld ?_ ?_
  rotate_left
  ·
   rintro w' ⟨s0, s1, s2⟩
   go_simp
   with_reducible rfl
  rotate_left
  ·
   simp only [Act.put, List.setIfInBounds_toArray, List.set_cons_zero, List.set_cons_succ, i64_w, i32_w]
   rfl
  refine take_ (i := 4) (N := some 20) (v := ?_) (a' := ?_) #[true, true, true, true, true, false, false] rfl rfl (by kernel_rfl) (fun _ _ _ h => h) (Or.inl ⟨by rfl, ?_⟩) hHeld ?_ ?_
  rotate_left
  ·
   rintro w' ⟨s0, s1, s2⟩
   go_simp
   with_reducible rfl
  rotate_left
  ·
   simp only [Act.put, List.setIfInBounds_toArray, List.set_cons_zero, List.set_cons_succ, i64_w, i32_w]
   rfl
  refine one_ (i := 5) (N := some 21) #[true, true, true, true, true, true, false] rfl rfl (by kernel_rfl) (by decide) (fun K hK => ?_)
  refine goes_ Try.func52 (by kernel_rfl) rfl #[.agg #[.int .i16 a0_0, .int .i16 a0_1], .slice A324_0 (rd_L3 l1 x7_1).length c324_0] (by rfl) rfl rfl (by (try simp only [List.map_toArray, List.map_cons, List.map_nil]); first | done | rfl | (simp only [List.length_drop, List.length_take]; rfl)) ?_
  with_reducible refine (spec_l03In.calls k1 a0_0 a0_1 _ _ (rd_L3 l1 x7_1) true _ ?side1 ?side2 A6.out).mono ?_
  (case side1 => exact kc_ (Kd.C_below HR324_0.out HB.out))
  (case side2 => exact HC324_0.out)
  rintro e w9 ⟨rfl, hb⟩
  refine ⟨_, rfl, ?_⟩
  have n0_ := bd_ BK323 hb
  have n1_ := bs_ HB hb
  clear BK323
  clear HB
  have BK323 := n0_
  have HB := n1_
  clear n0_ n1_
  refine hK.out _ _ ⟨(blk_cell BK323.out 0).trans rfl, (blk_cell BK323.out 1).trans rfl, ((hw_ HB hw324_0 :))⟩ (fun hHeld => ?_)
  clear hK K
  refine norm_ (a' := ?_) ?_ ?_
  rotate_left
  ·
   show Act.put _ (some 21) _ = _
   simp only [Act.put, List.setIfInBounds_toArray, List.set_cons_zero, List.set_cons_succ, i64_w, i32_w]
   rfl
  refine pure_ (i := 6) (N := some 22) (v := ?_) (a' := ?_) #[true, true, true, true, true, true, true] rfl rfl (by kernel_rfl) (fun _ _ _ h => h) (Or.inl ⟨by rfl, ?_⟩) ?_ ?_
  rotate_left
  ·
   intro w'
   go_simp
   with_reducible rfl
  rotate_left
  ·
   simp only [Act.put, List.setIfInBounds_toArray, List.set_cons_zero, List.set_cons_succ, i64_w, i32_w]
   rfl
  refine done_ (by kernel_rfl) ?_
  try go_wp2
  go_roundg k1
  case measure => have := HK1.out; omega
  case rel => exact ⟨(wrap64 (x7_1 + 1)), (by first | rfl | (simp; done) | (simp [*]; done)), H', ⟨by have := HK1.out; omega⟩, ⟨bk_ BK323⟩, ⟨bl_ HB⟩⟩
/-! ### spec_l03Lay: function 25 -/
def spec_l03Lay.f (k : Nat) (a0_0 : Int) (a0_1 : Int) (l1 : List (List (S43))) : Option (Bool) := (spec_l03Stones.f k a0_0 a0_1 l1).bind fun t330 => (if t330 = true then ((spec_l03Fault.f k a0_0 a0_1 l1).bind fun bt331 => (some (!bt331.2.2))) else (some false))
theorem spec_l03Lay.mono : ∀ a0 a1 a2 k, LeO (spec_l03Lay.f k a0 a1 a2) (spec_l03Lay.f (k + 1) a0 a1 a2) := by
 intro a0 a1 a2 k
 unfold spec_l03Lay.f
 repeat' first
   | (with_reducible exact spec_l03Fault.mono _ _ _ _)
   | (with_reducible exact spec_l03Stones.mono _ _ _ _)
   | (with_reducible exact LeO.refl _)
   | (with_reducible exact LeO.none _)
   | (with_reducible refine LeO.ite ?_ ?_)
   | (with_reducible refine LeO.bind ?_ (fun _ => ?_))
set_option maxHeartbeats 8000000 in
set_option maxRecDepth 100000 in
theorem spec_l03Lay.calls (k : Nat) (a0_0 : Int) (a0_1 : Int) (A1 : Option Addr) (c1 : Nat) (l1 : List (List (S43))) (r : Bool) (w : World) (hr1 : Kd.C (Kd.slice 43 k43) w A1 l1.length l1) (hc1 : l1.length ≤ c1) (h : spec_l03Lay.f k a0_0 a0_1 l1 = some r) :
  Calls Try.prog 25 #[.agg #[.int .i16 a0_0, .int .i16 a0_1], .slice A1 l1.length c1] w fun e w' => e = .returned (.bool r) ∧ Below w.heap.size w w' := by
 have hu26 := Try.underlying26
 have HR1 := Aside0.mk hr1
 have HC1 := Aside0.mk hc1
 clear hr1 hc1
 have HB := Aside0.mk (Below.refl w.heap.size w)
 have H : ((spec_l03Stones.f k a0_0 a0_1 l1).bind fun t330 => (if t330 = true then ((spec_l03Fault.f k a0_0 a0_1 l1).bind fun bt331 => (some (!bt331.2.2))) else (some false))) = some r := h
 clear h
 replace H := Option.bind_eq_some_iff.mp H
 obtain ⟨t330, A30, H⟩ := H
 (try dsimp only at H)
 have A3 := Aside0.mk A30
 clear A30
 rcases (Decidable.em (t330 = true)).symm with c4 | c4
 ·
  replace c4 := Bool.eq_false_iff.mpr c4
  subst c4
  replace H := gf_ H
  obtain rfl := Option.some.inj H
  go_enter Try.func25, Try.ntmps25
  go_wp2_with (first | ((with_reducible refine gate_dst (N := 2) rfl ?_); refine boxM_ 2 #[.int .i16 a0_0, .int .i16 a0_1] 26 ?_; intro gb329 hg w11 hbox hb; have BK329 := Aside0.mk (hbox); have GW329 := ge_ HB hg; have GE329 := ge_ HB hg; replace HB := bs_ HB hb; clear hb hbox hg; obtain ⟨⟨hcz12_0, hcz12_1⟩, hfz12_0, hfz12_1⟩ := bq_ BK329) | ((with_reducible refine gate_callee (f := 28) rfl ?_); refine goM_ (some 10) Try.func28 #[.agg #[.int .i16 a0_0, .int .i16 a0_1], .slice A1 l1.length c1] ?_; (with_reducible refine (spec_l03Stones.calls k a0_0 a0_1 _ _ l1 false _ ?side1 ?side2 A3.out).mono ?_); (case side1 => exact kc_ (Kd.C_below HR1.out HB.out)); (case side2 => exact HC1.out); rintro e w13 ⟨rfl, hb⟩; refine ⟨_, rfl, ?_⟩; replace BK329 := bd_ BK329 hb; replace HB := bs_ HB hb; clear hb))
  go_ret
  exact ⟨rt_, bl_ HB⟩

 subst c4
 replace H := gt_ H
 replace H := Option.bind_eq_some_iff.mp H
 obtain ⟨⟨t331, t332, t333⟩, A50, H⟩ := H
 (try dsimp only at H)
 have A5 := Aside0.mk A50
 clear A50
 obtain rfl := Option.some.inj H
 go_enter Try.func25, Try.ntmps25
 go_wp2_with (first | ((with_reducible refine gate_dst (N := 2) rfl ?_); refine boxM_ 2 #[.int .i16 a0_0, .int .i16 a0_1] 26 ?_; intro gb329 hg w6 hbox hb; have BK329 := Aside0.mk (hbox); have GW329 := ge_ HB hg; have GE329 := ge_ HB hg; replace HB := bs_ HB hb; clear hb hbox hg; obtain ⟨⟨hcz7_0, hcz7_1⟩, hfz7_0, hfz7_1⟩ := bq_ BK329) | ((with_reducible refine gate_callee (f := 28) rfl ?_); refine goM_ (some 10) Try.func28 #[.agg #[.int .i16 a0_0, .int .i16 a0_1], .slice A1 l1.length c1] ?_; (with_reducible refine (spec_l03Stones.calls k a0_0 a0_1 _ _ l1 true _ ?side1 ?side2 A3.out).mono ?_); (case side1 => exact kc_ (Kd.C_below HR1.out HB.out)); (case side2 => exact HC1.out); rintro e w8 ⟨rfl, hb⟩; refine ⟨_, rfl, ?_⟩; replace BK329 := bd_ BK329 hb; replace HB := bs_ HB hb; clear hb; obtain ⟨⟨hcz9_0, hcz9_1⟩, hfz9_0, hfz9_1⟩ := bq_ BK329) | ((with_reducible refine gate_callee (f := 29) rfl ?_); refine goM_ (some 15) Try.func29 #[.agg #[.int .i16 a0_0, .int .i16 a0_1], .slice A1 l1.length c1] ?_; (with_reducible refine (spec_l03Fault.calls k a0_0 a0_1 _ _ l1 t331 t332 t333 _ ?side1 ?side2 A5.out).mono ?_); (case side1 => exact kc_ (Kd.C_below HR1.out HB.out)); (case side2 => exact HC1.out); rintro e w10 ⟨rfl, hb⟩; refine ⟨_, rfl, ?_⟩; replace BK329 := bd_ BK329 hb; replace HB := bs_ HB hb; clear hb))
 go_ret
 exact ⟨rt_, bl_ HB⟩
end Go.Proofs.Ytllfeehchiikoaa.PA
