/- Pure functions, and that Go's functions come to them. -/
import Derived.Test.YthbogbaaikjhbaaGreatDoorPAx0
import Derived.Test.YthbogbaaikjhbaaGreatDoorPAxm17
import Derived.Test.YthbogbaaikjhbaaGreatDoorPAxm24
import Derived.Test.YthbogbaaikjhbaaGreatDoorPAxm29
import Derived.Test.YthbogbaaikjhbaaGreatDoorPAxgImpl
namespace Go.Proofs.YthbogbaaikjhbaaGreatDoor.PA
open Go.RowKit Go.Proofs.YthbogbaaikjhbaaGreatDoorW.PrintWords Go.Proofs.YthbogbaaikjhbaaGreatDoorW.PrintLast Go.Proofs.YthbogbaaikjhbaaGreatDoorW.PrintMore
set_option linter.unusedVariables false
set_option linter.unusedSimpArgs false

/-! ### impl_FirstStone: function 20 -/
def impl_FirstStone.l0 : Nat → List (S43) → Int → List (S43) → Int → Int → Option ((List (S43)) × Int)
 | 0, _, _, _, _, _ => none
 | k + 1, x0, x4, x10, x11, x12 => if x12 < x11 then (if 0 ≤ x12 then (if x12 < (x10.length : Int) then (if 0 ≤ x4 then (if x4 < (x0.length : Int) then ((impl_cornerLess.f ((rd_T43 x10 x12).f0) ((rd_T43 x10 x12).f1) ((rd_T43 x0 x4).f0) ((rd_T43 x0 x4).f1)).bind fun t441 => (if t441 = true then (impl_FirstStone.l0 k x0 x12 x10 x11 (wrap64 (x12 + 1))) else (impl_FirstStone.l0 k x0 x4 x10 x11 (wrap64 (x12 + 1))))) else (none)) else (none)) else (none)) else (none)) else ((impl_Stone_from.f k x0 x4).bind fun t442 => (some (t442, 0)))
def impl_FirstStone.f (k : Nat) (l0 : List (S43)) : Option ((List (S43)) × Int) := (impl_ValidStone.f k l0).bind fun t437 => (if t437 = true then (impl_FirstStone.l0 k l0 0 l0 (l0.length : Int) 0) else (some (([] : List (S43)), 1)))
theorem impl_FirstStone.mono_l : ∀ k, (∀ y0 y1 y2 y3 y4, LeO (impl_FirstStone.l0 k y0 y1 y2 y3 y4) (impl_FirstStone.l0 (k + 1) y0 y1 y2 y3 y4))
 | 0 => fun _ _ _ _ _ r h => by simp [impl_FirstStone.l0] at h
 | k + 1 => by
  have ih0 := impl_FirstStone.mono_l k
  ·
   intro y0 y1 y2 y3 y4
   unfold impl_FirstStone.l0
   repeat' first | (with_reducible first | exact ih0 _ _ _ _ _ | exact impl_Stone_from.mono _ _ _ | exact impl_ValidStone.mono _ _ | exact LeO.refl _ | exact LeO.none _ | refine LeO.ite ?_ ?_ | refine LeO.bind ?_ (fun _ => ?_))
theorem impl_FirstStone.mono : ∀ a0 k, LeO (impl_FirstStone.f k a0) (impl_FirstStone.f (k + 1) a0) := by
 intro a0 k
 have ih0 := impl_FirstStone.mono_l k
 unfold impl_FirstStone.f
 repeat' first | (with_reducible first | exact ih0 _ _ _ _ _ | exact impl_Stone_from.mono _ _ _ | exact impl_ValidStone.mono _ _ | exact LeO.refl _ | exact LeO.none _ | refine LeO.ite ?_ ?_ | refine LeO.bind ?_ (fun _ => ?_))
set_option maxHeartbeats 8000000 in
set_option maxRecDepth 100000 in
theorem impl_FirstStone.calls (k : Nat) (A0 : Option Addr) (c0 : Nat) (l0 : List (S43)) (r1 : List (S43)) (r2 : Int) (w : World) (hr0 : Kd.C k43 w A0 l0.length l0) (hc0 : l0.length ≤ c0) (h : impl_FirstStone.f k l0 = some (r1, r2)) :
  Calls Tryz.prog 20 #[.slice A0 l0.length c0] w fun e w' => ∃ v0_ : Value, e = .returned (.tuple #[v0_, .int .i64 r2]) ∧ Kd.R k43 43 w' w.heap.size (fun _ => True) v0_ r1 ∧ Below w.heap.size w w' := by
 have hu43 := Tryz.underlying43
 have HR0 := Aside0.mk hr0
 have HC0 := Aside0.mk hc0
 clear hr0 hc0
 have HB := Aside0.mk (Below.refl w.heap.size w)
 have H : ((impl_ValidStone.f k l0).bind fun t437 => (if t437 = true then (impl_FirstStone.l0 k l0 0 l0 (l0.length : Int) 0) else (some (([] : List (S43)), 1)))) = some (r1, r2) := h
 clear h
 obtain ⟨t437, A2, H⟩ := be_ H
 (try dsimp only at H)
 rcases (Decidable.em (t437 = true)).symm with c3 | c3
 ·
  replace c3 := Bool.eq_false_iff.mpr c3
  subst c3
  replace H := gf_ H
  simp only [Option.some.injEq, Prod.mk.injEq] at H
  obtain ⟨rfl, rfl⟩ := H
  go_enter Tryz.func20, Tryz.ntmps20
  go_wp2_with (first | ((with_reducible refine gate_callee (f := 14) rfl ?_); refine goM_ (some 8) Tryz.func14 #[.slice A0 l0.length c0] ?_; (with_reducible refine (impl_ValidStone.calls k _ _ l0 false _ ?side1 ?side2 A2.out).mono ?_); (case side1 => exact kc_ HR0.out); (case side2 => exact HC0.out); rintro e w24 ⟨rfl, hb⟩; refine ⟨_, rfl, ?_⟩; replace HB := Aside0.mk (below_step (kB_ HB) hb); clear hb))
  go_ret2
  exact ⟨_, by first | rfl | (simp [errW_none, errW_some] <;> rfl) | (simp [*, errW_none, errW_some] <;> rfl), by first | exact Kd.R_nil _ _ _ _ _ | exact Kd.N_nil _ _ _ _ _ | exact Kd.V_nil _ _ _ _ _ | exact Kd.Q_nil _ _ _ _ _ | exact Kd.S_nil _ _ _ _ _, kB_ HB⟩

 subst c3
 replace H := gt_ H
 have H' := Aside0.mk H
 clear H
 go_enter Tryz.func20, Tryz.ntmps20
 go_wp2_with (first | ((with_reducible refine gate_callee (f := 14) rfl ?_); refine goM_ (some 8) Tryz.func14 #[.slice A0 l0.length c0] ?_; (with_reducible refine (impl_ValidStone.calls k _ _ l0 true _ ?side1 ?side2 A2.out).mono ?_); (case side1 => exact kc_ HR0.out); (case side2 => exact HC0.out); rintro e w4 ⟨rfl, hb⟩; refine ⟨_, rfl, ?_⟩; replace HB := Aside0.mk (below_step (kB_ HB) hb); clear hb))
 go_loopg [4, 12] k (fun kq v4 v12 w' => ∃ (x4_1 : Int) (x12_1 : Int), v4 = .int .i64 x4_1 ∧ v12 = .int .i64 x12_1 ∧ Aside0 (impl_FirstStone.l0 kq l0 x4_1 l0 (l0.length : Int) x12_1 = some (r1, r2)) ∧ Aside0 (kq ≤ k) ∧ Aside0 (Below w.heap.size w w'))
 case atStart => exact ⟨(0), (0), (by first | rfl | (simp; done) | (simp [*]; done)), (by first | rfl | (simp; done) | (simp [*]; done)), H', ⟨Nat.le_refl _⟩, ⟨kB_ HB⟩⟩
 case round =>
  clear H'
  obtain ⟨x4_1, x12_1, rfl, rfl, HA, HK1, HB⟩ := hrel
  rcases gk with _ | k1
  · exact absurd HA.out (by simp [impl_FirstStone.l0])
  have H := HA.out
  clear HA
  simp only [impl_FirstStone.l0] at H
  rcases (Decidable.em (x12_1 < (l0.length : Int))).symm with c5 | c5
  ·
   rw [if_neg c5] at H
   have c5b0 : decide (x12_1 < (l0.length : Int)) = false := decide_eq_false c5
   clear c5
   obtain ⟨t442, A22, H⟩ := be_ H
   (try dsimp only at H)
   simp only [Option.some.injEq, Prod.mk.injEq] at H
   obtain ⟨rfl, rfl⟩ := H
   go_wp2_with (first | ((with_reducible refine gate_callee (f := 44) rfl ?_); refine goM_ (some 27) Tryz.func44 #[.slice A0 l0.length c0, .int .i64 x4_1] ?_; (with_reducible refine (impl_Stone_from.calls k1 (fun k_ => k_ < w.heap.size) _ _ l0 x4_1 t442 _ ?side1 A22.out).mono ?_); (case side1 => exact Kd.V_mk HC0.out (Kd.F_below (Kd.C_F k43_heap HR0.out) (kB_ HB))); rintro e w23 ⟨v443, rfl, ho0, hb⟩; refine ⟨_, rfl, ?_⟩; have HO444 := Aside0.mk (Kd.R_lower (Kd.R_mono (ok' := fun k_ => True) ho0 (fun _ hk_ => trivial)) (below_size (kB_ HB))); replace HB := Aside0.mk (below_step (kB_ HB) hb); clear hb; (try clear ho0)))
   go_ret2
   exact ⟨_, by first | rfl | (simp [errW_none, errW_some] <;> rfl) | (simp [*, errW_none, errW_some] <;> rfl), by (with_reducible repeat (first | apply Kd.R_alloc | apply Kd.R_drewN | apply Kd.R_drew)); exact HO444.out, kB_ HB⟩
  rw [if_pos c5] at H
  have c5b0 : decide (x12_1 < (l0.length : Int)) = true := decide_eq_true c5
  clear c5
  obtain ⟨c6b0, H⟩ := gx_ H
  obtain ⟨c7b0, H⟩ := gx_ H
  obtain ⟨c8b0, H⟩ := gx_ H
  obtain ⟨c9b0, H⟩ := gx_ H
  obtain ⟨t441, A10, H⟩ := be_ H
  (try dsimp only at H)
  by_cases c11 : t441 = true
  ·
   subst c11
   replace H := gt_ H
   have H' := Aside0.mk H
   clear H
   have p438 : 0 ≤ (x12_1 : Int) := od_
   have q438 : x12_1 < (l0.length : Int) := od_
   obtain ⟨ad438, e438, hx438_0, hx438_1⟩ := af_ HB (at_T43 HR0.out x12_1 p438 q438)
   cases e438
   replace p438 := eq_true p438
   replace q438 := eq_true q438
   try go_wp2_with (first | ((with_reducible refine gate_dst (N := 6) rfl ?_); refine boxM_ 6 #[.int .i16 0, .int .i16 0] 43 ?_; intro gb439 hg w12 hbox hb; have BK439 := Aside0.mk (hbox); have GW439 := Aside0.mk ((by rw [hg]; exact (below_size (kB_ HB)) : w.heap.size ≤ gb439)); have GE439 := Aside0.mk ((by rw [hg]; exact (below_size (kB_ HB)) : w.heap.size ≤ gb439)); replace HB := Aside0.mk (below_step (kB_ HB) hb); clear hb hbox hg; obtain ⟨⟨hcz13_0, hcz13_1⟩, hfz13_0, hfz13_1⟩ := bq_ BK439))
   have n0_ : Aside0 (((w12.setCell ⟨gb439, 0, none⟩ (.int .i16 ((rd_T43 l0 x12_1).f0))).setCell ⟨gb439, 1, none⟩ (.int .i16 ((rd_T43 l0 x12_1).f1))).heap[gb439]? = some (.cells #[.int .i16 ((rd_T43 l0 x12_1).f0), .int .i16 ((rd_T43 l0 x12_1).f1)] 43 (0, 0))) := ⟨by (with_reducible repeat (first | refine blk_drewN ?_ _ | refine blk_drew ?_ | refine blk_alloc ?_ _)); refine blk_put (cs := #[.int .i16 ((rd_T43 l0 x12_1).f0), .int .i16 0]) ?_ 1 _ rfl; (with_reducible repeat (first | refine blk_drewN ?_ _ | refine blk_drew ?_ | refine blk_alloc ?_ _)); refine blk_put (cs := #[.int .i16 0, .int .i16 0]) ?_ 0 _ rfl; (with_reducible repeat (first | refine blk_drewN ?_ _ | refine blk_drew ?_ | refine blk_alloc ?_ _)); exact BK439.out⟩
   have n1_ : Aside0 (Below w.heap.size w ((w12.setCell ⟨gb439, 0, none⟩ (.int .i16 ((rd_T43 l0 x12_1).f0))).setCell ⟨gb439, 1, none⟩ (.int .i16 ((rd_T43 l0 x12_1).f1)))) := ⟨k1_ HB GE439⟩
   generalize ((w12.setCell ⟨gb439, 0, none⟩ (.int .i16 ((rd_T43 l0 x12_1).f0))).setCell ⟨gb439, 1, none⟩ (.int .i16 ((rd_T43 l0 x12_1).f1))) = w14 at n0_ n1_ ⊢
   have BK439 := n0_
   have HB := n1_
   clear n0_ n1_
   have n0_ := Aside0.mk (blk_drew BK439.out)
   have n1_ := Aside0.mk (below_drew1 HB.out)
   clear BK439
   clear HB
   have BK439 := n0_
   have HB := n1_
   clear n0_ n1_
   have p440 : 0 ≤ (x4_1 : Int) := od_
   have q440 : x4_1 < (l0.length : Int) := od_
   obtain ⟨ad440, e440, hx440_0, hx440_1⟩ := at_T43 HR0.out x4_1 p440 q440
   have hw440_1 := hx440_1
   have hw440_0 := hx440_0
   obtain rfl : ad438 = ad440 := (by injection e440)
   replace hx440_0 := (hw_ HB hx440_0 :)
   replace hx440_1 := (hw_ HB hx440_1 :)
   replace p440 := eq_true p440
   replace q440 := eq_true q440
   refine start_ (n := 6) (S := fun w' => w'.cell? ⟨gb439, 0, none⟩ = some (.int .i16 ((rd_T43 l0 x12_1).f0)) ∧ w'.cell? ⟨gb439, 1, none⟩ = some (.int .i16 ((rd_T43 l0 x12_1).f1)) ∧ w'.cell? (ad438.add ((x4_1).toNat * 2)) = some (.int .i16 ((rd_T43 l0 x4_1).f0)) ∧ w'.cell? ⟨(ad438.add ((x4_1).toNat * 2)).block, (ad438.add ((x4_1).toNat * 2)).off + 1, none⟩ = some (.int .i16 ((rd_T43 l0 x4_1).f1))) (ds := []) #[false, false, false, false, false, false] (by kernel_rfl) rfl rfl ⟨(blk_cell BK439.out 0).trans rfl, (blk_cell BK439.out 1).trans rfl, ((hw_ HB hw440_0 :)), ((hw_ HB hw440_1 :))⟩ (fun hHeld => ?_)
   generalize w14.drew = w15 at BK439 HB hx440_0 hx440_1 hHeld ⊢
   refine pure_ (i := 1) (N := some 18) (v := ?_) (a' := ?_) #[false, true, false, false, false, false] rfl rfl (by kernel_rfl) (fun _ _ _ h => h) (Or.inl ⟨by rfl, ?_⟩) ?_ ?_
   rotate_left
   ·
    intro w'
    go_simp
    with_reducible rfl
   rotate_left
   ·
    simp only [Act.put, List.setIfInBounds_toArray, List.set_cons_zero, List.set_cons_succ, i64_w, i32_w]
    rfl
   refine pure_ (i := 2) (N := some 19) (v := ?_) (a' := ?_) #[false, true, true, false, false, false] rfl rfl (by kernel_rfl) (fun _ _ _ h => h) (Or.inl ⟨by rfl, ?_⟩) ?_ ?_
   rotate_left
   ·
    intro w'
    go_simp
    with_reducible rfl
   rotate_left
   ·
    simp only [Act.put, List.setIfInBounds_toArray, List.set_cons_zero, List.set_cons_succ, i64_w, i32_w]
    rfl
   refine pure_ (i := 3) (N := some 20) (v := ?_) (a' := ?_) #[false, true, true, true, false, false] rfl rfl (by kernel_rfl) (fun _ _ _ h => h) (Or.inl ⟨by rfl, ?_⟩) ?_ ?_
   rotate_left
   ·
    intro w'
    go_simp
    with_reducible rfl
   rotate_left
   ·
    simp only [Act.put, List.setIfInBounds_toArray, List.set_cons_zero, List.set_cons_succ, i64_w, i32_w]
    rfl
   refine take_ (i := 0) (N := some 17) (v := ?_) (a' := ?_) #[true, true, true, true, false, false] rfl rfl (by kernel_rfl) (fun _ _ _ h => h) (Or.inl ⟨by rfl, ?_⟩) hHeld ?_ ?_
   rotate_left
   ·
    rintro w' ⟨s0, s1, s2, s3⟩
    go_simp
    with_reducible rfl
   rotate_left
   ·
    simp only [Act.put, List.setIfInBounds_toArray, List.set_cons_zero, List.set_cons_succ, i64_w, i32_w]
    rfl
   refine take_ (i := 4) (N := some 21) (v := ?_) (a' := ?_) #[true, true, true, true, true, false] rfl rfl (by kernel_rfl) (fun _ _ _ h => h) (Or.inl ⟨by rfl, ?_⟩) hHeld ?_ ?_
   rotate_left
   ·
    rintro w' ⟨s0, s1, s2, s3⟩
    go_simp
    with_reducible rfl
   rotate_left
   ·
    simp only [Act.put, List.setIfInBounds_toArray, List.set_cons_zero, List.set_cons_succ, i64_w, i32_w]
    rfl
   refine one_ (i := 5) (N := some 22) #[true, true, true, true, true, true] rfl rfl (by kernel_rfl) (by decide) (fun K hK => ?_)
   refine goes_ Tryz.func43 (by kernel_rfl) rfl #[.agg #[.int .i16 ((rd_T43 l0 x12_1).f0), .int .i16 ((rd_T43 l0 x12_1).f1)], .agg #[.int .i16 ((rd_T43 l0 x4_1).f0), .int .i16 ((rd_T43 l0 x4_1).f1)]] (by rfl) rfl rfl (by (try simp only [List.map_toArray, List.map_cons, List.map_nil]); first | done | rfl | (simp only [List.length_drop, List.length_take]; rfl)) ?_
   with_reducible refine (impl_cornerLess.calls ((rd_T43 l0 x12_1).f0) ((rd_T43 l0 x12_1).f1) ((rd_T43 l0 x4_1).f0) ((rd_T43 l0 x4_1).f1) true _ A10.out).mono ?_
   rintro e w16 ⟨rfl, hb⟩
   refine ⟨_, rfl, ?_⟩
   have n0_ := bd_ BK439 hb
   have n1_ := Aside0.mk (below_step (k1_ HB GE439) hb)
   clear BK439
   clear HB
   have BK439 := n0_
   have HB := n1_
   clear n0_ n1_
   refine hK.out _ _ ⟨(blk_cell BK439.out 0).trans rfl, (blk_cell BK439.out 1).trans rfl, ((hw_ HB hw440_0 :)), ((hw_ HB hw440_1 :))⟩ (fun hHeld => ?_)
   clear hK K
   refine norm_ (a' := ?_) ?_ ?_
   rotate_left
   ·
    show Act.put _ (some 22) _ = _
    simp only [Act.put, List.setIfInBounds_toArray, List.set_cons_zero, List.set_cons_succ, i64_w, i32_w]
    rfl
   refine done_ (by kernel_rfl) ?_
   try go_wp2
   go_roundg k1
   case measure => have := HK1.out; omega
   case rel => exact ⟨(x12_1), (wrap64 (x12_1 + 1)), (by first | rfl | (simp; done) | (simp [*]; done)), (by first | rfl | (simp; done) | (simp [*]; done)), H', ⟨by have := HK1.out; omega⟩, ⟨k1_ HB GE439⟩⟩
  replace c11 := Bool.eq_false_iff.mpr c11
  subst c11
  replace H := gf_ H
  have H' := Aside0.mk H
  clear H
  have p438 : 0 ≤ (x12_1 : Int) := od_
  have q438 : x12_1 < (l0.length : Int) := od_
  obtain ⟨ad438, e438, hx438_0, hx438_1⟩ := af_ HB (at_T43 HR0.out x12_1 p438 q438)
  cases e438
  replace p438 := eq_true p438
  replace q438 := eq_true q438
  try go_wp2_with (first | ((with_reducible refine gate_dst (N := 6) rfl ?_); refine boxM_ 6 #[.int .i16 0, .int .i16 0] 43 ?_; intro gb439 hg w17 hbox hb; have BK439 := Aside0.mk (hbox); have GW439 := Aside0.mk ((by rw [hg]; exact (below_size (kB_ HB)) : w.heap.size ≤ gb439)); have GE439 := Aside0.mk ((by rw [hg]; exact (below_size (kB_ HB)) : w.heap.size ≤ gb439)); replace HB := Aside0.mk (below_step (kB_ HB) hb); clear hb hbox hg; obtain ⟨⟨hcz18_0, hcz18_1⟩, hfz18_0, hfz18_1⟩ := bq_ BK439))
  have n0_ : Aside0 (((w17.setCell ⟨gb439, 0, none⟩ (.int .i16 ((rd_T43 l0 x12_1).f0))).setCell ⟨gb439, 1, none⟩ (.int .i16 ((rd_T43 l0 x12_1).f1))).heap[gb439]? = some (.cells #[.int .i16 ((rd_T43 l0 x12_1).f0), .int .i16 ((rd_T43 l0 x12_1).f1)] 43 (0, 0))) := ⟨by (with_reducible repeat (first | refine blk_drewN ?_ _ | refine blk_drew ?_ | refine blk_alloc ?_ _)); refine blk_put (cs := #[.int .i16 ((rd_T43 l0 x12_1).f0), .int .i16 0]) ?_ 1 _ rfl; (with_reducible repeat (first | refine blk_drewN ?_ _ | refine blk_drew ?_ | refine blk_alloc ?_ _)); refine blk_put (cs := #[.int .i16 0, .int .i16 0]) ?_ 0 _ rfl; (with_reducible repeat (first | refine blk_drewN ?_ _ | refine blk_drew ?_ | refine blk_alloc ?_ _)); exact BK439.out⟩
  have n1_ : Aside0 (Below w.heap.size w ((w17.setCell ⟨gb439, 0, none⟩ (.int .i16 ((rd_T43 l0 x12_1).f0))).setCell ⟨gb439, 1, none⟩ (.int .i16 ((rd_T43 l0 x12_1).f1)))) := ⟨k1_ HB GE439⟩
  generalize ((w17.setCell ⟨gb439, 0, none⟩ (.int .i16 ((rd_T43 l0 x12_1).f0))).setCell ⟨gb439, 1, none⟩ (.int .i16 ((rd_T43 l0 x12_1).f1))) = w19 at n0_ n1_ ⊢
  have BK439 := n0_
  have HB := n1_
  clear n0_ n1_
  have n0_ := Aside0.mk (blk_drew BK439.out)
  have n1_ := Aside0.mk (below_drew1 HB.out)
  clear BK439
  clear HB
  have BK439 := n0_
  have HB := n1_
  clear n0_ n1_
  have p440 : 0 ≤ (x4_1 : Int) := od_
  have q440 : x4_1 < (l0.length : Int) := od_
  obtain ⟨ad440, e440, hx440_0, hx440_1⟩ := at_T43 HR0.out x4_1 p440 q440
  have hw440_1 := hx440_1
  have hw440_0 := hx440_0
  obtain rfl : ad438 = ad440 := (by injection e440)
  replace hx440_0 := (hw_ HB hx440_0 :)
  replace hx440_1 := (hw_ HB hx440_1 :)
  replace p440 := eq_true p440
  replace q440 := eq_true q440
  refine start_ (n := 6) (S := fun w' => w'.cell? ⟨gb439, 0, none⟩ = some (.int .i16 ((rd_T43 l0 x12_1).f0)) ∧ w'.cell? ⟨gb439, 1, none⟩ = some (.int .i16 ((rd_T43 l0 x12_1).f1)) ∧ w'.cell? (ad438.add ((x4_1).toNat * 2)) = some (.int .i16 ((rd_T43 l0 x4_1).f0)) ∧ w'.cell? ⟨(ad438.add ((x4_1).toNat * 2)).block, (ad438.add ((x4_1).toNat * 2)).off + 1, none⟩ = some (.int .i16 ((rd_T43 l0 x4_1).f1))) (ds := []) #[false, false, false, false, false, false] (by kernel_rfl) rfl rfl ⟨(blk_cell BK439.out 0).trans rfl, (blk_cell BK439.out 1).trans rfl, ((hw_ HB hw440_0 :)), ((hw_ HB hw440_1 :))⟩ (fun hHeld => ?_)
  generalize w19.drew = w20 at BK439 HB hx440_0 hx440_1 hHeld ⊢
  refine pure_ (i := 1) (N := some 18) (v := ?_) (a' := ?_) #[false, true, false, false, false, false] rfl rfl (by kernel_rfl) (fun _ _ _ h => h) (Or.inl ⟨by rfl, ?_⟩) ?_ ?_
  rotate_left
  ·
   intro w'
   go_simp
   with_reducible rfl
  rotate_left
  ·
   simp only [Act.put, List.setIfInBounds_toArray, List.set_cons_zero, List.set_cons_succ, i64_w, i32_w]
   rfl
  refine pure_ (i := 2) (N := some 19) (v := ?_) (a' := ?_) #[false, true, true, false, false, false] rfl rfl (by kernel_rfl) (fun _ _ _ h => h) (Or.inl ⟨by rfl, ?_⟩) ?_ ?_
  rotate_left
  ·
   intro w'
   go_simp
   with_reducible rfl
  rotate_left
  ·
   simp only [Act.put, List.setIfInBounds_toArray, List.set_cons_zero, List.set_cons_succ, i64_w, i32_w]
   rfl
  refine pure_ (i := 3) (N := some 20) (v := ?_) (a' := ?_) #[false, true, true, true, false, false] rfl rfl (by kernel_rfl) (fun _ _ _ h => h) (Or.inl ⟨by rfl, ?_⟩) ?_ ?_
  rotate_left
  ·
   intro w'
   go_simp
   with_reducible rfl
  rotate_left
  ·
   simp only [Act.put, List.setIfInBounds_toArray, List.set_cons_zero, List.set_cons_succ, i64_w, i32_w]
   rfl
  refine take_ (i := 0) (N := some 17) (v := ?_) (a' := ?_) #[true, true, true, true, false, false] rfl rfl (by kernel_rfl) (fun _ _ _ h => h) (Or.inl ⟨by rfl, ?_⟩) hHeld ?_ ?_
  rotate_left
  ·
   rintro w' ⟨s0, s1, s2, s3⟩
   go_simp
   with_reducible rfl
  rotate_left
  ·
   simp only [Act.put, List.setIfInBounds_toArray, List.set_cons_zero, List.set_cons_succ, i64_w, i32_w]
   rfl
  refine take_ (i := 4) (N := some 21) (v := ?_) (a' := ?_) #[true, true, true, true, true, false] rfl rfl (by kernel_rfl) (fun _ _ _ h => h) (Or.inl ⟨by rfl, ?_⟩) hHeld ?_ ?_
  rotate_left
  ·
   rintro w' ⟨s0, s1, s2, s3⟩
   go_simp
   with_reducible rfl
  rotate_left
  ·
   simp only [Act.put, List.setIfInBounds_toArray, List.set_cons_zero, List.set_cons_succ, i64_w, i32_w]
   rfl
  refine one_ (i := 5) (N := some 22) #[true, true, true, true, true, true] rfl rfl (by kernel_rfl) (by decide) (fun K hK => ?_)
  refine goes_ Tryz.func43 (by kernel_rfl) rfl #[.agg #[.int .i16 ((rd_T43 l0 x12_1).f0), .int .i16 ((rd_T43 l0 x12_1).f1)], .agg #[.int .i16 ((rd_T43 l0 x4_1).f0), .int .i16 ((rd_T43 l0 x4_1).f1)]] (by rfl) rfl rfl (by (try simp only [List.map_toArray, List.map_cons, List.map_nil]); first | done | rfl | (simp only [List.length_drop, List.length_take]; rfl)) ?_
  with_reducible refine (impl_cornerLess.calls ((rd_T43 l0 x12_1).f0) ((rd_T43 l0 x12_1).f1) ((rd_T43 l0 x4_1).f0) ((rd_T43 l0 x4_1).f1) false _ A10.out).mono ?_
  rintro e w21 ⟨rfl, hb⟩
  refine ⟨_, rfl, ?_⟩
  have n0_ := bd_ BK439 hb
  have n1_ := Aside0.mk (below_step (k1_ HB GE439) hb)
  clear BK439
  clear HB
  have BK439 := n0_
  have HB := n1_
  clear n0_ n1_
  refine hK.out _ _ ⟨(blk_cell BK439.out 0).trans rfl, (blk_cell BK439.out 1).trans rfl, ((hw_ HB hw440_0 :)), ((hw_ HB hw440_1 :))⟩ (fun hHeld => ?_)
  clear hK K
  refine norm_ (a' := ?_) ?_ ?_
  rotate_left
  ·
   show Act.put _ (some 22) _ = _
   simp only [Act.put, List.setIfInBounds_toArray, List.set_cons_zero, List.set_cons_succ, i64_w, i32_w]
   rfl
  refine done_ (by kernel_rfl) ?_
  try go_wp2
  go_roundg k1
  case measure => have := HK1.out; omega
  case rel => exact ⟨(x4_1), (wrap64 (x12_1 + 1)), (by first | rfl | (simp; done) | (simp [*]; done)), (by first | rfl | (simp; done) | (simp [*]; done)), H', ⟨by have := HK1.out; omega⟩, ⟨k1_ HB GE439⟩⟩
end Go.Proofs.YthbogbaaikjhbaaGreatDoor.PA
