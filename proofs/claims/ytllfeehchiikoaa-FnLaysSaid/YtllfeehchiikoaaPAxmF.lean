/- Pure functions, and that Go's functions come to them. -/
import Derived.Test.YtllfeehchiikoaaPAx0
import Derived.Test.YtllfeehchiikoaaPAxmE
import Derived.Test.YtllfeehchiikoaaPAxgImpl
namespace Go.Proofs.Ytllfeehchiikoaa.PA
open Go.RowKit Go.Proofs.YtllfeehchiikoaaW.PrintWords Go.Proofs.YtllfeehchiikoaaW.PrintLast Go.Proofs.YtllfeehchiikoaaW.PrintMore
set_option linter.unusedVariables false
set_option linter.unusedSimpArgs false

/-! ### impl_Stone_area: function 34 -/
def impl_Stone_area.l0 : Nat → List (S43) → Int → List (S43) → Int → Int → Option (Int)
 | 0, _, _, _, _, _ => none
 | k + 1, x0, x3, x7, x8, x9 => if x9 < x8 then (if 0 ≤ x9 then (if x9 < (x7.length : Int) then (if (x0.length : Int) = 0 then (none) else (if 0 ≤ (Int.tmod (wrap64 (x9 + 1)) (x0.length : Int)) then (if (Int.tmod (wrap64 (x9 + 1)) (x0.length : Int)) < (x0.length : Int) then (impl_Stone_area.l0 k x0 (wrap64 (x3 + (wrap64 ((wrap64 ((wrap64 ((rd_T43 x7 x9).f0)) * (wrap64 ((rd_T43 x0 (Int.tmod (wrap64 (x9 + 1)) (x0.length : Int))).f1)))) - (wrap64 ((wrap64 ((rd_T43 x0 (Int.tmod (wrap64 (x9 + 1)) (x0.length : Int))).f0)) * (wrap64 ((rd_T43 x7 x9).f1)))))))) x7 x8 (wrap64 (x9 + 1))) else (none)) else (none))) else (none)) else (none)) else (some x3)
def impl_Stone_area.f (k : Nat) (l0 : List (S43)) : Option (Int) := impl_Stone_area.l0 k l0 0 l0 (l0.length : Int) 0
theorem impl_Stone_area.mono_l : ∀ k, (∀ y0 y1 y2 y3 y4, LeO (impl_Stone_area.l0 k y0 y1 y2 y3 y4) (impl_Stone_area.l0 (k + 1) y0 y1 y2 y3 y4))
 | 0 => fun _ _ _ _ _ r h => by simp [impl_Stone_area.l0] at h
 | k + 1 => by
  have ih0 := impl_Stone_area.mono_l k
  ·
   intro y0 y1 y2 y3 y4
   unfold impl_Stone_area.l0
   repeat' first
   | (with_reducible exact ih0 _ _ _ _ _)
   | (with_reducible exact LeO.refl _)
   | (with_reducible exact LeO.none _)
   | (with_reducible refine LeO.ite ?_ ?_)
   | (with_reducible refine LeO.bind ?_ (fun _ => ?_))
theorem impl_Stone_area.mono : ∀ a0 k, LeO (impl_Stone_area.f k a0) (impl_Stone_area.f (k + 1) a0) := by
 intro a0 k
 have ih0 := impl_Stone_area.mono_l k
 unfold impl_Stone_area.f
 repeat' first
   | (with_reducible exact ih0 _ _ _ _ _)
   | (with_reducible exact LeO.refl _)
   | (with_reducible exact LeO.none _)
   | (with_reducible refine LeO.ite ?_ ?_)
   | (with_reducible refine LeO.bind ?_ (fun _ => ?_))
set_option maxHeartbeats 8000000 in
set_option maxRecDepth 100000 in
theorem impl_Stone_area.calls (k : Nat) (A0 : Option Addr) (c0 : Nat) (l0 : List (S43)) (r : Int) (w : World) (hr0 : Kd.C k43 w A0 l0.length l0) (hc0 : l0.length ≤ c0) (h : impl_Stone_area.f k l0 = some r) :
  Calls Try.prog 34 #[.slice A0 l0.length c0] w fun e w' => e = .returned (.int .i64 r) ∧ Below w.heap.size w w' := by
 have hu43 := Try.underlying43
 have HR0 := Aside0.mk hr0
 have HC0 := Aside0.mk hc0
 clear hr0 hc0
 have HB := Aside0.mk (Below.refl w.heap.size w)
 have H : (impl_Stone_area.l0 k l0 0 l0 (l0.length : Int) 0) = some r := h
 clear h
 have H' := Aside0.mk H
 clear H
 go_enter Try.func34, Try.ntmps34
 go_wp2
 go_loopg [3, 9] k (fun kq v3 v9 w' => ∃ (x3_1 : Int) (x9_1 : Int), v3 = .int .i64 x3_1 ∧ v9 = .int .i64 x9_1 ∧ Aside0 (impl_Stone_area.l0 kq l0 x3_1 l0 (l0.length : Int) x9_1 = some r) ∧ Aside0 (kq ≤ k) ∧ Aside0 (Below w.heap.size w w'))
 case atStart => exact ⟨(0), (0), (by first | rfl | (simp; done) | (simp [*]; done)), (by first | rfl | (simp; done) | (simp [*]; done)), H', ⟨Nat.le_refl _⟩, ⟨kB_ HB⟩⟩
 case round =>
  clear H'
  obtain ⟨x3_1, x9_1, rfl, rfl, HA, HK1, HB⟩ := hrel
  rcases gk with _ | k1
  · exact absurd HA.out (by simp [impl_Stone_area.l0])
  have H := HA.out
  clear HA
  simp only [impl_Stone_area.l0] at H
  rcases (Decidable.em (x9_1 < (l0.length : Int))).symm with c2 | c2
  ·
   rw [if_neg c2] at H
   have c2b0 : decide (x9_1 < (l0.length : Int)) = false := decide_eq_false c2
   clear c2
   obtain rfl := Option.some.inj H
   go_wp2
   go_ret
   exact ⟨rt_, kB_ HB⟩

  rw [if_pos c2] at H
  have c2b0 : decide (x9_1 < (l0.length : Int)) = true := decide_eq_true c2
  clear c2
  obtain ⟨(c3 : 0 ≤ x9_1), H⟩ := gd_ H
  have c3b0 : decide (0 ≤ x9_1) = true := decide_eq_true c3
  clear c3
  obtain ⟨(c4 : x9_1 < (l0.length : Int)), H⟩ := gd_ H
  have c4b0 : decide (x9_1 < (l0.length : Int)) = true := decide_eq_true c4
  clear c4
  by_cases c5 : (l0.length : Int) = 0
  ·
   rw [if_pos c5] at H
   exact absurd H (by simp)
  rw [if_neg c5] at H
  have c5b0 : ((l0.length : Int) == 0) = false := beq_eq_false_iff_ne.mpr c5
  have c5b1 : ((l0.length : Int) != 0) = true := bne_iff_ne.mpr c5
  have c5b2 : ¬ (l0 = []) := fun h_ => c5 (by rw [h_]; rfl)
  obtain ⟨ji6, hji6⟩ : ∃ j_ : Int, (Int.tmod (wrap64 (x9_1 + 1)) (l0.length : Int)) = j_ := ⟨_, rfl⟩
  replace H : (if 0 ≤ (ji6) then (if (ji6) < (l0.length : Int) then (impl_Stone_area.l0 k1 l0 (wrap64 (x3_1 + (wrap64 ((wrap64 ((wrap64 ((rd_T43 l0 x9_1).f0)) * (wrap64 ((rd_T43 l0 (ji6)).f1)))) - (wrap64 ((wrap64 ((rd_T43 l0 (ji6)).f0)) * (wrap64 ((rd_T43 l0 x9_1).f1)))))))) l0 (l0.length : Int) (wrap64 (x9_1 + 1))) else (none)) else (none)) = some r := by first | (rw [hji6] at H; exact H) | (simp only [hji6] at H ⊢; exact H)
  obtain ⟨(c7 : 0 ≤ (ji6)), H⟩ := gd_ H
  have c7b0 : decide (0 ≤ (ji6)) = true := decide_eq_true c7
  clear c7
  obtain ⟨(c8 : (ji6) < (l0.length : Int)), H⟩ := gd_ H
  have c8b0 : decide ((ji6) < (l0.length : Int)) = true := decide_eq_true c8
  clear c8
  have H' := Aside0.mk H
  clear H
  have p392 : 0 ≤ (x9_1 : Int) := od_
  have q392 : x9_1 < (l0.length : Int) := od_
  obtain ⟨ad392, e392, hx392_0, hx392_1⟩ := at_T43 HR0.out x9_1 p392 q392
  cases e392
  replace hx392_0 := (hw_ HB hx392_0 :)
  replace hx392_1 := (hw_ HB hx392_1 :)
  replace p392 := eq_true p392
  replace q392 := eq_true q392
  go_wp2_with (first | ((with_reducible refine gate_dst (N := 5) rfl ?_); refine boxM_ 5 #[.int .i16 0, .int .i16 0] 43 ?_; intro gb393 hg w9 hbox hb; have BK393 := Aside0.mk (hbox); have GW393 := Aside0.mk ((by rw [hg]; exact (below_size (kB_ HB)) : w.heap.size ≤ gb393)); have GE393 := Aside0.mk ((by rw [hg]; exact (below_size (kB_ HB)) : w.heap.size ≤ gb393)); replace HB := Aside0.mk (below_step (kB_ HB) hb); clear hb hbox hg; obtain ⟨⟨hcz10_0, hcz10_1⟩, hfz10_0, hfz10_1⟩ := bq_ BK393; have p394 : 0 ≤ ((ji6) : Int) := od_; have q394 : (ji6) < (l0.length : Int) := od_; obtain ⟨ad394, e394, hx394_0, hx394_1⟩ := at_T43 HR0.out (ji6) p394 q394; obtain rfl : ad392 = ad394 := (by injection e394); have hn394_0 : ad392.block ≠ gb393 := Nat.ne_of_lt (Nat.lt_of_lt_of_le (by have := World.block_lt_of_cell? _ _ hx394_0; first | rwa [add_block] at this | exact this) GW393.out); have hn394_1 : ad392.block ≠ gb393 := Nat.ne_of_lt (Nat.lt_of_lt_of_le (by have := World.block_lt_of_cell? _ _ hx394_0; first | rwa [add_block] at this | exact this) GW393.out); replace hx394_0 := (hw_ HB hx394_0 :); replace hx394_1 := (hw_ HB hx394_1 :); replace hx394_0 := (cell_far (p := ⟨gb393, 0, none⟩) (by first | (rw [add_block]; exact hn394_0) | (show (Addr.add _ _).block ≠ _; rw [add_block]; exact hn394_0) | exact hn394_0) (.int .i16 ((rd_T43 l0 x9_1).f0))).trans hx394_0; replace hx394_1 := (cell_far (p := ⟨gb393, 0, none⟩) (by first | (rw [add_block]; exact hn394_0) | (show (Addr.add _ _).block ≠ _; rw [add_block]; exact hn394_0) | exact hn394_0) (.int .i16 ((rd_T43 l0 x9_1).f0))).trans hx394_1; replace hx394_0 := (cell_far (p := ⟨gb393, 1, none⟩) (by first | (rw [add_block]; exact hn394_1) | (show (Addr.add _ _).block ≠ _; rw [add_block]; exact hn394_1) | exact hn394_1) (.int .i16 ((rd_T43 l0 x9_1).f1))).trans hx394_0; replace hx394_1 := (cell_far (p := ⟨gb393, 1, none⟩) (by first | (rw [add_block]; exact hn394_1) | (show (Addr.add _ _).block ≠ _; rw [add_block]; exact hn394_1) | exact hn394_1) (.int .i16 ((rd_T43 l0 x9_1).f1))).trans hx394_1; clear hn394_0; clear hn394_1; replace p394 := eq_true p394; replace q394 := eq_true q394) | ((with_reducible refine gate_dst (N := 6) rfl ?_); refine boxM_ 6 #[.int .i16 0, .int .i16 0] 43 ?_; intro gb395 hg w11 hbox hb; have BK395 := Aside0.mk (hbox); have GW395 := Aside0.mk ((by rw [hg]; exact (below_size (k1_ HB GE393)) : w.heap.size ≤ gb395)); have GE395 := Aside0.mk ((by rw [hg]; exact (below_size (k1_ HB GE393)) : w.heap.size ≤ gb395)); replace HB := Aside0.mk (below_step (k1_ HB GE393) hb); have NB393_395 := Aside0.mk ((by rw [hg]; exact Nat.ne_of_lt (blk_lt (g := gb393) (o := .cells #[.int .i16 ((rd_T43 l0 x9_1).f0), .int .i16 ((rd_T43 l0 x9_1).f1)] 43 (0, 0)) (by (with_reducible repeat (first | refine blk_drewN ?_ _ | refine blk_drew ?_ | refine blk_alloc ?_ _)); refine blk_put (cs := #[.int .i16 ((rd_T43 l0 x9_1).f0), .int .i16 0]) ?_ 1 _ rfl; (with_reducible repeat (first | refine blk_drewN ?_ _ | refine blk_drew ?_ | refine blk_alloc ?_ _)); refine blk_put (cs := #[.int .i16 0, .int .i16 0]) ?_ 0 _ rfl; (with_reducible repeat (first | refine blk_drewN ?_ _ | refine blk_drew ?_ | refine blk_alloc ?_ _)); exact BK393.out)) : gb393 ≠ gb395)); have NB395_393 := Aside0.mk ((by rw [hg]; exact Nat.ne_of_gt (blk_lt (g := gb393) (o := .cells #[.int .i16 ((rd_T43 l0 x9_1).f0), .int .i16 ((rd_T43 l0 x9_1).f1)] 43 (0, 0)) (by (with_reducible repeat (first | refine blk_drewN ?_ _ | refine blk_drew ?_ | refine blk_alloc ?_ _)); refine blk_put (cs := #[.int .i16 ((rd_T43 l0 x9_1).f0), .int .i16 0]) ?_ 1 _ rfl; (with_reducible repeat (first | refine blk_drewN ?_ _ | refine blk_drew ?_ | refine blk_alloc ?_ _)); refine blk_put (cs := #[.int .i16 0, .int .i16 0]) ?_ 0 _ rfl; (with_reducible repeat (first | refine blk_drewN ?_ _ | refine blk_drew ?_ | refine blk_alloc ?_ _)); exact BK393.out)) : gb395 ≠ gb393)); replace BK393 := Aside0.mk (blk_below (g := gb393) (o := .cells #[.int .i16 ((rd_T43 l0 x9_1).f0), .int .i16 ((rd_T43 l0 x9_1).f1)] 43 (0, 0)) (by (with_reducible repeat (first | refine blk_drewN ?_ _ | refine blk_drew ?_ | refine blk_alloc ?_ _)); refine blk_put (cs := #[.int .i16 ((rd_T43 l0 x9_1).f0), .int .i16 0]) ?_ 1 _ rfl; (with_reducible repeat (first | refine blk_drewN ?_ _ | refine blk_drew ?_ | refine blk_alloc ?_ _)); refine blk_put (cs := #[.int .i16 0, .int .i16 0]) ?_ 0 _ rfl; (with_reducible repeat (first | refine blk_drewN ?_ _ | refine blk_drew ?_ | refine blk_alloc ?_ _)); exact BK393.out) hb); clear hb hbox hg; have hnb12 := NB395_393.out; have hnc12 := NB393_395.out; obtain ⟨⟨hcz13_0, hcz13_1⟩, hfz13_0, hfz13_1⟩ := bq_ BK395; obtain ⟨⟨hcz14_0, hcz14_1⟩, hfz14_0, hfz14_1⟩ := bq_ BK393))
  go_roundg k1
  case measure => have := HK1.out; omega
  case rel => exact ⟨(wrap64 (x3_1 + (wrap64 ((wrap64 ((wrap64 ((rd_T43 l0 x9_1).f0)) * (wrap64 ((rd_T43 l0 (ji6)).f1)))) - (wrap64 ((wrap64 ((rd_T43 l0 (ji6)).f0)) * (wrap64 ((rd_T43 l0 x9_1).f1)))))))), (wrap64 (x9_1 + 1)), (by first | rfl | (simp; done) | (simp only [← hji6] <;> (first | rfl | simp)) | (simp [*]; done)), (by first | rfl | (simp; done) | (simp [*]; done)), H', ⟨by have := HK1.out; omega⟩, ⟨k2_ HB GE393 GE395⟩⟩
end Go.Proofs.Ytllfeehchiikoaa.PA
namespace Go.Proofs.Ytllfeehchiikoaa.PA
open Go.RowKit Go.Proofs.YtllfeehchiikoaaW.PrintWords Go.Proofs.YtllfeehchiikoaaW.PrintLast Go.Proofs.YtllfeehchiikoaaW.PrintMore
set_option linter.unusedVariables false
set_option linter.unusedSimpArgs false

/-! ### impl_BareTwice: function 12 -/
def impl_BareTwice.l0 : Nat → Int → List (List (S43)) → Int → Int → Option (Int × Int)
 | 0, _, _, _, _ => none
 | k + 1, x6, x21, x22, x23 => if x23 < x22 then (if 0 ≤ x23 then (if x23 < (x21.length : Int) then ((impl_Stone_area.f k (rd_L3 x21 x23)).bind fun t399 => (impl_BareTwice.l0 k (wrap64 (x6 - t399)) x21 x22 (wrap64 (x23 + 1)))) else (none)) else (none)) else (some (x6, 0))
def impl_BareTwice.f (k : Nat) (a0_0 : Int) (a0_1 : Int) (l1 : List (List (S43))) : Option (Int × Int) := (impl_ValidLay.f k a0_0 a0_1 l1).bind fun t397 => (if t397 = true then (impl_BareTwice.l0 k (wrap64 ((wrap64 (2 * (wrap64 (a0_0)))) * (wrap64 (a0_1)))) l1 (l1.length : Int) 0) else (some (0, 1)))
theorem impl_BareTwice.mono_l : ∀ k, (∀ y0 y1 y2 y3, LeO (impl_BareTwice.l0 k y0 y1 y2 y3) (impl_BareTwice.l0 (k + 1) y0 y1 y2 y3))
 | 0 => fun _ _ _ _ r h => by simp [impl_BareTwice.l0] at h
 | k + 1 => by
  have ih0 := impl_BareTwice.mono_l k
  ·
   intro y0 y1 y2 y3
   unfold impl_BareTwice.l0
   repeat' first
   | (with_reducible exact ih0 _ _ _ _)
   | (with_reducible exact impl_Stone_area.mono _ _)
   | (with_reducible exact impl_ValidLay.mono _ _ _ _)
   | (with_reducible exact LeO.refl _)
   | (with_reducible exact LeO.none _)
   | (with_reducible refine LeO.ite ?_ ?_)
   | (with_reducible refine LeO.bind ?_ (fun _ => ?_))
theorem impl_BareTwice.mono : ∀ a0 a1 a2 k, LeO (impl_BareTwice.f k a0 a1 a2) (impl_BareTwice.f (k + 1) a0 a1 a2) := by
 intro a0 a1 a2 k
 have ih0 := impl_BareTwice.mono_l k
 unfold impl_BareTwice.f
 repeat' first
   | (with_reducible exact ih0 _ _ _ _)
   | (with_reducible exact impl_Stone_area.mono _ _)
   | (with_reducible exact impl_ValidLay.mono _ _ _ _)
   | (with_reducible exact LeO.refl _)
   | (with_reducible exact LeO.none _)
   | (with_reducible refine LeO.ite ?_ ?_)
   | (with_reducible refine LeO.bind ?_ (fun _ => ?_))
set_option maxHeartbeats 8000000 in
set_option maxRecDepth 100000 in
theorem impl_BareTwice.calls (k : Nat) (a0_0 : Int) (a0_1 : Int) (A1 : Option Addr) (c1 : Nat) (l1 : List (List (S43))) (r1 : Int) (r2 : Int) (w : World) (hr1 : Kd.C (Kd.slice 43 k43) w A1 l1.length l1) (hc1 : l1.length ≤ c1) (h : impl_BareTwice.f k a0_0 a0_1 l1 = some (r1, r2)) :
  Calls Try.prog 12 #[.agg #[.int .i16 a0_0, .int .i16 a0_1], .slice A1 l1.length c1] w fun e w' => e = .returned (.tuple #[.int .i64 r1, .int .i64 r2]) ∧ Below w.heap.size w w' := by
 have hu26 := Try.underlying26
 have HR1 := Aside0.mk hr1
 have HC1 := Aside0.mk hc1
 clear hr1 hc1
 have HB := Aside0.mk (Below.refl w.heap.size w)
 have H : ((impl_ValidLay.f k a0_0 a0_1 l1).bind fun t397 => (if t397 = true then (impl_BareTwice.l0 k (wrap64 ((wrap64 (2 * (wrap64 (a0_0)))) * (wrap64 (a0_1)))) l1 (l1.length : Int) 0) else (some (0, 1)))) = some (r1, r2) := h
 clear h
 replace H := Option.bind_eq_some_iff.mp H
 obtain ⟨t397, A30, H⟩ := H
 (try dsimp only at H)
 have A3 := Aside0.mk A30
 clear A30
 rcases (Decidable.em (t397 = true)).symm with c4 | c4
 ·
  replace c4 := Bool.eq_false_iff.mpr c4
  subst c4
  replace H := gf_ H
  simp only [Option.some.injEq, Prod.mk.injEq] at H
  obtain ⟨rfl, rfl⟩ := H
  go_enter Try.func12, Try.ntmps12
  go_wp2_with (first | ((with_reducible refine gate_dst (N := 2) rfl ?_); refine boxM_ 2 #[.int .i16 a0_0, .int .i16 a0_1] 26 ?_; intro gb396 hg w14 hbox hb; have BK396 := Aside0.mk (hbox); have GW396 := ge_ HB hg; have GE396 := ge_ HB hg; replace HB := bs_ HB hb; clear hb hbox hg; obtain ⟨⟨hcz15_0, hcz15_1⟩, hfz15_0, hfz15_1⟩ := bq_ BK396) | ((with_reducible refine gate_callee (f := 7) rfl ?_); refine goM_ (some 11) Try.func7 #[.agg #[.int .i16 a0_0, .int .i16 a0_1], .slice A1 l1.length c1] ?_; (with_reducible refine (impl_ValidLay.calls k a0_0 a0_1 _ _ l1 false _ ?side1 ?side2 A3.out).mono ?_); (case side1 => exact kc_ (Kd.C_below HR1.out HB.out)); (case side2 => exact HC1.out); rintro e w16 ⟨rfl, hb⟩; refine ⟨_, rfl, ?_⟩; replace BK396 := bd_ BK396 hb; replace HB := bs_ HB hb; clear hb))
  go_ret2
  exact ⟨rt_, bl_ HB⟩

 subst c4
 replace H := gt_ H
 have H' := Aside0.mk H
 clear H
 go_enter Try.func12, Try.ntmps12
 go_wp2_with (first | ((with_reducible refine gate_dst (N := 2) rfl ?_); refine boxM_ 2 #[.int .i16 a0_0, .int .i16 a0_1] 26 ?_; intro gb396 hg w5 hbox hb; have BK396 := Aside0.mk (hbox); have GW396 := ge_ HB hg; have GE396 := ge_ HB hg; replace HB := bs_ HB hb; clear hb hbox hg; obtain ⟨⟨hcz6_0, hcz6_1⟩, hfz6_0, hfz6_1⟩ := bq_ BK396) | ((with_reducible refine gate_callee (f := 7) rfl ?_); refine goM_ (some 11) Try.func7 #[.agg #[.int .i16 a0_0, .int .i16 a0_1], .slice A1 l1.length c1] ?_; (with_reducible refine (impl_ValidLay.calls k a0_0 a0_1 _ _ l1 true _ ?side1 ?side2 A3.out).mono ?_); (case side1 => exact kc_ (Kd.C_below HR1.out HB.out)); (case side2 => exact HC1.out); rintro e w7 ⟨rfl, hb⟩; refine ⟨_, rfl, ?_⟩; replace BK396 := bd_ BK396 hb; replace HB := bs_ HB hb; clear hb; obtain ⟨⟨hcz8_0, hcz8_1⟩, hfz8_0, hfz8_1⟩ := bq_ BK396))
 go_loopg [6, 23] k (fun kq v6 v23 w' => ∃ (x6_1 : Int) (x23_1 : Int), v6 = .int .i64 x6_1 ∧ v23 = .int .i64 x23_1 ∧ Aside0 (impl_BareTwice.l0 kq x6_1 l1 (l1.length : Int) x23_1 = some (r1, r2)) ∧ Aside0 (kq ≤ k) ∧ Aside0 (w'.heap[gb396]? = some (.cells #[.int .i16 a0_0, .int .i16 a0_1] 26 (0, 0))) ∧ Aside0 (Below w.heap.size w w'))
 case atStart => exact ⟨(wrap64 ((wrap64 (2 * (wrap64 (a0_0)))) * (wrap64 (a0_1)))), (0), (by first | rfl | (simp; done) | (simp [*]; done)), (by first | rfl | (simp; done) | (simp [*]; done)), H', ⟨Nat.le_refl _⟩, ⟨bk_ BK396⟩, ⟨bl_ HB⟩⟩
 case round =>
  clear H'
  obtain ⟨x6_1, x23_1, rfl, rfl, HA, HK1, BK396, HB⟩ := hrel
  rcases gk with _ | k1
  · exact absurd HA.out (by simp [impl_BareTwice.l0])
  have H := HA.out
  clear HA
  simp only [impl_BareTwice.l0] at H
  rcases (Decidable.em (x23_1 < (l1.length : Int))).symm with c9 | c9
  ·
   rw [if_neg c9] at H
   have c9b0 : decide (x23_1 < (l1.length : Int)) = false := decide_eq_false c9
   clear c9
   simp only [Option.some.injEq, Prod.mk.injEq] at H
   obtain ⟨rfl, rfl⟩ := H
   go_wp2
   go_ret2
   exact ⟨rt_, bl_ HB⟩
  rw [if_pos c9] at H
  have c9b0 : decide (x23_1 < (l1.length : Int)) = true := decide_eq_true c9
  clear c9
  obtain ⟨(c10 : 0 ≤ x23_1), H⟩ := gd_ H
  have c10b0 : decide (0 ≤ x23_1) = true := decide_eq_true c10
  clear c10
  obtain ⟨(c11 : x23_1 < (l1.length : Int)), H⟩ := gd_ H
  have c11b0 : decide (x23_1 < (l1.length : Int)) = true := decide_eq_true c11
  clear c11
  replace H := Option.bind_eq_some_iff.mp H
  obtain ⟨t399, A120, H⟩ := H
  (try dsimp only at H)
  have A12 := Aside0.mk A120
  clear A120
  have H' := Aside0.mk H
  clear H
  have p398 : 0 ≤ (x23_1 : Int) := od_
  have q398 : x23_1 < (l1.length : Int) := od_
  obtain ⟨ad398, A398_0, c398_0, e398, hx398_0, hl398_0, hi398_0⟩ := at_L3 HR1.out x23_1 p398 q398
  cases e398
  replace hx398_0 := (hw_ HB hx398_0 :)
  have HR398_0 := Aside0.mk hi398_0
  have HC398_0 := Aside0.mk hl398_0
  clear hi398_0 hl398_0
  replace p398 := eq_true p398
  replace q398 := eq_true q398
  go_wp2_with (first | ((with_reducible refine gate_callee (f := 34) rfl ?_); refine goM_ (some 29) Try.func34 #[.slice A398_0 (rd_L3 l1 x23_1).length c398_0] ?_; (with_reducible refine (impl_Stone_area.calls k1 _ _ (rd_L3 l1 x23_1) t399 _ ?side1 ?side2 A12.out).mono ?_); (case side1 => exact kc_ (Kd.C_below HR398_0.out HB.out)); (case side2 => exact HC398_0.out); rintro e w13 ⟨rfl, hb⟩; refine ⟨_, rfl, ?_⟩; replace BK396 := bd_ BK396 hb; replace HB := bs_ HB hb; clear hb))
  go_roundg k1
  case measure => have := HK1.out; omega
  case rel => exact ⟨(wrap64 (x6_1 - t399)), (wrap64 (x23_1 + 1)), (by first | rfl | (simp; done) | (simp [*]; done)), (by first | rfl | (simp; done) | (simp [*]; done)), H', ⟨by have := HK1.out; omega⟩, ⟨bk_ BK396⟩, ⟨bl_ HB⟩⟩
end Go.Proofs.Ytllfeehchiikoaa.PA
namespace Go.Proofs.Ytllfeehchiikoaa.PA
open Go.RowKit Go.Proofs.YtllfeehchiikoaaW.PrintWords Go.Proofs.YtllfeehchiikoaaW.PrintLast Go.Proofs.YtllfeehchiikoaaW.PrintMore
set_option linter.unusedVariables false
set_option linter.unusedSimpArgs false

/-! ### impl_AreaTwice: function 13 -/
def impl_AreaTwice.f (k : Nat) (l0 : List (S43)) : Option (Int × Int) := (impl_ValidStone.f k l0).bind fun t400 => (if t400 = true then ((impl_Stone_area.f k l0).bind fun t401 => (some (t401, 0))) else (some (0, 1)))
theorem impl_AreaTwice.mono : ∀ a0 k, LeO (impl_AreaTwice.f k a0) (impl_AreaTwice.f (k + 1) a0) := by
 intro a0 k
 unfold impl_AreaTwice.f
 repeat' first
   | (with_reducible exact impl_Stone_area.mono _ _)
   | (with_reducible exact impl_ValidStone.mono _ _)
   | (with_reducible exact LeO.refl _)
   | (with_reducible exact LeO.none _)
   | (with_reducible refine LeO.ite ?_ ?_)
   | (with_reducible refine LeO.bind ?_ (fun _ => ?_))
set_option maxHeartbeats 8000000 in
set_option maxRecDepth 100000 in
theorem impl_AreaTwice.calls (k : Nat) (A0 : Option Addr) (c0 : Nat) (l0 : List (S43)) (r1 : Int) (r2 : Int) (w : World) (hr0 : Kd.C k43 w A0 l0.length l0) (hc0 : l0.length ≤ c0) (h : impl_AreaTwice.f k l0 = some (r1, r2)) :
  Calls Try.prog 13 #[.slice A0 l0.length c0] w fun e w' => e = .returned (.tuple #[.int .i64 r1, .int .i64 r2]) ∧ Below w.heap.size w w' := by
 have HR0 := Aside0.mk hr0
 have HC0 := Aside0.mk hc0
 clear hr0 hc0
 have HB := Aside0.mk (Below.refl w.heap.size w)
 have H : ((impl_ValidStone.f k l0).bind fun t400 => (if t400 = true then ((impl_Stone_area.f k l0).bind fun t401 => (some (t401, 0))) else (some (0, 1)))) = some (r1, r2) := h
 clear h
 replace H := Option.bind_eq_some_iff.mp H
 obtain ⟨t400, A20, H⟩ := H
 (try dsimp only at H)
 have A2 := Aside0.mk A20
 clear A20
 rcases (Decidable.em (t400 = true)).symm with c3 | c3
 ·
  replace c3 := Bool.eq_false_iff.mpr c3
  subst c3
  replace H := gf_ H
  simp only [Option.some.injEq, Prod.mk.injEq] at H
  obtain ⟨rfl, rfl⟩ := H
  go_enter Try.func13, Try.ntmps13
  go_wp2_with (first | ((with_reducible refine gate_callee (f := 31) rfl ?_); refine goM_ (some 5) Try.func31 #[.slice A0 l0.length c0] ?_; (with_reducible refine (impl_ValidStone.calls k _ _ l0 false _ ?side1 ?side2 A2.out).mono ?_); (case side1 => exact kc_ HR0.out); (case side2 => exact HC0.out); rintro e w7 ⟨rfl, hb⟩; refine ⟨_, rfl, ?_⟩; replace HB := bs_ HB hb; clear hb))
  go_ret2
  exact ⟨rt_, bl_ HB⟩

 subst c3
 replace H := gt_ H
 replace H := Option.bind_eq_some_iff.mp H
 obtain ⟨t401, A40, H⟩ := H
 (try dsimp only at H)
 have A4 := Aside0.mk A40
 clear A40
 simp only [Option.some.injEq, Prod.mk.injEq] at H
 obtain ⟨rfl, rfl⟩ := H
 go_enter Try.func13, Try.ntmps13
 go_wp2_with (first | ((with_reducible refine gate_callee (f := 31) rfl ?_); refine goM_ (some 5) Try.func31 #[.slice A0 l0.length c0] ?_; (with_reducible refine (impl_ValidStone.calls k _ _ l0 true _ ?side1 ?side2 A2.out).mono ?_); (case side1 => exact kc_ HR0.out); (case side2 => exact HC0.out); rintro e w5 ⟨rfl, hb⟩; refine ⟨_, rfl, ?_⟩; replace HB := bs_ HB hb; clear hb) | ((with_reducible refine gate_callee (f := 34) rfl ?_); refine goM_ (some 8) Try.func34 #[.slice A0 l0.length c0] ?_; (with_reducible refine (impl_Stone_area.calls k _ _ l0 t401 _ ?side1 ?side2 A4.out).mono ?_); (case side1 => exact kc_ (Kd.C_below HR0.out HB.out)); (case side2 => exact HC0.out); rintro e w6 ⟨rfl, hb⟩; refine ⟨_, rfl, ?_⟩; replace HB := bs_ HB hb; clear hb))
 go_ret2
 exact ⟨rt_, bl_ HB⟩
end Go.Proofs.Ytllfeehchiikoaa.PA
