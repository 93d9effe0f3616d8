/- Pure functions, and that Go's functions come to them. -/
import Derived.Test.YtmglnofmmgokkaaPAx0
import Derived.Test.YtmglnofmmgokkaaPAxf58
import Derived.Test.YtmglnofmmgokkaaPAxgImplO
namespace Go.Proofs.Ytmglnofmmgokkaa.PA
open Go.RowKit Go.Proofs.YtmglnofmmgokkaaW.PrintWords Go.Proofs.YtmglnofmmgokkaaW.PrintLast Go.Proofs.YtmglnofmmgokkaaW.PrintMore
set_option linter.unusedVariables false
set_option linter.unusedSimpArgs false

/-! ### impl_seam: function 31 -/
mutual
def impl_seam.l0 : Nat → List (S34) → List (S34) → Int → List (S34) → Int → Int → Option (Int)
 | 0, _, _, _, _, _, _ => none
 | k + 1, x0, x1, x5, x13, x14, x15 => if x15 < x14 then (if 0 ≤ x15 then (if x15 < (x13.length : Int) then (impl_seam.l1 k x0 x1 x5 x15 x13 x14 x15 x1 (x1.length : Int) 0 ((rd_T34 x13 x15).f0) ((rd_T34 x13 x15).f1)) else (none)) else (none)) else (some x5)
def impl_seam.l1 : Nat → List (S34) → List (S34) → Int → Int → List (S34) → Int → Int → List (S34) → Int → Int → Int → Int → Option (Int)
 | 0, _, _, _, _, _, _, _, _, _, _, _, _ => none
 | k + 1, x0, x1, x5, x6, x13, x14, x15, x20, x21, x22, x298000, x298001 => if x22 < x21 then (if 0 ≤ x22 then (if x22 < (x20.length : Int) then (if (x0.length : Int) = 0 then (none) else (if 0 ≤ (Int.tmod (wrap64 (x6 + 1)) (x0.length : Int)) then (if (Int.tmod (wrap64 (x6 + 1)) (x0.length : Int)) < (x0.length : Int) then (if (x1.length : Int) = 0 then (none) else (if 0 ≤ (Int.tmod (wrap64 (x22 + 1)) (x1.length : Int)) then (if (Int.tmod (wrap64 (x22 + 1)) (x1.length : Int)) < (x1.length : Int) then ((impl_common.f k x298000 x298001 ((rd_T34 x0 (Int.tmod (wrap64 (x6 + 1)) (x0.length : Int))).f0) ((rd_T34 x0 (Int.tmod (wrap64 (x6 + 1)) (x0.length : Int))).f1) ((rd_T34 x20 x22).f0) ((rd_T34 x20 x22).f1) ((rd_T34 x1 (Int.tmod (wrap64 (x22 + 1)) (x1.length : Int))).f0) ((rd_T34 x1 (Int.tmod (wrap64 (x22 + 1)) (x1.length : Int))).f1)).bind fun t302 => (impl_seam.l1 k x0 x1 (mx x5 t302) x6 x13 x14 x15 x20 x21 (wrap64 (x22 + 1)) x298000 x298001)) else (none)) else (none))) else (none)) else (none))) else (none)) else (none)) else (impl_seam.l0 k x0 x1 x5 x13 x14 (wrap64 (x15 + 1)))
end
def impl_seam.f (k : Nat) (l0 : List (S34)) (l1 : List (S34)) : Option (Int) := (impl_overlap.f l0 l1).bind fun t295 => (if t295 = true then (some 0) else (impl_seam.l0 k l0 l1 0 l0 (l0.length : Int) 0))
theorem impl_seam.mono_l : ∀ k, (∀ y0 y1 y2 y3 y4 y5, LeO (impl_seam.l0 k y0 y1 y2 y3 y4 y5) (impl_seam.l0 (k + 1) y0 y1 y2 y3 y4 y5)) ∧ (∀ y0 y1 y2 y3 y4 y5 y6 y7 y8 y9 y10 y11, LeO (impl_seam.l1 k y0 y1 y2 y3 y4 y5 y6 y7 y8 y9 y10 y11) (impl_seam.l1 (k + 1) y0 y1 y2 y3 y4 y5 y6 y7 y8 y9 y10 y11))
 | 0 => ⟨fun _ _ _ _ _ _ r h => by simp [impl_seam.l0] at h, fun _ _ _ _ _ _ _ _ _ _ _ _ r h => by simp [impl_seam.l1] at h⟩
 | k + 1 => by
  obtain ⟨ih0, ih1⟩ := impl_seam.mono_l k
  refine ⟨?_, ?_⟩ <;> intros
  all_goals first | unfold impl_seam.l0 | unfold impl_seam.l1
  all_goals repeat' first | (with_reducible first | exact ih0 _ _ _ _ _ _ | exact ih1 _ _ _ _ _ _ _ _ _ _ _ _ | exact impl_common.mono _ _ _ _ _ _ _ _ _ | exact LeO.refl _ | exact LeO.none _ | refine LeO.ite ?_ ?_ | refine LeO.bind ?_ (fun _ => ?_))
theorem impl_seam.mono : ∀ a0 a1 k, LeO (impl_seam.f k a0 a1) (impl_seam.f (k + 1) a0 a1) := by
 intro a0 a1 k
 obtain ⟨ih0, ih1⟩ := impl_seam.mono_l k
 unfold impl_seam.f
 repeat' first | (with_reducible first | exact ih0 _ _ _ _ _ _ | exact ih1 _ _ _ _ _ _ _ _ _ _ _ _ | exact impl_common.mono _ _ _ _ _ _ _ _ _ | exact LeO.refl _ | exact LeO.none _ | refine LeO.ite ?_ ?_ | refine LeO.bind ?_ (fun _ => ?_))
def impl_seam.T10 : Bool × List (List Nat × List Nat) := (true, [([], []), ([], []), ([], []), ([], []), ([3], [3]), ([], []), ([5], [5]), ([4, 6], [4, 6]), ([2, 7], [2, 7]), ([8], [8]), ([], []), ([], []), ([], []), ([12], [12]), ([], []), ([14], [14]), ([13, 15], [13, 15]), ([11, 16], [11, 16]), ([17], [17]), ([1, 9, 10, 18], [1, 9, 10, 18]), ([0, 19], [0, 19]), ([20, 19, 0, 1, 2, 3, 4, 5, 6, 7, 8, 9, 10, 11, 12, 13, 14, 15, 16, 17, 18, 19, 20], [0, 20])])
def impl_seam.B10 : List Nat := [0, 0, 0, 0, 8, 0, 32, 120, 252, 508, 0, 0, 0, 4096, 0, 16384, 61440, 129024, 260096, 524286, 1048575, 2097151]
theorem impl_seam.tab10 : rtab .any (opsOf Try.f31 10) = impl_seam.T10 := by kernel_rfl
theorem impl_seam.bits10 : waitsOk impl_seam.T10.2 impl_seam.B10 = true := by kernel_rfl
set_option maxHeartbeats 8000000 in
set_option maxRecDepth 100000 in
theorem impl_seam.calls (k : Nat) (A0 : Option Addr) (c0 : Nat) (l0 : List (S34)) (A1 : Option Addr) (c1 : Nat) (l1 : List (S34)) (r : Int) (w : World) (hr0 : Kd.C k34 w A0 l0.length l0) (hc0 : l0.length ≤ c0) (hr1 : Kd.C k34 w A1 l1.length l1) (hc1 : l1.length ≤ c1) (h : impl_seam.f k l0 l1 = some r) :
  Calls Try.prog 31 #[.slice A0 l0.length c0, .slice A1 l1.length c1] w fun e w' => e = .returned (.int .i64 r) ∧ Below w.heap.size w w' := by
 have hu34 := Try.underlying34
 have HR0 := Aside0.mk hr0
 have HC0 := Aside0.mk hc0
 clear hr0 hc0
 have HR1 := Aside0.mk hr1
 have HC1 := Aside0.mk hc1
 clear hr1 hc1
 have HB := Aside0.mk (Below.refl w.heap.size w)
 have H : ((impl_overlap.f l0 l1).bind fun t295 => (if t295 = true then (some 0) else (impl_seam.l0 k l0 l1 0 l0 (l0.length : Int) 0))) = some r := h
 clear h
 obtain ⟨t295, A3, H⟩ := be_ H
 (try dsimp only at H)
 by_cases c4 : t295 = true
 ·
  subst c4
  replace H := gt_ H
  obtain rfl := Option.some.inj H
  go_enter Try.func31, Try.ntmps31
  go_wp2_with (first | ((with_reducible refine gate_callee (f := 26) rfl ?_); refine goM_ (some 12) Try.func26 #[.slice A0 l0.length c0, .slice A1 l1.length c1] ?_; (with_reducible refine (impl_overlap.calls _ _ l0 _ _ l1 true _ ?side1 ?side2 ?side3 ?side4 A3.out).mono ?_); (case side1 => exact kc_ HR0.out); (case side2 => exact HC0.out); (case side3 => exact kc_ HR1.out); (case side4 => exact HC1.out); rintro e w5 ⟨rfl, hb⟩; refine ⟨_, rfl, ?_⟩; replace HB := Aside0.mk (below_step (kB_ HB) hb); clear hb))
  go_ret
  exact ⟨rt_, kB_ HB⟩
 replace c4 := Bool.eq_false_iff.mpr c4
 subst c4
 replace H := gf_ H
 have H' := Aside0.mk H
 clear H
 go_enter Try.func31, Try.ntmps31
 go_wp2_with (first | ((with_reducible refine gate_callee (f := 26) rfl ?_); refine goM_ (some 12) Try.func26 #[.slice A0 l0.length c0, .slice A1 l1.length c1] ?_; (with_reducible refine (impl_overlap.calls _ _ l0 _ _ l1 false _ ?side1 ?side2 ?side3 ?side4 A3.out).mono ?_); (case side1 => exact kc_ HR0.out); (case side2 => exact HC0.out); (case side3 => exact kc_ HR1.out); (case side4 => exact HC1.out); rintro e w6 ⟨rfl, hb⟩; refine ⟨_, rfl, ?_⟩; replace HB := Aside0.mk (below_step (kB_ HB) hb); clear hb))
 go_loopg [5, 15] k (fun kq v5 v15 w' => ∃ (x5_1 : Int) (x15_1 : Int), v5 = .int .i64 x5_1 ∧ v15 = .int .i64 x15_1 ∧ Aside0 (impl_seam.l0 kq l0 l1 x5_1 l0 (l0.length : Int) x15_1 = some r) ∧ Aside0 (kq ≤ k) ∧ Aside0 (Below w.heap.size w w'))
 case atStart => exact ⟨(0), (0), (by first | rfl | (simp; done) | (simp [*]; done)), (by first | rfl | (simp; done) | (simp [*]; done)), H', ⟨Nat.le_refl _⟩, ⟨kB_ HB⟩⟩
 case round =>
  clear H'
  obtain ⟨x5_1, x15_1, rfl, rfl, HA, HK1, HB⟩ := hrel
  rcases gk with _ | k1
  · exact absurd HA.out (by simp [impl_seam.l0])
  have H := HA.out
  clear HA
  simp only [impl_seam.l0] at H
  rcases (Decidable.em (x15_1 < (l0.length : Int))).symm with c7 | c7
  ·
   rw [if_neg c7] at H
   have c7b0 : decide (x15_1 < (l0.length : Int)) = false := decide_eq_false c7
   clear c7
   obtain rfl := Option.some.inj H
   go_wp2
   go_ret
   exact ⟨rt_, kB_ HB⟩

  rw [if_pos c7] at H
  have c7b0 : decide (x15_1 < (l0.length : Int)) = true := decide_eq_true c7
  clear c7
  obtain ⟨c8b0, H⟩ := gx_ H
  obtain ⟨c9b0, H⟩ := gx_ H
  have H' := Aside0.mk H
  clear H
  have p296 : 0 ≤ (x15_1 : Int) := od_
  have q296 : x15_1 < (l0.length : Int) := od_
  obtain ⟨ad296, e296, hx296_0, hx296_1⟩ := af_ HB (at_T34 HR0.out x15_1 p296 q296)
  cases e296
  replace p296 := eq_true p296
  replace q296 := eq_true q296
  go_wp2_with (first | ((with_reducible refine gate_dst (N := 7) rfl ?_); refine boxM_ 7 #[.int .i16 0, .int .i16 0] 34 ?_; intro gb297 hg w10 hbox hb; have BK297 := Aside0.mk (hbox); have GW297 := Aside0.mk ((by rw [hg]; exact (below_size (kB_ HB)) : w.heap.size ≤ gb297)); have GE297 := Aside0.mk ((by rw [hg]; exact (below_size (kB_ HB)) : w.heap.size ≤ gb297)); replace HB := Aside0.mk (below_step (kB_ HB) hb); clear hb hbox hg; obtain ⟨⟨hcz11_0, hcz11_1⟩, hfz11_0, hfz11_1⟩ := bq_ BK297))
  go_loopg [5, 22] k1 (fun kq v5 v22 w' => ∃ (x5_2 : Int) (x22_2 : Int), v5 = .int .i64 x5_2 ∧ v22 = .int .i64 x22_2 ∧ Aside0 (impl_seam.l1 kq l0 l1 x5_2 x15_1 l0 (l0.length : Int) x15_1 l1 (l1.length : Int) x22_2 ((rd_T34 l0 x15_1).f0) ((rd_T34 l0 x15_1).f1) = some r) ∧ Aside0 (kq ≤ k1) ∧ Aside0 (w'.heap[gb297]? = some (.cells #[.int .i16 ((rd_T34 l0 x15_1).f0), .int .i16 ((rd_T34 l0 x15_1).f1)] 34 (0, 0))) ∧ Aside0 (Below w.heap.size w w'))
  case atStart => exact ⟨(x5_1), (0), (by first | rfl | (simp; done) | (simp [*]; done)), (by first | rfl | (simp; done) | (simp [*]; done)), H', ⟨Nat.le_refl _⟩, ⟨by (with_reducible repeat (first | refine blk_drewN ?_ _ | refine blk_drew ?_ | refine blk_alloc ?_ _)); refine blk_put (cs := #[.int .i16 ((rd_T34 l0 x15_1).f0), .int .i16 0]) ?_ 1 _ rfl; (with_reducible repeat (first | refine blk_drewN ?_ _ | refine blk_drew ?_ | refine blk_alloc ?_ _)); refine blk_put (cs := #[.int .i16 0, .int .i16 0]) ?_ 0 _ rfl; (with_reducible repeat (first | refine blk_drewN ?_ _ | refine blk_drew ?_ | refine blk_alloc ?_ _)); exact BK297.out⟩, ⟨k1_ HB GE297⟩⟩
  case round =>
   clear H'
   obtain ⟨x5_2, x22_2, rfl, rfl, HA, HK2, BK297, HB⟩ := hrel
   rcases gk with _ | k2
   · exact absurd HA.out (by simp [impl_seam.l1])
   have H := HA.out
   clear HA
   simp only [impl_seam.l1] at H
   rcases (Decidable.em (x22_2 < (l1.length : Int))).symm with c12 | c12
   ·
    rw [if_neg c12] at H
    have c12b0 : decide (x22_2 < (l1.length : Int)) = false := decide_eq_false c12
    clear c12
    have H' := Aside0.mk H
    clear H
    go_wp2
    go_roundg k2
    case measure => have := HK1.out; have := HK2.out; omega
    case rel => exact ⟨(x5_2), (wrap64 (x15_1 + 1)), (by first | rfl | (simp; done) | (simp [*]; done)), (by first | rfl | (simp; done) | (simp [*]; done)), H', ⟨by have := HK1.out; have := HK2.out; omega⟩, ⟨k1_ HB GE297⟩⟩
   rw [if_pos c12] at H
   have c12b0 : decide (x22_2 < (l1.length : Int)) = true := decide_eq_true c12
   clear c12
   obtain ⟨c13b0, H⟩ := gx_ H
   obtain ⟨c14b0, H⟩ := gx_ H
   by_cases c15 : (l0.length : Int) = 0
   ·
    rw [if_pos c15] at H
    exact absurd H (by simp)
   rw [if_neg c15] at H
   have c15b0 : ((l0.length : Int) == 0) = false := beq_eq_false_iff_ne.mpr c15
   have c15b1 : ((l0.length : Int) != 0) = true := bne_iff_ne.mpr c15
   have c15b2 : ¬ (l0 = []) := fun h_ => c15 (by rw [h_]; rfl)
   obtain ⟨ji16, hji16⟩ : ∃ j_ : Int, (Int.tmod (wrap64 (x15_1 + 1)) (l0.length : Int)) = j_ := ⟨_, rfl⟩
   replace H : (if 0 ≤ (ji16) then (if (ji16) < (l0.length : Int) then (if (l1.length : Int) = 0 then (none) else (if 0 ≤ (Int.tmod (wrap64 (x22_2 + 1)) (l1.length : Int)) then (if (Int.tmod (wrap64 (x22_2 + 1)) (l1.length : Int)) < (l1.length : Int) then ((impl_common.f k2 ((rd_T34 l0 x15_1).f0) ((rd_T34 l0 x15_1).f1) ((rd_T34 l0 (ji16)).f0) ((rd_T34 l0 (ji16)).f1) ((rd_T34 l1 x22_2).f0) ((rd_T34 l1 x22_2).f1) ((rd_T34 l1 (Int.tmod (wrap64 (x22_2 + 1)) (l1.length : Int))).f0) ((rd_T34 l1 (Int.tmod (wrap64 (x22_2 + 1)) (l1.length : Int))).f1)).bind fun t302 => (impl_seam.l1 k2 l0 l1 (mx x5_2 t302) x15_1 l0 (l0.length : Int) x15_1 l1 (l1.length : Int) (wrap64 (x22_2 + 1)) ((rd_T34 l0 x15_1).f0) ((rd_T34 l0 x15_1).f1))) else (none)) else (none))) else (none)) else (none)) = some r := by first | (rw [hji16] at H; exact H) | (simp only [hji16] at H ⊢; exact H)
   obtain ⟨c17b0, H⟩ := gx_ H
   obtain ⟨c18b0, H⟩ := gx_ H
   by_cases c19 : (l1.length : Int) = 0
   ·
    rw [if_pos c19] at H
    exact absurd H (by simp)
   rw [if_neg c19] at H
   have c19b0 : ((l1.length : Int) == 0) = false := beq_eq_false_iff_ne.mpr c19
   have c19b1 : ((l1.length : Int) != 0) = true := bne_iff_ne.mpr c19
   have c19b2 : ¬ (l1 = []) := fun h_ => c19 (by rw [h_]; rfl)
   obtain ⟨ji20, hji20⟩ : ∃ j_ : Int, (Int.tmod (wrap64 (x22_2 + 1)) (l1.length : Int)) = j_ := ⟨_, rfl⟩
   replace H : (if 0 ≤ (ji20) then (if (ji20) < (l1.length : Int) then ((impl_common.f k2 ((rd_T34 l0 x15_1).f0) ((rd_T34 l0 x15_1).f1) ((rd_T34 l0 (ji16)).f0) ((rd_T34 l0 (ji16)).f1) ((rd_T34 l1 x22_2).f0) ((rd_T34 l1 x22_2).f1) ((rd_T34 l1 (ji20)).f0) ((rd_T34 l1 (ji20)).f1)).bind fun t302 => (impl_seam.l1 k2 l0 l1 (mx x5_2 t302) x15_1 l0 (l0.length : Int) x15_1 l1 (l1.length : Int) (wrap64 (x22_2 + 1)) ((rd_T34 l0 x15_1).f0) ((rd_T34 l0 x15_1).f1))) else (none)) else (none)) = some r := by first | (rw [hji20] at H; exact H) | (simp only [hji20] at H ⊢; exact H)
   obtain ⟨c21b0, H⟩ := gx_ H
   obtain ⟨c22b0, H⟩ := gx_ H
   obtain ⟨t302, A23, H⟩ := be_ H
   (try dsimp only at H)
   obtain ⟨ji24, hji24⟩ : ∃ j_ : Int, (mx x5_2 t302) = j_ := ⟨_, rfl⟩
   replace H : (impl_seam.l1 k2 l0 l1 ji24 x15_1 l0 (l0.length : Int) x15_1 l1 (l1.length : Int) (wrap64 (x22_2 + 1)) ((rd_T34 l0 x15_1).f0) ((rd_T34 l0 x15_1).f1)) = some r := by first | (rw [hji24] at H; exact H) | (simp only [hji24] at H ⊢; exact H)
   (try rw [hji24] at A23)
   have hji24_ : (if x5_2 < t302 then t302 else x5_2) = ji24 := hji24
   have H' := Aside0.mk H
   clear H
   have p298 : 0 ≤ (x22_2 : Int) := od_
   have q298 : x22_2 < (l1.length : Int) := od_
   obtain ⟨ad298, e298, hx298_0, hx298_1⟩ := af_ HB (at_T34 HR1.out x22_2 p298 q298)
   cases e298
   replace p298 := eq_true p298
   replace q298 := eq_true q298
   try go_wp2_with (first | ((with_reducible refine gate_dst (N := 9) rfl ?_); refine boxM_ 9 #[.int .i16 0, .int .i16 0] 34 ?_; intro gb299 hg w25 hbox hb; have BK299 := Aside0.mk (hbox); have GW299 := Aside0.mk ((by rw [hg]; exact (below_size (k1_ HB GE297)) : w.heap.size ≤ gb299)); have GE299 := Aside0.mk ((by rw [hg]; exact (below_size (k1_ HB GE297)) : w.heap.size ≤ gb299)); replace HB := Aside0.mk (below_step (k1_ HB GE297) hb); have NB297_299 := nl_ BK297 hg; have NB299_297 := ng_ BK297 hg; replace BK297 := bd_ BK297 hb; clear hb hbox hg; have hnb26 := NB299_297.out; have hnc26 := NB297_299.out; obtain ⟨⟨hcz27_0, hcz27_1⟩, hfz27_0, hfz27_1⟩ := bq_ BK299))
   have n0_ : Aside0 (((w25.setCell ⟨gb299, 0, none⟩ (.int .i16 ((rd_T34 l1 x22_2).f0))).setCell ⟨gb299, 1, none⟩ (.int .i16 ((rd_T34 l1 x22_2).f1))).heap[gb297]? = some (.cells #[.int .i16 ((rd_T34 l0 x15_1).f0), .int .i16 ((rd_T34 l0 x15_1).f1)] 34 (0, 0))) := ⟨by (with_reducible repeat (first | refine blk_drewN ?_ _ | refine blk_drew ?_ | refine blk_alloc ?_ _)); refine blk_far ?_ NB297_299.out _; (with_reducible repeat (first | refine blk_drewN ?_ _ | refine blk_drew ?_ | refine blk_alloc ?_ _)); refine blk_far ?_ NB297_299.out _; (with_reducible repeat (first | refine blk_drewN ?_ _ | refine blk_drew ?_ | refine blk_alloc ?_ _)); exact BK297.out⟩
   have n1_ : Aside0 (((w25.setCell ⟨gb299, 0, none⟩ (.int .i16 ((rd_T34 l1 x22_2).f0))).setCell ⟨gb299, 1, none⟩ (.int .i16 ((rd_T34 l1 x22_2).f1))).heap[gb299]? = some (.cells #[.int .i16 ((rd_T34 l1 x22_2).f0), .int .i16 ((rd_T34 l1 x22_2).f1)] 34 (0, 0))) := ⟨by (with_reducible repeat (first | refine blk_drewN ?_ _ | refine blk_drew ?_ | refine blk_alloc ?_ _)); refine blk_put (cs := #[.int .i16 ((rd_T34 l1 x22_2).f0), .int .i16 0]) ?_ 1 _ rfl; (with_reducible repeat (first | refine blk_drewN ?_ _ | refine blk_drew ?_ | refine blk_alloc ?_ _)); refine blk_put (cs := #[.int .i16 0, .int .i16 0]) ?_ 0 _ rfl; (with_reducible repeat (first | refine blk_drewN ?_ _ | refine blk_drew ?_ | refine blk_alloc ?_ _)); exact BK299.out⟩
   have n2_ : Aside0 (Below w.heap.size w ((w25.setCell ⟨gb299, 0, none⟩ (.int .i16 ((rd_T34 l1 x22_2).f0))).setCell ⟨gb299, 1, none⟩ (.int .i16 ((rd_T34 l1 x22_2).f1)))) := ⟨k2_ HB GE297 GE299⟩
   generalize ((w25.setCell ⟨gb299, 0, none⟩ (.int .i16 ((rd_T34 l1 x22_2).f0))).setCell ⟨gb299, 1, none⟩ (.int .i16 ((rd_T34 l1 x22_2).f1))) = w28 at n0_ n1_ n2_ ⊢
   have BK297 := n0_
   have BK299 := n1_
   have HB := n2_
   clear n0_ n1_ n2_
   have n0_ := Aside0.mk (blk_drew BK297.out)
   have n1_ := Aside0.mk (blk_drew BK299.out)
   have n2_ := Aside0.mk (below_drew1 HB.out)
   clear BK297
   clear BK299
   clear HB
   have BK297 := n0_
   have BK299 := n1_
   have HB := n2_
   clear n0_ n1_ n2_
   have p300 : 0 ≤ ((ji16) : Int) := od_
   have q300 : (ji16) < (l0.length : Int) := od_
   obtain ⟨ad300, e300, hx300_0, hx300_1⟩ := at_T34 HR0.out (ji16) p300 q300
   have hw300_1 := hx300_1
   have hw300_0 := hx300_0
   obtain rfl : ad296 = ad300 := (by injection e300)
   replace hx300_0 := (hw_ HB hx300_0 :)
   replace hx300_1 := (hw_ HB hx300_1 :)
   replace p300 := eq_true p300
   replace q300 := eq_true q300
   have p301 : 0 ≤ ((ji20) : Int) := od_
   have q301 : (ji20) < (l1.length : Int) := od_
   obtain ⟨ad301, e301, hx301_0, hx301_1⟩ := at_T34 HR1.out (ji20) p301 q301
   have hw301_1 := hx301_1
   have hw301_0 := hx301_0
   obtain rfl : ad298 = ad301 := (by injection e301)
   replace hx301_0 := (hw_ HB hx301_0 :)
   replace hx301_1 := (hw_ HB hx301_1 :)
   replace p301 := eq_true p301
   replace q301 := eq_true q301
   refine start_ (n := 22) (S := fun w' => w'.cell? ⟨gb297, 0, none⟩ = some (.int .i16 ((rd_T34 l0 x15_1).f0)) ∧ w'.cell? ⟨gb297, 1, none⟩ = some (.int .i16 ((rd_T34 l0 x15_1).f1)) ∧ w'.cell? ⟨gb299, 0, none⟩ = some (.int .i16 ((rd_T34 l1 x22_2).f0)) ∧ w'.cell? ⟨gb299, 1, none⟩ = some (.int .i16 ((rd_T34 l1 x22_2).f1)) ∧ w'.cell? (ad296.add (((ji16)).toNat * 2)) = some (.int .i16 ((rd_T34 l0 (ji16)).f0)) ∧ w'.cell? ⟨(ad296.add (((ji16)).toNat * 2)).block, (ad296.add (((ji16)).toNat * 2)).off + 1, none⟩ = some (.int .i16 ((rd_T34 l0 (ji16)).f1)) ∧ w'.cell? (ad298.add (((ji20)).toNat * 2)) = some (.int .i16 ((rd_T34 l1 (ji20)).f0)) ∧ w'.cell? ⟨(ad298.add (((ji20)).toNat * 2)).block, (ad298.add (((ji20)).toNat * 2)).off + 1, none⟩ = some (.int .i16 ((rd_T34 l1 (ji20)).f1))) (ds := []) #[false, false, false, false, false, false, false, false, false, false, false, false, false, false, false, false, false, false, false, false, false, false] (by kernel_rfl) rfl rfl ⟨(blk_cell BK297.out 0).trans rfl, (blk_cell BK297.out 1).trans rfl, (blk_cell BK299.out 0).trans rfl, (blk_cell BK299.out 1).trans rfl, ((hw_ HB hw300_0 :)), ((hw_ HB hw300_1 :)), ((hw_ HB hw301_0 :)), ((hw_ HB hw301_1 :))⟩ (fun hHeld => ?_); refine with_tabW impl_seam.tab10 impl_seam.bits10 (fun HT_ HW_ => ?_)
   generalize w28.drew = w29 at BK297 BK299 HB hx300_0 hx300_1 hx301_0 hx301_1 hHeld ⊢
   refine pu_ 0 27 (lA 22 1) ?_ ?_ HT_ ?_
   refine pu_ 2 29 (lA 22 5) ?_ ?_ HT_ ?_
   refine pu_ 3 30 (lA 22 13) ?_ ?_ HT_ ?_
   refine pu_ 4 31 (lA 22 29) ?_ ?_ HT_ ?_
   refine pu_ 5 32 (lA 22 61) ?_ ?_ HT_ ?_
   refine pu_ 6 33 (lA 22 125) ?_ ?_ HT_ ?_
   refine pu_ 7 34 (lA 22 253) ?_ ?_ HT_ ?_
   refine pu_ 8 35 (lA 22 509) ?_ ?_ HT_ ?_
   refine pu_ 11 38 (lA 22 2557) ?_ ?_ HT_ ?_
   refine pu_ 12 39 (lA 22 6653) ?_ ?_ HT_ ?_
   refine pu_ 13 40 (lA 22 14845) ?_ ?_ HT_ ?_
   refine pu_ 14 41 (lA 22 31229) ?_ ?_ HT_ ?_
   refine pu_ 15 42 (lA 22 63997) ?_ ?_ HT_ ?_
   refine pu_ 16 43 (lA 22 129533) ?_ ?_ HT_ ?_
   refine pu_ 17 44 (lA 22 260605) ?_ ?_ HT_ ?_
   refine tk_ 1 28 (lA 22 260607) ?_ ?_ HT_ HW_ hHeld ?_
   refine tk_ 9 36 (lA 22 261119) ?_ ?_ HT_ HW_ hHeld ?_
   refine tk_ 10 37 (lA 22 262143) ?_ ?_ HT_ HW_ hHeld ?_
   refine tk_ 18 45 (lA 22 524287) ?_ ?_ HT_ HW_ hHeld ?_
   refine one_ (i := 19) (N := some 46) #[true, true, true, true, true, true, true, true, true, true, true, true, true, true, true, true, true, true, true, true, false, false] rfl rfl (one_of HT_.out (by kernel_rfl)) (by decide) (fun K hK => ?_)
   refine goes_ Try.func58 (by kernel_rfl) rfl #[.agg #[.int .i16 ((rd_T34 l0 x15_1).f0), .int .i16 ((rd_T34 l0 x15_1).f1)], .agg #[.int .i16 ((rd_T34 l0 (ji16)).f0), .int .i16 ((rd_T34 l0 (ji16)).f1)], .agg #[.int .i16 ((rd_T34 l1 x22_2).f0), .int .i16 ((rd_T34 l1 x22_2).f1)], .agg #[.int .i16 ((rd_T34 l1 (ji20)).f0), .int .i16 ((rd_T34 l1 (ji20)).f1)]] (by rfl) rfl rfl (by (try simp only [List.map_toArray, List.map_cons, List.map_nil]); first | done | (simp only [hji16, hji20]; rfl) | rfl | (simp only [List.length_drop, List.length_take]; rfl)) ?_
   with_reducible refine (impl_common.calls k2 ((rd_T34 l0 x15_1).f0) ((rd_T34 l0 x15_1).f1) ((rd_T34 l0 (ji16)).f0) ((rd_T34 l0 (ji16)).f1) ((rd_T34 l1 x22_2).f0) ((rd_T34 l1 x22_2).f1) ((rd_T34 l1 (ji20)).f0) ((rd_T34 l1 (ji20)).f1) t302 _ A23.out).mono ?_
   rintro e w30 ⟨rfl, hb⟩
   refine ⟨_, rfl, ?_⟩
   have n0_ := bd_ BK297 hb
   have n1_ := bd_ BK299 hb
   have n2_ := Aside0.mk (below_step (k2_ HB GE297 GE299) hb)
   clear BK297
   clear BK299
   clear HB
   have BK297 := n0_
   have BK299 := n1_
   have HB := n2_
   clear n0_ n1_ n2_
   refine hK.out _ _ ⟨(blk_cell BK297.out 0).trans rfl, (blk_cell BK297.out 1).trans rfl, (blk_cell BK299.out 0).trans rfl, (blk_cell BK299.out 1).trans rfl, ((hw_ HB hw300_0 :)), ((hw_ HB hw300_1 :)), ((hw_ HB hw301_0 :)), ((hw_ HB hw301_1 :))⟩ (fun hHeld => ?_)
   clear hK K
   refine norm_ (a' := ?_) ?_ ?_
   rotate_left
   ·
    show Act.put _ (some 46) _ = _
    simp only [Act.put, List.setIfInBounds_toArray, List.set_cons_zero, List.set_cons_succ, i64_w, i32_w]
    rfl
   refine pu_ 20 47 (lA 22 2097151) ?_ ?_ HT_ ?_
   refine pu_ 21 5 (lA 22 4194303) ?_ ?_ HT_ ?_
   refine done_ (done_of HT_.out (by kernel_rfl)) ?_
   try go_wp2
   go_roundg k2
   case measure => have := HK1.out; have := HK2.out; omega
   case rel => exact ⟨(ji24), (wrap64 (x22_2 + 1)), (by first | rfl | (simp; done) | (simp only [← hji24] <;> (first | rfl | simp)) | (simp [*]; done)), (by first | rfl | (simp; done) | (simp [*]; done)), H', ⟨by have := HK1.out; have := HK2.out; omega⟩, ⟨bk_ BK297⟩, ⟨k2_ HB GE297 GE299⟩⟩
end Go.Proofs.Ytmglnofmmgokkaa.PA
