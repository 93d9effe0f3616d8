/- Pure functions, and that Go's functions come to them. -/
import Derived.Test.YthbogbaaikjhbaaGreatDoorPAx0
import Derived.Test.YthbogbaaikjhbaaGreatDoorPAxm29
import Derived.Test.YthbogbaaikjhbaaGreatDoorPAxgImpl
namespace Go.Proofs.YthbogbaaikjhbaaGreatDoor.PA
open Go.RowKit Go.Proofs.YthbogbaaikjhbaaGreatDoorW.PrintWords Go.Proofs.YthbogbaaikjhbaaGreatDoorW.PrintLast Go.Proofs.YthbogbaaikjhbaaGreatDoorW.PrintMore
set_option linter.unusedVariables false
set_option linter.unusedSimpArgs false

/-! ### impl_Stone_where: function 46 -/
def impl_Stone_where.l0 : Nat → List (S43) → Int → List (S43) → Int → Int → Int → Int → Option (Int)
 | 0, _, _, _, _, _, _, _ => none
 | k + 1, x0, x5, x9, x10, x11, x473000, x473001 => if x11 < x10 then (if 0 ≤ x11 then (if x11 < (x9.length : Int) then (if (x0.length : Int) = 0 then (none) else (if 0 ≤ (Int.tmod (wrap64 (x11 + 1)) (x0.length : Int)) then (if (Int.tmod (wrap64 (x11 + 1)) (x0.length : Int)) < (x0.length : Int) then ((impl_side.f ((rd_T43 x9 x11).f0) ((rd_T43 x9 x11).f1) ((rd_T43 x0 (Int.tmod (wrap64 (x11 + 1)) (x0.length : Int))).f0) ((rd_T43 x0 (Int.tmod (wrap64 (x11 + 1)) (x0.length : Int))).f1) x473000 x473001).bind fun t476 => (if t476 < 0 then (some 0) else (if t476 = 0 then (impl_Stone_where.l0 k x0 1 x9 x10 (wrap64 (x11 + 1)) x473000 x473001) else (impl_Stone_where.l0 k x0 x5 x9 x10 (wrap64 (x11 + 1)) x473000 x473001)))) else (none)) else (none))) else (none)) else (none)) else (some x5)
def impl_Stone_where.f (k : Nat) (l0 : List (S43)) (a1_0 : Int) (a1_1 : Int) : Option (Int) := impl_Stone_where.l0 k l0 2 l0 (l0.length : Int) 0 a1_0 a1_1
theorem impl_Stone_where.mono_l : ∀ k, (∀ y0 y1 y2 y3 y4 y5 y6, LeO (impl_Stone_where.l0 k y0 y1 y2 y3 y4 y5 y6) (impl_Stone_where.l0 (k + 1) y0 y1 y2 y3 y4 y5 y6))
 | 0 => fun _ _ _ _ _ _ _ r h => by simp [impl_Stone_where.l0] at h
 | k + 1 => by
  have ih0 := impl_Stone_where.mono_l k
  ·
   intro y0 y1 y2 y3 y4 y5 y6
   unfold impl_Stone_where.l0
   repeat' first | (with_reducible first | exact ih0 _ _ _ _ _ _ _ | exact LeO.refl _ | exact LeO.none _ | refine LeO.ite ?_ ?_ | refine LeO.bind ?_ (fun _ => ?_))
theorem impl_Stone_where.mono : ∀ a0 a1 a2 k, LeO (impl_Stone_where.f k a0 a1 a2) (impl_Stone_where.f (k + 1) a0 a1 a2) := by
 intro a0 a1 a2 k
 have ih0 := impl_Stone_where.mono_l k
 unfold impl_Stone_where.f
 repeat' first | (with_reducible first | exact ih0 _ _ _ _ _ _ _ | exact LeO.refl _ | exact LeO.none _ | refine LeO.ite ?_ ?_ | refine LeO.bind ?_ (fun _ => ?_))
def impl_Stone_where.T5 : Bool × List (List Nat × List Nat) := (true, [([], []), ([], []), ([], []), ([2], [2]), ([], []), ([4], [4]), ([3, 5], [3, 5]), ([1, 6], [1, 6]), ([7], [7]), ([], []), ([0, 8, 9], [0, 8, 9]), ([10, 10, 0, 1, 2, 3, 4, 5, 6, 7, 8, 9, 10], [10])])
def impl_Stone_where.B5 : List Nat := [0, 0, 0, 4, 0, 16, 60, 126, 254, 0, 1023, 2047]
theorem impl_Stone_where.tab5 : rtab .any (opsOf Tryz.f46 5) = impl_Stone_where.T5 := by kernel_rfl
theorem impl_Stone_where.bits5 : waitsOk impl_Stone_where.T5.2 impl_Stone_where.B5 = true := by kernel_rfl
set_option maxHeartbeats 8000000 in
set_option maxRecDepth 100000 in
theorem impl_Stone_where.calls (k : Nat) (A0 : Option Addr) (c0 : Nat) (l0 : List (S43)) (a1_0 : Int) (a1_1 : Int) (r : Int) (w : World) (hr0 : Kd.C k43 w A0 l0.length l0) (hc0 : l0.length ≤ c0) (h : impl_Stone_where.f k l0 a1_0 a1_1 = some r) :
  Calls Tryz.prog 46 #[.slice A0 l0.length c0, .agg #[.int .i16 a1_0, .int .i16 a1_1]] w fun e w' => e = .returned (.int .i64 r) ∧ Below w.heap.size w w' := by
 have hu43 := Tryz.underlying43
 have HR0 := Aside0.mk hr0
 have HC0 := Aside0.mk hc0
 clear hr0 hc0
 have HB := Aside0.mk (Below.refl w.heap.size w)
 have H : (impl_Stone_where.l0 k l0 2 l0 (l0.length : Int) 0 a1_0 a1_1) = some r := h
 clear h
 have H' := Aside0.mk H
 clear H
 go_enter Tryz.func46, Tryz.ntmps46
 go_wp2_with (first | ((with_reducible refine gate_dst (N := 3) rfl ?_); refine boxM_ 3 #[.int .i16 a1_0, .int .i16 a1_1] 43 ?_; intro gb472 hg w3 hbox hb; have BK472 := Aside0.mk (hbox); have GW472 := Aside0.mk ((by rw [hg]; exact (below_size (kB_ HB)) : w.heap.size ≤ gb472)); have GE472 := Aside0.mk ((by rw [hg]; exact (below_size (kB_ HB)) : w.heap.size ≤ gb472)); replace HB := Aside0.mk (below_step (kB_ HB) hb); clear hb hbox hg))
 go_loopg [5, 11] k (fun kq v5 v11 w' => ∃ (x5_1 : Int) (x11_1 : Int), v5 = .int .i64 x5_1 ∧ v11 = .int .i64 x11_1 ∧ Aside0 (impl_Stone_where.l0 kq l0 x5_1 l0 (l0.length : Int) x11_1 a1_0 a1_1 = some r) ∧ Aside0 (kq ≤ k) ∧ Aside0 (w'.heap[gb472]? = some (.cells #[.int .i16 a1_0, .int .i16 a1_1] 43 (0, 0))) ∧ Aside0 (Below w.heap.size w w'))
 case atStart => exact ⟨(2), (0), (by first | rfl | (simp; done) | (simp [*]; done)), (by first | rfl | (simp; done) | (simp [*]; done)), H', ⟨Nat.le_refl _⟩, ⟨bk_ BK472⟩, ⟨k1_ HB GE472⟩⟩
 case round =>
  clear H'
  obtain ⟨x5_1, x11_1, rfl, rfl, HA, HK1, BK472, HB⟩ := hrel
  rcases gk with _ | k1
  · exact absurd HA.out (by simp [impl_Stone_where.l0])
  have H := HA.out
  clear HA
  simp only [impl_Stone_where.l0] at H
  rcases (Decidable.em (x11_1 < (l0.length : Int))).symm with c4 | c4
  ·
   rw [if_neg c4] at H
   have c4b0 : decide (x11_1 < (l0.length : Int)) = false := decide_eq_false c4
   clear c4
   obtain rfl := Option.some.inj H
   go_wp2
   go_ret
   exact ⟨rt_, k1_ HB GE472⟩

  rw [if_pos c4] at H
  have c4b0 : decide (x11_1 < (l0.length : Int)) = true := decide_eq_true c4
  clear c4
  obtain ⟨c5b0, H⟩ := gx_ H
  obtain ⟨c6b0, H⟩ := gx_ H
  by_cases c7 : (l0.length : Int) = 0
  ·
   rw [if_pos c7] at H
   exact absurd H (by simp)
  rw [if_neg c7] at H
  have c7b0 : ((l0.length : Int) == 0) = false := beq_eq_false_iff_ne.mpr c7
  have c7b1 : ((l0.length : Int) != 0) = true := bne_iff_ne.mpr c7
  have c7b2 : ¬ (l0 = []) := fun h_ => c7 (by rw [h_]; rfl)
  obtain ⟨ji8, hji8⟩ : ∃ j_ : Int, (Int.tmod (wrap64 (x11_1 + 1)) (l0.length : Int)) = j_ := ⟨_, rfl⟩
  replace H : (if 0 ≤ (ji8) then (if (ji8) < (l0.length : Int) then ((impl_side.f ((rd_T43 l0 x11_1).f0) ((rd_T43 l0 x11_1).f1) ((rd_T43 l0 (ji8)).f0) ((rd_T43 l0 (ji8)).f1) a1_0 a1_1).bind fun t476 => (if t476 < 0 then (some 0) else (if t476 = 0 then (impl_Stone_where.l0 k1 l0 1 l0 (l0.length : Int) (wrap64 (x11_1 + 1)) a1_0 a1_1) else (impl_Stone_where.l0 k1 l0 x5_1 l0 (l0.length : Int) (wrap64 (x11_1 + 1)) a1_0 a1_1)))) else (none)) else (none)) = some r := by first | (rw [hji8] at H; exact H) | (simp only [hji8] at H ⊢; exact H)
  obtain ⟨c9b0, H⟩ := gx_ H
  obtain ⟨c10b0, H⟩ := gx_ H
  obtain ⟨t476, A11, H⟩ := be_ H
  (try dsimp only at H)
  by_cases c12 : t476 < 0
  ·
   rw [if_pos c12] at H
   have c12b0 : decide (t476 < 0) = true := decide_eq_true c12
   clear c12
   obtain rfl := Option.some.inj H
   have p473 : 0 ≤ (x11_1 : Int) := od_
   have q473 : x11_1 < (l0.length : Int) := od_
   obtain ⟨ad473, e473, hx473_0, hx473_1⟩ := af_ HB (at_T43 HR0.out x11_1 p473 q473)
   cases e473
   replace p473 := eq_true p473
   replace q473 := eq_true q473
   try go_wp2_with (first | ((with_reducible refine gate_dst (N := 7) rfl ?_); refine boxM_ 7 #[.int .i16 0, .int .i16 0] 43 ?_; intro gb474 hg w13 hbox hb; have BK474 := Aside0.mk (hbox); have GW474 := Aside0.mk ((by rw [hg]; exact (below_size (k1_ HB GE472)) : w.heap.size ≤ gb474)); have GE474 := Aside0.mk ((by rw [hg]; exact (below_size (k1_ HB GE472)) : w.heap.size ≤ gb474)); replace HB := Aside0.mk (below_step (k1_ HB GE472) hb); have NB472_474 := nl_ BK472 hg; have NB474_472 := ng_ BK472 hg; replace BK472 := bd_ BK472 hb; clear hb hbox hg; have hnb14 := NB474_472.out; have hnc14 := NB472_474.out; obtain ⟨⟨hcz15_0, hcz15_1⟩, hfz15_0, hfz15_1⟩ := bq_ BK474))
   have n0_ : Aside0 (((w13.setCell ⟨gb474, 0, none⟩ (.int .i16 ((rd_T43 l0 x11_1).f0))).setCell ⟨gb474, 1, none⟩ (.int .i16 ((rd_T43 l0 x11_1).f1))).heap[gb472]? = some (.cells #[.int .i16 a1_0, .int .i16 a1_1] 43 (0, 0))) := ⟨by (with_reducible repeat (first | refine blk_drewN ?_ _ | refine blk_drew ?_ | refine blk_alloc ?_ _)); refine blk_far ?_ NB472_474.out _; (with_reducible repeat (first | refine blk_drewN ?_ _ | refine blk_drew ?_ | refine blk_alloc ?_ _)); refine blk_far ?_ NB472_474.out _; (with_reducible repeat (first | refine blk_drewN ?_ _ | refine blk_drew ?_ | refine blk_alloc ?_ _)); exact BK472.out⟩
   have n1_ : Aside0 (((w13.setCell ⟨gb474, 0, none⟩ (.int .i16 ((rd_T43 l0 x11_1).f0))).setCell ⟨gb474, 1, none⟩ (.int .i16 ((rd_T43 l0 x11_1).f1))).heap[gb474]? = some (.cells #[.int .i16 ((rd_T43 l0 x11_1).f0), .int .i16 ((rd_T43 l0 x11_1).f1)] 43 (0, 0))) := ⟨by (with_reducible repeat (first | refine blk_drewN ?_ _ | refine blk_drew ?_ | refine blk_alloc ?_ _)); refine blk_put (cs := #[.int .i16 ((rd_T43 l0 x11_1).f0), .int .i16 0]) ?_ 1 _ rfl; (with_reducible repeat (first | refine blk_drewN ?_ _ | refine blk_drew ?_ | refine blk_alloc ?_ _)); refine blk_put (cs := #[.int .i16 0, .int .i16 0]) ?_ 0 _ rfl; (with_reducible repeat (first | refine blk_drewN ?_ _ | refine blk_drew ?_ | refine blk_alloc ?_ _)); exact BK474.out⟩
   have n2_ : Aside0 (Below w.heap.size w ((w13.setCell ⟨gb474, 0, none⟩ (.int .i16 ((rd_T43 l0 x11_1).f0))).setCell ⟨gb474, 1, none⟩ (.int .i16 ((rd_T43 l0 x11_1).f1)))) := ⟨k2_ HB GE472 GE474⟩
   generalize ((w13.setCell ⟨gb474, 0, none⟩ (.int .i16 ((rd_T43 l0 x11_1).f0))).setCell ⟨gb474, 1, none⟩ (.int .i16 ((rd_T43 l0 x11_1).f1))) = w16 at n0_ n1_ n2_ ⊢
   have BK472 := n0_
   have BK474 := n1_
   have HB := n2_
   clear n0_ n1_ n2_
   have n0_ := Aside0.mk (blk_drew BK472.out)
   have n1_ := Aside0.mk (blk_drew BK474.out)
   have n2_ := Aside0.mk (below_drew1 HB.out)
   clear BK472
   clear BK474
   clear HB
   have BK472 := n0_
   have BK474 := n1_
   have HB := n2_
   clear n0_ n1_ n2_
   have p475 : 0 ≤ ((ji8) : Int) := od_
   have q475 : (ji8) < (l0.length : Int) := od_
   obtain ⟨ad475, e475, hx475_0, hx475_1⟩ := at_T43 HR0.out (ji8) p475 q475
   have hw475_1 := hx475_1
   have hw475_0 := hx475_0
   obtain rfl : ad473 = ad475 := (by injection e475)
   replace hx475_0 := (hw_ HB hx475_0 :)
   replace hx475_1 := (hw_ HB hx475_1 :)
   replace p475 := eq_true p475
   replace q475 := eq_true q475
   refine start_ (n := 12) (S := fun w' => w'.cell? ⟨gb474, 0, none⟩ = some (.int .i16 ((rd_T43 l0 x11_1).f0)) ∧ w'.cell? ⟨gb474, 1, none⟩ = some (.int .i16 ((rd_T43 l0 x11_1).f1)) ∧ w'.cell? ⟨gb472, 0, none⟩ = some (.int .i16 a1_0) ∧ w'.cell? ⟨gb472, 1, none⟩ = some (.int .i16 a1_1) ∧ w'.cell? (ad473.add (((ji8)).toNat * 2)) = some (.int .i16 ((rd_T43 l0 (ji8)).f0)) ∧ w'.cell? ⟨(ad473.add (((ji8)).toNat * 2)).block, (ad473.add (((ji8)).toNat * 2)).off + 1, none⟩ = some (.int .i16 ((rd_T43 l0 (ji8)).f1))) (ds := []) #[false, false, false, false, false, false, false, false, false, false, false, false] (by kernel_rfl) rfl rfl ⟨(blk_cell BK474.out 0).trans rfl, (blk_cell BK474.out 1).trans rfl, (blk_cell BK472.out 0).trans rfl, (blk_cell BK472.out 1).trans rfl, ((hw_ HB hw475_0 :)), ((hw_ HB hw475_1 :))⟩ (fun hHeld => ?_); refine with_tabW impl_Stone_where.tab5 impl_Stone_where.bits5 (fun HT_ HW_ => ?_)
   generalize w16.drew = w17 at BK472 BK474 HB hx475_0 hx475_1 hHeld ⊢
   refine pu_ 1 17 (lA 12 2) ?_ ?_ HT_ ?_
   refine pu_ 2 18 (lA 12 6) ?_ ?_ HT_ ?_
   refine pu_ 3 19 (lA 12 14) ?_ ?_ HT_ ?_
   refine pu_ 4 20 (lA 12 30) ?_ ?_ HT_ ?_
   refine pu_ 5 21 (lA 12 62) ?_ ?_ HT_ ?_
   refine pu_ 6 22 (lA 12 126) ?_ ?_ HT_ ?_
   refine pu_ 7 23 (lA 12 254) ?_ ?_ HT_ ?_
   refine tk_ 0 16 (lA 12 255) ?_ ?_ HT_ HW_ hHeld ?_
   refine tk_ 8 24 (lA 12 511) ?_ ?_ HT_ HW_ hHeld ?_
   refine tk_ 9 25 (lA 12 1023) ?_ ?_ HT_ HW_ hHeld ?_
   refine one_ (i := 10) (N := some 26) #[true, true, true, true, true, true, true, true, true, true, true, false] rfl rfl (one_of HT_.out (by kernel_rfl)) (by decide) (fun K hK => ?_)
   refine goes_ Tryz.func71 (by kernel_rfl) rfl #[.agg #[.int .i16 ((rd_T43 l0 x11_1).f0), .int .i16 ((rd_T43 l0 x11_1).f1)], .agg #[.int .i16 ((rd_T43 l0 (ji8)).f0), .int .i16 ((rd_T43 l0 (ji8)).f1)], .agg #[.int .i16 a1_0, .int .i16 a1_1]] (by rfl) rfl rfl (by (try simp only [List.map_toArray, List.map_cons, List.map_nil]); first | done | (simp only [hji8]; rfl) | rfl | (simp only [List.length_drop, List.length_take]; rfl)) ?_
   with_reducible refine (impl_side.calls ((rd_T43 l0 x11_1).f0) ((rd_T43 l0 x11_1).f1) ((rd_T43 l0 (ji8)).f0) ((rd_T43 l0 (ji8)).f1) a1_0 a1_1 t476 _ A11.out).mono ?_
   rintro e w18 ⟨rfl, hb⟩
   refine ⟨_, rfl, ?_⟩
   have n0_ := bd_ BK472 hb
   have n1_ := bd_ BK474 hb
   have n2_ := Aside0.mk (below_step (k2_ HB GE472 GE474) hb)
   clear BK472
   clear BK474
   clear HB
   have BK472 := n0_
   have BK474 := n1_
   have HB := n2_
   clear n0_ n1_ n2_
   refine hK.out _ _ ⟨(blk_cell BK474.out 0).trans rfl, (blk_cell BK474.out 1).trans rfl, (blk_cell BK472.out 0).trans rfl, (blk_cell BK472.out 1).trans rfl, ((hw_ HB hw475_0 :)), ((hw_ HB hw475_1 :))⟩ (fun hHeld => ?_)
   clear hK K
   refine norm_ (a' := ?_) ?_ ?_
   rotate_left
   ·
    show Act.put _ (some 26) _ = _
    simp only [Act.put, List.setIfInBounds_toArray, List.set_cons_zero, List.set_cons_succ, i64_w, i32_w]
    rfl
   refine pu_ 11 8 (lA 12 4095) ?_ ?_ HT_ ?_
   refine done_ (done_of HT_.out (by kernel_rfl)) ?_
   try go_wp2
   go_ret
   exact ⟨by first | rfl | (simp [errW_none, errW_some] <;> rfl) | (simp only [← hji8]; first | rfl | (simp [errW_none, errW_some] <;> rfl)) | (simp [*, errW_none, errW_some] <;> rfl), k2_ HB GE472 GE474⟩
  rw [if_neg c12] at H
  have c12b0 : decide (t476 < 0) = false := decide_eq_false c12
  clear c12
  rcases (Decidable.em (t476 = 0)).symm with c19 | c19
  ·
   rw [if_neg c19] at H
   have c19b0 : (t476 == 0) = false := beq_eq_false_iff_ne.mpr c19
   have c19b1 : (t476 != 0) = true := bne_iff_ne.mpr c19
   have H' := Aside0.mk H
   clear H
   have p473 : 0 ≤ (x11_1 : Int) := od_
   have q473 : x11_1 < (l0.length : Int) := od_
   obtain ⟨ad473, e473, hx473_0, hx473_1⟩ := af_ HB (at_T43 HR0.out x11_1 p473 q473)
   cases e473
   replace p473 := eq_true p473
   replace q473 := eq_true q473
   try go_wp2_with (first | ((with_reducible refine gate_dst (N := 7) rfl ?_); refine boxM_ 7 #[.int .i16 0, .int .i16 0] 43 ?_; intro gb474 hg w26 hbox hb; have BK474 := Aside0.mk (hbox); have GW474 := Aside0.mk ((by rw [hg]; exact (below_size (k1_ HB GE472)) : w.heap.size ≤ gb474)); have GE474 := Aside0.mk ((by rw [hg]; exact (below_size (k1_ HB GE472)) : w.heap.size ≤ gb474)); replace HB := Aside0.mk (below_step (k1_ HB GE472) hb); have NB472_474 := nl_ BK472 hg; have NB474_472 := ng_ BK472 hg; replace BK472 := bd_ BK472 hb; clear hb hbox hg; have hnb27 := NB474_472.out; have hnc27 := NB472_474.out; obtain ⟨⟨hcz28_0, hcz28_1⟩, hfz28_0, hfz28_1⟩ := bq_ BK474))
   have n0_ : Aside0 (((w26.setCell ⟨gb474, 0, none⟩ (.int .i16 ((rd_T43 l0 x11_1).f0))).setCell ⟨gb474, 1, none⟩ (.int .i16 ((rd_T43 l0 x11_1).f1))).heap[gb472]? = some (.cells #[.int .i16 a1_0, .int .i16 a1_1] 43 (0, 0))) := ⟨by (with_reducible repeat (first | refine blk_drewN ?_ _ | refine blk_drew ?_ | refine blk_alloc ?_ _)); refine blk_far ?_ NB472_474.out _; (with_reducible repeat (first | refine blk_drewN ?_ _ | refine blk_drew ?_ | refine blk_alloc ?_ _)); refine blk_far ?_ NB472_474.out _; (with_reducible repeat (first | refine blk_drewN ?_ _ | refine blk_drew ?_ | refine blk_alloc ?_ _)); exact BK472.out⟩
   have n1_ : Aside0 (((w26.setCell ⟨gb474, 0, none⟩ (.int .i16 ((rd_T43 l0 x11_1).f0))).setCell ⟨gb474, 1, none⟩ (.int .i16 ((rd_T43 l0 x11_1).f1))).heap[gb474]? = some (.cells #[.int .i16 ((rd_T43 l0 x11_1).f0), .int .i16 ((rd_T43 l0 x11_1).f1)] 43 (0, 0))) := ⟨by (with_reducible repeat (first | refine blk_drewN ?_ _ | refine blk_drew ?_ | refine blk_alloc ?_ _)); refine blk_put (cs := #[.int .i16 ((rd_T43 l0 x11_1).f0), .int .i16 0]) ?_ 1 _ rfl; (with_reducible repeat (first | refine blk_drewN ?_ _ | refine blk_drew ?_ | refine blk_alloc ?_ _)); refine blk_put (cs := #[.int .i16 0, .int .i16 0]) ?_ 0 _ rfl; (with_reducible repeat (first | refine blk_drewN ?_ _ | refine blk_drew ?_ | refine blk_alloc ?_ _)); exact BK474.out⟩
   have n2_ : Aside0 (Below w.heap.size w ((w26.setCell ⟨gb474, 0, none⟩ (.int .i16 ((rd_T43 l0 x11_1).f0))).setCell ⟨gb474, 1, none⟩ (.int .i16 ((rd_T43 l0 x11_1).f1)))) := ⟨k2_ HB GE472 GE474⟩
   generalize ((w26.setCell ⟨gb474, 0, none⟩ (.int .i16 ((rd_T43 l0 x11_1).f0))).setCell ⟨gb474, 1, none⟩ (.int .i16 ((rd_T43 l0 x11_1).f1))) = w29 at n0_ n1_ n2_ ⊢
   have BK472 := n0_
   have BK474 := n1_
   have HB := n2_
   clear n0_ n1_ n2_
   have n0_ := Aside0.mk (blk_drew BK472.out)
   have n1_ := Aside0.mk (blk_drew BK474.out)
   have n2_ := Aside0.mk (below_drew1 HB.out)
   clear BK472
   clear BK474
   clear HB
   have BK472 := n0_
   have BK474 := n1_
   have HB := n2_
   clear n0_ n1_ n2_
   have p475 : 0 ≤ ((ji8) : Int) := od_
   have q475 : (ji8) < (l0.length : Int) := od_
   obtain ⟨ad475, e475, hx475_0, hx475_1⟩ := at_T43 HR0.out (ji8) p475 q475
   have hw475_1 := hx475_1
   have hw475_0 := hx475_0
   obtain rfl : ad473 = ad475 := (by injection e475)
   replace hx475_0 := (hw_ HB hx475_0 :)
   replace hx475_1 := (hw_ HB hx475_1 :)
   replace p475 := eq_true p475
   replace q475 := eq_true q475
   refine start_ (n := 12) (S := fun w' => w'.cell? ⟨gb474, 0, none⟩ = some (.int .i16 ((rd_T43 l0 x11_1).f0)) ∧ w'.cell? ⟨gb474, 1, none⟩ = some (.int .i16 ((rd_T43 l0 x11_1).f1)) ∧ w'.cell? ⟨gb472, 0, none⟩ = some (.int .i16 a1_0) ∧ w'.cell? ⟨gb472, 1, none⟩ = some (.int .i16 a1_1) ∧ w'.cell? (ad473.add (((ji8)).toNat * 2)) = some (.int .i16 ((rd_T43 l0 (ji8)).f0)) ∧ w'.cell? ⟨(ad473.add (((ji8)).toNat * 2)).block, (ad473.add (((ji8)).toNat * 2)).off + 1, none⟩ = some (.int .i16 ((rd_T43 l0 (ji8)).f1))) (ds := []) #[false, false, false, false, false, false, false, false, false, false, false, false] (by kernel_rfl) rfl rfl ⟨(blk_cell BK474.out 0).trans rfl, (blk_cell BK474.out 1).trans rfl, (blk_cell BK472.out 0).trans rfl, (blk_cell BK472.out 1).trans rfl, ((hw_ HB hw475_0 :)), ((hw_ HB hw475_1 :))⟩ (fun hHeld => ?_); refine with_tabW impl_Stone_where.tab5 impl_Stone_where.bits5 (fun HT_ HW_ => ?_)
   generalize w29.drew = w30 at BK472 BK474 HB hx475_0 hx475_1 hHeld ⊢
   refine pu_ 1 17 (lA 12 2) ?_ ?_ HT_ ?_
   refine pu_ 2 18 (lA 12 6) ?_ ?_ HT_ ?_
   refine pu_ 3 19 (lA 12 14) ?_ ?_ HT_ ?_
   refine pu_ 4 20 (lA 12 30) ?_ ?_ HT_ ?_
   refine pu_ 5 21 (lA 12 62) ?_ ?_ HT_ ?_
   refine pu_ 6 22 (lA 12 126) ?_ ?_ HT_ ?_
   refine pu_ 7 23 (lA 12 254) ?_ ?_ HT_ ?_
   refine tk_ 0 16 (lA 12 255) ?_ ?_ HT_ HW_ hHeld ?_
   refine tk_ 8 24 (lA 12 511) ?_ ?_ HT_ HW_ hHeld ?_
   refine tk_ 9 25 (lA 12 1023) ?_ ?_ HT_ HW_ hHeld ?_
   refine one_ (i := 10) (N := some 26) #[true, true, true, true, true, true, true, true, true, true, true, false] rfl rfl (one_of HT_.out (by kernel_rfl)) (by decide) (fun K hK => ?_)
   refine goes_ Tryz.func71 (by kernel_rfl) rfl #[.agg #[.int .i16 ((rd_T43 l0 x11_1).f0), .int .i16 ((rd_T43 l0 x11_1).f1)], .agg #[.int .i16 ((rd_T43 l0 (ji8)).f0), .int .i16 ((rd_T43 l0 (ji8)).f1)], .agg #[.int .i16 a1_0, .int .i16 a1_1]] (by rfl) rfl rfl (by (try simp only [List.map_toArray, List.map_cons, List.map_nil]); first | done | (simp only [hji8]; rfl) | rfl | (simp only [List.length_drop, List.length_take]; rfl)) ?_
   with_reducible refine (impl_side.calls ((rd_T43 l0 x11_1).f0) ((rd_T43 l0 x11_1).f1) ((rd_T43 l0 (ji8)).f0) ((rd_T43 l0 (ji8)).f1) a1_0 a1_1 t476 _ A11.out).mono ?_
   rintro e w31 ⟨rfl, hb⟩
   refine ⟨_, rfl, ?_⟩
   have n0_ := bd_ BK472 hb
   have n1_ := bd_ BK474 hb
   have n2_ := Aside0.mk (below_step (k2_ HB GE472 GE474) hb)
   clear BK472
   clear BK474
   clear HB
   have BK472 := n0_
   have BK474 := n1_
   have HB := n2_
   clear n0_ n1_ n2_
   refine hK.out _ _ ⟨(blk_cell BK474.out 0).trans rfl, (blk_cell BK474.out 1).trans rfl, (blk_cell BK472.out 0).trans rfl, (blk_cell BK472.out 1).trans rfl, ((hw_ HB hw475_0 :)), ((hw_ HB hw475_1 :))⟩ (fun hHeld => ?_)
   clear hK K
   refine norm_ (a' := ?_) ?_ ?_
   rotate_left
   ·
    show Act.put _ (some 26) _ = _
    simp only [Act.put, List.setIfInBounds_toArray, List.set_cons_zero, List.set_cons_succ, i64_w, i32_w]
    rfl
   refine pu_ 11 8 (lA 12 4095) ?_ ?_ HT_ ?_
   refine done_ (done_of HT_.out (by kernel_rfl)) ?_
   try go_wp2
   go_roundg k1
   case measure => have := HK1.out; omega
   case rel => exact ⟨(x5_1), (wrap64 (x11_1 + 1)), (by first | rfl | (simp; done) | (simp [*]; done)), (by first | rfl | (simp; done) | (simp [*]; done)), H', ⟨by have := HK1.out; omega⟩, ⟨bk_ BK472⟩, ⟨k2_ HB GE472 GE474⟩⟩
  rw [if_pos c19] at H
  have c19b0 : (t476 == 0) = true := beq_iff_eq.mpr c19
  have c19b1 : (t476 != 0) = false := bne_eq_false_iff_eq.mpr c19
  clear c19
  have H' := Aside0.mk H
  clear H
  have p473 : 0 ≤ (x11_1 : Int) := od_
  have q473 : x11_1 < (l0.length : Int) := od_
  obtain ⟨ad473, e473, hx473_0, hx473_1⟩ := af_ HB (at_T43 HR0.out x11_1 p473 q473)
  cases e473
  replace p473 := eq_true p473
  replace q473 := eq_true q473
  try go_wp2_with (first | ((with_reducible refine gate_dst (N := 7) rfl ?_); refine boxM_ 7 #[.int .i16 0, .int .i16 0] 43 ?_; intro gb474 hg w20 hbox hb; have BK474 := Aside0.mk (hbox); have GW474 := Aside0.mk ((by rw [hg]; exact (below_size (k1_ HB GE472)) : w.heap.size ≤ gb474)); have GE474 := Aside0.mk ((by rw [hg]; exact (below_size (k1_ HB GE472)) : w.heap.size ≤ gb474)); replace HB := Aside0.mk (below_step (k1_ HB GE472) hb); have NB472_474 := nl_ BK472 hg; have NB474_472 := ng_ BK472 hg; replace BK472 := bd_ BK472 hb; clear hb hbox hg; have hnb21 := NB474_472.out; have hnc21 := NB472_474.out; obtain ⟨⟨hcz22_0, hcz22_1⟩, hfz22_0, hfz22_1⟩ := bq_ BK474))
  have n0_ : Aside0 (((w20.setCell ⟨gb474, 0, none⟩ (.int .i16 ((rd_T43 l0 x11_1).f0))).setCell ⟨gb474, 1, none⟩ (.int .i16 ((rd_T43 l0 x11_1).f1))).heap[gb472]? = some (.cells #[.int .i16 a1_0, .int .i16 a1_1] 43 (0, 0))) := ⟨by (with_reducible repeat (first | refine blk_drewN ?_ _ | refine blk_drew ?_ | refine blk_alloc ?_ _)); refine blk_far ?_ NB472_474.out _; (with_reducible repeat (first | refine blk_drewN ?_ _ | refine blk_drew ?_ | refine blk_alloc ?_ _)); refine blk_far ?_ NB472_474.out _; (with_reducible repeat (first | refine blk_drewN ?_ _ | refine blk_drew ?_ | refine blk_alloc ?_ _)); exact BK472.out⟩
  have n1_ : Aside0 (((w20.setCell ⟨gb474, 0, none⟩ (.int .i16 ((rd_T43 l0 x11_1).f0))).setCell ⟨gb474, 1, none⟩ (.int .i16 ((rd_T43 l0 x11_1).f1))).heap[gb474]? = some (.cells #[.int .i16 ((rd_T43 l0 x11_1).f0), .int .i16 ((rd_T43 l0 x11_1).f1)] 43 (0, 0))) := ⟨by (with_reducible repeat (first | refine blk_drewN ?_ _ | refine blk_drew ?_ | refine blk_alloc ?_ _)); refine blk_put (cs := #[.int .i16 ((rd_T43 l0 x11_1).f0), .int .i16 0]) ?_ 1 _ rfl; (with_reducible repeat (first | refine blk_drewN ?_ _ | refine blk_drew ?_ | refine blk_alloc ?_ _)); refine blk_put (cs := #[.int .i16 0, .int .i16 0]) ?_ 0 _ rfl; (with_reducible repeat (first | refine blk_drewN ?_ _ | refine blk_drew ?_ | refine blk_alloc ?_ _)); exact BK474.out⟩
  have n2_ : Aside0 (Below w.heap.size w ((w20.setCell ⟨gb474, 0, none⟩ (.int .i16 ((rd_T43 l0 x11_1).f0))).setCell ⟨gb474, 1, none⟩ (.int .i16 ((rd_T43 l0 x11_1).f1)))) := ⟨k2_ HB GE472 GE474⟩
  generalize ((w20.setCell ⟨gb474, 0, none⟩ (.int .i16 ((rd_T43 l0 x11_1).f0))).setCell ⟨gb474, 1, none⟩ (.int .i16 ((rd_T43 l0 x11_1).f1))) = w23 at n0_ n1_ n2_ ⊢
  have BK472 := n0_
  have BK474 := n1_
  have HB := n2_
  clear n0_ n1_ n2_
  have n0_ := Aside0.mk (blk_drew BK472.out)
  have n1_ := Aside0.mk (blk_drew BK474.out)
  have n2_ := Aside0.mk (below_drew1 HB.out)
  clear BK472
  clear BK474
  clear HB
  have BK472 := n0_
  have BK474 := n1_
  have HB := n2_
  clear n0_ n1_ n2_
  have p475 : 0 ≤ ((ji8) : Int) := od_
  have q475 : (ji8) < (l0.length : Int) := od_
  obtain ⟨ad475, e475, hx475_0, hx475_1⟩ := at_T43 HR0.out (ji8) p475 q475
  have hw475_1 := hx475_1
  have hw475_0 := hx475_0
  obtain rfl : ad473 = ad475 := (by injection e475)
  replace hx475_0 := (hw_ HB hx475_0 :)
  replace hx475_1 := (hw_ HB hx475_1 :)
  replace p475 := eq_true p475
  replace q475 := eq_true q475
  refine start_ (n := 12) (S := fun w' => w'.cell? ⟨gb474, 0, none⟩ = some (.int .i16 ((rd_T43 l0 x11_1).f0)) ∧ w'.cell? ⟨gb474, 1, none⟩ = some (.int .i16 ((rd_T43 l0 x11_1).f1)) ∧ w'.cell? ⟨gb472, 0, none⟩ = some (.int .i16 a1_0) ∧ w'.cell? ⟨gb472, 1, none⟩ = some (.int .i16 a1_1) ∧ w'.cell? (ad473.add (((ji8)).toNat * 2)) = some (.int .i16 ((rd_T43 l0 (ji8)).f0)) ∧ w'.cell? ⟨(ad473.add (((ji8)).toNat * 2)).block, (ad473.add (((ji8)).toNat * 2)).off + 1, none⟩ = some (.int .i16 ((rd_T43 l0 (ji8)).f1))) (ds := []) #[false, false, false, false, false, false, false, false, false, false, false, false] (by kernel_rfl) rfl rfl ⟨(blk_cell BK474.out 0).trans rfl, (blk_cell BK474.out 1).trans rfl, (blk_cell BK472.out 0).trans rfl, (blk_cell BK472.out 1).trans rfl, ((hw_ HB hw475_0 :)), ((hw_ HB hw475_1 :))⟩ (fun hHeld => ?_); refine with_tabW impl_Stone_where.tab5 impl_Stone_where.bits5 (fun HT_ HW_ => ?_)
  generalize w23.drew = w24 at BK472 BK474 HB hx475_0 hx475_1 hHeld ⊢
  refine pu_ 1 17 (lA 12 2) ?_ ?_ HT_ ?_
  refine pu_ 2 18 (lA 12 6) ?_ ?_ HT_ ?_
  refine pu_ 3 19 (lA 12 14) ?_ ?_ HT_ ?_
  refine pu_ 4 20 (lA 12 30) ?_ ?_ HT_ ?_
  refine pu_ 5 21 (lA 12 62) ?_ ?_ HT_ ?_
  refine pu_ 6 22 (lA 12 126) ?_ ?_ HT_ ?_
  refine pu_ 7 23 (lA 12 254) ?_ ?_ HT_ ?_
  refine tk_ 0 16 (lA 12 255) ?_ ?_ HT_ HW_ hHeld ?_
  refine tk_ 8 24 (lA 12 511) ?_ ?_ HT_ HW_ hHeld ?_
  refine tk_ 9 25 (lA 12 1023) ?_ ?_ HT_ HW_ hHeld ?_
  refine one_ (i := 10) (N := some 26) #[true, true, true, true, true, true, true, true, true, true, true, false] rfl rfl (one_of HT_.out (by kernel_rfl)) (by decide) (fun K hK => ?_)
  refine goes_ Tryz.func71 (by kernel_rfl) rfl #[.agg #[.int .i16 ((rd_T43 l0 x11_1).f0), .int .i16 ((rd_T43 l0 x11_1).f1)], .agg #[.int .i16 ((rd_T43 l0 (ji8)).f0), .int .i16 ((rd_T43 l0 (ji8)).f1)], .agg #[.int .i16 a1_0, .int .i16 a1_1]] (by rfl) rfl rfl (by (try simp only [List.map_toArray, List.map_cons, List.map_nil]); first | done | (simp only [hji8]; rfl) | rfl | (simp only [List.length_drop, List.length_take]; rfl)) ?_
  with_reducible refine (impl_side.calls ((rd_T43 l0 x11_1).f0) ((rd_T43 l0 x11_1).f1) ((rd_T43 l0 (ji8)).f0) ((rd_T43 l0 (ji8)).f1) a1_0 a1_1 t476 _ A11.out).mono ?_
  rintro e w25 ⟨rfl, hb⟩
  refine ⟨_, rfl, ?_⟩
  have n0_ := bd_ BK472 hb
  have n1_ := bd_ BK474 hb
  have n2_ := Aside0.mk (below_step (k2_ HB GE472 GE474) hb)
  clear BK472
  clear BK474
  clear HB
  have BK472 := n0_
  have BK474 := n1_
  have HB := n2_
  clear n0_ n1_ n2_
  refine hK.out _ _ ⟨(blk_cell BK474.out 0).trans rfl, (blk_cell BK474.out 1).trans rfl, (blk_cell BK472.out 0).trans rfl, (blk_cell BK472.out 1).trans rfl, ((hw_ HB hw475_0 :)), ((hw_ HB hw475_1 :))⟩ (fun hHeld => ?_)
  clear hK K
  refine norm_ (a' := ?_) ?_ ?_
  rotate_left
  ·
   show Act.put _ (some 26) _ = _
   simp only [Act.put, List.setIfInBounds_toArray, List.set_cons_zero, List.set_cons_succ, i64_w, i32_w]
   rfl
  refine pu_ 11 8 (lA 12 4095) ?_ ?_ HT_ ?_
  refine done_ (done_of HT_.out (by kernel_rfl)) ?_
  try go_wp2
  go_roundg k1
  case measure => have := HK1.out; omega
  case rel => exact ⟨(1), (wrap64 (x11_1 + 1)), (by first | rfl | (simp; done) | (simp [*]; done)), (by first | rfl | (simp; done) | (simp [*]; done)), H', ⟨by have := HK1.out; omega⟩, ⟨bk_ BK472⟩, ⟨k2_ HB GE472 GE474⟩⟩
end Go.Proofs.YthbogbaaikjhbaaGreatDoor.PA
