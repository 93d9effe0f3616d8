/- Pure functions, and that Go's functions come to them. -/
import Derived.Test.YtllfeehchiikoaaPAx0
import Derived.Test.YtllfeehchiikoaaPAxgImpl
namespace Go.Proofs.Ytllfeehchiikoaa.PA
open Go.RowKit Go.Proofs.YtllfeehchiikoaaW.PrintWords Go.Proofs.YtllfeehchiikoaaW.PrintLast Go.Proofs.YtllfeehchiikoaaW.PrintMore
set_option linter.unusedVariables false
set_option linter.unusedSimpArgs false

/-! ### impl_Stone_where: function 39 -/
def impl_Stone_where.l0 : Nat → List (S43) → Int → List (S43) → Int → Int → Int → Int → Option (Int)
 | 0, _, _, _, _, _, _, _ => none
 | k + 1, x0, x5, x9, x10, x11, x403000, x403001 => if x11 < x10 then (if 0 ≤ x11 then (if x11 < (x9.length : Int) then (if (x0.length : Int) = 0 then (none) else (if 0 ≤ (Int.tmod (wrap64 (x11 + 1)) (x0.length : Int)) then (if (Int.tmod (wrap64 (x11 + 1)) (x0.length : Int)) < (x0.length : Int) then ((impl_side.f ((rd_T43 x9 x11).f0) ((rd_T43 x9 x11).f1) ((rd_T43 x0 (Int.tmod (wrap64 (x11 + 1)) (x0.length : Int))).f0) ((rd_T43 x0 (Int.tmod (wrap64 (x11 + 1)) (x0.length : Int))).f1) x403000 x403001).bind fun t406 => (if t406 < 0 then (some 0) else (if t406 = 0 then (impl_Stone_where.l0 k x0 1 x9 x10 (wrap64 (x11 + 1)) x403000 x403001) else (impl_Stone_where.l0 k x0 x5 x9 x10 (wrap64 (x11 + 1)) x403000 x403001)))) else (none)) else (none))) else (none)) else (none)) else (some x5)
def impl_Stone_where.f (k : Nat) (l0 : List (S43)) (a1_0 : Int) (a1_1 : Int) : Option (Int) := impl_Stone_where.l0 k l0 2 l0 (l0.length : Int) 0 a1_0 a1_1
theorem impl_Stone_where.mono_l : ∀ k, (∀ y0 y1 y2 y3 y4 y5 y6, LeO (impl_Stone_where.l0 k y0 y1 y2 y3 y4 y5 y6) (impl_Stone_where.l0 (k + 1) y0 y1 y2 y3 y4 y5 y6))
 | 0 => fun _ _ _ _ _ _ _ r h => by simp [impl_Stone_where.l0] at h
 | k + 1 => by
  have ih0 := impl_Stone_where.mono_l k
  ·
   intro y0 y1 y2 y3 y4 y5 y6
   unfold impl_Stone_where.l0
   repeat' first
   | (with_reducible exact ih0 _ _ _ _ _ _ _)
   | (with_reducible exact LeO.refl _)
   | (with_reducible exact LeO.none _)
   | (with_reducible refine LeO.ite ?_ ?_)
   | (with_reducible refine LeO.bind ?_ (fun _ => ?_))
theorem impl_Stone_where.mono : ∀ a0 a1 a2 k, LeO (impl_Stone_where.f k a0 a1 a2) (impl_Stone_where.f (k + 1) a0 a1 a2) := by
 intro a0 a1 a2 k
 have ih0 := impl_Stone_where.mono_l k
 unfold impl_Stone_where.f
 repeat' first
   | (with_reducible exact ih0 _ _ _ _ _ _ _)
   | (with_reducible exact LeO.refl _)
   | (with_reducible exact LeO.none _)
   | (with_reducible refine LeO.ite ?_ ?_)
   | (with_reducible refine LeO.bind ?_ (fun _ => ?_))
def impl_Stone_where.T5 : Bool × List (List Nat × List Nat) := (true, [([], []), ([], []), ([], []), ([2], [2]), ([], []), ([4], [4]), ([3, 5], [3, 5]), ([1, 6], [1, 6]), ([7], [7]), ([], []), ([0, 8, 9], [0, 8, 9]), ([10, 10, 0, 1, 2, 3, 4, 5, 6, 7, 8, 9, 10], [10])])
def impl_Stone_where.B5 : List Nat := [0, 0, 0, 4, 0, 16, 60, 126, 254, 0, 1023, 2047]
theorem impl_Stone_where.tab5 : rtab .any (opsOf Try.f39 5) = impl_Stone_where.T5 := by kernel_rfl
theorem impl_Stone_where.bits5 : waitsOk impl_Stone_where.T5.2 impl_Stone_where.B5 = true := by kernel_rfl
set_option maxHeartbeats 8000000 in
set_option maxRecDepth 100000 in
theorem impl_Stone_where.calls (k : Nat) (A0 : Option Addr) (c0 : Nat) (l0 : List (S43)) (a1_0 : Int) (a1_1 : Int) (r : Int) (w : World) (hr0 : Kd.C k43 w A0 l0.length l0) (hc0 : l0.length ≤ c0) (h : impl_Stone_where.f k l0 a1_0 a1_1 = some r) :
  Calls Try.prog 39 #[.slice A0 l0.length c0, .agg #[.int .i16 a1_0, .int .i16 a1_1]] w fun e w' => e = .returned (.int .i64 r) ∧ Below w.heap.size w w' := by
 have hu43 := Try.underlying43
 have HR0 := Aside0.mk hr0
 have HC0 := Aside0.mk hc0
 clear hr0 hc0
 have HB := Aside0.mk (Below.refl w.heap.size w)
 have H : (impl_Stone_where.l0 k l0 2 l0 (l0.length : Int) 0 a1_0 a1_1) = some r := h
 clear h
 have H' := Aside0.mk H
 clear H
 go_enter Try.func39, Try.ntmps39
 go_wp2_with (first | ((with_reducible refine gate_dst (N := 3) rfl ?_); refine boxM_ 3 #[.int .i16 a1_0, .int .i16 a1_1] 43 ?_; intro gb402 hg w3 hbox hb; have BK402 := Aside0.mk (hbox); have GW402 := Aside0.mk ((by rw [hg]; exact (below_size (kB_ HB)) : w.heap.size ≤ gb402)); have GE402 := Aside0.mk ((by rw [hg]; exact (below_size (kB_ HB)) : w.heap.size ≤ gb402)); replace HB := Aside0.mk (below_step (kB_ HB) hb); clear hb hbox hg))
 go_loopg [5, 11] k (fun kq v5 v11 w' => ∃ (x5_1 : Int) (x11_1 : Int), v5 = .int .i64 x5_1 ∧ v11 = .int .i64 x11_1 ∧ Aside0 (impl_Stone_where.l0 kq l0 x5_1 l0 (l0.length : Int) x11_1 a1_0 a1_1 = some r) ∧ Aside0 (kq ≤ k) ∧ Aside0 (w'.heap[gb402]? = some (.cells #[.int .i16 a1_0, .int .i16 a1_1] 43 (0, 0))) ∧ Aside0 (Below w.heap.size w w'))
 case atStart => exact ⟨(2), (0), (by first | rfl | (simp; done) | (simp [*]; done)), (by first | rfl | (simp; done) | (simp [*]; done)), H', ⟨Nat.le_refl _⟩, ⟨bk_ BK402⟩, ⟨k1_ HB GE402⟩⟩
 case round =>
  clear H'
  obtain ⟨x5_1, x11_1, rfl, rfl, HA, HK1, BK402, HB⟩ := hrel
  rcases gk with _ | k1
  · exact absurd HA.out (by simp [impl_Stone_where.l0])
  have H := HA.out
  clear HA
  simp only [impl_Stone_where.l0] at H
  rcases (Decidable.em (x11_1 < (l0.length : Int))).symm with c4 | c4
  ·
   rw [if_neg c4] at H
   have c4b0 : decide (x11_1 < (l0.length : Int)) = false := decide_eq_false c4
   clear c4
   obtain rfl := Option.some.inj H
   go_wp2
   go_ret
   exact ⟨rt_, k1_ HB GE402⟩

  rw [if_pos c4] at H
  have c4b0 : decide (x11_1 < (l0.length : Int)) = true := decide_eq_true c4
  clear c4
  obtain ⟨(c5 : 0 ≤ x11_1), H⟩ := gd_ H
  have c5b0 : decide (0 ≤ x11_1) = true := decide_eq_true c5
  clear c5
  obtain ⟨(c6 : x11_1 < (l0.length : Int)), H⟩ := gd_ H
  have c6b0 : decide (x11_1 < (l0.length : Int)) = true := decide_eq_true c6
  clear c6
  by_cases c7 : (l0.length : Int) = 0
  ·
   rw [if_pos c7] at H
   exact absurd H (by simp)
  rw [if_neg c7] at H
  have c7b0 : ((l0.length : Int) == 0) = false := beq_eq_false_iff_ne.mpr c7
  have c7b1 : ((l0.length : Int) != 0) = true := bne_iff_ne.mpr c7
  have c7b2 : ¬ (l0 = []) := fun h_ => c7 (by rw [h_]; rfl)
  obtain ⟨ji8, hji8⟩ : ∃ j_ : Int, (Int.tmod (wrap64 (x11_1 + 1)) (l0.length : Int)) = j_ := ⟨_, rfl⟩
  replace H : (if 0 ≤ (ji8) then (if (ji8) < (l0.length : Int) then ((impl_side.f ((rd_T43 l0 x11_1).f0) ((rd_T43 l0 x11_1).f1) ((rd_T43 l0 (ji8)).f0) ((rd_T43 l0 (ji8)).f1) a1_0 a1_1).bind fun t406 => (if t406 < 0 then (some 0) else (if t406 = 0 then (impl_Stone_where.l0 k1 l0 1 l0 (l0.length : Int) (wrap64 (x11_1 + 1)) a1_0 a1_1) else (impl_Stone_where.l0 k1 l0 x5_1 l0 (l0.length : Int) (wrap64 (x11_1 + 1)) a1_0 a1_1)))) else (none)) else (none)) = some r := by first | (rw [hji8] at H; exact H) | (simp only [hji8] at H ⊢; exact H)
  obtain ⟨(c9 : 0 ≤ (ji8)), H⟩ := gd_ H
  have c9b0 : decide (0 ≤ (ji8)) = true := decide_eq_true c9
  clear c9
  obtain ⟨(c10 : (ji8) < (l0.length : Int)), H⟩ := gd_ H
  have c10b0 : decide ((ji8) < (l0.length : Int)) = true := decide_eq_true c10
  clear c10
  replace H := Option.bind_eq_some_iff.mp H
  obtain ⟨t406, A110, H⟩ := H
  (try dsimp only at H)
  have A11 := Aside0.mk A110
  clear A110
  by_cases c12 : t406 < 0
  ·
   rw [if_pos c12] at H
   have c12b0 : decide (t406 < 0) = true := decide_eq_true c12
   clear c12
   obtain rfl := Option.some.inj H
   have p403 : 0 ≤ (x11_1 : Int) := od_
   have q403 : x11_1 < (l0.length : Int) := od_
   obtain ⟨ad403, e403, hx403_0, hx403_1⟩ := at_T43 HR0.out x11_1 p403 q403
   cases e403
   replace hx403_0 := (hw_ HB hx403_0 :)
   replace hx403_1 := (hw_ HB hx403_1 :)
   replace p403 := eq_true p403
   replace q403 := eq_true q403
   try go_wp2_with (first | ((with_reducible refine gate_dst (N := 7) rfl ?_); refine boxM_ 7 #[.int .i16 0, .int .i16 0] 43 ?_; intro gb404 hg w13 hbox hb; have BK404 := Aside0.mk (hbox); have GW404 := Aside0.mk ((by rw [hg]; exact (below_size (k1_ HB GE402)) : w.heap.size ≤ gb404)); have GE404 := Aside0.mk ((by rw [hg]; exact (below_size (k1_ HB GE402)) : w.heap.size ≤ gb404)); replace HB := Aside0.mk (below_step (k1_ HB GE402) hb); have NB402_404 := nl_ BK402 hg; have NB404_402 := ng_ BK402 hg; replace BK402 := bd_ BK402 hb; clear hb hbox hg; have hnb14 := NB404_402.out; have hnc14 := NB402_404.out; obtain ⟨⟨hcz15_0, hcz15_1⟩, hfz15_0, hfz15_1⟩ := bq_ BK404))
   have n0_ : Aside0 (((w13.setCell ⟨gb404, 0, none⟩ (.int .i16 ((rd_T43 l0 x11_1).f0))).setCell ⟨gb404, 1, none⟩ (.int .i16 ((rd_T43 l0 x11_1).f1))).heap[gb402]? = some (.cells #[.int .i16 a1_0, .int .i16 a1_1] 43 (0, 0))) := ⟨by (with_reducible repeat (first | refine blk_drewN ?_ _ | refine blk_drew ?_ | refine blk_alloc ?_ _)); refine blk_far ?_ NB402_404.out _; (with_reducible repeat (first | refine blk_drewN ?_ _ | refine blk_drew ?_ | refine blk_alloc ?_ _)); refine blk_far ?_ NB402_404.out _; (with_reducible repeat (first | refine blk_drewN ?_ _ | refine blk_drew ?_ | refine blk_alloc ?_ _)); exact BK402.out⟩
   have n1_ : Aside0 (((w13.setCell ⟨gb404, 0, none⟩ (.int .i16 ((rd_T43 l0 x11_1).f0))).setCell ⟨gb404, 1, none⟩ (.int .i16 ((rd_T43 l0 x11_1).f1))).heap[gb404]? = some (.cells #[.int .i16 ((rd_T43 l0 x11_1).f0), .int .i16 ((rd_T43 l0 x11_1).f1)] 43 (0, 0))) := ⟨by (with_reducible repeat (first | refine blk_drewN ?_ _ | refine blk_drew ?_ | refine blk_alloc ?_ _)); refine blk_put (cs := #[.int .i16 ((rd_T43 l0 x11_1).f0), .int .i16 0]) ?_ 1 _ rfl; (with_reducible repeat (first | refine blk_drewN ?_ _ | refine blk_drew ?_ | refine blk_alloc ?_ _)); refine blk_put (cs := #[.int .i16 0, .int .i16 0]) ?_ 0 _ rfl; (with_reducible repeat (first | refine blk_drewN ?_ _ | refine blk_drew ?_ | refine blk_alloc ?_ _)); exact BK404.out⟩
   have n2_ : Aside0 (Below w.heap.size w ((w13.setCell ⟨gb404, 0, none⟩ (.int .i16 ((rd_T43 l0 x11_1).f0))).setCell ⟨gb404, 1, none⟩ (.int .i16 ((rd_T43 l0 x11_1).f1)))) := ⟨k2_ HB GE402 GE404⟩
   generalize ((w13.setCell ⟨gb404, 0, none⟩ (.int .i16 ((rd_T43 l0 x11_1).f0))).setCell ⟨gb404, 1, none⟩ (.int .i16 ((rd_T43 l0 x11_1).f1))) = w16 at n0_ n1_ n2_ ⊢
   have BK402 := n0_
   have BK404 := n1_
   have HB := n2_
   clear n0_ n1_ n2_
   have n0_ := Aside0.mk (blk_drew BK402.out)
   have n1_ := Aside0.mk (blk_drew BK404.out)
   have n2_ := Aside0.mk (below_drew1 HB.out)
   clear BK402
   clear BK404
   clear HB
   have BK402 := n0_
   have BK404 := n1_
   have HB := n2_
   clear n0_ n1_ n2_
   have p405 : 0 ≤ ((ji8) : Int) := od_
   have q405 : (ji8) < (l0.length : Int) := od_
   obtain ⟨ad405, e405, hx405_0, hx405_1⟩ := at_T43 HR0.out (ji8) p405 q405
   have hw405_1 := hx405_1
   have hw405_0 := hx405_0
   obtain rfl : ad403 = ad405 := (by injection e405)
   replace hx405_0 := (hw_ HB hx405_0 :)
   replace hx405_1 := (hw_ HB hx405_1 :)
   replace p405 := eq_true p405
   replace q405 := eq_true q405
   refine start_ (n := 12) (S := fun w' => w'.cell? ⟨gb404, 0, none⟩ = some (.int .i16 ((rd_T43 l0 x11_1).f0)) ∧ w'.cell? ⟨gb404, 1, none⟩ = some (.int .i16 ((rd_T43 l0 x11_1).f1)) ∧ w'.cell? ⟨gb402, 0, none⟩ = some (.int .i16 a1_0) ∧ w'.cell? ⟨gb402, 1, none⟩ = some (.int .i16 a1_1) ∧ w'.cell? (ad403.add (((ji8)).toNat * 2)) = some (.int .i16 ((rd_T43 l0 (ji8)).f0)) ∧ w'.cell? ⟨(ad403.add (((ji8)).toNat * 2)).block, (ad403.add (((ji8)).toNat * 2)).off + 1, none⟩ = some (.int .i16 ((rd_T43 l0 (ji8)).f1))) (ds := []) #[false, false, false, false, false, false, false, false, false, false, false, false] (by kernel_rfl) rfl rfl ⟨(blk_cell BK404.out 0).trans rfl, (blk_cell BK404.out 1).trans rfl, (blk_cell BK402.out 0).trans rfl, (blk_cell BK402.out 1).trans rfl, ((hw_ HB hw405_0 :)), ((hw_ HB hw405_1 :))⟩ (fun hHeld => ?_); refine with_tabW impl_Stone_where.tab5 impl_Stone_where.bits5 (fun HT_ HW_ => ?_)
   generalize w16.drew = w17 at BK402 BK404 HB hx405_0 hx405_1 hHeld ⊢
   refine pu_ 1 17 (lA 12 2) ?_ ?_ HT_ ?_
   refine pu_ 2 18 (lA 12 6) ?_ ?_ HT_ ?_
   refine pu_ 3 19 (lA 12 14) ?_ ?_ HT_ ?_
   refine pu_ 4 20 (lA 12 30) ?_ ?_ HT_ ?_
   refine pu_ 5 21 (lA 12 62) ?_ ?_ HT_ ?_
   refine pu_ 6 22 (lA 12 126) ?_ ?_ HT_ ?_
   refine pu_ 7 23 (lA 12 254) ?_ ?_ HT_ ?_
   refine tk_ 0 16 (lA 12 255) ?_ ?_ HT_ HW_ hHeld ?_
   refine tk_ 8 24 (lA 12 511) ?_ ?_ HT_ HW_ hHeld ?_
   refine tk_ 9 25 (lA 12 1023) ?_ ?_ HT_ HW_ hHeld ?_
   refine one_ (i := 10) (N := some 26) #[true, true, true, true, true, true, true, true, true, true, true, false] rfl rfl (one_of HT_.out (by kernel_rfl)) (by decide) (fun K hK => ?_)
   refine goes_ Try.func58 (by kernel_rfl) rfl #[.agg #[.int .i16 ((rd_T43 l0 x11_1).f0), .int .i16 ((rd_T43 l0 x11_1).f1)], .agg #[.int .i16 ((rd_T43 l0 (ji8)).f0), .int .i16 ((rd_T43 l0 (ji8)).f1)], .agg #[.int .i16 a1_0, .int .i16 a1_1]] (by rfl) rfl rfl (by (try simp only [List.map_toArray, List.map_cons, List.map_nil]); first | done | (simp only [hji8]; rfl) | rfl | (simp only [List.length_drop, List.length_take]; rfl)) ?_
   with_reducible refine (impl_side.calls ((rd_T43 l0 x11_1).f0) ((rd_T43 l0 x11_1).f1) ((rd_T43 l0 (ji8)).f0) ((rd_T43 l0 (ji8)).f1) a1_0 a1_1 t406 _ A11.out).mono ?_
   rintro e w18 ⟨rfl, hb⟩
   refine ⟨_, rfl, ?_⟩
   have n0_ := bd_ BK402 hb
   have n1_ := bd_ BK404 hb
   have n2_ := Aside0.mk (below_step (k2_ HB GE402 GE404) hb)
   clear BK402
   clear BK404
   clear HB
   have BK402 := n0_
   have BK404 := n1_
   have HB := n2_
   clear n0_ n1_ n2_
   refine hK.out _ _ ⟨(blk_cell BK404.out 0).trans rfl, (blk_cell BK404.out 1).trans rfl, (blk_cell BK402.out 0).trans rfl, (blk_cell BK402.out 1).trans rfl, ((hw_ HB hw405_0 :)), ((hw_ HB hw405_1 :))⟩ (fun hHeld => ?_)
   clear hK K
   refine norm_ (a' := ?_) ?_ ?_
   rotate_left
   ·
    show Act.put _ (some 26) _ = _
    simp only [Act.put, List.setIfInBounds_toArray, List.set_cons_zero, List.set_cons_succ, i64_w, i32_w]
    rfl
   refine pu_ 11 8 (lA 12 4095) ?_ ?_ HT_ ?_
   refine done_ (done_of HT_.out (by kernel_rfl)) ?_
   try go_wp2
   go_ret
   exact ⟨by first | rfl | (simp [errW_none, errW_some] <;> rfl) | (simp only [← hji8]; first | rfl | (simp [errW_none, errW_some] <;> rfl)) | (simp [*, errW_none, errW_some] <;> rfl), k2_ HB GE402 GE404⟩
  rw [if_neg c12] at H
  have c12b0 : decide (t406 < 0) = false := decide_eq_false c12
  clear c12
  rcases (Decidable.em (t406 = 0)).symm with c19 | c19
  ·
   rw [if_neg c19] at H
   have c19b0 : (t406 == 0) = false := beq_eq_false_iff_ne.mpr c19
   have c19b1 : (t406 != 0) = true := bne_iff_ne.mpr c19
   have H' := Aside0.mk H
   clear H
   have p403 : 0 ≤ (x11_1 : Int) := od_
   have q403 : x11_1 < (l0.length : Int) := od_
   obtain ⟨ad403, e403, hx403_0, hx403_1⟩ := at_T43 HR0.out x11_1 p403 q403
   cases e403
   replace hx403_0 := (hw_ HB hx403_0 :)
   replace hx403_1 := (hw_ HB hx403_1 :)
   replace p403 := eq_true p403
   replace q403 := eq_true q403
   try go_wp2_with (first | ((with_reducible refine gate_dst (N := 7) rfl ?_); refine boxM_ 7 #[.int .i16 0, .int .i16 0] 43 ?_; intro gb404 hg w26 hbox hb; have BK404 := Aside0.mk (hbox); have GW404 := Aside0.mk ((by rw [hg]; exact (below_size (k1_ HB GE402)) : w.heap.size ≤ gb404)); have GE404 := Aside0.mk ((by rw [hg]; exact (below_size (k1_ HB GE402)) : w.heap.size ≤ gb404)); replace HB := Aside0.mk (below_step (k1_ HB GE402) hb); have NB402_404 := nl_ BK402 hg; have NB404_402 := ng_ BK402 hg; replace BK402 := bd_ BK402 hb; clear hb hbox hg; have hnb27 := NB404_402.out; have hnc27 := NB402_404.out; obtain ⟨⟨hcz28_0, hcz28_1⟩, hfz28_0, hfz28_1⟩ := bq_ BK404))
   have n0_ : Aside0 (((w26.setCell ⟨gb404, 0, none⟩ (.int .i16 ((rd_T43 l0 x11_1).f0))).setCell ⟨gb404, 1, none⟩ (.int .i16 ((rd_T43 l0 x11_1).f1))).heap[gb402]? = some (.cells #[.int .i16 a1_0, .int .i16 a1_1] 43 (0, 0))) := ⟨by (with_reducible repeat (first | refine blk_drewN ?_ _ | refine blk_drew ?_ | refine blk_alloc ?_ _)); refine blk_far ?_ NB402_404.out _; (with_reducible repeat (first | refine blk_drewN ?_ _ | refine blk_drew ?_ | refine blk_alloc ?_ _)); refine blk_far ?_ NB402_404.out _; (with_reducible repeat (first | refine blk_drewN ?_ _ | refine blk_drew ?_ | refine blk_alloc ?_ _)); exact BK402.out⟩
   have n1_ : Aside0 (((w26.setCell ⟨gb404, 0, none⟩ (.int .i16 ((rd_T43 l0 x11_1).f0))).setCell ⟨gb404, 1, none⟩ (.int .i16 ((rd_T43 l0 x11_1).f1))).heap[gb404]? = some (.cells #[.int .i16 ((rd_T43 l0 x11_1).f0), .int .i16 ((rd_T43 l0 x11_1).f1)] 43 (0, 0))) := ⟨by (with_reducible repeat (first | refine blk_drewN ?_ _ | refine blk_drew ?_ | refine blk_alloc ?_ _)); refine blk_put (cs := #[.int .i16 ((rd_T43 l0 x11_1).f0), .int .i16 0]) ?_ 1 _ rfl; (with_reducible repeat (first | refine blk_drewN ?_ _ | refine blk_drew ?_ | refine blk_alloc ?_ _)); refine blk_put (cs := #[.int .i16 0, .int .i16 0]) ?_ 0 _ rfl; (with_reducible repeat (first | refine blk_drewN ?_ _ | refine blk_drew ?_ | refine blk_alloc ?_ _)); exact BK404.out⟩
   have n2_ : Aside0 (Below w.heap.size w ((w26.setCell ⟨gb404, 0, none⟩ (.int .i16 ((rd_T43 l0 x11_1).f0))).setCell ⟨gb404, 1, none⟩ (.int .i16 ((rd_T43 l0 x11_1).f1)))) := ⟨k2_ HB GE402 GE404⟩
   generalize ((w26.setCell ⟨gb404, 0, none⟩ (.int .i16 ((rd_T43 l0 x11_1).f0))).setCell ⟨gb404, 1, none⟩ (.int .i16 ((rd_T43 l0 x11_1).f1))) = w29 at n0_ n1_ n2_ ⊢
   have BK402 := n0_
   have BK404 := n1_
   have HB := n2_
   clear n0_ n1_ n2_
   have n0_ := Aside0.mk (blk_drew BK402.out)
   have n1_ := Aside0.mk (blk_drew BK404.out)
   have n2_ := Aside0.mk (below_drew1 HB.out)
   clear BK402
   clear BK404
   clear HB
   have BK402 := n0_
   have BK404 := n1_
   have HB := n2_
   clear n0_ n1_ n2_
   have p405 : 0 ≤ ((ji8) : Int) := od_
   have q405 : (ji8) < (l0.length : Int) := od_
   obtain ⟨ad405, e405, hx405_0, hx405_1⟩ := at_T43 HR0.out (ji8) p405 q405
   have hw405_1 := hx405_1
   have hw405_0 := hx405_0
   obtain rfl : ad403 = ad405 := (by injection e405)
   replace hx405_0 := (hw_ HB hx405_0 :)
   replace hx405_1 := (hw_ HB hx405_1 :)
   replace p405 := eq_true p405
   replace q405 := eq_true q405
   refine start_ (n := 12) (S := fun w' => w'.cell? ⟨gb404, 0, none⟩ = some (.int .i16 ((rd_T43 l0 x11_1).f0)) ∧ w'.cell? ⟨gb404, 1, none⟩ = some (.int .i16 ((rd_T43 l0 x11_1).f1)) ∧ w'.cell? ⟨gb402, 0, none⟩ = some (.int .i16 a1_0) ∧ w'.cell? ⟨gb402, 1, none⟩ = some (.int .i16 a1_1) ∧ w'.cell? (ad403.add (((ji8)).toNat * 2)) = some (.int .i16 ((rd_T43 l0 (ji8)).f0)) ∧ w'.cell? ⟨(ad403.add (((ji8)).toNat * 2)).block, (ad403.add (((ji8)).toNat * 2)).off + 1, none⟩ = some (.int .i16 ((rd_T43 l0 (ji8)).f1))) (ds := []) #[false, false, false, false, false, false, false, false, false, false, false, false] (by kernel_rfl) rfl rfl ⟨(blk_cell BK404.out 0).trans rfl, (blk_cell BK404.out 1).trans rfl, (blk_cell BK402.out 0).trans rfl, (blk_cell BK402.out 1).trans rfl, ((hw_ HB hw405_0 :)), ((hw_ HB hw405_1 :))⟩ (fun hHeld => ?_); refine with_tabW impl_Stone_where.tab5 impl_Stone_where.bits5 (fun HT_ HW_ => ?_)
   generalize w29.drew = w30 at BK402 BK404 HB hx405_0 hx405_1 hHeld ⊢
   refine pu_ 1 17 (lA 12 2) ?_ ?_ HT_ ?_
   refine pu_ 2 18 (lA 12 6) ?_ ?_ HT_ ?_
   refine pu_ 3 19 (lA 12 14) ?_ ?_ HT_ ?_
   refine pu_ 4 20 (lA 12 30) ?_ ?_ HT_ ?_
   refine pu_ 5 21 (lA 12 62) ?_ ?_ HT_ ?_
   refine pu_ 6 22 (lA 12 126) ?_ ?_ HT_ ?_
   refine pu_ 7 23 (lA 12 254) ?_ ?_ HT_ ?_
   refine tk_ 0 16 (lA 12 255) ?_ ?_ HT_ HW_ hHeld ?_
   refine tk_ 8 24 (lA 12 511) ?_ ?_ HT_ HW_ hHeld ?_
   refine tk_ 9 25 (lA 12 1023) ?_ ?_ HT_ HW_ hHeld ?_
   refine one_ (i := 10) (N := some 26) #[true, true, true, true, true, true, true, true, true, true, true, false] rfl rfl (one_of HT_.out (by kernel_rfl)) (by decide) (fun K hK => ?_)
   refine goes_ Try.func58 (by kernel_rfl) rfl #[.agg #[.int .i16 ((rd_T43 l0 x11_1).f0), .int .i16 ((rd_T43 l0 x11_1).f1)], .agg #[.int .i16 ((rd_T43 l0 (ji8)).f0), .int .i16 ((rd_T43 l0 (ji8)).f1)], .agg #[.int .i16 a1_0, .int .i16 a1_1]] (by rfl) rfl rfl (by (try simp only [List.map_toArray, List.map_cons, List.map_nil]); first | done | (simp only [hji8]; rfl) | rfl | (simp only [List.length_drop, List.length_take]; rfl)) ?_
   with_reducible refine (impl_side.calls ((rd_T43 l0 x11_1).f0) ((rd_T43 l0 x11_1).f1) ((rd_T43 l0 (ji8)).f0) ((rd_T43 l0 (ji8)).f1) a1_0 a1_1 t406 _ A11.out).mono ?_
   rintro e w31 ⟨rfl, hb⟩
   refine ⟨_, rfl, ?_⟩
   have n0_ := bd_ BK402 hb
   have n1_ := bd_ BK404 hb
   have n2_ := Aside0.mk (below_step (k2_ HB GE402 GE404) hb)
   clear BK402
   clear BK404
   clear HB
   have BK402 := n0_
   have BK404 := n1_
   have HB := n2_
   clear n0_ n1_ n2_
   refine hK.out _ _ ⟨(blk_cell BK404.out 0).trans rfl, (blk_cell BK404.out 1).trans rfl, (blk_cell BK402.out 0).trans rfl, (blk_cell BK402.out 1).trans rfl, ((hw_ HB hw405_0 :)), ((hw_ HB hw405_1 :))⟩ (fun hHeld => ?_)
   clear hK K
   refine norm_ (a' := ?_) ?_ ?_
   rotate_left
   ·
    show Act.put _ (some 26) _ = _
    simp only [Act.put, List.setIfInBounds_toArray, List.set_cons_zero, List.set_cons_succ, i64_w, i32_w]
    rfl
   refine pu_ 11 8 (lA 12 4095) ?_ ?_ HT_ ?_
   refine done_ (done_of HT_.out (by kernel_rfl)) ?_
   try go_wp2
   go_roundg k1
   case measure => have := HK1.out; omega
   case rel => exact ⟨(x5_1), (wrap64 (x11_1 + 1)), (by first | rfl | (simp; done) | (simp [*]; done)), (by first | rfl | (simp; done) | (simp [*]; done)), H', ⟨by have := HK1.out; omega⟩, ⟨bk_ BK402⟩, ⟨k2_ HB GE402 GE404⟩⟩
  rw [if_pos c19] at H
  have c19b0 : (t406 == 0) = true := beq_iff_eq.mpr c19
  have c19b1 : (t406 != 0) = false := bne_eq_false_iff_eq.mpr c19
  clear c19
  have H' := Aside0.mk H
  clear H
  have p403 : 0 ≤ (x11_1 : Int) := od_
  have q403 : x11_1 < (l0.length : Int) := od_
  obtain ⟨ad403, e403, hx403_0, hx403_1⟩ := at_T43 HR0.out x11_1 p403 q403
  cases e403
  replace hx403_0 := (hw_ HB hx403_0 :)
  replace hx403_1 := (hw_ HB hx403_1 :)
  replace p403 := eq_true p403
  replace q403 := eq_true q403
  try go_wp2_with (first | ((with_reducible refine gate_dst (N := 7) rfl ?_); refine boxM_ 7 #[.int .i16 0, .int .i16 0] 43 ?_; intro gb404 hg w20 hbox hb; have BK404 := Aside0.mk (hbox); have GW404 := Aside0.mk ((by rw [hg]; exact (below_size (k1_ HB GE402)) : w.heap.size ≤ gb404)); have GE404 := Aside0.mk ((by rw [hg]; exact (below_size (k1_ HB GE402)) : w.heap.size ≤ gb404)); replace HB := Aside0.mk (below_step (k1_ HB GE402) hb); have NB402_404 := nl_ BK402 hg; have NB404_402 := ng_ BK402 hg; replace BK402 := bd_ BK402 hb; clear hb hbox hg; have hnb21 := NB404_402.out; have hnc21 := NB402_404.out; obtain ⟨⟨hcz22_0, hcz22_1⟩, hfz22_0, hfz22_1⟩ := bq_ BK404))
  have n0_ : Aside0 (((w20.setCell ⟨gb404, 0, none⟩ (.int .i16 ((rd_T43 l0 x11_1).f0))).setCell ⟨gb404, 1, none⟩ (.int .i16 ((rd_T43 l0 x11_1).f1))).heap[gb402]? = some (.cells #[.int .i16 a1_0, .int .i16 a1_1] 43 (0, 0))) := ⟨by (with_reducible repeat (first | refine blk_drewN ?_ _ | refine blk_drew ?_ | refine blk_alloc ?_ _)); refine blk_far ?_ NB402_404.out _; (with_reducible repeat (first | refine blk_drewN ?_ _ | refine blk_drew ?_ | refine blk_alloc ?_ _)); refine blk_far ?_ NB402_404.out _; (with_reducible repeat (first | refine blk_drewN ?_ _ | refine blk_drew ?_ | refine blk_alloc ?_ _)); exact BK402.out⟩
  have n1_ : Aside0 (((w20.setCell ⟨gb404, 0, none⟩ (.int .i16 ((rd_T43 l0 x11_1).f0))).setCell ⟨gb404, 1, none⟩ (.int .i16 ((rd_T43 l0 x11_1).f1))).heap[gb404]? = some (.cells #[.int .i16 ((rd_T43 l0 x11_1).f0), .int .i16 ((rd_T43 l0 x11_1).f1)] 43 (0, 0))) := ⟨by (with_reducible repeat (first | refine blk_drewN ?_ _ | refine blk_drew ?_ | refine blk_alloc ?_ _)); refine blk_put (cs := #[.int .i16 ((rd_T43 l0 x11_1).f0), .int .i16 0]) ?_ 1 _ rfl; (with_reducible repeat (first | refine blk_drewN ?_ _ | refine blk_drew ?_ | refine blk_alloc ?_ _)); refine blk_put (cs := #[.int .i16 0, .int .i16 0]) ?_ 0 _ rfl; (with_reducible repeat (first | refine blk_drewN ?_ _ | refine blk_drew ?_ | refine blk_alloc ?_ _)); exact BK404.out⟩
  have n2_ : Aside0 (Below w.heap.size w ((w20.setCell ⟨gb404, 0, none⟩ (.int .i16 ((rd_T43 l0 x11_1).f0))).setCell ⟨gb404, 1, none⟩ (.int .i16 ((rd_T43 l0 x11_1).f1)))) := ⟨k2_ HB GE402 GE404⟩
  generalize ((w20.setCell ⟨gb404, 0, none⟩ (.int .i16 ((rd_T43 l0 x11_1).f0))).setCell ⟨gb404, 1, none⟩ (.int .i16 ((rd_T43 l0 x11_1).f1))) = w23 at n0_ n1_ n2_ ⊢
  have BK402 := n0_
  have BK404 := n1_
  have HB := n2_
  clear n0_ n1_ n2_
  have n0_ := Aside0.mk (blk_drew BK402.out)
  have n1_ := Aside0.mk (blk_drew BK404.out)
  have n2_ := Aside0.mk (below_drew1 HB.out)
  clear BK402
  clear BK404
  clear HB
  have BK402 := n0_
  have BK404 := n1_
  have HB := n2_
  clear n0_ n1_ n2_
  have p405 : 0 ≤ ((ji8) : Int) := od_
  have q405 : (ji8) < (l0.length : Int) := od_
  obtain ⟨ad405, e405, hx405_0, hx405_1⟩ := at_T43 HR0.out (ji8) p405 q405
  have hw405_1 := hx405_1
  have hw405_0 := hx405_0
  obtain rfl : ad403 = ad405 := (by injection e405)
  replace hx405_0 := (hw_ HB hx405_0 :)
  replace hx405_1 := (hw_ HB hx405_1 :)
  replace p405 := eq_true p405
  replace q405 := eq_true q405
  refine start_ (n := 12) (S := fun w' => w'.cell? ⟨gb404, 0, none⟩ = some (.int .i16 ((rd_T43 l0 x11_1).f0)) ∧ w'.cell? ⟨gb404, 1, none⟩ = some (.int .i16 ((rd_T43 l0 x11_1).f1)) ∧ w'.cell? ⟨gb402, 0, none⟩ = some (.int .i16 a1_0) ∧ w'.cell? ⟨gb402, 1, none⟩ = some (.int .i16 a1_1) ∧ w'.cell? (ad403.add (((ji8)).toNat * 2)) = some (.int .i16 ((rd_T43 l0 (ji8)).f0)) ∧ w'.cell? ⟨(ad403.add (((ji8)).toNat * 2)).block, (ad403.add (((ji8)).toNat * 2)).off + 1, none⟩ = some (.int .i16 ((rd_T43 l0 (ji8)).f1))) (ds := []) #[false, false, false, false, false, false, false, false, false, false, false, false] (by kernel_rfl) rfl rfl ⟨(blk_cell BK404.out 0).trans rfl, (blk_cell BK404.out 1).trans rfl, (blk_cell BK402.out 0).trans rfl, (blk_cell BK402.out 1).trans rfl, ((hw_ HB hw405_0 :)), ((hw_ HB hw405_1 :))⟩ (fun hHeld => ?_); refine with_tabW impl_Stone_where.tab5 impl_Stone_where.bits5 (fun HT_ HW_ => ?_)
  generalize w23.drew = w24 at BK402 BK404 HB hx405_0 hx405_1 hHeld ⊢
  refine pu_ 1 17 (lA 12 2) ?_ ?_ HT_ ?_
  refine pu_ 2 18 (lA 12 6) ?_ ?_ HT_ ?_
  refine pu_ 3 19 (lA 12 14) ?_ ?_ HT_ ?_
  refine pu_ 4 20 (lA 12 30) ?_ ?_ HT_ ?_
  refine pu_ 5 21 (lA 12 62) ?_ ?_ HT_ ?_
  refine pu_ 6 22 (lA 12 126) ?_ ?_ HT_ ?_
  refine pu_ 7 23 (lA 12 254) ?_ ?_ HT_ ?_
  refine tk_ 0 16 (lA 12 255) ?_ ?_ HT_ HW_ hHeld ?_
  refine tk_ 8 24 (lA 12 511) ?_ ?_ HT_ HW_ hHeld ?_
  refine tk_ 9 25 (lA 12 1023) ?_ ?_ HT_ HW_ hHeld ?_
  refine one_ (i := 10) (N := some 26) #[true, true, true, true, true, true, true, true, true, true, true, false] rfl rfl (one_of HT_.out (by kernel_rfl)) (by decide) (fun K hK => ?_)
  refine goes_ Try.func58 (by kernel_rfl) rfl #[.agg #[.int .i16 ((rd_T43 l0 x11_1).f0), .int .i16 ((rd_T43 l0 x11_1).f1)], .agg #[.int .i16 ((rd_T43 l0 (ji8)).f0), .int .i16 ((rd_T43 l0 (ji8)).f1)], .agg #[.int .i16 a1_0, .int .i16 a1_1]] (by rfl) rfl rfl (by (try simp only [List.map_toArray, List.map_cons, List.map_nil]); first | done | (simp only [hji8]; rfl) | rfl | (simp only [List.length_drop, List.length_take]; rfl)) ?_
  with_reducible refine (impl_side.calls ((rd_T43 l0 x11_1).f0) ((rd_T43 l0 x11_1).f1) ((rd_T43 l0 (ji8)).f0) ((rd_T43 l0 (ji8)).f1) a1_0 a1_1 t406 _ A11.out).mono ?_
  rintro e w25 ⟨rfl, hb⟩
  refine ⟨_, rfl, ?_⟩
  have n0_ := bd_ BK402 hb
  have n1_ := bd_ BK404 hb
  have n2_ := Aside0.mk (below_step (k2_ HB GE402 GE404) hb)
  clear BK402
  clear BK404
  clear HB
  have BK402 := n0_
  have BK404 := n1_
  have HB := n2_
  clear n0_ n1_ n2_
  refine hK.out _ _ ⟨(blk_cell BK404.out 0).trans rfl, (blk_cell BK404.out 1).trans rfl, (blk_cell BK402.out 0).trans rfl, (blk_cell BK402.out 1).trans rfl, ((hw_ HB hw405_0 :)), ((hw_ HB hw405_1 :))⟩ (fun hHeld => ?_)
  clear hK K
  refine norm_ (a' := ?_) ?_ ?_
  rotate_left
  ·
   show Act.put _ (some 26) _ = _
   simp only [Act.put, List.setIfInBounds_toArray, List.set_cons_zero, List.set_cons_succ, i64_w, i32_w]
   rfl
  refine pu_ 11 8 (lA 12 4095) ?_ ?_ HT_ ?_
  refine done_ (done_of HT_.out (by kernel_rfl)) ?_
  try go_wp2
  go_roundg k1
  case measure => have := HK1.out; omega
  case rel => exact ⟨(1), (wrap64 (x11_1 + 1)), (by first | rfl | (simp; done) | (simp [*]; done)), (by first | rfl | (simp; done) | (simp [*]; done)), H', ⟨by have := HK1.out; omega⟩, ⟨bk_ BK402⟩, ⟨k2_ HB GE402 GE404⟩⟩
end Go.Proofs.Ytllfeehchiikoaa.PA
namespace Go.Proofs.Ytllfeehchiikoaa.PA
open Go.RowKit Go.Proofs.YtllfeehchiikoaaW.PrintWords Go.Proofs.YtllfeehchiikoaaW.PrintLast Go.Proofs.YtllfeehchiikoaaW.PrintMore
set_option linter.unusedVariables false
set_option linter.unusedSimpArgs false

/-! ### impl_StoneAt_1: function 38 -/
def impl_StoneAt_1.f (k : Nat) (l0 : List (S43)) (x y : Int) : Option Bool := (impl_Stone_where.f k l0 (IntKind.i16.wrap x) (IntKind.i16.wrap y)).bind fun t => some (decide (t > 0))
theorem impl_StoneAt_1.mono : ∀ a0 x y k, LeO (impl_StoneAt_1.f k a0 x y) (impl_StoneAt_1.f (k + 1) a0 x y) := by
 intro a0 x y k
 unfold impl_StoneAt_1.f
 exact LeO.bind (impl_Stone_where.mono _ _ _ _) (fun _ => LeO.refl _)
set_option maxHeartbeats 1600000 in
set_option maxRecDepth 100000 in
theorem impl_StoneAt_1.calls (k : Nat) (A0 : Option Addr) (c0 : Nat) (l0 : List (S43)) (x y : Int) (gx gy : Nat) (r : Bool) (w : World) (hr0 : Kd.C k43 w A0 l0.length l0) (hc0 : l0.length ≤ c0) (h1 : w.heap[gx]? = some (.cells #[.int .i64 x] 2 (0, 0))) (h2 : w.heap[gy]? = some (.cells #[.int .i64 y] 2 (0, 0))) (h : impl_StoneAt_1.f k l0 x y = some r) :
  Calls Try.prog 38 #[.slice A0 l0.length c0, .pointer (some ⟨gx, 0, none⟩), .pointer (some ⟨gy, 0, none⟩)] w fun e w' => e = .returned (.bool r) ∧ Below w.heap.size w w' := by
 have hu0 := Try.underlying43
 obtain ⟨t, ht, hr⟩ := Option.bind_eq_some_iff.1 h
 obtain rfl := Option.some.inj hr
 have A2 := Aside0.mk ht
 have HR0 := Aside0.mk hr0
 have HC0 := Aside0.mk hc0
 have hX : w.cell? ⟨gx, 0, none⟩ = some (.int .i64 x) := (blk_cell h1 0).trans rfl
 have hY : w.cell? ⟨gy, 0, none⟩ = some (.int .i64 y) := (blk_cell h2 0).trans rfl
 clear ht h hr h1 h2 hr0 hc0
 go_enter Try.func38, Try.ntmps38
 go_wp2_with (go_at_call 39; (with_reducible refine (impl_Stone_where.calls k A0 c0 l0 _ _ t _ HR0.out HC0.out A2.out).mono ?_); rintro e w' ⟨rfl, hb'⟩)
 go_ret
 exact ⟨by first | rfl | (simp; done) | (simp [*]; done), hb'⟩

end Go.Proofs.Ytllfeehchiikoaa.PA
