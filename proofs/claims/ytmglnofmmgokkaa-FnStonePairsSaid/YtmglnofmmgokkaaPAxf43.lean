/- Pure functions, and that Go's functions come to them. -/
import Derived.Test.YtmglnofmmgokkaaPAx0
import Derived.Test.YtmglnofmmgokkaaPAxf61
import Derived.Test.YtmglnofmmgokkaaPAxgImpl
namespace Go.Proofs.Ytmglnofmmgokkaa.PA
open Go.RowKit Go.Proofs.YtmglnofmmgokkaaW.PrintWords Go.Proofs.YtmglnofmmgokkaaW.PrintLast Go.Proofs.YtmglnofmmgokkaaW.PrintMore
set_option linter.unusedVariables false
set_option linter.unusedSimpArgs false

/-! ### impl_straight: function 43 -/
def impl_straight.l0 : Nat → List (S34) → Int → Option ((List (S34)))
 | 0, _, _ => none
 | k + 1, x0, x3 => if x3 < (x0.length : Int) then (if (x0.length : Int) = 0 then (none) else (if 0 ≤ (Int.tmod (wrap64 ((wrap64 (x3 + (x0.length : Int))) - 1)) (x0.length : Int)) then (if (Int.tmod (wrap64 ((wrap64 (x3 + (x0.length : Int))) - 1)) (x0.length : Int)) < (x0.length : Int) then (if 0 ≤ x3 then (if 0 ≤ (Int.tmod (wrap64 (x3 + 1)) (x0.length : Int)) then (if (Int.tmod (wrap64 (x3 + 1)) (x0.length : Int)) < (x0.length : Int) then ((impl_side.f ((rd_T34 x0 (Int.tmod (wrap64 ((wrap64 (x3 + (x0.length : Int))) - 1)) (x0.length : Int))).f0) ((rd_T34 x0 (Int.tmod (wrap64 ((wrap64 (x3 + (x0.length : Int))) - 1)) (x0.length : Int))).f1) ((rd_T34 x0 x3).f0) ((rd_T34 x0 x3).f1) ((rd_T34 x0 (Int.tmod (wrap64 (x3 + 1)) (x0.length : Int))).f0) ((rd_T34 x0 (Int.tmod (wrap64 (x3 + 1)) (x0.length : Int))).f1)).bind fun t441 => (if t441 = 0 then ((impl_Corner_61.f x0 x3 (wrap64 (x3 + 1))).bind fun t442 => (impl_straight.l0 k t442 x3)) else (impl_straight.l0 k x0 (wrap64 (x3 + 1))))) else (none)) else (none)) else (none)) else (none)) else (none))) else (some x0)
def impl_straight.f (k : Nat) (l0 : List (S34)) : Option ((List (S34))) := impl_straight.l0 k l0 0
theorem impl_straight.mono_l : ∀ k, (∀ y0 y1, LeO (impl_straight.l0 k y0 y1) (impl_straight.l0 (k + 1) y0 y1))
 | 0 => fun _ _ r h => by simp [impl_straight.l0] at h
 | k + 1 => by
  have ih0 := impl_straight.mono_l k
  ·
   intro y0 y1
   unfold impl_straight.l0
   repeat' first | (with_reducible first | exact ih0 _ _ | exact LeO.refl _ | exact LeO.none _ | refine LeO.ite ?_ ?_ | refine LeO.bind ?_ (fun _ => ?_))
theorem impl_straight.mono : ∀ a0 k, LeO (impl_straight.f k a0) (impl_straight.f (k + 1) a0) := by
 intro a0 k
 have ih0 := impl_straight.mono_l k
 unfold impl_straight.f
 repeat' first | (with_reducible first | exact ih0 _ _ | exact LeO.refl _ | exact LeO.none _ | refine LeO.ite ?_ ?_ | refine LeO.bind ?_ (fun _ => ?_))
def impl_straight.T4 : Bool × List (List Nat × List Nat) := (true, [([], []), ([], []), ([], []), ([1, 2], [1, 2]), ([3], [3]), ([], []), ([4, 5], [4, 5]), ([0, 6], [0, 6]), ([7], [7]), ([], []), ([], []), ([9, 10], [9, 10]), ([11], [11]), ([], []), ([], []), ([14], [14]), ([], []), ([15, 16], [15, 16]), ([13, 17], [13, 17]), ([18], [18]), ([8, 12, 19], [8, 12, 19]), ([20], [20])])
def impl_straight.B4 : List Nat := [0, 0, 0, 6, 14, 0, 62, 127, 255, 0, 0, 1536, 3584, 0, 0, 16384, 0, 114688, 253952, 516096, 1048575, 2097151]
theorem impl_straight.tab4 : rtab .any (opsOf Try.f43 4) = impl_straight.T4 := by kernel_rfl
theorem impl_straight.bits4 : waitsOk impl_straight.T4.2 impl_straight.B4 = true := by kernel_rfl
set_option maxHeartbeats 8000000 in
set_option maxRecDepth 100000 in
theorem impl_straight.calls (k : Nat) (P0_ : Nat → Prop) (u9000_ : Value) (l0 : List (S34)) (r : List (S34)) (w0 w : World) (hB : Below w0.heap.size w0 w) (ho0 : Kd.R k34 34 w w0.heap.size P0_ u9000_ l0) (h : impl_straight.f k l0 = some r) :
  Calls Try.prog 43 #[u9000_] w fun e w' => ∃ v0_ : Value, e = .returned (v0_) ∧ Kd.R k34 34 w' w0.heap.size (fun k_ => (P0_ k_ ∨ w.heap.size ≤ k_)) v0_ r ∧ Below w0.heap.size w0 w' ∧ Kept w w' (fun k_ => P0_ k_) := by
 have hu34 := Try.underlying34
 have HO0 := Aside0.mk (show Kd.R k34 34 w w0.heap.size (fun k_ => (P0_ k_ ∨ w.heap.size ≤ k_)) u9000_ l0 from Kd.R_mono ho0 (fun k_ hk => (.inl hk)))
 have HK := Aside0.mk (Kept.refl w (fun k_ => P0_ k_))
 have HW0 := Aside0.mk hB.size
 have HB := Aside0.mk hB
 clear hB
 have H : (impl_straight.l0 k l0 0) = some r := h
 clear h
 have H' := Aside0.mk H
 clear H
 go_enter Try.func43, Try.ntmps43
 go_wp2
 go_loopg [0, 3] k (fun kq v0 v3 w' => ∃ (x0_1 : List (S34)) (x3_1 : Int), v3 = .int .i64 x3_1 ∧ Aside0 (impl_straight.l0 kq x0_1 x3_1 = some r) ∧ Aside0 (kq ≤ k) ∧ Aside0 (Kd.R k34 34 w' w0.heap.size (fun k_ => (P0_ k_ ∨ w.heap.size ≤ k_)) v0 x0_1) ∧ Aside0 (Kept w w' (fun k_ => P0_ k_)) ∧ Aside0 (Below w0.heap.size w0 w'))
 case atStart => exact ⟨(l0), (0), (by first | rfl | (simp; done) | (simp [*]; done)), H', ⟨Nat.le_refl _⟩, ⟨kp_ HO0⟩, ⟨by repeat (first | (with_reducible first | exact HK.out | apply Kept.alloc | apply Kept.drewN | apply Kept.drew) | exact HK.out)⟩, ⟨bl_ HB⟩⟩
 case round =>
  clear H'
  obtain ⟨x0_1, x3_1, rfl, HA, HK1, HO_0, HK, HB⟩ := hrel
  rcases gk with _ | k1
  · exact absurd HA.out (by simp [impl_straight.l0])
  have H := HA.out
  clear HA
  simp only [impl_straight.l0] at H
  rcases (Decidable.em (x3_1 < (x0_1.length : Int))).symm with c2 | c2
  ·
   rw [if_neg c2] at H
   have c2b0 : decide (x3_1 < (x0_1.length : Int)) = false := decide_eq_false c2
   clear c2
   obtain rfl := Option.some.inj H
   obtain ⟨Ao21, co21, eo21⟩ := Kd.R_slice HO_0.out
   subst eo21
   go_wp2
   go_ret
   exact ⟨_, by first | rfl | (simp [errW_none, errW_some] <;> rfl) | (simp [*, errW_none, errW_some] <;> rfl), by (with_reducible repeat (first | apply Kd.R_alloc | apply Kd.R_drewN | apply Kd.R_drew)); exact HO_0.out, kB_ HB, by repeat (first | (with_reducible first | exact HK.out | apply Kept.alloc | apply Kept.drewN | apply Kept.drew) | exact HK.out)⟩

  rw [if_pos c2] at H
  have c2b0 : decide (x3_1 < (x0_1.length : Int)) = true := decide_eq_true c2
  clear c2
  by_cases c3 : (x0_1.length : Int) = 0
  ·
   rw [if_pos c3] at H
   exact absurd H (by simp)
  rw [if_neg c3] at H
  have c3b0 : ((x0_1.length : Int) == 0) = false := beq_eq_false_iff_ne.mpr c3
  have c3b1 : ((x0_1.length : Int) != 0) = true := bne_iff_ne.mpr c3
  have c3b2 : ¬ (x0_1 = []) := fun h_ => c3 (by rw [h_]; rfl)
  obtain ⟨ji4, hji4⟩ : ∃ j_ : Int, (Int.tmod (wrap64 ((wrap64 (x3_1 + (x0_1.length : Int))) - 1)) (x0_1.length : Int)) = j_ := ⟨_, rfl⟩
  replace H : (if 0 ≤ (ji4) then (if (ji4) < (x0_1.length : Int) then (if 0 ≤ x3_1 then (if 0 ≤ (Int.tmod (wrap64 (x3_1 + 1)) (x0_1.length : Int)) then (if (Int.tmod (wrap64 (x3_1 + 1)) (x0_1.length : Int)) < (x0_1.length : Int) then ((impl_side.f ((rd_T34 x0_1 (ji4)).f0) ((rd_T34 x0_1 (ji4)).f1) ((rd_T34 x0_1 x3_1).f0) ((rd_T34 x0_1 x3_1).f1) ((rd_T34 x0_1 (Int.tmod (wrap64 (x3_1 + 1)) (x0_1.length : Int))).f0) ((rd_T34 x0_1 (Int.tmod (wrap64 (x3_1 + 1)) (x0_1.length : Int))).f1)).bind fun t441 => (if t441 = 0 then ((impl_Corner_61.f x0_1 x3_1 (wrap64 (x3_1 + 1))).bind fun t442 => (impl_straight.l0 k1 t442 x3_1)) else (impl_straight.l0 k1 x0_1 (wrap64 (x3_1 + 1))))) else (none)) else (none)) else (none)) else (none)) else (none)) = some r := by first | (rw [hji4] at H; exact H) | (simp only [hji4] at H ⊢; exact H)
  obtain ⟨c5b0, H⟩ := gx_ H
  obtain ⟨c6b0, H⟩ := gx_ H
  obtain ⟨c7b0, H⟩ := gx_ H
  obtain ⟨ji8, hji8⟩ : ∃ j_ : Int, (Int.tmod (wrap64 (x3_1 + 1)) (x0_1.length : Int)) = j_ := ⟨_, rfl⟩
  replace H : (if 0 ≤ (ji8) then (if (ji8) < (x0_1.length : Int) then ((impl_side.f ((rd_T34 x0_1 (ji4)).f0) ((rd_T34 x0_1 (ji4)).f1) ((rd_T34 x0_1 x3_1).f0) ((rd_T34 x0_1 x3_1).f1) ((rd_T34 x0_1 (ji8)).f0) ((rd_T34 x0_1 (ji8)).f1)).bind fun t441 => (if t441 = 0 then ((impl_Corner_61.f x0_1 x3_1 (wrap64 (x3_1 + 1))).bind fun t442 => (impl_straight.l0 k1 t442 x3_1)) else (impl_straight.l0 k1 x0_1 (wrap64 (x3_1 + 1))))) else (none)) else (none)) = some r := by first | (rw [hji8] at H; exact H) | (simp only [hji8] at H ⊢; exact H)
  obtain ⟨c9b0, H⟩ := gx_ H
  obtain ⟨c10b0, H⟩ := gx_ H
  obtain ⟨t441, A11, H⟩ := be_ H
  (try dsimp only at H)
  rcases (Decidable.em (t441 = 0)).symm with c12 | c12
  ·
   rw [if_neg c12] at H
   have c12b0 : (t441 == 0) = false := beq_eq_false_iff_ne.mpr c12
   have c12b1 : (t441 != 0) = true := bne_iff_ne.mpr c12
   have H' := Aside0.mk H
   clear H
   obtain ⟨Ao18, co18, eo18⟩ := Kd.R_slice HO_0.out
   subst eo18
   try go_wp2
   have n0_ := Aside0.mk (Kd.R_drew HO_0.out)
   have n1_ := Aside0.mk (Kept.drew HK.out)
   have n2_ := Aside0.mk (below_drew1 HB.out)
   clear HO_0
   clear HK
   clear HB
   have HO_0 := n0_
   have HK := n1_
   have HB := n2_
   clear n0_ n1_ n2_
   have p438 : 0 ≤ ((ji4) : Int) := od_
   have q438 : (ji4) < (x0_1.length : Int) := od_
   obtain ⟨ad438, e438, hx438_0, hx438_1⟩ := at_T34 (Kd.R_reads' HO_0.out).2.2 (ji4) p438 q438
   cases e438
   replace p438 := eq_true p438
   replace q438 := eq_true q438
   have p439 : 0 ≤ (x3_1 : Int) := od_
   have q439 : x3_1 < (x0_1.length : Int) := od_
   obtain ⟨ad439, e439, hx439_0, hx439_1⟩ := at_T34 (Kd.R_reads' HO_0.out).2.2 x3_1 p439 q439
   obtain rfl : ad438 = ad439 := (by injection e439)
   replace p439 := eq_true p439
   replace q439 := eq_true q439
   have p440 : 0 ≤ ((ji8) : Int) := od_
   have q440 : (ji8) < (x0_1.length : Int) := od_
   obtain ⟨ad440, e440, hx440_0, hx440_1⟩ := at_T34 (Kd.R_reads' HO_0.out).2.2 (ji8) p440 q440
   obtain rfl : ad438 = ad440 := (by injection e440)
   replace p440 := eq_true p440
   replace q440 := eq_true q440
   refine start_ (n := 22) (S := fun w' => w'.cell? (ad438.add (((ji4)).toNat * 2)) = some (.int .i16 ((rd_T34 x0_1 (ji4)).f0)) ∧ w'.cell? ⟨(ad438.add (((ji4)).toNat * 2)).block, (ad438.add (((ji4)).toNat * 2)).off + 1, none⟩ = some (.int .i16 ((rd_T34 x0_1 (ji4)).f1)) ∧ w'.cell? (ad438.add ((x3_1).toNat * 2)) = some (.int .i16 ((rd_T34 x0_1 x3_1).f0)) ∧ w'.cell? ⟨(ad438.add ((x3_1).toNat * 2)).block, (ad438.add ((x3_1).toNat * 2)).off + 1, none⟩ = some (.int .i16 ((rd_T34 x0_1 x3_1).f1)) ∧ w'.cell? (ad438.add (((ji8)).toNat * 2)) = some (.int .i16 ((rd_T34 x0_1 (ji8)).f0)) ∧ w'.cell? ⟨(ad438.add (((ji8)).toNat * 2)).block, (ad438.add (((ji8)).toNat * 2)).off + 1, none⟩ = some (.int .i16 ((rd_T34 x0_1 (ji8)).f1))) (ds := []) #[false, false, false, false, false, false, false, false, false, false, false, false, false, false, false, false, false, false, false, false, false, false] (by kernel_rfl) rfl rfl ⟨hx438_0, hx438_1, hx439_0, hx439_1, hx440_0, hx440_1⟩ (fun hHeld => ?_); refine with_tabW impl_straight.tab4 impl_straight.bits4 (fun HT_ HW_ => ?_)
   generalize wr.drew = w19 at HO_0 HK HB hx438_0 hx438_1 hx439_0 hx439_1 hx440_0 hx440_1 hHeld ⊢
   refine pu_ 0 11 (lA 22 1) ?_ ?_ HT_ ?_
   refine pu_ 1 12 (lA 22 3) ?_ ?_ HT_ ?_
   refine pu_ 2 13 (lA 22 7) ?_ ?_ HT_ ?_
   refine pu_ 3 14 (lA 22 15) ?_ ?_ HT_ ?_
   refine pu_ 4 15 (lA 22 31) ?_ ?_ HT_ ?_
   refine pu_ 5 16 (lA 22 63) ?_ ?_ HT_ ?_
   refine pu_ 6 17 (lA 22 127) ?_ ?_ HT_ ?_
   refine pu_ 7 18 (lA 22 255) ?_ ?_ HT_ ?_
   refine pu_ 9 20 (lA 22 767) ?_ ?_ HT_ ?_
   refine pu_ 10 21 (lA 22 1791) ?_ ?_ HT_ ?_
   refine pu_ 11 22 (lA 22 3839) ?_ ?_ HT_ ?_
   refine pu_ 13 24 (lA 22 12031) ?_ ?_ HT_ ?_
   refine pu_ 14 25 (lA 22 28415) ?_ ?_ HT_ ?_
   refine pu_ 15 26 (lA 22 61183) ?_ ?_ HT_ ?_
   refine pu_ 16 27 (lA 22 126719) ?_ ?_ HT_ ?_
   refine pu_ 17 28 (lA 22 257791) ?_ ?_ HT_ ?_
   refine pu_ 18 29 (lA 22 519935) ?_ ?_ HT_ ?_
   refine tk_ 8 19 (lA 22 520191) ?_ ?_ HT_ HW_ hHeld ?_
   refine tk_ 12 23 (lA 22 524287) ?_ ?_ HT_ HW_ hHeld ?_
   refine tk_ 19 30 (lA 22 1048575) ?_ ?_ HT_ HW_ hHeld ?_
   refine one_ (i := 20) (N := some 31) #[true, true, true, true, true, true, true, true, true, true, true, true, true, true, true, true, true, true, true, true, true, false] rfl rfl (one_of HT_.out (by kernel_rfl)) (by decide) (fun K hK => ?_)
   refine goes_ Try.func56 (by kernel_rfl) rfl #[.agg #[.int .i16 ((rd_T34 x0_1 (ji4)).f0), .int .i16 ((rd_T34 x0_1 (ji4)).f1)], .agg #[.int .i16 ((rd_T34 x0_1 x3_1).f0), .int .i16 ((rd_T34 x0_1 x3_1).f1)], .agg #[.int .i16 ((rd_T34 x0_1 (ji8)).f0), .int .i16 ((rd_T34 x0_1 (ji8)).f1)]] (by rfl) rfl rfl (by (try simp only [List.map_toArray, List.map_cons, List.map_nil]); first | done | (simp only [hji4, hji8]; rfl) | rfl | (simp only [List.length_drop, List.length_take]; rfl)) ?_
   with_reducible refine (impl_side.calls ((rd_T34 x0_1 (ji4)).f0) ((rd_T34 x0_1 (ji4)).f1) ((rd_T34 x0_1 x3_1).f0) ((rd_T34 x0_1 x3_1).f1) ((rd_T34 x0_1 (ji8)).f0) ((rd_T34 x0_1 (ji8)).f1) t441 _ A11.out).mono ?_
   rintro e w20 ⟨rfl, hb⟩
   have HS0_ := (hb.cell (World.block_lt_of_cell? _ _ (hHeld.1))).trans (hHeld.1)
   have HS1_ := (hb.cell (World.block_lt_of_cell? _ _ (hHeld.2.1))).trans (hHeld.2.1)
   have HS2_ := (hb.cell (World.block_lt_of_cell? _ _ (hHeld.2.2.1))).trans (hHeld.2.2.1)
   have HS3_ := (hb.cell (World.block_lt_of_cell? _ _ (hHeld.2.2.2.1))).trans (hHeld.2.2.2.1)
   have HS4_ := (hb.cell (World.block_lt_of_cell? _ _ (hHeld.2.2.2.2.1))).trans (hHeld.2.2.2.2.1)
   have HS5_ := (hb.cell (World.block_lt_of_cell? _ _ (hHeld.2.2.2.2.2))).trans (hHeld.2.2.2.2.2)
   refine ⟨_, rfl, ?_⟩
   have n0_ := Aside0.mk (Kd.R_below (kp_ HO_0) hb)
   have n1_ := Aside0.mk (Kept.below (S := (fun k_ => P0_ k_)) (by repeat (first | (with_reducible first | exact HK.out | apply Kept.alloc | apply Kept.drewN | apply Kept.drew) | exact HK.out)) hb)
   have n2_ := bs_ HB hb
   clear HO_0
   clear HK
   clear HB
   have HO_0 := n0_
   have HK := n1_
   have HB := n2_
   clear n0_ n1_ n2_
   refine hK.out _ _ ⟨HS0_, HS1_, HS2_, HS3_, HS4_, HS5_⟩ (fun hHeld => ?_)
   clear hK K
   refine norm_ (a' := ?_) ?_ ?_
   rotate_left
   ·
    show Act.put _ (some 31) _ = _
    simp only [Act.put, List.setIfInBounds_toArray, List.set_cons_zero, List.set_cons_succ, i64_w, i32_w]
    rfl
   refine pu_ 21 32 (lA 22 4194303) ?_ ?_ HT_ ?_
   refine done_ (done_of HT_.out (by kernel_rfl)) ?_
   try go_wp2
   go_roundg k1
   case measure => have := HK1.out; omega
   case rel => exact ⟨(x0_1), (wrap64 (x3_1 + 1)), (by first | rfl | (simp; done) | (simp [*]; done)), H', ⟨by have := HK1.out; omega⟩, ⟨kp_ HO_0⟩, ⟨by repeat (first | (with_reducible first | exact HK.out | apply Kept.alloc | apply Kept.drewN | apply Kept.drew) | exact HK.out)⟩, ⟨bl_ HB⟩⟩
  rw [if_pos c12] at H
  have c12b0 : (t441 == 0) = true := beq_iff_eq.mpr c12
  have c12b1 : (t441 != 0) = false := bne_eq_false_iff_eq.mpr c12
  clear c12
  obtain ⟨t442, A13, H⟩ := be_ H
  (try dsimp only at H)
  have H' := Aside0.mk H
  clear H
  obtain ⟨Ao14, co14, eo14⟩ := Kd.R_slice HO_0.out
  subst eo14
  try go_wp2
  have n0_ := Aside0.mk (Kd.R_drew HO_0.out)
  have n1_ := Aside0.mk (Kept.drew HK.out)
  have n2_ := Aside0.mk (below_drew1 HB.out)
  clear HO_0
  clear HK
  clear HB
  have HO_0 := n0_
  have HK := n1_
  have HB := n2_
  clear n0_ n1_ n2_
  have p438 : 0 ≤ ((ji4) : Int) := od_
  have q438 : (ji4) < (x0_1.length : Int) := od_
  obtain ⟨ad438, e438, hx438_0, hx438_1⟩ := at_T34 (Kd.R_reads' HO_0.out).2.2 (ji4) p438 q438
  cases e438
  replace p438 := eq_true p438
  replace q438 := eq_true q438
  have p439 : 0 ≤ (x3_1 : Int) := od_
  have q439 : x3_1 < (x0_1.length : Int) := od_
  obtain ⟨ad439, e439, hx439_0, hx439_1⟩ := at_T34 (Kd.R_reads' HO_0.out).2.2 x3_1 p439 q439
  obtain rfl : ad438 = ad439 := (by injection e439)
  replace p439 := eq_true p439
  replace q439 := eq_true q439
  have p440 : 0 ≤ ((ji8) : Int) := od_
  have q440 : (ji8) < (x0_1.length : Int) := od_
  obtain ⟨ad440, e440, hx440_0, hx440_1⟩ := at_T34 (Kd.R_reads' HO_0.out).2.2 (ji8) p440 q440
  obtain rfl : ad438 = ad440 := (by injection e440)
  replace p440 := eq_true p440
  replace q440 := eq_true q440
  refine start_ (n := 22) (S := fun w' => w'.cell? (ad438.add (((ji4)).toNat * 2)) = some (.int .i16 ((rd_T34 x0_1 (ji4)).f0)) ∧ w'.cell? ⟨(ad438.add (((ji4)).toNat * 2)).block, (ad438.add (((ji4)).toNat * 2)).off + 1, none⟩ = some (.int .i16 ((rd_T34 x0_1 (ji4)).f1)) ∧ w'.cell? (ad438.add ((x3_1).toNat * 2)) = some (.int .i16 ((rd_T34 x0_1 x3_1).f0)) ∧ w'.cell? ⟨(ad438.add ((x3_1).toNat * 2)).block, (ad438.add ((x3_1).toNat * 2)).off + 1, none⟩ = some (.int .i16 ((rd_T34 x0_1 x3_1).f1)) ∧ w'.cell? (ad438.add (((ji8)).toNat * 2)) = some (.int .i16 ((rd_T34 x0_1 (ji8)).f0)) ∧ w'.cell? ⟨(ad438.add (((ji8)).toNat * 2)).block, (ad438.add (((ji8)).toNat * 2)).off + 1, none⟩ = some (.int .i16 ((rd_T34 x0_1 (ji8)).f1))) (ds := []) #[false, false, false, false, false, false, false, false, false, false, false, false, false, false, false, false, false, false, false, false, false, false] (by kernel_rfl) rfl rfl ⟨hx438_0, hx438_1, hx439_0, hx439_1, hx440_0, hx440_1⟩ (fun hHeld => ?_); refine with_tabW impl_straight.tab4 impl_straight.bits4 (fun HT_ HW_ => ?_)
  generalize wr.drew = w15 at HO_0 HK HB hx438_0 hx438_1 hx439_0 hx439_1 hx440_0 hx440_1 hHeld ⊢
  refine pu_ 0 11 (lA 22 1) ?_ ?_ HT_ ?_
  refine pu_ 1 12 (lA 22 3) ?_ ?_ HT_ ?_
  refine pu_ 2 13 (lA 22 7) ?_ ?_ HT_ ?_
  refine pu_ 3 14 (lA 22 15) ?_ ?_ HT_ ?_
  refine pu_ 4 15 (lA 22 31) ?_ ?_ HT_ ?_
  refine pu_ 5 16 (lA 22 63) ?_ ?_ HT_ ?_
  refine pu_ 6 17 (lA 22 127) ?_ ?_ HT_ ?_
  refine pu_ 7 18 (lA 22 255) ?_ ?_ HT_ ?_
  refine pu_ 9 20 (lA 22 767) ?_ ?_ HT_ ?_
  refine pu_ 10 21 (lA 22 1791) ?_ ?_ HT_ ?_
  refine pu_ 11 22 (lA 22 3839) ?_ ?_ HT_ ?_
  refine pu_ 13 24 (lA 22 12031) ?_ ?_ HT_ ?_
  refine pu_ 14 25 (lA 22 28415) ?_ ?_ HT_ ?_
  refine pu_ 15 26 (lA 22 61183) ?_ ?_ HT_ ?_
  refine pu_ 16 27 (lA 22 126719) ?_ ?_ HT_ ?_
  refine pu_ 17 28 (lA 22 257791) ?_ ?_ HT_ ?_
  refine pu_ 18 29 (lA 22 519935) ?_ ?_ HT_ ?_
  refine tk_ 8 19 (lA 22 520191) ?_ ?_ HT_ HW_ hHeld ?_
  refine tk_ 12 23 (lA 22 524287) ?_ ?_ HT_ HW_ hHeld ?_
  refine tk_ 19 30 (lA 22 1048575) ?_ ?_ HT_ HW_ hHeld ?_
  refine one_ (i := 20) (N := some 31) #[true, true, true, true, true, true, true, true, true, true, true, true, true, true, true, true, true, true, true, true, true, false] rfl rfl (one_of HT_.out (by kernel_rfl)) (by decide) (fun K hK => ?_)
  refine goes_ Try.func56 (by kernel_rfl) rfl #[.agg #[.int .i16 ((rd_T34 x0_1 (ji4)).f0), .int .i16 ((rd_T34 x0_1 (ji4)).f1)], .agg #[.int .i16 ((rd_T34 x0_1 x3_1).f0), .int .i16 ((rd_T34 x0_1 x3_1).f1)], .agg #[.int .i16 ((rd_T34 x0_1 (ji8)).f0), .int .i16 ((rd_T34 x0_1 (ji8)).f1)]] (by rfl) rfl rfl (by (try simp only [List.map_toArray, List.map_cons, List.map_nil]); first | done | (simp only [hji4, hji8]; rfl) | rfl | (simp only [List.length_drop, List.length_take]; rfl)) ?_
  with_reducible refine (impl_side.calls ((rd_T34 x0_1 (ji4)).f0) ((rd_T34 x0_1 (ji4)).f1) ((rd_T34 x0_1 x3_1).f0) ((rd_T34 x0_1 x3_1).f1) ((rd_T34 x0_1 (ji8)).f0) ((rd_T34 x0_1 (ji8)).f1) t441 _ A11.out).mono ?_
  rintro e w16 ⟨rfl, hb⟩
  have HS0_ := (hb.cell (World.block_lt_of_cell? _ _ (hHeld.1))).trans (hHeld.1)
  have HS1_ := (hb.cell (World.block_lt_of_cell? _ _ (hHeld.2.1))).trans (hHeld.2.1)
  have HS2_ := (hb.cell (World.block_lt_of_cell? _ _ (hHeld.2.2.1))).trans (hHeld.2.2.1)
  have HS3_ := (hb.cell (World.block_lt_of_cell? _ _ (hHeld.2.2.2.1))).trans (hHeld.2.2.2.1)
  have HS4_ := (hb.cell (World.block_lt_of_cell? _ _ (hHeld.2.2.2.2.1))).trans (hHeld.2.2.2.2.1)
  have HS5_ := (hb.cell (World.block_lt_of_cell? _ _ (hHeld.2.2.2.2.2))).trans (hHeld.2.2.2.2.2)
  refine ⟨_, rfl, ?_⟩
  have n0_ := Aside0.mk (Kd.R_below (kp_ HO_0) hb)
  have n1_ := Aside0.mk (Kept.below (S := (fun k_ => P0_ k_)) (by repeat (first | (with_reducible first | exact HK.out | apply Kept.alloc | apply Kept.drewN | apply Kept.drew) | exact HK.out)) hb)
  have n2_ := bs_ HB hb
  clear HO_0
  clear HK
  clear HB
  have HO_0 := n0_
  have HK := n1_
  have HB := n2_
  clear n0_ n1_ n2_
  refine hK.out _ _ ⟨HS0_, HS1_, HS2_, HS3_, HS4_, HS5_⟩ (fun hHeld => ?_)
  clear hK K
  refine norm_ (a' := ?_) ?_ ?_
  rotate_left
  ·
   show Act.put _ (some 31) _ = _
   simp only [Act.put, List.setIfInBounds_toArray, List.set_cons_zero, List.set_cons_succ, i64_w, i32_w]
   rfl
  refine pu_ 21 32 (lA 22 4194303) ?_ ?_ HT_ ?_
  refine done_ (done_of HT_.out (by kernel_rfl)) ?_
  try go_wp2_with (first | ((with_reducible refine gate_callee (f := 61) rfl ?_); refine goM_ (some 37) Try.func61 #[.slice (some ad438) x0_1.length co14, .int .i64 x3_1, .int .i64 (wrap64 (x3_1 + 1))] ?_; (with_reducible refine (impl_Corner_61.calls (fun k_ => some k_ = (.slice (some ad438) x0_1.length co14 : Value).ownBlock) (.slice (some ad438) x0_1.length co14) x0_1 x3_1 (wrap64 (x3_1 + 1)) t442 w0 _ ?side1 ?side2 A13.out).mono ?_); (case side1 => repeat (first | (with_reducible first | exact HB.out | apply below_alloc | apply pw_below_drewN | apply below_drew1) | exact HB.out)); (case side2 => exact Kd.R_tight rfl HO_0.out); rintro e w17 ⟨v443, rfl, ho0, hb, hkp⟩; refine ⟨_, rfl, ?_⟩; have n0_ := Aside0.mk (Kd.R_mono (ok' := fun k_ => (P0_ k_ ∨ w.heap.size ≤ k_)) ho0 (fun k_ hk_ => Or.elim hk_ (fun hs_ => (HO_0.out.1 k_ (hs_).symm)) (fun hn_ => (.inr (Nat.le_trans (by first | exact HK.out.1 | exact (show Kept w _ (fun k_ => P0_ k_) from by repeat (first | (with_reducible first | exact HK.out | apply Kept.alloc | apply Kept.drewN | apply Kept.drew) | exact HK.out)).1) hn_))))); have n1_ := Aside0.mk (Kept.then_ (S := (fun k_ => P0_ k_)) (by repeat (first | (with_reducible first | exact HK.out | apply Kept.alloc | apply Kept.drewN | apply Kept.drew) | exact HK.out)) hkp (fun k_ hs_ => (fun e_ => (HO_0.out.1 k_ e_.symm)) hs_)); have n2_ := Aside0.mk (hb); clear HK; clear HB; clear HO_0; have HO444 := n0_; have HK := n1_; have HB := n2_; clear n0_ n1_ n2_; clear hb; (try clear hkp); (try clear ho0)))
  go_roundg k1
  case measure => have := HK1.out; omega
  case rel => exact ⟨(t442), (x3_1), (by first | rfl | (simp; done) | (simp [*]; done)), H', ⟨by have := HK1.out; omega⟩, ⟨kp_ HO444⟩, ⟨by repeat (first | (with_reducible first | exact HK.out | apply Kept.alloc | apply Kept.drewN | apply Kept.drew) | exact HK.out)⟩, ⟨bl_ HB⟩⟩
end Go.Proofs.Ytmglnofmmgokkaa.PA
