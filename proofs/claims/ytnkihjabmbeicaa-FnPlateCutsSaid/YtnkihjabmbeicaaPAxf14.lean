/- Pure functions, and that Go's functions come to them. -/
import Derived.Test.YtnkihjabmbeicaaPAx0
import Derived.Test.YtnkihjabmbeicaaPAxm9
namespace Go.Proofs.Ytnkihjabmbeicaa.PA
open Go.RowKit Go.Proofs.YtnkihjabmbeicaaW.PrintWords Go.Proofs.YtnkihjabmbeicaaW.PrintLast Go.Proofs.YtnkihjabmbeicaaW.PrintMore
set_option linter.unusedVariables false
set_option linter.unusedSimpArgs false

/-! ### impl_PiecesOf: function 14 -/
def impl_PiecesOf.l0 : Nat → List Int → List (S48) → Int → Int → Option (List Int × Int)
 | 0, _, _, _, _ => none
 | k + 1, x10, x22, x23, x24 => if x24 < x23 then (if 0 ≤ x24 then (if x24 < (x22.length : Int) then (if ((rd_T48 x22 x24).f0) = 1 then (if 0 ≤ ((rd_T48 x22 x24).f2) then (if ((rd_T48 x22 x24).f2) < (x10.length : Int) then (impl_PiecesOf.l0 k (x10.set (((rd_T48 x22 x24).f2) : Int).toNat (wrap64 ((rd x10 ((rd_T48 x22 x24).f2)) + 1))) x22 x23 (wrap64 (x24 + 1))) else (none)) else (none)) else (impl_PiecesOf.l0 k x10 x22 x23 (wrap64 (x24 + 1)))) else (none)) else (none)) else (some (x10, 0))
def impl_PiecesOf.f (k : Nat) (a0 : Int) (a1 : Int) (l2 : List (S46)) (l3 : List (S48)) : Option (List Int × Int) := (impl_ValidCuts.f k a0 a1 l2 l3).bind fun t200 => (if t200 = true then (if 0 ≤ (l2.length : Int) then (if ((l2.length : Int) : Int).toNat ≤ 35184372088832 then (impl_PiecesOf.l0 k (List.replicate ((l2.length : Int) : Int).toNat 0) l3 (l3.length : Int) 0) else (none)) else (none)) else (some (([] : List Int), 1)))
theorem impl_PiecesOf.mono_l : ∀ k, (∀ y0 y1 y2 y3, LeO (impl_PiecesOf.l0 k y0 y1 y2 y3) (impl_PiecesOf.l0 (k + 1) y0 y1 y2 y3))
 | 0 => fun _ _ _ _ r h => by simp [impl_PiecesOf.l0] at h
 | k + 1 => by
  have ih0 := impl_PiecesOf.mono_l k
  ·
   intro y0 y1 y2 y3
   unfold impl_PiecesOf.l0
   repeat' first | (with_reducible first | exact ih0 _ _ _ _ | exact impl_ValidCuts.mono _ _ _ _ _ | exact LeO.refl _ | exact LeO.none _ | refine LeO.ite ?_ ?_ | refine LeO.bind ?_ (fun _ => ?_))
theorem impl_PiecesOf.mono : ∀ a0 a1 a2 a3 k, LeO (impl_PiecesOf.f k a0 a1 a2 a3) (impl_PiecesOf.f (k + 1) a0 a1 a2 a3) := by
 intro a0 a1 a2 a3 k
 have ih0 := impl_PiecesOf.mono_l k
 unfold impl_PiecesOf.f
 repeat' first | (with_reducible first | exact ih0 _ _ _ _ | exact impl_ValidCuts.mono _ _ _ _ _ | exact LeO.refl _ | exact LeO.none _ | refine LeO.ite ?_ ?_ | refine LeO.bind ?_ (fun _ => ?_))
set_option maxHeartbeats 8000000 in
set_option maxRecDepth 100000 in
theorem impl_PiecesOf.calls (k : Nat) (a0 : Int) (a1 : Int) (A2 : Option Addr) (c2 : Nat) (l2 : List (S46)) (A3 : Option Addr) (c3 : Nat) (l3 : List (S48)) (r1 : List Int) (r2 : Int) (w : World) (hr2 : Kd.C k46 w A2 l2.length l2) (hc2 : l2.length ≤ c2) (hr3 : Kd.C k48 w A3 l3.length l3) (hc3 : l3.length ≤ c3) (h : impl_PiecesOf.f k a0 a1 l2 l3 = some (r1, r2)) :
  Calls Try.prog 14 #[.int .i64 a0, .int .i64 a1, .slice A2 l2.length c2, .slice A3 l3.length c3] w fun e w' => ∃ v0_ : Value, e = .returned (.tuple #[v0_, .int .i64 r2]) ∧ Kd.R (Kd.int .i64) 2 w' w.heap.size (fun _ => True) v0_ r1 ∧ Below w.heap.size w w' := by
 have hu48 := Try.underlying48
 have HR2 := Aside0.mk hr2
 have HC2 := Aside0.mk hc2
 clear hr2 hc2
 have HR3 := Aside0.mk hr3
 have HC3 := Aside0.mk hc3
 clear hr3 hc3
 have HB := Aside0.mk (Below.refl w.heap.size w)
 have H : ((impl_ValidCuts.f k a0 a1 l2 l3).bind fun t200 => (if t200 = true then (if 0 ≤ (l2.length : Int) then (if ((l2.length : Int) : Int).toNat ≤ 35184372088832 then (impl_PiecesOf.l0 k (List.replicate ((l2.length : Int) : Int).toNat 0) l3 (l3.length : Int) 0) else (none)) else (none)) else (some (([] : List Int), 1)))) = some (r1, r2) := h
 clear h
 obtain ⟨t200, A5, H⟩ := be_ H
 (try dsimp only at H)
 rcases (Decidable.em (t200 = true)).symm with c6 | c6
 ·
  replace c6 := Bool.eq_false_iff.mpr c6
  subst c6
  replace H := gf_ H
  simp only [Option.some.injEq, Prod.mk.injEq] at H
  obtain ⟨rfl, rfl⟩ := H
  go_enter Try.func14, Try.ntmps14
  go_wp2_with (first | ((with_reducible refine gate_callee (f := 19) rfl ?_); refine goM_ (some 17) Try.func19 #[.int .i64 a0, .int .i64 a1, .slice A2 l2.length c2, .slice A3 l3.length c3] ?_; (with_reducible refine (impl_ValidCuts.calls k a0 a1 _ _ l2 _ _ l3 false _ ?side1 ?side2 ?side3 ?side4 A5.out).mono ?_); (case side1 => exact kc_ HR2.out); (case side2 => exact HC2.out); (case side3 => exact kc_ HR3.out); (case side4 => exact HC3.out); rintro e w28 ⟨rfl, hb⟩; refine ⟨_, rfl, ?_⟩; replace HB := Aside0.mk (below_step (kB_ HB) hb); clear hb))
  go_ret2
  exact ⟨_, by first | rfl | (simp [errW_none, errW_some] <;> rfl) | (simp [*, errW_none, errW_some] <;> rfl), by first | exact Kd.R_nil _ _ _ _ _ | exact Kd.N_nil _ _ _ _ _ | exact Kd.V_nil _ _ _ _ _ | exact Kd.Q_nil _ _ _ _ _ | exact Kd.S_nil _ _ _ _ _, kB_ HB⟩

 subst c6
 replace H := gt_ H
 obtain ⟨(c7 : 0 ≤ (l2.length : Int)), H⟩ := gd_ H
 have c7b0 := eq_true c7
 have c7b1 : decide (0 ≤ (l2.length : Int)) = true := decide_eq_true c7
 clear c7
 obtain ⟨(c8 : ((l2.length : Int) : Int).toNat ≤ 35184372088832), H⟩ := gd_ H
 have c8b0 := eq_true c8
 have c8b1 : decide (((l2.length : Int) : Int).toNat ≤ 35184372088832) = true := decide_eq_true c8
 clear c8
 obtain ⟨y201, hy201⟩ : ∃ y_ : List Int, y_ = (List.replicate ((l2.length : Int) : Int).toNat 0) := ⟨_, rfl⟩
 replace H : (impl_PiecesOf.l0 k y201 l3 (l3.length : Int) 0) = some (r1, r2) := by first | (rw [hy201]; with_reducible exact H) | (have H2_ := (Option.bind_some _ _).symm.trans H; rw [hy201]; with_reducible exact H2_) | (have H2_ := (Option.bind_some _ _).symm.trans H; with_reducible exact H2_) | with_reducible exact H | (rw [hy201]; exact H) | exact H
 have Ny201 := Aside0.mk hy201
 clear hy201
 have H' := Aside0.mk H
 clear H
 go_enter Try.func14, Try.ntmps14
 go_wp2_with (first | ((with_reducible refine gate_callee (f := 19) rfl ?_); refine goM_ (some 17) Try.func19 #[.int .i64 a0, .int .i64 a1, .slice A2 l2.length c2, .slice A3 l3.length c3] ?_; (with_reducible refine (impl_ValidCuts.calls k a0 a1 _ _ l2 _ _ l3 true _ ?side1 ?side2 ?side3 ?side4 A5.out).mono ?_); (case side1 => exact kc_ HR2.out); (case side2 => exact HC2.out); (case side3 => exact kc_ HR3.out); (case side4 => exact HC3.out); rintro e w9 ⟨rfl, hb⟩; refine ⟨_, rfl, ?_⟩; replace HB := Aside0.mk (below_step (kB_ HB) hb); clear hb) | ((with_reducible refine gate_dst (N := 21) rfl ?_); refine Kd.R_make (Kd.int .i64) _ 2 rfl (N := 21) rfl 35 _ _ rfl (l2.length : Int) rfl rfl Try.underlying35 (.int .i64 0) 8 info2 rfl (by decide) (by omega) 0 (ok := fun _ => True) (okp := fun _ => True) rfl (fun _ hk => hk) trivial od_ (Nat.le_trans (Nat.mul_le_mul_right _ (od_ : (l2.length : Int).toNat ≤ 35184372088832)) (by omega)) (Below.refl _ _) (Nat.le_refl _) ?_; intro v202 w10 ho11 hb hg_ hnew_; clear hg_ hnew_; (first | rw [← Ny201.out] at ho11 | (simp only [Int.reduceToNat] at ho11; rw [← Ny201.out] at ho11)); have HO203 := Aside0.mk (Kd.R_lower ho11 (below_size (kB_ HB))); replace HB := Aside0.mk (below_step (kB_ HB) hb); clear hb ho11))
 go_loopg [24] k (fun kq v24 w' => ∃ (x10_1 : List Int) (x24_1 : Int), v24 = .int .i64 x24_1 ∧ Aside0 (impl_PiecesOf.l0 kq x10_1 l3 (l3.length : Int) x24_1 = some (r1, r2)) ∧ Aside0 (kq ≤ k) ∧ Aside0 (Kd.R (Kd.int .i64) 2 w' w.heap.size (fun _ => True) v202 x10_1) ∧ Aside0 (Below w.heap.size w w'))
 case atStart => exact ⟨(y201), (0), (by first | rfl | (simp; done) | (simp [*]; done)), H', ⟨Nat.le_refl _⟩, ⟨kp_ HO203⟩, ⟨kB_ HB⟩⟩
 case round =>
  clear H'
  obtain ⟨x10_1, x24_1, rfl, HA, HK1, HO_10, HB⟩ := hrel
  rcases gk with _ | k1
  · exact absurd HA.out (by simp [impl_PiecesOf.l0])
  have H := HA.out
  clear HA
  simp only [impl_PiecesOf.l0] at H
  rcases (Decidable.em (x24_1 < (l3.length : Int))).symm with c12 | c12
  ·
   rw [if_neg c12] at H
   have c12b0 : decide (x24_1 < (l3.length : Int)) = false := decide_eq_false c12
   clear c12
   simp only [Option.some.injEq, Prod.mk.injEq] at H
   obtain ⟨rfl, rfl⟩ := H
   go_wp2
   go_ret2
   exact ⟨_, by first | rfl | (simp [errW_none, errW_some] <;> rfl) | (simp [*, errW_none, errW_some] <;> rfl), by (with_reducible repeat (first | apply Kd.R_alloc | apply Kd.R_drewN | apply Kd.R_drew)); exact HO_10.out, kB_ HB⟩
  rw [if_pos c12] at H
  have c12b0 : decide (x24_1 < (l3.length : Int)) = true := decide_eq_true c12
  clear c12
  obtain ⟨c13b0, H⟩ := gx_ H
  obtain ⟨c14b0, H⟩ := gx_ H
  rcases (Decidable.em (((rd_T48 l3 x24_1).f0) = 1)).symm with c15 | c15
  ·
   rw [if_neg c15] at H
   have c15b0 : (((rd_T48 l3 x24_1).f0) == 1) = false := beq_eq_false_iff_ne.mpr c15
   have c15b1 : (((rd_T48 l3 x24_1).f0) != 1) = true := bne_iff_ne.mpr c15
   have H' := Aside0.mk H
   clear H
   have p204 : 0 ≤ (x24_1 : Int) := od_
   have q204 : x24_1 < (l3.length : Int) := od_
   obtain ⟨ad204, e204, hx204_0, hx204_1, hx204_2, hx204_3⟩ := at_T48 HR3.out x24_1 p204 q204
   cases e204
   replace hx204_0 := (hw_ HB hx204_0 :)
   replace hx204_1 := (hw_ HB hx204_1 :)
   replace hx204_2 := (hw_ HB hx204_2 :)
   replace hx204_3 := (hw_ HB hx204_3 :)
   replace p204 := eq_true p204
   replace q204 := eq_true q204
   go_wp2_with (first | ((with_reducible refine gate_dst (N := 12) rfl ?_); refine boxM_ 12 #[.int .i8 0, .int .i8 0, .int .i8 0, .int .i8 0] 48 ?_; intro gb205 hg w26 hbox hb; replace HO_10 := Aside0.mk (Kd.R_below (kp_ HO_10) hb); have BK205 := Aside0.mk (hbox); have GW205 := Aside0.mk ((by rw [hg]; exact (below_size (kB_ HB)) : w.heap.size ≤ gb205)); have GE205 := Aside0.mk ((by rw [hg]; exact (below_size (kB_ HB)) : w.heap.size ≤ gb205)); replace HB := Aside0.mk (below_step (kB_ HB) hb); clear hb hbox hg; have hcz27_0 : w26.cell? ⟨gb205, 0, none⟩ = some (.int .i8 0) := (blk_cell BK205.out 0).trans rfl; have hcz27_1 : w26.cell? ⟨gb205, 1, none⟩ = some (.int .i8 0) := (blk_cell BK205.out 1).trans rfl; have hcz27_2 : w26.cell? ⟨gb205, 2, none⟩ = some (.int .i8 0) := (blk_cell BK205.out 2).trans rfl; have hcz27_3 : w26.cell? ⟨gb205, 3, none⟩ = some (.int .i8 0) := (blk_cell BK205.out 3).trans rfl; have hfz27_0 := blk_frozen BK205.out 0; have hfz27_1 := blk_frozen BK205.out 1; have hfz27_2 := blk_frozen BK205.out 2; have hfz27_3 := blk_frozen BK205.out 3))
   go_roundg k1
   case measure => have := HK1.out; omega
   case rel => exact ⟨(x10_1), (wrap64 (x24_1 + 1)), (by first | rfl | (simp; done) | (simp [*]; done)), H', ⟨by have := HK1.out; omega⟩, ⟨by (with_reducible repeat (first | apply Kd.R_alloc | apply Kd.R_drewN | apply Kd.R_drew)); exact Kd.R_mono (Kd.R_far (p := ⟨gb205, 3, none⟩) (Kd.R_far (p := ⟨gb205, 2, none⟩) (Kd.R_far (p := ⟨gb205, 1, none⟩) (Kd.R_far (p := ⟨gb205, 0, none⟩) (Kd.R_types HO_10.out BK205.out (by decide)) (fun _ hk => hk.2) (.int .i8 ((rd_T48 l3 x24_1).f0))) (fun _ hk => hk.2) (.int .i8 ((rd_T48 l3 x24_1).f1))) (fun _ hk => hk.2) (.int .i8 ((rd_T48 l3 x24_1).f2))) (fun _ hk => hk.2) (.int .i8 ((rd_T48 l3 x24_1).f3))) (fun _ hk => trivial)⟩, ⟨k1_ HB GE205⟩⟩
  rw [if_pos c15] at H
  have c15b0 : (((rd_T48 l3 x24_1).f0) == 1) = true := beq_iff_eq.mpr c15
  have c15b1 : (((rd_T48 l3 x24_1).f0) != 1) = false := bne_eq_false_iff_eq.mpr c15
  clear c15
  obtain ⟨c16b0, H⟩ := gx_ H
  obtain ⟨c17b0, H⟩ := gx_ H
  obtain ⟨y207, hy207⟩ : ∃ y_ : List Int, y_ = (x10_1.set (((rd_T48 l3 x24_1).f2) : Int).toNat (wrap64 ((rd x10_1 ((rd_T48 l3 x24_1).f2)) + 1))) := ⟨_, rfl⟩
  replace H : (impl_PiecesOf.l0 k1 y207 l3 (l3.length : Int) (wrap64 (x24_1 + 1))) = some (r1, r2) := by first | (rw [hy207]; with_reducible exact H) | (have H2_ := (Option.bind_some _ _).symm.trans H; rw [hy207]; with_reducible exact H2_) | (have H2_ := (Option.bind_some _ _).symm.trans H; with_reducible exact H2_) | with_reducible exact H | (rw [hy207]; exact H) | exact H
  have Ny207 := Aside0.mk hy207
  clear hy207
  have H' := Aside0.mk H
  clear H
  have p204 : 0 ≤ (x24_1 : Int) := od_
  have q204 : x24_1 < (l3.length : Int) := od_
  obtain ⟨ad204, e204, hx204_0, hx204_1, hx204_2, hx204_3⟩ := at_T48 HR3.out x24_1 p204 q204
  cases e204
  replace hx204_0 := (hw_ HB hx204_0 :)
  replace hx204_1 := (hw_ HB hx204_1 :)
  replace hx204_2 := (hw_ HB hx204_2 :)
  replace hx204_3 := (hw_ HB hx204_3 :)
  replace p204 := eq_true p204
  replace q204 := eq_true q204
  go_wp2_with (first | ((with_reducible refine gate_dst (N := 12) rfl ?_); refine boxM_ 12 #[.int .i8 0, .int .i8 0, .int .i8 0, .int .i8 0] 48 ?_; intro gb205 hg w19 hbox hb; replace HO_10 := Aside0.mk (Kd.R_below (kp_ HO_10) hb); have BK205 := Aside0.mk (hbox); have GW205 := Aside0.mk ((by rw [hg]; exact (below_size (kB_ HB)) : w.heap.size ≤ gb205)); have GE205 := Aside0.mk ((by rw [hg]; exact (below_size (kB_ HB)) : w.heap.size ≤ gb205)); replace HB := Aside0.mk (below_step (kB_ HB) hb); clear hb hbox hg; have hcz20_0 : w19.cell? ⟨gb205, 0, none⟩ = some (.int .i8 0) := (blk_cell BK205.out 0).trans rfl; have hcz20_1 : w19.cell? ⟨gb205, 1, none⟩ = some (.int .i8 0) := (blk_cell BK205.out 1).trans rfl; have hcz20_2 : w19.cell? ⟨gb205, 2, none⟩ = some (.int .i8 0) := (blk_cell BK205.out 2).trans rfl; have hcz20_3 : w19.cell? ⟨gb205, 3, none⟩ = some (.int .i8 0) := (blk_cell BK205.out 3).trans rfl; have hfz20_0 := blk_frozen BK205.out 0; have hfz20_1 := blk_frozen BK205.out 1; have hfz20_2 := blk_frozen BK205.out 2; have hfz20_3 := blk_frozen BK205.out 3) | ((with_reducible refine gate_store (t := 48) (p := 12) rfl ?_); refine store_event (t := 48) (p := 12) (v := ?vo_w21) (w1 := ((((w19.setCell ⟨gb205, 0, none⟩ (.int .i8 ((rd_T48 l3 x24_1).f0))).setCell ⟨gb205, 1, none⟩ (.int .i8 ((rd_T48 l3 x24_1).f1))).setCell ⟨gb205, 2, none⟩ (.int .i8 ((rd_T48 l3 x24_1).f2))).setCell ⟨gb205, 3, none⟩ (.int .i8 ((rd_T48 l3 x24_1).f3)))) ?hg ?ho ?hn ?hr ?_; (case ho => rfl); (case hg => rfl); (case hn => rfl); (case hr => first | (go_simp; done) | (go_simp; rfl)); intro w21 hw; have n0_ : Aside0 (Kd.R (Kd.int .i64) 2 w21 w.heap.size (fun _ => True) v202 x10_1) := ⟨(by rw [hw]; exact (by (with_reducible repeat (first | apply Kd.R_alloc | apply Kd.R_drewN | apply Kd.R_drew)); exact Kd.R_mono (Kd.R_far (p := ⟨gb205, 3, none⟩) (Kd.R_far (p := ⟨gb205, 2, none⟩) (Kd.R_far (p := ⟨gb205, 1, none⟩) (Kd.R_far (p := ⟨gb205, 0, none⟩) (Kd.R_types HO_10.out BK205.out (by decide)) (fun _ hk => hk.2) (.int .i8 ((rd_T48 l3 x24_1).f0))) (fun _ hk => hk.2) (.int .i8 ((rd_T48 l3 x24_1).f1))) (fun _ hk => hk.2) (.int .i8 ((rd_T48 l3 x24_1).f2))) (fun _ hk => hk.2) (.int .i8 ((rd_T48 l3 x24_1).f3))) (fun _ hk => trivial)))⟩; have n1_ : Aside0 (w21.heap[gb205]? = some (.cells #[.int .i8 ((rd_T48 l3 x24_1).f0), .int .i8 ((rd_T48 l3 x24_1).f1), .int .i8 ((rd_T48 l3 x24_1).f2), .int .i8 ((rd_T48 l3 x24_1).f3)] 48 (0, 0))) := ⟨(by rw [hw]; exact (by (with_reducible repeat (first | refine blk_drewN ?_ _ | refine blk_drew ?_ | refine blk_alloc ?_ _)); refine blk_put (cs := #[.int .i8 ((rd_T48 l3 x24_1).f0), .int .i8 ((rd_T48 l3 x24_1).f1), .int .i8 ((rd_T48 l3 x24_1).f2), .int .i8 0]) ?_ 3 _ rfl; (with_reducible repeat (first | refine blk_drewN ?_ _ | refine blk_drew ?_ | refine blk_alloc ?_ _)); refine blk_put (cs := #[.int .i8 ((rd_T48 l3 x24_1).f0), .int .i8 ((rd_T48 l3 x24_1).f1), .int .i8 0, .int .i8 0]) ?_ 2 _ rfl; (with_reducible repeat (first | refine blk_drewN ?_ _ | refine blk_drew ?_ | refine blk_alloc ?_ _)); refine blk_put (cs := #[.int .i8 ((rd_T48 l3 x24_1).f0), .int .i8 0, .int .i8 0, .int .i8 0]) ?_ 1 _ rfl; (with_reducible repeat (first | refine blk_drewN ?_ _ | refine blk_drew ?_ | refine blk_alloc ?_ _)); refine blk_put (cs := #[.int .i8 0, .int .i8 0, .int .i8 0, .int .i8 0]) ?_ 0 _ rfl; (with_reducible repeat (first | refine blk_drewN ?_ _ | refine blk_drew ?_ | refine blk_alloc ?_ _)); exact BK205.out))⟩; have n2_ : Aside0 (Below w.heap.size w w21) := ⟨(by rw [hw]; exact (k1_ HB GE205))⟩; clear hw; clear HO_10; clear BK205; clear HB; have HO_10 := n0_; have BK205 := n1_; have HB := n2_; clear n0_ n1_ n2_; have hcz22_0 : w21.cell? ⟨gb205, 0, none⟩ = some (.int .i8 ((rd_T48 l3 x24_1).f0)) := (blk_cell BK205.out 0).trans rfl; have hcz22_1 : w21.cell? ⟨gb205, 1, none⟩ = some (.int .i8 ((rd_T48 l3 x24_1).f1)) := (blk_cell BK205.out 1).trans rfl; have hcz22_2 : w21.cell? ⟨gb205, 2, none⟩ = some (.int .i8 ((rd_T48 l3 x24_1).f2)) := (blk_cell BK205.out 2).trans rfl; have hcz22_3 : w21.cell? ⟨gb205, 3, none⟩ = some (.int .i8 ((rd_T48 l3 x24_1).f3)) := (blk_cell BK205.out 3).trans rfl; have hfz22_0 := blk_frozen BK205.out 0; have hfz22_1 := blk_frozen BK205.out 1; have hfz22_2 := blk_frozen BK205.out 2; have hfz22_3 := blk_frozen BK205.out 3; obtain ⟨Ao23, co23, eo23⟩ := Kd.R_slice HO_10.out; subst eo23; have p206 : 0 ≤ (((rd_T48 l3 x24_1).f2) : Int) := od_; have q206 : ((rd_T48 l3 x24_1).f2) < (x10_1.length : Int) := od_; obtain ⟨ad206, e206, hx206_0⟩ := Kd.at_int (Kd.R_reads' HO_10.out).2.2 ((rd_T48 l3 x24_1).f2) p206 q206; cases e206; replace p206 := eq_true p206; replace q206 := eq_true q206; have p18 : 0 ≤ (((rd_T48 l3 x24_1).f2) : Int) := od_; have q18 : (((rd_T48 l3 x24_1).f2) : Int) < ((x10_1.length : Int) : Int) := od_; obtain ⟨go18, co18, eo18, gb18, gl18, cl18, HG18⟩ := Kd.R_form HO_10.out (by omega); (first | cases eo18 | (injection eo18 with ea_ en_ ec_; (first | subst ea_ | (injection ea_ with ea_; subst ea_)); subst ec_; clear en_)); have GB18 := Aside0.mk gb18; have GG18 := Aside0.mk HG18; clear gb18 gl18 HG18; (first | simp only [add_plain] at hx206_0 | skip); obtain ⟨hx18_0, hf18_0⟩ := Kd.R_celln 0 HO_10.out (((rd_T48 l3 x24_1).f2) : Int) p18 q18; replace p18 := eq_true p18; replace q18 := eq_true q18; obtain ⟨hy24_, hz24_⟩ := Kd.R_celln 0 HO_10.out (((rd_T48 l3 x24_1).f2) : Int) od_ od_; have HP24 := Kd.R_putg HO_10.out (((rd_T48 l3 x24_1).f2) : Int) (wrap64 ((rd x10_1 ((rd_T48 l3 x24_1).f2)) + 1))) | ((with_reducible refine gate_store (t := 2) (p := 37) rfl ?_); refine store_event (t := 2) (p := 37) (v := ?vo_w25) (w1 := (w21.setCell ⟨go18, (((rd_T48 l3 x24_1).f2) : Int).toNat, none⟩ (.int .i64 (wrap64 ((rd x10_1 ((rd_T48 l3 x24_1).f2)) + 1))))) ?hg ?ho ?hn ?hr ?_; (case ho => rfl); (case hg => rfl); (case hn => rfl); (case hr => first | (go_simp; done) | (go_simp; rfl)); intro w25 hw; have hg : w21.grownBy w25 (some go18) := (by rw [hw]; exact HP24.2); have hp_ : Kd.R (Kd.int .i64) 2 w25 w.heap.size (fun _ => True) (.slice (some ⟨go18, 0, none⟩) x10_1.length co23) y207 := (by rw [hw, Ny207.out]; exact HP24.1); clear HP24; replace BK205 := Aside0.mk (blk_grown (g := gb205) (o := .cells #[.int .i8 ((rd_T48 l3 x24_1).f0), .int .i8 ((rd_T48 l3 x24_1).f1), .int .i8 ((rd_T48 l3 x24_1).f2), .int .i8 ((rd_T48 l3 x24_1).f3)] 48 (0, 0)) (kb_ BK205) hg (Kd.R_ne HO_10.out BK205.out (by decide))); replace HO_10 := Aside0.mk (hp_); replace HB := Aside0.mk ((by rw [hw]; exact below_set (HB.out) GB18.out : Below w.heap.size w w25)); clear hg hw hp_))
  go_roundg k1
  case measure => have := HK1.out; omega
  case rel => exact ⟨(y207), (wrap64 (x24_1 + 1)), (by first | rfl | (simp; done) | (simp [*]; done)), H', ⟨by have := HK1.out; omega⟩, ⟨kp_ HO_10⟩, ⟨k1_ HB GE205⟩⟩
end Go.Proofs.Ytnkihjabmbeicaa.PA
