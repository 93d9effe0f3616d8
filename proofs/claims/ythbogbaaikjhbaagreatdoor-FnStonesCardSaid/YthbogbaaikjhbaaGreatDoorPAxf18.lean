/- Pure functions, and that Go's functions come to them. -/
import Derived.Test.YthbogbaaikjhbaaGreatDoorPAx0
import Derived.Test.YthbogbaaikjhbaaGreatDoorPAxm29
import Derived.Test.YthbogbaaikjhbaaGreatDoorPAxgImpl
namespace Go.Proofs.YthbogbaaikjhbaaGreatDoor.PA
open Go.RowKit Go.Proofs.YthbogbaaikjhbaaGreatDoorW.PrintWords Go.Proofs.YthbogbaaikjhbaaGreatDoorW.PrintLast Go.Proofs.YthbogbaaikjhbaaGreatDoorW.PrintMore
set_option linter.unusedVariables false
set_option linter.unusedSimpArgs false

/-! ### impl_MoveStone: function 18 -/
mutual
def impl_MoveStone.j0 : Nat → List (S43) → Int → Int → Int → Option ((List (S43)) × Int)
 | 0, _, _, _, _ => none
 | k + 1, x0, x1, x2, x8 => if x8 = 0 then (impl_MoveStone.l0 k x1 x2 (([] : List (S43))) x0 (x0.length : Int) 0) else (some (([] : List (S43)), x8))
def impl_MoveStone.l0 : Nat → Int → Int → List (S43) → List (S43) → Int → Int → Option ((List (S43)) × Int)
 | 0, _, _, _, _, _, _ => none
 | k + 1, x1, x2, x9, x25, x26, x27 => if x27 < x26 then (if 0 ≤ x27 then (if x27 < (x25.length : Int) then ((impl_isPlaced.f (IntKind.i16.wrap (((rd_T43 x25 x27).f0) + (IntKind.i16.wrap (x1)))) (IntKind.i16.wrap (((rd_T43 x25 x27).f1) + (IntKind.i16.wrap (x2))))).bind fun t400 => (if t400 = true then (if x9.length < 35184372088832 then (impl_MoveStone.l0 k x1 x2 (x9 ++ [(⟨IntKind.i16.wrap (((rd_T43 x25 x27).f0) + (IntKind.i16.wrap (x1))), IntKind.i16.wrap (((rd_T43 x25 x27).f1) + (IntKind.i16.wrap (x2)))⟩ : S43)]) x25 x26 (wrap64 (x27 + 1))) else (none)) else (some (([] : List (S43)), 3)))) else (none)) else (none)) else (some (x9, 0))
end
def impl_MoveStone.f (k : Nat) (l0 : List (S43)) (a1 : Int) (a2 : Int) : Option ((List (S43)) × Int) := (impl_ValidStone.f k l0).bind fun t390 => ((impl_within.f a1 (-1000) 1000).bind fun t391 => (if t391 = true then ((impl_within.f a2 (-1000) 1000).bind fun t392 => ((impl_codeOf.f t390 t392).bind fun t393 => (impl_MoveStone.j0 k l0 a1 a2 t393))) else ((impl_codeOf.f t390 false).bind fun t394 => (impl_MoveStone.j0 k l0 a1 a2 t394))))
theorem impl_MoveStone.mono_l : ∀ k, (∀ y0 y1 y2 y3, LeO (impl_MoveStone.j0 k y0 y1 y2 y3) (impl_MoveStone.j0 (k + 1) y0 y1 y2 y3)) ∧ (∀ y0 y1 y2 y3 y4 y5, LeO (impl_MoveStone.l0 k y0 y1 y2 y3 y4 y5) (impl_MoveStone.l0 (k + 1) y0 y1 y2 y3 y4 y5))
 | 0 => ⟨fun _ _ _ _ r h => by simp [impl_MoveStone.j0] at h, fun _ _ _ _ _ _ r h => by simp [impl_MoveStone.l0] at h⟩
 | k + 1 => by
  obtain ⟨ih0, ih1⟩ := impl_MoveStone.mono_l k
  refine ⟨?_, ?_⟩ <;> intros
  all_goals first | unfold impl_MoveStone.j0 | unfold impl_MoveStone.l0
  all_goals repeat' first | (with_reducible first | exact ih0 _ _ _ _ | exact ih1 _ _ _ _ _ _ | exact impl_ValidStone.mono _ _ | exact LeO.refl _ | exact LeO.none _ | refine LeO.ite ?_ ?_ | refine LeO.bind ?_ (fun _ => ?_))
theorem impl_MoveStone.mono : ∀ a0 a1 a2 k, LeO (impl_MoveStone.f k a0 a1 a2) (impl_MoveStone.f (k + 1) a0 a1 a2) := by
 intro a0 a1 a2 k
 obtain ⟨ih0, ih1⟩ := impl_MoveStone.mono_l k
 unfold impl_MoveStone.f
 repeat' first | (with_reducible first | exact ih0 _ _ _ _ | exact ih1 _ _ _ _ _ _ | exact impl_ValidStone.mono _ _ | exact LeO.refl _ | exact LeO.none _ | refine LeO.ite ?_ ?_ | refine LeO.bind ?_ (fun _ => ?_))
set_option maxHeartbeats 8000000 in
set_option maxRecDepth 100000 in
theorem impl_MoveStone.calls (k : Nat) (A0 : Option Addr) (c0 : Nat) (l0 : List (S43)) (a1 : Int) (a2 : Int) (r1 : List (S43)) (r2 : Int) (w : World) (hr0 : Kd.C k43 w A0 l0.length l0) (hc0 : l0.length ≤ c0) (h : impl_MoveStone.f k l0 a1 a2 = some (r1, r2)) :
  Calls Tryz.prog 18 #[.slice A0 l0.length c0, .int .i64 a1, .int .i64 a2] w fun e w' => ∃ v0_ : Value, e = .returned (.tuple #[v0_, .int .i64 r2]) ∧ Kd.R k43 43 w' w.heap.size (fun _ => True) v0_ r1 ∧ Below w.heap.size w w' := by
 have hu43 := Tryz.underlying43
 have HR0 := Aside0.mk hr0
 have HC0 := Aside0.mk hc0
 clear hr0 hc0
 have HB := Aside0.mk (Below.refl w.heap.size w)
 have H : ((impl_ValidStone.f k l0).bind fun t390 => ((impl_within.f a1 (-1000) 1000).bind fun t391 => (if t391 = true then ((impl_within.f a2 (-1000) 1000).bind fun t392 => ((impl_codeOf.f t390 t392).bind fun t393 => (impl_MoveStone.j0 k l0 a1 a2 t393))) else ((impl_codeOf.f t390 false).bind fun t394 => (impl_MoveStone.j0 k l0 a1 a2 t394))))) = some (r1, r2) := h
 clear h
 have HC4 := Aside0.mk H
 clear H
 go_enter Tryz.func18, Tryz.ntmps18
 go_upto_region 1 with (fail)
 go_cut [8] (fun v8 wc => ∃ (kq : Nat) (x8_3 : Int), v8 = .int .i64 x8_3 ∧ Aside0 (impl_MoveStone.j0 kq l0 a1 a2 x8_3 = some (r1, r2)) ∧ Aside0 (kq ≤ k) ∧ Aside0 (Below w.heap.size w wc))
 case first =>
  have H := HC4.out
  clear HC4
  obtain ⟨t390, A5, H⟩ := be_ H
  (try dsimp only at H)
  obtain ⟨t391, A6, H⟩ := be_ H
  (try dsimp only at H)
  rcases (Decidable.em (t391 = true)).symm with c7 | c7
  ·
   replace c7 := Bool.eq_false_iff.mpr c7
   subst c7
   replace H := gf_ H
   obtain ⟨t394, A11, H⟩ := be_ H
   (try dsimp only at H)
   have H' := Aside0.mk H
   clear H
   go_wp2_with (first | ((with_reducible refine gate_callee (f := 14) rfl ?_); refine goM_ (some 13) Tryz.func14 #[.slice A0 l0.length c0] ?_; (with_reducible refine (impl_ValidStone.calls k _ _ l0 t390 _ ?side1 ?side2 A5.out).mono ?_); (case side1 => exact kc_ (Kd.C_below HR0.out HB.out)); (case side2 => exact HC0.out); rintro e w12 ⟨rfl, hb⟩; refine ⟨_, rfl, ?_⟩; replace HB := Aside0.mk (below_step (kB_ HB) hb); clear hb) | ((with_reducible refine gate_callee (f := 41) rfl ?_); refine goM_ (some 15) Tryz.func41 #[.int .i64 a1, .int .i64 (-1000), .int .i64 1000] ?_; (with_reducible refine (impl_within.calls a1 (-1000) 1000 false _ A6.out).mono ?_); rintro e w' ⟨rfl, ⟨nd, rfl⟩⟩; refine ⟨_, rfl, ?_⟩) | ((with_reducible refine gate_callee (f := 40) rfl ?_); refine goM_ (some 20) Tryz.func40 #[.bool t390, .bool false] ?_; (with_reducible refine (impl_codeOf.calls t390 false t394 _ A11.out).mono ?_); rintro e w' ⟨rfl, ⟨nd, rfl⟩⟩; refine ⟨_, rfl, ?_⟩))
   go_meet
   case rel => exact ⟨_, (t394), (by first | rfl | (simp; done) | (simp [*]; done)), H', ⟨by first | omega | exact Nat.le_refl _⟩, ⟨kB_ HB⟩⟩
  subst c7
  replace H := gt_ H
  obtain ⟨t392, A8, H⟩ := be_ H
  (try dsimp only at H)
  obtain ⟨t393, A9, H⟩ := be_ H
  (try dsimp only at H)
  have H' := Aside0.mk H
  clear H
  go_wp2_with (first | ((with_reducible refine gate_callee (f := 14) rfl ?_); refine goM_ (some 13) Tryz.func14 #[.slice A0 l0.length c0] ?_; (with_reducible refine (impl_ValidStone.calls k _ _ l0 t390 _ ?side1 ?side2 A5.out).mono ?_); (case side1 => exact kc_ (Kd.C_below HR0.out HB.out)); (case side2 => exact HC0.out); rintro e w10 ⟨rfl, hb⟩; refine ⟨_, rfl, ?_⟩; replace HB := Aside0.mk (below_step (kB_ HB) hb); clear hb) | ((with_reducible refine gate_callee (f := 41) rfl ?_); refine goM_ (some 15) Tryz.func41 #[.int .i64 a1, .int .i64 (-1000), .int .i64 1000] ?_; (with_reducible refine (impl_within.calls a1 (-1000) 1000 true _ A6.out).mono ?_); rintro e w' ⟨rfl, ⟨nd, rfl⟩⟩; refine ⟨_, rfl, ?_⟩) | (go_at_call 41; (with_reducible refine (impl_within.calls a2 (-1000) 1000 t392 _ A8.out).mono ?_); rintro e w' ⟨rfl, ⟨nd, rfl⟩⟩) | ((with_reducible refine gate_callee (f := 40) rfl ?_); refine goM_ (some 20) Tryz.func40 #[.bool t390, .bool t392] ?_; (with_reducible refine (impl_codeOf.calls t390 t392 t393 _ A9.out).mono ?_); rintro e w' ⟨rfl, ⟨nd, rfl⟩⟩; refine ⟨_, rfl, ?_⟩))
  go_meet
  case rel => exact ⟨_, (t393), (by first | rfl | (simp; done) | (simp [*]; done)), H', ⟨by first | omega | exact Nat.le_refl _⟩, ⟨kB_ HB⟩⟩
 case rest =>
  clear HC4
  obtain ⟨kq, x8_3, rfl, HA, HJ3, HB⟩ := hcut
  rcases kq with _ | kj3
  · exact absurd HA.out (by simp [impl_MoveStone.j0])
  have H := HA.out
  clear HA
  simp only [impl_MoveStone.j0] at H
  rcases (Decidable.em (x8_3 = 0)).symm with c13 | c13
  ·
   rw [if_neg c13] at H
   have c13b0 : (x8_3 == 0) = false := beq_eq_false_iff_ne.mpr c13
   have c13b1 : (x8_3 != 0) = true := bne_iff_ne.mpr c13
   simp only [Option.some.injEq, Prod.mk.injEq] at H
   obtain ⟨rfl, rfl⟩ := H
   go_wp2
   go_ret2
   exact ⟨_, by first | rfl | (simp [errW_none, errW_some] <;> rfl) | (simp [*, errW_none, errW_some] <;> rfl), by first | exact Kd.R_nil _ _ _ _ _ | exact Kd.N_nil _ _ _ _ _ | exact Kd.V_nil _ _ _ _ _ | exact Kd.Q_nil _ _ _ _ _ | exact Kd.S_nil _ _ _ _ _, kB_ HB⟩

  rw [if_pos c13] at H
  have c13b0 : (x8_3 == 0) = true := beq_iff_eq.mpr c13
  have c13b1 : (x8_3 != 0) = false := bne_eq_false_iff_eq.mpr c13
  clear c13
  obtain ⟨y395, hy395⟩ : ∃ y_ : List (S43), y_ = (([] : List (S43))) := ⟨_, rfl⟩
  replace H : (impl_MoveStone.l0 kj3 a1 a2 y395 l0 (l0.length : Int) 0) = some (r1, r2) := by first | (rw [hy395]; with_reducible exact H) | (have H2_ := (Option.bind_some _ _).symm.trans H; rw [hy395]; with_reducible exact H2_) | (have H2_ := (Option.bind_some _ _).symm.trans H; with_reducible exact H2_) | with_reducible exact H | (rw [hy395]; exact H) | exact H
  have Ny395 := Aside0.mk hy395
  clear hy395
  have H' := Aside0.mk H
  clear H
  go_wp2_with (first | ((with_reducible refine gate_dst (N := 24) rfl ?_); refine Kd.R_lit k43 _ 43 ?hg (N := 24) ?hd (xs := ([] : List (S43))) (inner := []) (ok := fun _ => True) (okp := fun _ => True) ?hr ?hp (fun _ hk => hk) trivial (Below.refl _ _) (Nat.le_refl _) (by simp) ?_; (case hd => rfl); (case hg => rfl); (case hr => first | (go_simp; done) | (go_simp; rfl)); (case hp => exact (Reps.none _ _)); intro v396 w14 ho15 hb hg_ hnew_; clear hg_ hnew_; (first | rw [← Ny395.out] at ho15 | (simp only [Int.reduceToNat] at ho15; rw [← Ny395.out] at ho15)); have HO397 := Aside0.mk (Kd.R_lower ho15 (below_size (kB_ HB))); replace HB := Aside0.mk (below_step (kB_ HB) hb); clear hb ho15))
  go_loopg [9, 27] kj3 (fun kq v9 v27 w' => ∃ (x9_2 : List (S43)) (x27_2 : Int), v27 = .int .i64 x27_2 ∧ Aside0 (impl_MoveStone.l0 kq a1 a2 x9_2 l0 (l0.length : Int) x27_2 = some (r1, r2)) ∧ Aside0 (kq ≤ kj3) ∧ Aside0 (Kd.R k43 43 w' w.heap.size (fun _ => True) v9 x9_2) ∧ Aside0 (Below w.heap.size w w'))
  case atStart => exact ⟨(y395), (0), (by first | rfl | (simp; done) | (simp [*]; done)), H', ⟨Nat.le_refl _⟩, ⟨kp_ HO397⟩, ⟨kB_ HB⟩⟩
  case round =>
   clear H'
   obtain ⟨x9_2, x27_2, rfl, HA, HK2, HO_9, HB⟩ := hrel
   rcases gk with _ | k2
   · exact absurd HA.out (by simp [impl_MoveStone.l0])
   have H := HA.out
   clear HA
   simp only [impl_MoveStone.l0] at H
   rcases (Decidable.em (x27_2 < (l0.length : Int))).symm with c16 | c16
   ·
    rw [if_neg c16] at H
    have c16b0 : decide (x27_2 < (l0.length : Int)) = false := decide_eq_false c16
    clear c16
    simp only [Option.some.injEq, Prod.mk.injEq] at H
    obtain ⟨rfl, rfl⟩ := H
    go_wp2
    go_ret2
    exact ⟨_, by first | rfl | (simp [errW_none, errW_some] <;> rfl) | (simp [*, errW_none, errW_some] <;> rfl), by (with_reducible repeat (first | apply Kd.R_alloc | apply Kd.R_drewN | apply Kd.R_drew)); exact HO_9.out, kB_ HB⟩
   rw [if_pos c16] at H
   have c16b0 : decide (x27_2 < (l0.length : Int)) = true := decide_eq_true c16
   clear c16
   obtain ⟨c17b0, H⟩ := gx_ H
   obtain ⟨c18b0, H⟩ := gx_ H
   obtain ⟨t400, A19, H⟩ := be_ H
   (try dsimp only at H)
   rcases (Decidable.em (t400 = true)).symm with c20 | c20
   ·
    replace c20 := Bool.eq_false_iff.mpr c20
    subst c20
    replace H := gf_ H
    simp only [Option.some.injEq, Prod.mk.injEq] at H
    obtain ⟨rfl, rfl⟩ := H
    have p398 : 0 ≤ (x27_2 : Int) := od_
    have q398 : x27_2 < (l0.length : Int) := od_
    obtain ⟨ad398, e398, hx398_0, hx398_1⟩ := af_ HB (at_T43 HR0.out x27_2 p398 q398)
    cases e398
    replace p398 := eq_true p398
    replace q398 := eq_true q398
    go_wp2_with (first | ((with_reducible refine gate_dst (N := 11) rfl ?_); refine boxM_ 11 #[.int .i16 0, .int .i16 0] 43 ?_; intro gb399 hg w27 hbox hb; replace HO_9 := Aside0.mk (Kd.R_below (Kd.R_elderB (kp_ HO_9) gb399 (Nat.le_of_eq hg.symm)) hb); have BK399 := Aside0.mk (hbox); have GW399 := Aside0.mk ((by rw [hg]; exact (below_size (kB_ HB)) : w.heap.size ≤ gb399)); have GE399 := Aside0.mk ((by rw [hg]; exact (below_size (kB_ HB)) : w.heap.size ≤ gb399)); replace HB := Aside0.mk (below_step (kB_ HB) hb); clear hb hbox hg; obtain ⟨⟨hcz28_0, hcz28_1⟩, hfz28_0, hfz28_1⟩ := bq_ BK399; have HS1_ := Aside0.mk (blk_put (cs := #[.int .i16 0, .int .i16 0]) BK399.out 0 (.int .i16 ((rd_T43 l0 x27_2).f0)) rfl); have HS2_ := Aside0.mk (blk_put HS1_.out 1 (.int .i16 ((rd_T43 l0 x27_2).f1)) rfl); have hs0_ := (blk_cell HS2_.out 0).trans rfl; have hs1_ := (blk_cell HS2_.out 1).trans rfl; have hs2_ := blk_frozen HS2_.out 0; have hs3_ := blk_frozen HS2_.out 1) | ((with_reducible refine gate_callee (f := 42) rfl ?_); refine goM_ (some 43) Tryz.func42 #[.agg #[.int .i16 (IntKind.i16.wrap (((rd_T43 l0 x27_2).f0) + (IntKind.i16.wrap (a1)))), .int .i16 (IntKind.i16.wrap (((rd_T43 l0 x27_2).f1) + (IntKind.i16.wrap (a2))))]] ?_; (with_reducible refine (impl_isPlaced.calls (IntKind.i16.wrap (((rd_T43 l0 x27_2).f0) + (IntKind.i16.wrap (a1)))) (IntKind.i16.wrap (((rd_T43 l0 x27_2).f1) + (IntKind.i16.wrap (a2)))) false _ A19.out).mono ?_); rintro e w29 ⟨rfl, hb⟩; refine ⟨_, rfl, ?_⟩; replace HO_9 := Aside0.mk (Kd.R_below (by (with_reducible repeat (first | apply Kd.R_alloc | apply Kd.R_drewN | apply Kd.R_drew)); exact (Kd.R_mono (Kd.R_far (p := ⟨gb399, 1, none⟩) (Kd.R_far (p := ⟨gb399, 0, none⟩) (Kd.R_far (p := ⟨gb399, 1, none⟩) (Kd.R_far (p := ⟨gb399, 0, none⟩) (Kd.R_mono HO_9.out (fun k_ hk => (⟨hk, hk.2⟩ : _ ∧ k_ ≠ gb399))) (fun _ hk => hk.2) (.int .i16 ((rd_T43 l0 x27_2).f0))) (fun _ hk => hk.2) (.int .i16 ((rd_T43 l0 x27_2).f1))) (fun _ hk => hk.2) (.int .i16 (IntKind.i16.wrap (((rd_T43 l0 x27_2).f0) + (IntKind.i16.wrap (a1)))))) (fun _ hk => hk.2) (.int .i16 (IntKind.i16.wrap (((rd_T43 l0 x27_2).f1) + (IntKind.i16.wrap (a2)))))) (fun _ h_ => h_.1))) hb); replace BK399 := Aside0.mk (blk_below (g := gb399) (o := .cells #[.int .i16 (IntKind.i16.wrap (((rd_T43 l0 x27_2).f0) + (IntKind.i16.wrap (a1)))), .int .i16 (IntKind.i16.wrap (((rd_T43 l0 x27_2).f1) + (IntKind.i16.wrap (a2))))] 43 (0, 0)) (by (with_reducible repeat (first | refine blk_drewN ?_ _ | refine blk_drew ?_ | refine blk_alloc ?_ _)); refine blk_put (cs := #[.int .i16 (IntKind.i16.wrap (((rd_T43 l0 x27_2).f0) + (IntKind.i16.wrap (a1)))), .int .i16 ((rd_T43 l0 x27_2).f1)]) ?_ 1 _ rfl; (with_reducible repeat (first | refine blk_drewN ?_ _ | refine blk_drew ?_ | refine blk_alloc ?_ _)); refine blk_put (cs := #[.int .i16 ((rd_T43 l0 x27_2).f0), .int .i16 ((rd_T43 l0 x27_2).f1)]) ?_ 0 _ rfl; (with_reducible repeat (first | refine blk_drewN ?_ _ | refine blk_drew ?_ | refine blk_alloc ?_ _)); refine blk_put (cs := #[.int .i16 ((rd_T43 l0 x27_2).f0), .int .i16 0]) ?_ 1 _ rfl; (with_reducible repeat (first | refine blk_drewN ?_ _ | refine blk_drew ?_ | refine blk_alloc ?_ _)); refine blk_put (cs := #[.int .i16 0, .int .i16 0]) ?_ 0 _ rfl; (with_reducible repeat (first | refine blk_drewN ?_ _ | refine blk_drew ?_ | refine blk_alloc ?_ _)); exact BK399.out) hb); replace HB := Aside0.mk (below_step (k1_ HB GE399) hb); clear hb))
    go_ret2
    exact ⟨_, by first | rfl | (simp [errW_none, errW_some] <;> rfl) | (simp [*, errW_none, errW_some] <;> rfl), by first | exact Kd.R_nil _ _ _ _ _ | exact Kd.N_nil _ _ _ _ _ | exact Kd.V_nil _ _ _ _ _ | exact Kd.Q_nil _ _ _ _ _ | exact Kd.S_nil _ _ _ _ _, k1_ HB GE399⟩
   subst c20
   replace H := gt_ H
   obtain ⟨(c21 : x9_2.length < 35184372088832), H⟩ := gd_ H
   have LMc21 := Aside0.mk c21
   clear c21
   obtain ⟨y401, hy401⟩ : ∃ y_ : List (S43), y_ = (x9_2 ++ [(⟨IntKind.i16.wrap (((rd_T43 l0 x27_2).f0) + (IntKind.i16.wrap (a1))), IntKind.i16.wrap (((rd_T43 l0 x27_2).f1) + (IntKind.i16.wrap (a2)))⟩ : S43)]) := ⟨_, rfl⟩
   replace H : (impl_MoveStone.l0 k2 a1 a2 y401 l0 (l0.length : Int) (wrap64 (x27_2 + 1))) = some (r1, r2) := by first | (rw [hy401]; with_reducible exact H) | (have H2_ := (Option.bind_some _ _).symm.trans H; rw [hy401]; with_reducible exact H2_) | (have H2_ := (Option.bind_some _ _).symm.trans H; with_reducible exact H2_) | with_reducible exact H | (rw [hy401]; exact H) | exact H
   have Ny401 := Aside0.mk hy401
   clear hy401
   have H' := Aside0.mk H
   clear H
   have p398 : 0 ≤ (x27_2 : Int) := od_
   have q398 : x27_2 < (l0.length : Int) := od_
   obtain ⟨ad398, e398, hx398_0, hx398_1⟩ := af_ HB (at_T43 HR0.out x27_2 p398 q398)
   cases e398
   replace p398 := eq_true p398
   replace q398 := eq_true q398
   go_wp2_with (first | ((with_reducible refine gate_dst (N := 11) rfl ?_); refine boxM_ 11 #[.int .i16 0, .int .i16 0] 43 ?_; intro gb399 hg w22 hbox hb; replace HO_9 := Aside0.mk (Kd.R_below (Kd.R_elderB (kp_ HO_9) gb399 (Nat.le_of_eq hg.symm)) hb); have BK399 := Aside0.mk (hbox); have GW399 := Aside0.mk ((by rw [hg]; exact (below_size (kB_ HB)) : w.heap.size ≤ gb399)); have GE399 := Aside0.mk ((by rw [hg]; exact (below_size (kB_ HB)) : w.heap.size ≤ gb399)); replace HB := Aside0.mk (below_step (kB_ HB) hb); clear hb hbox hg; obtain ⟨⟨hcz23_0, hcz23_1⟩, hfz23_0, hfz23_1⟩ := bq_ BK399; have HS1_ := Aside0.mk (blk_put (cs := #[.int .i16 0, .int .i16 0]) BK399.out 0 (.int .i16 ((rd_T43 l0 x27_2).f0)) rfl); have HS2_ := Aside0.mk (blk_put HS1_.out 1 (.int .i16 ((rd_T43 l0 x27_2).f1)) rfl); have hs0_ := (blk_cell HS2_.out 0).trans rfl; have hs1_ := (blk_cell HS2_.out 1).trans rfl; have hs2_ := blk_frozen HS2_.out 0; have hs3_ := blk_frozen HS2_.out 1) | ((with_reducible refine gate_callee (f := 42) rfl ?_); refine goM_ (some 43) Tryz.func42 #[.agg #[.int .i16 (IntKind.i16.wrap (((rd_T43 l0 x27_2).f0) + (IntKind.i16.wrap (a1)))), .int .i16 (IntKind.i16.wrap (((rd_T43 l0 x27_2).f1) + (IntKind.i16.wrap (a2))))]] ?_; (with_reducible refine (impl_isPlaced.calls (IntKind.i16.wrap (((rd_T43 l0 x27_2).f0) + (IntKind.i16.wrap (a1)))) (IntKind.i16.wrap (((rd_T43 l0 x27_2).f1) + (IntKind.i16.wrap (a2)))) true _ A19.out).mono ?_); rintro e w24 ⟨rfl, hb⟩; refine ⟨_, rfl, ?_⟩; replace HO_9 := Aside0.mk (Kd.R_below (by (with_reducible repeat (first | apply Kd.R_alloc | apply Kd.R_drewN | apply Kd.R_drew)); exact (Kd.R_mono (Kd.R_far (p := ⟨gb399, 1, none⟩) (Kd.R_far (p := ⟨gb399, 0, none⟩) (Kd.R_far (p := ⟨gb399, 1, none⟩) (Kd.R_far (p := ⟨gb399, 0, none⟩) (Kd.R_mono HO_9.out (fun k_ hk => (⟨hk, hk.2⟩ : _ ∧ k_ ≠ gb399))) (fun _ hk => hk.2) (.int .i16 ((rd_T43 l0 x27_2).f0))) (fun _ hk => hk.2) (.int .i16 ((rd_T43 l0 x27_2).f1))) (fun _ hk => hk.2) (.int .i16 (IntKind.i16.wrap (((rd_T43 l0 x27_2).f0) + (IntKind.i16.wrap (a1)))))) (fun _ hk => hk.2) (.int .i16 (IntKind.i16.wrap (((rd_T43 l0 x27_2).f1) + (IntKind.i16.wrap (a2)))))) (fun _ h_ => h_.1))) hb); replace BK399 := Aside0.mk (blk_below (g := gb399) (o := .cells #[.int .i16 (IntKind.i16.wrap (((rd_T43 l0 x27_2).f0) + (IntKind.i16.wrap (a1)))), .int .i16 (IntKind.i16.wrap (((rd_T43 l0 x27_2).f1) + (IntKind.i16.wrap (a2))))] 43 (0, 0)) (by (with_reducible repeat (first | refine blk_drewN ?_ _ | refine blk_drew ?_ | refine blk_alloc ?_ _)); refine blk_put (cs := #[.int .i16 (IntKind.i16.wrap (((rd_T43 l0 x27_2).f0) + (IntKind.i16.wrap (a1)))), .int .i16 ((rd_T43 l0 x27_2).f1)]) ?_ 1 _ rfl; (with_reducible repeat (first | refine blk_drewN ?_ _ | refine blk_drew ?_ | refine blk_alloc ?_ _)); refine blk_put (cs := #[.int .i16 ((rd_T43 l0 x27_2).f0), .int .i16 ((rd_T43 l0 x27_2).f1)]) ?_ 0 _ rfl; (with_reducible repeat (first | refine blk_drewN ?_ _ | refine blk_drew ?_ | refine blk_alloc ?_ _)); refine blk_put (cs := #[.int .i16 ((rd_T43 l0 x27_2).f0), .int .i16 0]) ?_ 1 _ rfl; (with_reducible repeat (first | refine blk_drewN ?_ _ | refine blk_drew ?_ | refine blk_alloc ?_ _)); refine blk_put (cs := #[.int .i16 0, .int .i16 0]) ?_ 0 _ rfl; (with_reducible repeat (first | refine blk_drewN ?_ _ | refine blk_drew ?_ | refine blk_alloc ?_ _)); exact BK399.out) hb); replace HB := Aside0.mk (below_step (k1_ HB GE399) hb); clear hb; have hcz25_0 : w24.cell? ⟨gb399, 0, none⟩ = some (.int .i16 (IntKind.i16.wrap (((rd_T43 l0 x27_2).f0) + (IntKind.i16.wrap (a1))))) := (blk_cell BK399.out 0).trans rfl; have hcz25_1 : w24.cell? ⟨gb399, 1, none⟩ = some (.int .i16 (IntKind.i16.wrap (((rd_T43 l0 x27_2).f1) + (IntKind.i16.wrap (a2))))) := (blk_cell BK399.out 1).trans rfl; have hfz25_0 := blk_frozen BK399.out 0; have hfz25_1 := blk_frozen BK399.out 1) | ((with_reducible refine gate_builtin (b := .append) (xs := #[.tmp 45, .tmp 47]) rfl ?_); at_builtin; refine Kd.R_append k43 (w0 := w) w.heap.size rfl (.tmp 45) (.tmp 47) 25 43 (.agg #[(.int .i16 0), (.int .i16 0)]) 4 rfl Tryz.underlying25 info43 rfl (by decide) (by omega) u9 x9_2 (⟨IntKind.i16.wrap (((rd_T43 l0 x27_2).f0) + (IntKind.i16.wrap (a1))), IntKind.i16.wrap (((rd_T43 l0 x27_2).f1) + (IntKind.i16.wrap (a2)))⟩ : S43) [.int .i16 (IntKind.i16.wrap (((rd_T43 l0 x27_2).f0) + (IntKind.i16.wrap (a1)))), .int .i16 (IntKind.i16.wrap (((rd_T43 l0 x27_2).f1) + (IntKind.i16.wrap (a2))))] (fun k_ => k_ ≠ gb399) (fun _ => False) rfl rfl ?aP (fun _ hk => hk.elim) ?aF ?aO ?aB ?aS ?aL ?_; (case aP => exact k43_mkM _ _ _ (⟨IntKind.i16.wrap (((rd_T43 l0 x27_2).f0) + (IntKind.i16.wrap (a1))), IntKind.i16.wrap (((rd_T43 l0 x27_2).f1) + (IntKind.i16.wrap (a2)))⟩ : S43)); (case aB => exact (k1_ HB GE399)); (case aF => exact (fun k_ hk => Kd.freshB (g := gb399) (o := .cells #[.int .i16 (IntKind.i16.wrap (((rd_T43 l0 x27_2).f0) + (IntKind.i16.wrap (a1)))), .int .i16 (IntKind.i16.wrap (((rd_T43 l0 x27_2).f1) + (IntKind.i16.wrap (a2))))] 43 (0, 0)) (kb_ BK399) k_ hk)); (case aO => exact (by (with_reducible repeat (first | apply Kd.R_alloc | apply Kd.R_drewN | apply Kd.R_drew)); exact Kd.R_mono HO_9.out (fun _ hk => hk.2))); (case aS => exact (below_size (k1_ HB GE399))); (case aL => have := LMc21.out; omega); intro v402 w26 ho hb hg hat; rw [← Ny401.out] at ho; have n0_ := Aside0.mk (blk_grown (g := gb399) (o := .cells #[.int .i16 (IntKind.i16.wrap (((rd_T43 l0 x27_2).f0) + (IntKind.i16.wrap (a1)))), .int .i16 (IntKind.i16.wrap (((rd_T43 l0 x27_2).f1) + (IntKind.i16.wrap (a2))))] 43 (0, 0)) (kb_ BK399) hg (Kd.R_away HO_9.out (fun _ hk => hk.2))); have n1_ := Aside0.mk (hb); have n2_ := Aside0.mk (ho); clear BK399; clear HB; clear HO_9; have BK399 := n0_; have HB := n1_; have HO403 := n2_; clear n0_ n1_ n2_; clear ho hb hg hat))
   go_roundg k2
   case measure => have := HJ3.out; have := HK2.out; omega
   case rel => exact ⟨(y401), (wrap64 (x27_2 + 1)), (by first | rfl | (simp; done) | (simp [*]; done)), H', ⟨by have := HJ3.out; have := HK2.out; omega⟩, ⟨by (with_reducible repeat (first | apply Kd.R_alloc | apply Kd.R_drewN | apply Kd.R_drew)); exact Kd.R_mono HO403.out (fun _ hk => trivial)⟩, ⟨k1_ HB GE399⟩⟩
end Go.Proofs.YthbogbaaikjhbaaGreatDoor.PA
