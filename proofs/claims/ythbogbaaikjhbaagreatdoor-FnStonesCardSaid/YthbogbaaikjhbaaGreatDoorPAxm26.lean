/- Pure functions, and that Go's functions come to them. -/
import Derived.Test.YthbogbaaikjhbaaGreatDoorPAx0
import Derived.Test.YthbogbaaikjhbaaGreatDoorPAxgSpec
namespace Go.Proofs.YthbogbaaikjhbaaGreatDoor.PA
open Go.RowKit Go.Proofs.YthbogbaaikjhbaaGreatDoorW.PrintWords Go.Proofs.YthbogbaaikjhbaaGreatDoorW.PrintLast Go.Proofs.YthbogbaaikjhbaaGreatDoorW.PrintMore
set_option linter.unusedVariables false
set_option linter.unusedSimpArgs false

/-! ### spec_TurnStone: function 16 -/
def spec_TurnStone.l0 : Nat → List (S43) → List (S43) → Int → Option ((List (S43)) × Int)
 | 0, _, _, _ => none
 | k + 1, x0, x4, x5 => if x5 < (x0.length : Int) then (if 0 ≤ x5 then (if x4.length < 35184372088832 then (spec_TurnStone.l0 k x0 (x4 ++ [(⟨IntKind.i16.wrap (-((rd_T43 x0 x5).f1)), (rd_T43 x0 x5).f0⟩ : S43)]) (wrap64 (x5 + 1))) else (none)) else (none)) else (some (x4, 0))
def spec_TurnStone.f (k : Nat) (l0 : List (S43)) : Option ((List (S43)) × Int) := (spec_l03Ok.f k l0).bind fun t371 => (if t371 = true then (spec_TurnStone.l0 k l0 (([] : List (S43))) 0) else (some ((([] : List (S43))), 1)))
theorem spec_TurnStone.mono_l : ∀ k, (∀ y0 y1 y2, LeO (spec_TurnStone.l0 k y0 y1 y2) (spec_TurnStone.l0 (k + 1) y0 y1 y2))
 | 0 => fun _ _ _ r h => by simp [spec_TurnStone.l0] at h
 | k + 1 => by
  have ih0 := spec_TurnStone.mono_l k
  ·
   intro y0 y1 y2
   unfold spec_TurnStone.l0
   repeat' first | (with_reducible first | exact ih0 _ _ _ | exact spec_l03Ok.mono _ _ | exact LeO.refl _ | exact LeO.none _ | refine LeO.ite ?_ ?_ | refine LeO.bind ?_ (fun _ => ?_))
theorem spec_TurnStone.mono : ∀ a0 k, LeO (spec_TurnStone.f k a0) (spec_TurnStone.f (k + 1) a0) := by
 intro a0 k
 have ih0 := spec_TurnStone.mono_l k
 unfold spec_TurnStone.f
 repeat' first | (with_reducible first | exact ih0 _ _ _ | exact spec_l03Ok.mono _ _ | exact LeO.refl _ | exact LeO.none _ | refine LeO.ite ?_ ?_ | refine LeO.bind ?_ (fun _ => ?_))
def spec_TurnStone.T7 : Bool × List (List Nat × List Nat) := (true, [([], []), ([], []), ([], []), ([1, 2], [1, 2]), ([3], [3]), ([4], [4]), ([5], [5]), ([], []), ([], []), ([7, 8], [7, 8]), ([9], [9]), ([10], [10]), ([6, 11], [6, 11]), ([12], [12]), ([0, 13], [0, 13]), ([14, 14, 0, 1, 2, 3, 4, 5, 6, 7, 8, 9, 10, 11, 12, 13, 14], [0, 14])])
def spec_TurnStone.B7 : List Nat := [0, 0, 0, 6, 14, 30, 62, 0, 0, 384, 896, 1920, 4094, 8190, 16383, 32767]
theorem spec_TurnStone.tab7 : rtab .any (opsOf Tryz.f16 7) = spec_TurnStone.T7 := by kernel_rfl
theorem spec_TurnStone.bits7 : waitsOk spec_TurnStone.T7.2 spec_TurnStone.B7 = true := by kernel_rfl
set_option maxHeartbeats 8000000 in
set_option maxRecDepth 100000 in
theorem spec_TurnStone.calls (k : Nat) (A0 : Option Addr) (c0 : Nat) (l0 : List (S43)) (r1 : List (S43)) (r2 : Int) (w : World) (hr0 : Kd.C k43 w A0 l0.length l0) (hc0 : l0.length ≤ c0) (h : spec_TurnStone.f k l0 = some (r1, r2)) :
  Calls Tryz.prog 16 #[.slice A0 l0.length c0] w fun e w' => ∃ v0_ : Value, e = .returned (.tuple #[v0_, .int .i64 r2]) ∧ Kd.R k43 43 w' w.heap.size (fun _ => True) v0_ r1 ∧ Below w.heap.size w w' := by
 have hu43 := Tryz.underlying43
 have HR0 := Aside0.mk hr0
 have HC0 := Aside0.mk hc0
 clear hr0 hc0
 have HB := Aside0.mk (Below.refl w.heap.size w)
 have H : ((spec_l03Ok.f k l0).bind fun t371 => (if t371 = true then (spec_TurnStone.l0 k l0 (([] : List (S43))) 0) else (some ((([] : List (S43))), 1)))) = some (r1, r2) := h
 clear h
 obtain ⟨t371, A2, H⟩ := be_ H
 (try dsimp only at H)
 rcases (Decidable.em (t371 = true)).symm with c3 | c3
 ·
  replace c3 := Bool.eq_false_iff.mpr c3
  subst c3
  replace H := gf_ H
  obtain ⟨y372, hy372⟩ : ∃ y_ : List (S43), y_ = (([] : List (S43))) := ⟨_, rfl⟩
  replace H : (some (y372, 1)) = some (r1, r2) := by first | (rw [hy372]; with_reducible exact H) | (have H2_ := (Option.bind_some _ _).symm.trans H; rw [hy372]; with_reducible exact H2_) | (have H2_ := (Option.bind_some _ _).symm.trans H; with_reducible exact H2_) | with_reducible exact H | (rw [hy372]; exact H) | exact H
  have Ny372 := Aside0.mk hy372
  clear hy372
  simp only [Option.some.injEq, Prod.mk.injEq] at H
  obtain ⟨rfl, rfl⟩ := H
  go_enter Tryz.func16, Tryz.ntmps16
  go_wp2_with (first | ((with_reducible refine gate_callee (f := 35) rfl ?_); refine goM_ (some 7) Tryz.func35 #[.slice A0 l0.length c0] ?_; (with_reducible refine (spec_l03Ok.calls k _ _ l0 false _ ?side1 ?side2 A2.out).mono ?_); (case side1 => exact kc_ HR0.out); (case side2 => exact HC0.out); rintro e w12 ⟨rfl, hb⟩; refine ⟨_, rfl, ?_⟩; replace HB := bs_ HB hb; clear hb) | ((with_reducible refine gate_dst (N := 9) rfl ?_); refine Kd.R_lit k43 _ 43 ?hg (N := 9) ?hd (xs := ([] : List (S43))) (inner := []) (ok := fun _ => True) (okp := fun _ => True) ?hr ?hp (fun _ hk => hk) trivial (Below.refl _ _) (Nat.le_refl _) (by simp) ?_; (case hd => rfl); (case hg => rfl); (case hr => first | (go_simp; done) | (go_simp; rfl)); (case hp => exact (Reps.none _ _)); intro v373 w13 ho14 hb hg_ hnew_; clear hg_ hnew_; (first | rw [← Ny372.out] at ho14 | (simp only [Int.reduceToNat] at ho14; rw [← Ny372.out] at ho14)); have HO374 := Aside0.mk (Kd.R_lower ho14 (below_size (kB_ HB))); replace HB := bs_ HB hb; clear hb ho14))
  go_ret2
  exact ⟨_, by first | rfl | (simp [errW_none, errW_some] <;> rfl) | (simp [*, errW_none, errW_some] <;> rfl), by (with_reducible repeat (first | apply Kd.R_alloc | apply Kd.R_drewN | apply Kd.R_drew)); exact HO374.out, bl_ HB⟩

 subst c3
 replace H := gt_ H
 obtain ⟨y375, hy375⟩ : ∃ y_ : List (S43), y_ = (([] : List (S43))) := ⟨_, rfl⟩
 replace H : (spec_TurnStone.l0 k l0 y375 0) = some (r1, r2) := by first | (rw [hy375]; with_reducible exact H) | (have H2_ := (Option.bind_some _ _).symm.trans H; rw [hy375]; with_reducible exact H2_) | (have H2_ := (Option.bind_some _ _).symm.trans H; with_reducible exact H2_) | with_reducible exact H | (rw [hy375]; exact H) | exact H
 have Ny375 := Aside0.mk hy375
 clear hy375
 have H' := Aside0.mk H
 clear H
 go_enter Tryz.func16, Tryz.ntmps16
 go_wp2_with (first | ((with_reducible refine gate_callee (f := 35) rfl ?_); refine goM_ (some 7) Tryz.func35 #[.slice A0 l0.length c0] ?_; (with_reducible refine (spec_l03Ok.calls k _ _ l0 true _ ?side1 ?side2 A2.out).mono ?_); (case side1 => exact kc_ HR0.out); (case side2 => exact HC0.out); rintro e w4 ⟨rfl, hb⟩; refine ⟨_, rfl, ?_⟩; replace HB := bs_ HB hb; clear hb) | ((with_reducible refine gate_dst (N := 10) rfl ?_); refine Kd.R_lit k43 _ 43 ?hg (N := 10) ?hd (xs := ([] : List (S43))) (inner := []) (ok := fun _ => True) (okp := fun _ => True) ?hr ?hp (fun _ hk => hk) trivial (Below.refl _ _) (Nat.le_refl _) (by simp) ?_; (case hd => rfl); (case hg => rfl); (case hr => first | (go_simp; done) | (go_simp; rfl)); (case hp => exact (Reps.none _ _)); intro v376 w5 ho6 hb hg_ hnew_; clear hg_ hnew_; (first | rw [← Ny375.out] at ho6 | (simp only [Int.reduceToNat] at ho6; rw [← Ny375.out] at ho6)); have HO377 := Aside0.mk (Kd.R_lower ho6 (below_size (kB_ HB))); replace HB := bs_ HB hb; clear hb ho6))
 go_loopg [4, 5] k (fun kq v4 v5 w' => ∃ (x4_1 : List (S43)) (x5_1 : Int), v5 = .int .i64 x5_1 ∧ Aside0 (spec_TurnStone.l0 kq l0 x4_1 x5_1 = some (r1, r2)) ∧ Aside0 (kq ≤ k) ∧ Aside0 (Kd.R k43 43 w' w.heap.size (fun _ => True) v4 x4_1) ∧ Aside0 (Below w.heap.size w w'))
 case atStart => exact ⟨(y375), (0), (by first | rfl | (simp; done) | (simp [*]; done)), H', ⟨Nat.le_refl _⟩, ⟨kp_ HO377⟩, ⟨bl_ HB⟩⟩
 case round =>
  clear H'
  obtain ⟨x4_1, x5_1, rfl, HA, HK1, HO_4, HB⟩ := hrel
  rcases gk with _ | k1
  · exact absurd HA.out (by simp [spec_TurnStone.l0])
  have H := HA.out
  clear HA
  simp only [spec_TurnStone.l0] at H
  rcases (Decidable.em (x5_1 < (l0.length : Int))).symm with c7 | c7
  ·
   rw [if_neg c7] at H
   have c7b0 : decide (x5_1 < (l0.length : Int)) = false := decide_eq_false c7
   clear c7
   simp only [Option.some.injEq, Prod.mk.injEq] at H
   obtain ⟨rfl, rfl⟩ := H
   go_wp2
   go_ret2
   exact ⟨_, by first | rfl | (simp [errW_none, errW_some] <;> rfl) | (simp [*, errW_none, errW_some] <;> rfl), by (with_reducible repeat (first | apply Kd.R_alloc | apply Kd.R_drewN | apply Kd.R_drew)); exact HO_4.out, bl_ HB⟩
  rw [if_pos c7] at H
  have c7b0 : decide (x5_1 < (l0.length : Int)) = true := decide_eq_true c7
  clear c7
  obtain ⟨c8b0, H⟩ := gx_ H
  obtain ⟨(c9 : x4_1.length < 35184372088832), H⟩ := gd_ H
  have LMc9 := Aside0.mk c9
  clear c9
  obtain ⟨y380, hy380⟩ : ∃ y_ : List (S43), y_ = (x4_1 ++ [(⟨IntKind.i16.wrap (-((rd_T43 l0 x5_1).f1)), (rd_T43 l0 x5_1).f0⟩ : S43)]) := ⟨_, rfl⟩
  replace H : (spec_TurnStone.l0 k1 l0 y380 (wrap64 (x5_1 + 1))) = some (r1, r2) := by first | (rw [hy380]; with_reducible exact H) | (have H2_ := (Option.bind_some _ _).symm.trans H; rw [hy380]; with_reducible exact H2_) | (have H2_ := (Option.bind_some _ _).symm.trans H; with_reducible exact H2_) | with_reducible exact H | (rw [hy380]; exact H) | exact H
  have Ny380 := Aside0.mk hy380
  clear hy380
  have H' := Aside0.mk H
  clear H
  try go_wp2
  have n0_ := Aside0.mk (Kd.R_drew HO_4.out)
  have n1_ := Aside0.mk (below_drew1 HB.out)
  clear HO_4
  clear HB
  have HO_4 := n0_
  have HB := n1_
  clear n0_ n1_
  have p378 : 0 ≤ (x5_1 : Int) := od_
  have q378 : x5_1 < (l0.length : Int) := od_
  obtain ⟨ad378, e378, hx378_0, hx378_1⟩ := at_T43 HR0.out x5_1 p378 q378
  have hw378_1 := hx378_1
  have hw378_0 := hx378_0
  cases e378
  replace hx378_0 := (hw_ HB hx378_0 :)
  replace hx378_1 := (hw_ HB hx378_1 :)
  replace p378 := eq_true p378
  replace q378 := eq_true q378
  have p379 : 0 ≤ (x5_1 : Int) := od_
  have q379 : x5_1 < (l0.length : Int) := od_
  obtain ⟨ad379, e379, hx379_0, hx379_1⟩ := at_T43 HR0.out x5_1 p379 q379
  have hw379_1 := hx379_1
  have hw379_0 := hx379_0
  obtain rfl : ad378 = ad379 := (by injection e379)
  replace hx379_0 := (hw_ HB hx379_0 :)
  replace hx379_1 := (hw_ HB hx379_1 :)
  replace p379 := eq_true p379
  replace q379 := eq_true q379
  refine start_ (n := 16) (S := fun w' => w'.cell? (ad378.add ((x5_1).toNat * 2)) = some (.int .i16 ((rd_T43 l0 x5_1).f0)) ∧ w'.cell? ⟨(ad378.add ((x5_1).toNat * 2)).block, (ad378.add ((x5_1).toNat * 2)).off + 1, none⟩ = some (.int .i16 ((rd_T43 l0 x5_1).f1)) ∧ w'.cell? (ad378.add ((x5_1).toNat * 2)) = some (.int .i16 ((rd_T43 l0 x5_1).f0)) ∧ w'.cell? ⟨(ad378.add ((x5_1).toNat * 2)).block, (ad378.add ((x5_1).toNat * 2)).off + 1, none⟩ = some (.int .i16 ((rd_T43 l0 x5_1).f1))) (ds := []) #[false, false, false, false, false, false, false, false, false, false, false, false, false, false, false, false] (by kernel_rfl) rfl rfl ⟨((hw_ HB hw378_0 :)), ((hw_ HB hw378_1 :)), ((hw_ HB hw379_0 :)), ((hw_ HB hw379_1 :))⟩ (fun hHeld => ?_); refine with_tabW spec_TurnStone.tab7 spec_TurnStone.bits7 (fun HT_ HW_ => ?_)
  generalize wr.drew = w10 at HO_4 HB hx378_0 hx378_1 hx379_0 hx379_1 hHeld ⊢
  refine pu_ 0 17 (lA 16 1) ?_ ?_ HT_ ?_
  refine pu_ 1 18 (lA 16 3) ?_ ?_ HT_ ?_
  refine pu_ 2 19 (lA 16 7) ?_ ?_ HT_ ?_
  refine pu_ 3 20 (lA 16 15) ?_ ?_ HT_ ?_
  refine pu_ 4 21 (lA 16 31) ?_ ?_ HT_ ?_
  refine pu_ 7 24 (lA 16 159) ?_ ?_ HT_ ?_
  refine pu_ 8 25 (lA 16 415) ?_ ?_ HT_ ?_
  refine pu_ 9 26 (lA 16 927) ?_ ?_ HT_ ?_
  refine pu_ 10 27 (lA 16 1951) ?_ ?_ HT_ ?_
  refine tk_ 5 22 (lA 16 1983) ?_ ?_ HT_ HW_ hHeld ?_
  refine pu_ 6 23 (lA 16 2047) ?_ ?_ HT_ ?_
  refine tk_ 11 28 (lA 16 4095) ?_ ?_ HT_ HW_ hHeld ?_
  refine pu_ 12 29 (lA 16 8191) ?_ ?_ HT_ ?_
  refine one_ (i := 13) (N := some 30) #[true, true, true, true, true, true, true, true, true, true, true, true, true, true, false, false] rfl rfl (one_of HT_.out (by kernel_rfl)) (by decide) (fun K hK => ?_)
  refine value_ (w1 := ?_) (v := ?_) (by rfl) rfl ?_ ?_
  rotate_left 2
  ·
   go_simp
   constructor
   ·
    rfl
   ·
    rfl
  refine hK.out _ _ ⟨(World.cell?_alloc_lt _ _ _ (World.block_lt_of_cell? _ _ (((hw_ HB hw378_0 :))))).trans (((hw_ HB hw378_0 :))), (World.cell?_alloc_lt _ _ _ (World.block_lt_of_cell? _ _ (((hw_ HB hw378_1 :))))).trans (((hw_ HB hw378_1 :))), (World.cell?_alloc_lt _ _ _ (World.block_lt_of_cell? _ _ (((hw_ HB hw379_0 :))))).trans (((hw_ HB hw379_0 :))), (World.cell?_alloc_lt _ _ _ (World.block_lt_of_cell? _ _ (((hw_ HB hw379_1 :))))).trans (((hw_ HB hw379_1 :)))⟩ (fun hHeld => ?_)
  clear hK K
  refine norm_ (a' := ?_) ?_ ?_
  rotate_left
  ·
   show Act.put _ (some 30) _ = _
   simp only [Act.put, List.setIfInBounds_toArray, List.set_cons_zero, List.set_cons_succ, i64_w, i32_w]
   rfl
  refine one_ (i := 14) (N := some 31) #[true, true, true, true, true, true, true, true, true, true, true, true, true, true, true, false] rfl rfl (one_of HT_.out (by kernel_rfl)) (by decide) (fun K hK => ?_)
  refine Kd.R_append_step k43 (w0 := w) w.heap.size (by rfl) (.tmp 17) (.tmp 30) 25 43 (.agg #[(.int .i16 0), (.int .i16 0)]) 4 rfl Tryz.underlying25 info43 rfl (by decide) (by omega) u4 x4_1 (⟨IntKind.i16.wrap (-((rd_T43 l0 x5_1).f1)), (rd_T43 l0 x5_1).f0⟩ : S43) [.int .i16 (IntKind.i16.wrap (-((rd_T43 l0 x5_1).f1))), .int .i16 ((rd_T43 l0 x5_1).f0)] (fun _ => True) (fun _ => False) rfl rfl ?aP (fun _ hk => hk.elim) ?aF ?aO ?aB ?aS ?aL ?_
  (case aP => exact k43_mkM _ _ _ (⟨IntKind.i16.wrap (-((rd_T43 l0 x5_1).f1)), (rd_T43 l0 x5_1).f0⟩ : S43))
  (case aB => exact (kB_ HB))
  (case aF => exact (fun _ _ => trivial))
  (case aO => exact (kp_ HO_4))
  (case aS => exact (below_size (kB_ HB)))
  (case aL => have := LMc9.out; omega)
  intro v381 w11 ho hb hg hat
  rw [← Ny380.out] at ho
  have n0_ := Aside0.mk (hb)
  have n1_ := Aside0.mk (ho)
  clear HB
  clear HO_4
  have HB := n0_
  have HO382 := n1_
  clear n0_ n1_
  clear ho hb hg hat
  refine hK.out _ _ ⟨((hw_ HB hw378_0 :)), ((hw_ HB hw378_1 :)), ((hw_ HB hw379_0 :)), ((hw_ HB hw379_1 :))⟩ (fun hHeld => ?_)
  clear hK K
  refine norm_ (a' := ?_) ?_ ?_
  rotate_left
  ·
   show Act.put _ (some 31) _ = _
   simp only [Act.put, List.setIfInBounds_toArray, List.set_cons_zero, List.set_cons_succ, i64_w, i32_w]
   rfl
  refine pu_ 15 4 (lA 16 65535) ?_ ?_ HT_ ?_
  refine done_ (done_of HT_.out (by kernel_rfl)) ?_
  try go_wp2
  go_roundg k1
  case measure => have := HK1.out; omega
  case rel => exact ⟨(y380), (wrap64 (x5_1 + 1)), (by first | rfl | (simp; done) | (simp [*]; done)), H', ⟨by have := HK1.out; omega⟩, ⟨kp_ HO382⟩, ⟨bl_ HB⟩⟩

/-! ### spec_MirrorStone: function 11 -/
def spec_MirrorStone.l0 : Nat → List (S43) → List (S43) → Int → Option ((List (S43)) × Int)
 | 0, _, _, _ => none
 | k + 1, x0, x4, x5 => if x5 ≥ 0 then (if 0 ≤ x5 then (if x5 < (x0.length : Int) then (if x4.length < 35184372088832 then (spec_MirrorStone.l0 k x0 (x4 ++ [(⟨IntKind.i16.wrap (-((rd_T43 x0 x5).f0)), (rd_T43 x0 x5).f1⟩ : S43)]) (wrap64 (x5 - 1))) else (none)) else (none)) else (none)) else (some (x4, 0))
def spec_MirrorStone.f (k : Nat) (l0 : List (S43)) : Option ((List (S43)) × Int) := (spec_l03Ok.f k l0).bind fun t344 => (if t344 = true then (spec_MirrorStone.l0 k l0 (([] : List (S43))) (wrap64 ((l0.length : Int) - 1))) else (some ((([] : List (S43))), 1)))
theorem spec_MirrorStone.mono_l : ∀ k, (∀ y0 y1 y2, LeO (spec_MirrorStone.l0 k y0 y1 y2) (spec_MirrorStone.l0 (k + 1) y0 y1 y2))
 | 0 => fun _ _ _ r h => by simp [spec_MirrorStone.l0] at h
 | k + 1 => by
  have ih0 := spec_MirrorStone.mono_l k
  ·
   intro y0 y1 y2
   unfold spec_MirrorStone.l0
   repeat' first | (with_reducible first | exact ih0 _ _ _ | exact spec_l03Ok.mono _ _ | exact LeO.refl _ | exact LeO.none _ | refine LeO.ite ?_ ?_ | refine LeO.bind ?_ (fun _ => ?_))
theorem spec_MirrorStone.mono : ∀ a0 k, LeO (spec_MirrorStone.f k a0) (spec_MirrorStone.f (k + 1) a0) := by
 intro a0 k
 have ih0 := spec_MirrorStone.mono_l k
 unfold spec_MirrorStone.f
 repeat' first | (with_reducible first | exact ih0 _ _ _ | exact spec_l03Ok.mono _ _ | exact LeO.refl _ | exact LeO.none _ | refine LeO.ite ?_ ?_ | refine LeO.bind ?_ (fun _ => ?_))
def spec_MirrorStone.T7 : Bool × List (List Nat × List Nat) := (true, [([], []), ([], []), ([], []), ([1, 2], [1, 2]), ([3], [3]), ([4], [4]), ([5], [5]), ([], []), ([], []), ([7, 8], [7, 8]), ([9], [9]), ([10], [10]), ([6, 11], [6, 11]), ([12], [12]), ([0, 13], [0, 13]), ([14, 14, 0, 1, 2, 3, 4, 5, 6, 7, 8, 9, 10, 11, 12, 13, 14], [0, 14])])
def spec_MirrorStone.B7 : List Nat := [0, 0, 0, 6, 14, 30, 62, 0, 0, 384, 896, 1920, 4094, 8190, 16383, 32767]
theorem spec_MirrorStone.tab7 : rtab .any (opsOf Tryz.f11 7) = spec_MirrorStone.T7 := by kernel_rfl
theorem spec_MirrorStone.bits7 : waitsOk spec_MirrorStone.T7.2 spec_MirrorStone.B7 = true := by kernel_rfl
set_option maxHeartbeats 8000000 in
set_option maxRecDepth 100000 in
theorem spec_MirrorStone.calls (k : Nat) (A0 : Option Addr) (c0 : Nat) (l0 : List (S43)) (r1 : List (S43)) (r2 : Int) (w : World) (hr0 : Kd.C k43 w A0 l0.length l0) (hc0 : l0.length ≤ c0) (h : spec_MirrorStone.f k l0 = some (r1, r2)) :
  Calls Tryz.prog 11 #[.slice A0 l0.length c0] w fun e w' => ∃ v0_ : Value, e = .returned (.tuple #[v0_, .int .i64 r2]) ∧ Kd.R k43 43 w' w.heap.size (fun _ => True) v0_ r1 ∧ Below w.heap.size w w' := by
 have hu43 := Tryz.underlying43
 have HR0 := Aside0.mk hr0
 have HC0 := Aside0.mk hc0
 clear hr0 hc0
 have HB := Aside0.mk (Below.refl w.heap.size w)
 have H : ((spec_l03Ok.f k l0).bind fun t344 => (if t344 = true then (spec_MirrorStone.l0 k l0 (([] : List (S43))) (wrap64 ((l0.length : Int) - 1))) else (some ((([] : List (S43))), 1)))) = some (r1, r2) := h
 clear h
 obtain ⟨t344, A2, H⟩ := be_ H
 (try dsimp only at H)
 rcases (Decidable.em (t344 = true)).symm with c3 | c3
 ·
  replace c3 := Bool.eq_false_iff.mpr c3
  subst c3
  replace H := gf_ H
  obtain ⟨y345, hy345⟩ : ∃ y_ : List (S43), y_ = (([] : List (S43))) := ⟨_, rfl⟩
  replace H : (some (y345, 1)) = some (r1, r2) := by first | (rw [hy345]; with_reducible exact H) | (have H2_ := (Option.bind_some _ _).symm.trans H; rw [hy345]; with_reducible exact H2_) | (have H2_ := (Option.bind_some _ _).symm.trans H; with_reducible exact H2_) | with_reducible exact H | (rw [hy345]; exact H) | exact H
  have Ny345 := Aside0.mk hy345
  clear hy345
  simp only [Option.some.injEq, Prod.mk.injEq] at H
  obtain ⟨rfl, rfl⟩ := H
  go_enter Tryz.func11, Tryz.ntmps11
  go_wp2_with (first | ((with_reducible refine gate_callee (f := 35) rfl ?_); refine goM_ (some 7) Tryz.func35 #[.slice A0 l0.length c0] ?_; (with_reducible refine (spec_l03Ok.calls k _ _ l0 false _ ?side1 ?side2 A2.out).mono ?_); (case side1 => exact kc_ HR0.out); (case side2 => exact HC0.out); rintro e w13 ⟨rfl, hb⟩; refine ⟨_, rfl, ?_⟩; replace HB := bs_ HB hb; clear hb) | ((with_reducible refine gate_dst (N := 9) rfl ?_); refine Kd.R_lit k43 _ 43 ?hg (N := 9) ?hd (xs := ([] : List (S43))) (inner := []) (ok := fun _ => True) (okp := fun _ => True) ?hr ?hp (fun _ hk => hk) trivial (Below.refl _ _) (Nat.le_refl _) (by simp) ?_; (case hd => rfl); (case hg => rfl); (case hr => first | (go_simp; done) | (go_simp; rfl)); (case hp => exact (Reps.none _ _)); intro v346 w14 ho15 hb hg_ hnew_; clear hg_ hnew_; (first | rw [← Ny345.out] at ho15 | (simp only [Int.reduceToNat] at ho15; rw [← Ny345.out] at ho15)); have HO347 := Aside0.mk (Kd.R_lower ho15 (below_size (kB_ HB))); replace HB := bs_ HB hb; clear hb ho15))
  go_ret2
  exact ⟨_, by first | rfl | (simp [errW_none, errW_some] <;> rfl) | (simp [*, errW_none, errW_some] <;> rfl), by (with_reducible repeat (first | apply Kd.R_alloc | apply Kd.R_drewN | apply Kd.R_drew)); exact HO347.out, bl_ HB⟩

 subst c3
 replace H := gt_ H
 obtain ⟨y348, hy348⟩ : ∃ y_ : List (S43), y_ = (([] : List (S43))) := ⟨_, rfl⟩
 replace H : (spec_MirrorStone.l0 k l0 y348 (wrap64 ((l0.length : Int) - 1))) = some (r1, r2) := by first | (rw [hy348]; with_reducible exact H) | (have H2_ := (Option.bind_some _ _).symm.trans H; rw [hy348]; with_reducible exact H2_) | (have H2_ := (Option.bind_some _ _).symm.trans H; with_reducible exact H2_) | with_reducible exact H | (rw [hy348]; exact H) | exact H
 have Ny348 := Aside0.mk hy348
 clear hy348
 have H' := Aside0.mk H
 clear H
 go_enter Tryz.func11, Tryz.ntmps11
 go_wp2_with (first | ((with_reducible refine gate_callee (f := 35) rfl ?_); refine goM_ (some 7) Tryz.func35 #[.slice A0 l0.length c0] ?_; (with_reducible refine (spec_l03Ok.calls k _ _ l0 true _ ?side1 ?side2 A2.out).mono ?_); (case side1 => exact kc_ HR0.out); (case side2 => exact HC0.out); rintro e w4 ⟨rfl, hb⟩; refine ⟨_, rfl, ?_⟩; replace HB := bs_ HB hb; clear hb) | ((with_reducible refine gate_dst (N := 10) rfl ?_); refine Kd.R_lit k43 _ 43 ?hg (N := 10) ?hd (xs := ([] : List (S43))) (inner := []) (ok := fun _ => True) (okp := fun _ => True) ?hr ?hp (fun _ hk => hk) trivial (Below.refl _ _) (Nat.le_refl _) (by simp) ?_; (case hd => rfl); (case hg => rfl); (case hr => first | (go_simp; done) | (go_simp; rfl)); (case hp => exact (Reps.none _ _)); intro v349 w5 ho6 hb hg_ hnew_; clear hg_ hnew_; (first | rw [← Ny348.out] at ho6 | (simp only [Int.reduceToNat] at ho6; rw [← Ny348.out] at ho6)); have HO350 := Aside0.mk (Kd.R_lower ho6 (below_size (kB_ HB))); replace HB := bs_ HB hb; clear hb ho6))
 go_loopg [4, 5] k (fun kq v4 v5 w' => ∃ (x4_1 : List (S43)) (x5_1 : Int), v5 = .int .i64 x5_1 ∧ Aside0 (spec_MirrorStone.l0 kq l0 x4_1 x5_1 = some (r1, r2)) ∧ Aside0 (kq ≤ k) ∧ Aside0 (Kd.R k43 43 w' w.heap.size (fun _ => True) v4 x4_1) ∧ Aside0 (Below w.heap.size w w'))
 case atStart => exact ⟨(y348), (wrap64 ((l0.length : Int) - 1)), (by first | rfl | (simp; done) | (simp [*]; done)), H', ⟨Nat.le_refl _⟩, ⟨kp_ HO350⟩, ⟨bl_ HB⟩⟩
 case round =>
  clear H'
  obtain ⟨x4_1, x5_1, rfl, HA, HK1, HO_4, HB⟩ := hrel
  rcases gk with _ | k1
  · exact absurd HA.out (by simp [spec_MirrorStone.l0])
  have H := HA.out
  clear HA
  simp only [spec_MirrorStone.l0] at H
  rcases (Decidable.em (x5_1 ≥ 0)).symm with c7 | c7
  ·
   rw [if_neg c7] at H
   have c7b0 : decide (0 ≤ x5_1) = false := decide_eq_false c7
   clear c7
   simp only [Option.some.injEq, Prod.mk.injEq] at H
   obtain ⟨rfl, rfl⟩ := H
   go_wp2
   go_ret2
   exact ⟨_, by first | rfl | (simp [errW_none, errW_some] <;> rfl) | (simp [*, errW_none, errW_some] <;> rfl), by (with_reducible repeat (first | apply Kd.R_alloc | apply Kd.R_drewN | apply Kd.R_drew)); exact HO_4.out, bl_ HB⟩
  rw [if_pos c7] at H
  have c7b0 : decide (0 ≤ x5_1) = true := decide_eq_true c7
  clear c7
  obtain ⟨c8b0, H⟩ := gx_ H
  obtain ⟨c9b0, H⟩ := gx_ H
  obtain ⟨(c10 : x4_1.length < 35184372088832), H⟩ := gd_ H
  have LMc10 := Aside0.mk c10
  clear c10
  obtain ⟨y353, hy353⟩ : ∃ y_ : List (S43), y_ = (x4_1 ++ [(⟨IntKind.i16.wrap (-((rd_T43 l0 x5_1).f0)), (rd_T43 l0 x5_1).f1⟩ : S43)]) := ⟨_, rfl⟩
  replace H : (spec_MirrorStone.l0 k1 l0 y353 (wrap64 (x5_1 - 1))) = some (r1, r2) := by first | (rw [hy353]; with_reducible exact H) | (have H2_ := (Option.bind_some _ _).symm.trans H; rw [hy353]; with_reducible exact H2_) | (have H2_ := (Option.bind_some _ _).symm.trans H; with_reducible exact H2_) | with_reducible exact H | (rw [hy353]; exact H) | exact H
  have Ny353 := Aside0.mk hy353
  clear hy353
  have H' := Aside0.mk H
  clear H
  try go_wp2
  have n0_ := Aside0.mk (Kd.R_drew HO_4.out)
  have n1_ := Aside0.mk (below_drew1 HB.out)
  clear HO_4
  clear HB
  have HO_4 := n0_
  have HB := n1_
  clear n0_ n1_
  have p351 : 0 ≤ (x5_1 : Int) := od_
  have q351 : x5_1 < (l0.length : Int) := od_
  obtain ⟨ad351, e351, hx351_0, hx351_1⟩ := at_T43 HR0.out x5_1 p351 q351
  have hw351_1 := hx351_1
  have hw351_0 := hx351_0
  cases e351
  replace hx351_0 := (hw_ HB hx351_0 :)
  replace hx351_1 := (hw_ HB hx351_1 :)
  replace p351 := eq_true p351
  replace q351 := eq_true q351
  have p352 : 0 ≤ (x5_1 : Int) := od_
  have q352 : x5_1 < (l0.length : Int) := od_
  obtain ⟨ad352, e352, hx352_0, hx352_1⟩ := at_T43 HR0.out x5_1 p352 q352
  have hw352_1 := hx352_1
  have hw352_0 := hx352_0
  obtain rfl : ad351 = ad352 := (by injection e352)
  replace hx352_0 := (hw_ HB hx352_0 :)
  replace hx352_1 := (hw_ HB hx352_1 :)
  replace p352 := eq_true p352
  replace q352 := eq_true q352
  refine start_ (n := 16) (S := fun w' => w'.cell? (ad351.add ((x5_1).toNat * 2)) = some (.int .i16 ((rd_T43 l0 x5_1).f0)) ∧ w'.cell? ⟨(ad351.add ((x5_1).toNat * 2)).block, (ad351.add ((x5_1).toNat * 2)).off + 1, none⟩ = some (.int .i16 ((rd_T43 l0 x5_1).f1)) ∧ w'.cell? (ad351.add ((x5_1).toNat * 2)) = some (.int .i16 ((rd_T43 l0 x5_1).f0)) ∧ w'.cell? ⟨(ad351.add ((x5_1).toNat * 2)).block, (ad351.add ((x5_1).toNat * 2)).off + 1, none⟩ = some (.int .i16 ((rd_T43 l0 x5_1).f1))) (ds := []) #[false, false, false, false, false, false, false, false, false, false, false, false, false, false, false, false] (by kernel_rfl) rfl rfl ⟨((hw_ HB hw351_0 :)), ((hw_ HB hw351_1 :)), ((hw_ HB hw352_0 :)), ((hw_ HB hw352_1 :))⟩ (fun hHeld => ?_); refine with_tabW spec_MirrorStone.tab7 spec_MirrorStone.bits7 (fun HT_ HW_ => ?_)
  generalize wr.drew = w11 at HO_4 HB hx351_0 hx351_1 hx352_0 hx352_1 hHeld ⊢
  refine pu_ 0 18 (lA 16 1) ?_ ?_ HT_ ?_
  refine pu_ 1 19 (lA 16 3) ?_ ?_ HT_ ?_
  refine pu_ 2 20 (lA 16 7) ?_ ?_ HT_ ?_
  refine pu_ 3 21 (lA 16 15) ?_ ?_ HT_ ?_
  refine pu_ 4 22 (lA 16 31) ?_ ?_ HT_ ?_
  refine pu_ 7 25 (lA 16 159) ?_ ?_ HT_ ?_
  refine pu_ 8 26 (lA 16 415) ?_ ?_ HT_ ?_
  refine pu_ 9 27 (lA 16 927) ?_ ?_ HT_ ?_
  refine pu_ 10 28 (lA 16 1951) ?_ ?_ HT_ ?_
  refine tk_ 5 23 (lA 16 1983) ?_ ?_ HT_ HW_ hHeld ?_
  refine pu_ 6 24 (lA 16 2047) ?_ ?_ HT_ ?_
  refine tk_ 11 29 (lA 16 4095) ?_ ?_ HT_ HW_ hHeld ?_
  refine pu_ 12 30 (lA 16 8191) ?_ ?_ HT_ ?_
  refine one_ (i := 13) (N := some 31) #[true, true, true, true, true, true, true, true, true, true, true, true, true, true, false, false] rfl rfl (one_of HT_.out (by kernel_rfl)) (by decide) (fun K hK => ?_)
  refine value_ (w1 := ?_) (v := ?_) (by rfl) rfl ?_ ?_
  rotate_left 2
  ·
   go_simp
   constructor
   ·
    rfl
   ·
    rfl
  refine hK.out _ _ ⟨(World.cell?_alloc_lt _ _ _ (World.block_lt_of_cell? _ _ (((hw_ HB hw351_0 :))))).trans (((hw_ HB hw351_0 :))), (World.cell?_alloc_lt _ _ _ (World.block_lt_of_cell? _ _ (((hw_ HB hw351_1 :))))).trans (((hw_ HB hw351_1 :))), (World.cell?_alloc_lt _ _ _ (World.block_lt_of_cell? _ _ (((hw_ HB hw352_0 :))))).trans (((hw_ HB hw352_0 :))), (World.cell?_alloc_lt _ _ _ (World.block_lt_of_cell? _ _ (((hw_ HB hw352_1 :))))).trans (((hw_ HB hw352_1 :)))⟩ (fun hHeld => ?_)
  clear hK K
  refine norm_ (a' := ?_) ?_ ?_
  rotate_left
  ·
   show Act.put _ (some 31) _ = _
   simp only [Act.put, List.setIfInBounds_toArray, List.set_cons_zero, List.set_cons_succ, i64_w, i32_w]
   rfl
  refine one_ (i := 14) (N := some 32) #[true, true, true, true, true, true, true, true, true, true, true, true, true, true, true, false] rfl rfl (one_of HT_.out (by kernel_rfl)) (by decide) (fun K hK => ?_)
  refine Kd.R_append_step k43 (w0 := w) w.heap.size (by rfl) (.tmp 18) (.tmp 31) 25 43 (.agg #[(.int .i16 0), (.int .i16 0)]) 4 rfl Tryz.underlying25 info43 rfl (by decide) (by omega) u4 x4_1 (⟨IntKind.i16.wrap (-((rd_T43 l0 x5_1).f0)), (rd_T43 l0 x5_1).f1⟩ : S43) [.int .i16 (IntKind.i16.wrap (-((rd_T43 l0 x5_1).f0))), .int .i16 ((rd_T43 l0 x5_1).f1)] (fun _ => True) (fun _ => False) rfl rfl ?aP (fun _ hk => hk.elim) ?aF ?aO ?aB ?aS ?aL ?_
  (case aP => exact k43_mkM _ _ _ (⟨IntKind.i16.wrap (-((rd_T43 l0 x5_1).f0)), (rd_T43 l0 x5_1).f1⟩ : S43))
  (case aB => exact (kB_ HB))
  (case aF => exact (fun _ _ => trivial))
  (case aO => exact (kp_ HO_4))
  (case aS => exact (below_size (kB_ HB)))
  (case aL => have := LMc10.out; omega)
  intro v354 w12 ho hb hg hat
  rw [← Ny353.out] at ho
  have n0_ := Aside0.mk (hb)
  have n1_ := Aside0.mk (ho)
  clear HB
  clear HO_4
  have HB := n0_
  have HO355 := n1_
  clear n0_ n1_
  clear ho hb hg hat
  refine hK.out _ _ ⟨((hw_ HB hw351_0 :)), ((hw_ HB hw351_1 :)), ((hw_ HB hw352_0 :)), ((hw_ HB hw352_1 :))⟩ (fun hHeld => ?_)
  clear hK K
  refine norm_ (a' := ?_) ?_ ?_
  rotate_left
  ·
   show Act.put _ (some 32) _ = _
   simp only [Act.put, List.setIfInBounds_toArray, List.set_cons_zero, List.set_cons_succ, i64_w, i32_w]
   rfl
  refine pu_ 15 4 (lA 16 65535) ?_ ?_ HT_ ?_
  refine done_ (done_of HT_.out (by kernel_rfl)) ?_
  try go_wp2
  go_roundg k1
  case measure => have := HK1.out; omega
  case rel => exact ⟨(y353), (wrap64 (x5_1 - 1)), (by first | rfl | (simp; done) | (simp [*]; done)), H', ⟨by have := HK1.out; omega⟩, ⟨kp_ HO355⟩, ⟨bl_ HB⟩⟩
end Go.Proofs.YthbogbaaikjhbaaGreatDoor.PA
