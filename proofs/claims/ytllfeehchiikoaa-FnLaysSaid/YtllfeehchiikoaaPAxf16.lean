/- Pure functions, and that Go's functions come to them. -/
import Derived.Test.YtllfeehchiikoaaPAx0
import Derived.Test.YtllfeehchiikoaaPAxf40
import Derived.Test.YtllfeehchiikoaaPAxmE
namespace Go.Proofs.Ytllfeehchiikoaa.PA
open Go.RowKit Go.Proofs.YtllfeehchiikoaaW.PrintWords Go.Proofs.YtllfeehchiikoaaW.PrintLast Go.Proofs.YtllfeehchiikoaaW.PrintMore
set_option linter.unusedVariables false
set_option linter.unusedSimpArgs false

/-! ### impl_SeamsIn: function 16 -/
mutual
def impl_SeamsIn.l0 : Nat → List (List (S43)) → List (S49) → List (List (S43)) → Int → Int → Option ((List (S49)) × Int)
 | 0, _, _, _, _, _ => none
 | k + 1, x1, x6, x15, x16, x17 => if x17 < x16 then (if 0 ≤ x17 then (if x17 < (x15.length : Int) then (impl_SeamsIn.l1 k x1 x6 x17 (rd_L3 x15 x17) (wrap64 (x17 + 1)) x15 x16 x17) else (none)) else (none)) else (some (x6, 0))
def impl_SeamsIn.l1 : Nat → List (List (S43)) → List (S49) → Int → List (S43) → Int → List (List (S43)) → Int → Int → Option ((List (S49)) × Int)
 | 0, _, _, _, _, _, _, _, _ => none
 | k + 1, x1, x6, x7, x8, x9, x15, x16, x17 => if x9 < (x1.length : Int) then (if 0 ≤ x9 then ((impl_seam.f k x8 (rd_L3 x1 x9)).bind fun t443 => (if t443 > 0 then (if x6.length < 8796093022208 then (impl_SeamsIn.l1 k x1 (x6 ++ [(⟨x7, x9⟩ : S49)]) x7 x8 (wrap64 (x9 + 1)) x15 x16 x17) else (none)) else (impl_SeamsIn.l1 k x1 x6 x7 x8 (wrap64 (x9 + 1)) x15 x16 x17))) else (none)) else (impl_SeamsIn.l0 k x1 x6 x15 x16 (wrap64 (x17 + 1)))
end
def impl_SeamsIn.f (k : Nat) (a0_0 : Int) (a0_1 : Int) (l1 : List (List (S43))) : Option ((List (S49)) × Int) := (impl_ValidLay.f k a0_0 a0_1 l1).bind fun t437 => (if t437 = true then (impl_SeamsIn.l0 k l1 (([] : List (S49))) l1 (l1.length : Int) 0) else (some (([] : List (S49)), 1)))
theorem impl_SeamsIn.mono_l : ∀ k, (∀ y0 y1 y2 y3 y4, LeO (impl_SeamsIn.l0 k y0 y1 y2 y3 y4) (impl_SeamsIn.l0 (k + 1) y0 y1 y2 y3 y4)) ∧ (∀ y0 y1 y2 y3 y4 y5 y6 y7, LeO (impl_SeamsIn.l1 k y0 y1 y2 y3 y4 y5 y6 y7) (impl_SeamsIn.l1 (k + 1) y0 y1 y2 y3 y4 y5 y6 y7))
 | 0 => ⟨fun _ _ _ _ _ r h => by simp [impl_SeamsIn.l0] at h, fun _ _ _ _ _ _ _ _ r h => by simp [impl_SeamsIn.l1] at h⟩
 | k + 1 => by
  obtain ⟨ih0, ih1⟩ := impl_SeamsIn.mono_l k
  refine ⟨?_, ?_⟩ <;> intros
  all_goals first | unfold impl_SeamsIn.l0 | unfold impl_SeamsIn.l1
  all_goals repeat' first
  | (with_reducible exact ih0 _ _ _ _ _)
  | (with_reducible exact ih1 _ _ _ _ _ _ _ _)
  | (with_reducible exact impl_ValidLay.mono _ _ _ _)
  | (with_reducible exact impl_seam.mono _ _ _)
  | (with_reducible exact LeO.refl _)
  | (with_reducible exact LeO.none _)
  | (with_reducible refine LeO.ite ?_ ?_)
  | (with_reducible refine LeO.bind ?_ (fun _ => ?_))
theorem impl_SeamsIn.mono : ∀ a0 a1 a2 k, LeO (impl_SeamsIn.f k a0 a1 a2) (impl_SeamsIn.f (k + 1) a0 a1 a2) := by
 intro a0 a1 a2 k
 obtain ⟨ih0, ih1⟩ := impl_SeamsIn.mono_l k
 unfold impl_SeamsIn.f
 repeat' first
   | (with_reducible exact ih0 _ _ _ _ _)
   | (with_reducible exact ih1 _ _ _ _ _ _ _ _)
   | (with_reducible exact impl_ValidLay.mono _ _ _ _)
   | (with_reducible exact impl_seam.mono _ _ _)
   | (with_reducible exact LeO.refl _)
   | (with_reducible exact LeO.none _)
   | (with_reducible refine LeO.ite ?_ ?_)
   | (with_reducible refine LeO.bind ?_ (fun _ => ?_))
set_option maxHeartbeats 8000000 in
set_option maxRecDepth 100000 in
theorem impl_SeamsIn.calls (k : Nat) (a0_0 : Int) (a0_1 : Int) (A1 : Option Addr) (c1 : Nat) (l1 : List (List (S43))) (r1 : List (S49)) (r2 : Int) (w : World) (hr1 : Kd.C (Kd.slice 43 k43) w A1 l1.length l1) (hc1 : l1.length ≤ c1) (h : impl_SeamsIn.f k a0_0 a0_1 l1 = some (r1, r2)) :
  Calls Try.prog 16 #[.agg #[.int .i16 a0_0, .int .i16 a0_1], .slice A1 l1.length c1] w fun e w' => ∃ v0_ : Value, e = .returned (.tuple #[v0_, .int .i64 r2]) ∧ Kd.R k49 49 w' w.heap.size (fun _ => True) v0_ r1 ∧ Below w.heap.size w w' := by
 have hu26 := Try.underlying26
 have hu49 := Try.underlying49
 have HR1 := Aside0.mk hr1
 have HC1 := Aside0.mk hc1
 clear hr1 hc1
 have HB := Aside0.mk (Below.refl w.heap.size w)
 have H : ((impl_ValidLay.f k a0_0 a0_1 l1).bind fun t437 => (if t437 = true then (impl_SeamsIn.l0 k l1 (([] : List (S49))) l1 (l1.length : Int) 0) else (some (([] : List (S49)), 1)))) = some (r1, r2) := h
 clear h
 replace H := Option.bind_eq_some_iff.mp H
 obtain ⟨t437, A30, H⟩ := H
 (try dsimp only at H)
 have A3 := Aside0.mk A30
 clear A30
 rcases (Decidable.em (t437 = true)).symm with c4 | c4
 ·
  replace c4 := Bool.eq_false_iff.mpr c4
  subst c4
  replace H := gf_ H
  simp only [Option.some.injEq, Prod.mk.injEq] at H
  obtain ⟨rfl, rfl⟩ := H
  go_enter Try.func16, Try.ntmps16
  go_wp2_with (first | ((with_reducible refine gate_dst (N := 2) rfl ?_); refine boxM_ 2 #[.int .i16 a0_0, .int .i16 a0_1] 26 ?_; intro gb436 hg w21 hbox hb; have BK436 := Aside0.mk (hbox); have GW436 := ge_ HB hg; have GE436 := ge_ HB hg; replace HB := bs_ HB hb; clear hb hbox hg; obtain ⟨⟨hcz22_0, hcz22_1⟩, hfz22_0, hfz22_1⟩ := bq_ BK436) | ((with_reducible refine gate_callee (f := 7) rfl ?_); refine goM_ (some 12) Try.func7 #[.agg #[.int .i16 a0_0, .int .i16 a0_1], .slice A1 l1.length c1] ?_; (with_reducible refine (impl_ValidLay.calls k a0_0 a0_1 _ _ l1 false _ ?side1 ?side2 A3.out).mono ?_); (case side1 => exact kc_ (Kd.C_below HR1.out HB.out)); (case side2 => exact HC1.out); rintro e w23 ⟨rfl, hb⟩; refine ⟨_, rfl, ?_⟩; replace BK436 := bd_ BK436 hb; replace HB := bs_ HB hb; clear hb))
  go_ret2
  exact ⟨_, by first | rfl | (simp [errW_none, errW_some] <;> rfl) | (simp [*, errW_none, errW_some] <;> rfl), by first | exact Kd.R_nil _ _ _ _ _ | exact Kd.N_nil _ _ _ _ _ | exact Kd.V_nil _ _ _ _ _ | exact Kd.Q_nil _ _ _ _ _ | exact Kd.S_nil _ _ _ _ _, bl_ HB⟩

 subst c4
 replace H := gt_ H
 obtain ⟨y438, hy438⟩ : ∃ y_ : List (S49), y_ = (([] : List (S49))) := ⟨_, rfl⟩
 replace H : (impl_SeamsIn.l0 k l1 y438 l1 (l1.length : Int) 0) = some (r1, r2) := by first | (rw [hy438]; with_reducible exact H) | (have H2_ := (Option.bind_some _ _).symm.trans H; rw [hy438]; with_reducible exact H2_) | (have H2_ := (Option.bind_some _ _).symm.trans H; with_reducible exact H2_) | with_reducible exact H | (rw [hy438]; exact H) | exact H
 have Ny438 := Aside0.mk hy438
 clear hy438
 have H' := Aside0.mk H
 clear H
 go_enter Try.func16, Try.ntmps16
 go_wp2_with (first | ((with_reducible refine gate_dst (N := 2) rfl ?_); refine boxM_ 2 #[.int .i16 a0_0, .int .i16 a0_1] 26 ?_; intro gb436 hg w5 hbox hb; have BK436 := Aside0.mk (hbox); have GW436 := ge_ HB hg; have GE436 := ge_ HB hg; replace HB := bs_ HB hb; clear hb hbox hg; obtain ⟨⟨hcz6_0, hcz6_1⟩, hfz6_0, hfz6_1⟩ := bq_ BK436) | ((with_reducible refine gate_callee (f := 7) rfl ?_); refine goM_ (some 12) Try.func7 #[.agg #[.int .i16 a0_0, .int .i16 a0_1], .slice A1 l1.length c1] ?_; (with_reducible refine (impl_ValidLay.calls k a0_0 a0_1 _ _ l1 true _ ?side1 ?side2 A3.out).mono ?_); (case side1 => exact kc_ (Kd.C_below HR1.out HB.out)); (case side2 => exact HC1.out); rintro e w7 ⟨rfl, hb⟩; refine ⟨_, rfl, ?_⟩; replace BK436 := bd_ BK436 hb; replace HB := bs_ HB hb; clear hb) | ((with_reducible refine gate_dst (N := 14) rfl ?_); refine Kd.R_lit k49 _ 49 ?hg (N := 14) ?hd (xs := ([] : List (S49))) (inner := []) (ok := fun _ => True) (okp := fun _ => True) ?hr ?hp (fun _ hk => hk) trivial (Below.refl _ _) (Nat.le_refl _) (by simp) ?_; (case hd => rfl); (case hg => rfl); (case hr => first | (go_simp; done) | (go_simp; rfl)); (case hp => exact (Reps.none _ _)); intro v439 w8 ho9 hb hg_ hnew_; clear hg_ hnew_; (first | rw [← Ny438.out] at ho9 | (simp only [Int.reduceToNat] at ho9; rw [← Ny438.out] at ho9)); have HO440 := Aside0.mk (Kd.R_lower ho9 (below_size (k1_ HB GE436))); replace BK436 := bd_ BK436 hb; replace HB := bs_ HB hb; clear hb ho9))
 go_loopg [6, 17] k (fun kq v6 v17 w' => ∃ (x6_1 : List (S49)) (x17_1 : Int), v17 = .int .i64 x17_1 ∧ Aside0 (impl_SeamsIn.l0 kq l1 x6_1 l1 (l1.length : Int) x17_1 = some (r1, r2)) ∧ Aside0 (kq ≤ k) ∧ Aside0 (Kd.R k49 49 w' w.heap.size (fun _ => True) v6 x6_1) ∧ Aside0 (w'.heap[gb436]? = some (.cells #[.int .i16 a0_0, .int .i16 a0_1] 26 (0, 0))) ∧ Aside0 (Below w.heap.size w w'))
 case atStart => exact ⟨(y438), (0), (by first | rfl | (simp; done) | (simp [*]; done)), H', ⟨Nat.le_refl _⟩, ⟨kp_ HO440⟩, ⟨bk_ BK436⟩, ⟨bl_ HB⟩⟩
 case round =>
  clear H'
  obtain ⟨x6_1, x17_1, rfl, HA, HK1, HO_6, BK436, HB⟩ := hrel
  rcases gk with _ | k1
  · exact absurd HA.out (by simp [impl_SeamsIn.l0])
  have H := HA.out
  clear HA
  simp only [impl_SeamsIn.l0] at H
  rcases (Decidable.em (x17_1 < (l1.length : Int))).symm with c10 | c10
  ·
   rw [if_neg c10] at H
   have c10b0 : decide (x17_1 < (l1.length : Int)) = false := decide_eq_false c10
   clear c10
   simp only [Option.some.injEq, Prod.mk.injEq] at H
   obtain ⟨rfl, rfl⟩ := H
   go_wp2
   go_ret2
   exact ⟨_, by first | rfl | (simp [errW_none, errW_some] <;> rfl) | (simp [*, errW_none, errW_some] <;> rfl), by (with_reducible repeat (first | apply Kd.R_alloc | apply Kd.R_drewN | apply Kd.R_drew)); exact HO_6.out, bl_ HB⟩
  rw [if_pos c10] at H
  have c10b0 : decide (x17_1 < (l1.length : Int)) = true := decide_eq_true c10
  clear c10
  obtain ⟨(c11 : 0 ≤ x17_1), H⟩ := gd_ H
  have c11b0 : decide (0 ≤ x17_1) = true := decide_eq_true c11
  clear c11
  obtain ⟨(c12 : x17_1 < (l1.length : Int)), H⟩ := gd_ H
  have c12b0 : decide (x17_1 < (l1.length : Int)) = true := decide_eq_true c12
  clear c12
  have H' := Aside0.mk H
  clear H
  have p441 : 0 ≤ (x17_1 : Int) := od_
  have q441 : x17_1 < (l1.length : Int) := od_
  obtain ⟨ad441, A441_0, c441_0, e441, hx441_0, hl441_0, hi441_0⟩ := at_L3 HR1.out x17_1 p441 q441
  cases e441
  replace hx441_0 := (hw_ HB hx441_0 :)
  have HR441_0 := Aside0.mk hi441_0
  have HC441_0 := Aside0.mk hl441_0
  clear hi441_0 hl441_0
  replace p441 := eq_true p441
  replace q441 := eq_true q441
  go_wp2
  go_loopg [6, 9] k1 (fun kq v6 v9 w' => ∃ (x6_2 : List (S49)) (x9_2 : Int), v9 = .int .i64 x9_2 ∧ Aside0 (impl_SeamsIn.l1 kq l1 x6_2 x17_1 (rd_L3 l1 x17_1) x9_2 l1 (l1.length : Int) x17_1 = some (r1, r2)) ∧ Aside0 (kq ≤ k1) ∧ Aside0 (Kd.R k49 49 w' w.heap.size (fun _ => True) v6 x6_2) ∧ Aside0 (w'.heap[gb436]? = some (.cells #[.int .i16 a0_0, .int .i16 a0_1] 26 (0, 0))) ∧ Aside0 (Below w.heap.size w w'))
  case atStart => exact ⟨(x6_1), (wrap64 (x17_1 + 1)), (by first | rfl | (simp; done) | (simp [*]; done)), H', ⟨Nat.le_refl _⟩, ⟨kp_ HO_6⟩, ⟨bk_ BK436⟩, ⟨bl_ HB⟩⟩
  case round =>
   clear H'
   obtain ⟨x6_2, x9_2, rfl, HA, HK2, HO_6, BK436, HB⟩ := hrel
   rcases gk with _ | k2
   · exact absurd HA.out (by simp [impl_SeamsIn.l1])
   have H := HA.out
   clear HA
   simp only [impl_SeamsIn.l1] at H
   rcases (Decidable.em (x9_2 < (l1.length : Int))).symm with c13 | c13
   ·
    rw [if_neg c13] at H
    have c13b0 : decide (x9_2 < (l1.length : Int)) = false := decide_eq_false c13
    clear c13
    have H' := Aside0.mk H
    clear H
    go_wp2
    go_roundg k2
    case measure => have := HK1.out; have := HK2.out; omega
    case rel => exact ⟨(x6_2), (wrap64 (x17_1 + 1)), (by first | rfl | (simp; done) | (simp [*]; done)), H', ⟨by have := HK1.out; have := HK2.out; omega⟩, ⟨kp_ HO_6⟩, ⟨bk_ BK436⟩, ⟨bl_ HB⟩⟩
   rw [if_pos c13] at H
   have c13b0 : decide (x9_2 < (l1.length : Int)) = true := decide_eq_true c13
   clear c13
   obtain ⟨(c14 : 0 ≤ x9_2), H⟩ := gd_ H
   have c14b0 : decide (0 ≤ x9_2) = true := decide_eq_true c14
   clear c14
   replace H := Option.bind_eq_some_iff.mp H
   obtain ⟨t443, A150, H⟩ := H
   (try dsimp only at H)
   have A15 := Aside0.mk A150
   clear A150
   rcases (Decidable.em (t443 > 0)).symm with c16 | c16
   ·
    rw [if_neg c16] at H
    have c16b0 : decide (0 < t443) = false := decide_eq_false c16
    clear c16
    have H' := Aside0.mk H
    clear H
    have p442 : 0 ≤ (x9_2 : Int) := od_
    have q442 : x9_2 < (l1.length : Int) := od_
    obtain ⟨ad442, A442_0, c442_0, e442, hx442_0, hl442_0, hi442_0⟩ := at_L3 HR1.out x9_2 p442 q442
    obtain rfl : ad441 = ad442 := (by injection e442)
    replace hx442_0 := (hw_ HB hx442_0 :)
    have HR442_0 := Aside0.mk hi442_0
    have HC442_0 := Aside0.mk hl442_0
    clear hi442_0 hl442_0
    replace p442 := eq_true p442
    replace q442 := eq_true q442
    go_wp2_with (first | ((with_reducible refine gate_callee (f := 40) rfl ?_); refine goM_ (some 35) Try.func40 #[.slice A441_0 (rd_L3 l1 x17_1).length c441_0, .slice A442_0 (rd_L3 l1 x9_2).length c442_0] ?_; (with_reducible refine (impl_seam.calls k2 _ _ (rd_L3 l1 x17_1) _ _ (rd_L3 l1 x9_2) t443 _ ?side1 ?side2 ?side3 ?side4 A15.out).mono ?_); (case side1 => exact kc_ (Kd.C_below HR441_0.out HB.out)); (case side2 => exact HC441_0.out); (case side3 => exact kc_ (Kd.C_below HR442_0.out HB.out)); (case side4 => exact HC442_0.out); rintro e w20 ⟨rfl, hb⟩; refine ⟨_, rfl, ?_⟩; replace HO_6 := Aside0.mk (Kd.R_below (kp_ HO_6) hb); replace BK436 := bd_ BK436 hb; replace HB := bs_ HB hb; clear hb))
    go_roundg k2
    case measure => have := HK1.out; have := HK2.out; omega
    case rel => exact ⟨(x6_2), (wrap64 (x9_2 + 1)), (by first | rfl | (simp; done) | (simp [*]; done)), H', ⟨by have := HK1.out; have := HK2.out; omega⟩, ⟨kp_ HO_6⟩, ⟨bk_ BK436⟩, ⟨bl_ HB⟩⟩
   rw [if_pos c16] at H
   have c16b0 : decide (0 < t443) = true := decide_eq_true c16
   clear c16
   obtain ⟨(c17 : x6_2.length < 8796093022208), H⟩ := gd_ H
   have LMc17 := Aside0.mk c17
   clear c17
   obtain ⟨y444, hy444⟩ : ∃ y_ : List (S49), y_ = (x6_2 ++ [(⟨x17_1, x9_2⟩ : S49)]) := ⟨_, rfl⟩
   replace H : (impl_SeamsIn.l1 k2 l1 y444 x17_1 (rd_L3 l1 x17_1) (wrap64 (x9_2 + 1)) l1 (l1.length : Int) x17_1) = some (r1, r2) := by first | (rw [hy444]; with_reducible exact H) | (have H2_ := (Option.bind_some _ _).symm.trans H; rw [hy444]; with_reducible exact H2_) | (have H2_ := (Option.bind_some _ _).symm.trans H; with_reducible exact H2_) | with_reducible exact H | (rw [hy444]; exact H) | exact H
   have Ny444 := Aside0.mk hy444
   clear hy444
   have H' := Aside0.mk H
   clear H
   have p442 : 0 ≤ (x9_2 : Int) := od_
   have q442 : x9_2 < (l1.length : Int) := od_
   obtain ⟨ad442, A442_0, c442_0, e442, hx442_0, hl442_0, hi442_0⟩ := at_L3 HR1.out x9_2 p442 q442
   obtain rfl : ad441 = ad442 := (by injection e442)
   replace hx442_0 := (hw_ HB hx442_0 :)
   have HR442_0 := Aside0.mk hi442_0
   have HC442_0 := Aside0.mk hl442_0
   clear hi442_0 hl442_0
   replace p442 := eq_true p442
   replace q442 := eq_true q442
   go_wp2_with (first | ((with_reducible refine gate_callee (f := 40) rfl ?_); refine goM_ (some 35) Try.func40 #[.slice A441_0 (rd_L3 l1 x17_1).length c441_0, .slice A442_0 (rd_L3 l1 x9_2).length c442_0] ?_; (with_reducible refine (impl_seam.calls k2 _ _ (rd_L3 l1 x17_1) _ _ (rd_L3 l1 x9_2) t443 _ ?side1 ?side2 ?side3 ?side4 A15.out).mono ?_); (case side1 => exact kc_ (Kd.C_below HR441_0.out HB.out)); (case side2 => exact HC441_0.out); (case side3 => exact kc_ (Kd.C_below HR442_0.out HB.out)); (case side4 => exact HC442_0.out); rintro e w18 ⟨rfl, hb⟩; refine ⟨_, rfl, ?_⟩; replace HO_6 := Aside0.mk (Kd.R_below (kp_ HO_6) hb); replace BK436 := bd_ BK436 hb; replace HB := bs_ HB hb; clear hb) | ((with_reducible refine gate_builtin (b := .append) (xs := #[.tmp 37, .tmp 41]) rfl ?_); at_builtin; refine Kd.R_append k49 (w0 := w) w.heap.size rfl (.tmp 37) (.tmp 41) 45 49 (.agg #[(.int .i64 0), (.int .i64 0)]) 16 rfl Try.underlying45 info49 rfl (by decide) (by omega) u6 x6_2 (⟨x17_1, x9_2⟩ : S49) [.int .i64 x17_1, .int .i64 x9_2] (fun _ => True) (fun _ => False) rfl rfl ?aP (fun _ hk => hk.elim) ?aF ?aO ?aB ?aS ?aL ?_; (case aP => exact k49_mkM _ _ _ (⟨x17_1, x9_2⟩ : S49)); (case aB => exact (k1_ HB GE436)); (case aF => exact (fun _ _ => trivial)); (case aO => exact (kp_ HO_6)); (case aS => exact (below_size (k1_ HB GE436))); (case aL => have := LMc17.out; omega); intro v445 w19 ho hb hg hat; rw [← Ny444.out] at ho; have n0_ := Aside0.mk (blk_grown (g := gb436) (o := .cells #[.int .i16 a0_0, .int .i16 a0_1] 26 (0, 0)) (kb_ BK436) hg (Kd.R_ne HO_6.out BK436.out (by decide))); have n1_ := Aside0.mk (hb); have n2_ := Aside0.mk (ho); clear BK436; clear HB; clear HO_6; have BK436 := n0_; have HB := n1_; have HO446 := n2_; clear n0_ n1_ n2_; clear ho hb hg hat))
   go_roundg k2
   case measure => have := HK1.out; have := HK2.out; omega
   case rel => exact ⟨(y444), (wrap64 (x9_2 + 1)), (by first | rfl | (simp; done) | (simp [*]; done)), H', ⟨by have := HK1.out; have := HK2.out; omega⟩, ⟨kp_ HO446⟩, ⟨bk_ BK436⟩, ⟨bl_ HB⟩⟩
end Go.Proofs.Ytllfeehchiikoaa.PA
