/- Pure functions, and that Go's functions come to them. -/
import Derived.Test.YtllfeehchiikoaaPAx0
import Derived.Test.YtllfeehchiikoaaPAxf67
import Derived.Test.YtllfeehchiikoaaPAxmB
import Derived.Test.YtllfeehchiikoaaPAxgSpec
namespace Go.Proofs.Ytllfeehchiikoaa.PA
open Go.RowKit Go.Proofs.YtllfeehchiikoaaW.PrintWords Go.Proofs.YtllfeehchiikoaaW.PrintLast Go.Proofs.YtllfeehchiikoaaW.PrintMore
set_option linter.unusedVariables false
set_option linter.unusedSimpArgs false

/-! ### spec_l03Seam: function 61 -/
mutual
def spec_l03Seam.j0 : Nat → Bool → Int → Int → Int → Int → Int → Int → Int → Int → Option (Int)
 | 0, _, _, _, _, _, _, _, _, _ => none
 | k + 1, x26, x448000, x448001, x449000, x449001, x450000, x450001, x451000, x451001 => if x26 = true then (some 0) else ((some (([] : List (S43)) : List (S43))).bind fun y453 => ((spec_l03Between.f x448000 x448001 x450000 x450001 x451000 x451001).bind fun t456 => (if t456 = true then (if y453.length < 35184372088832 then (spec_l03Seam.j1 k (y453 ++ [(⟨x448000, x448001⟩ : S43)]) x448000 x448001 x449000 x449001 x450000 x450001 x451000 x451001) else (none)) else (spec_l03Seam.j1 k y453 x448000 x448001 x449000 x449001 x450000 x450001 x451000 x451001))))
def spec_l03Seam.j1 : Nat → List (S43) → Int → Int → Int → Int → Int → Int → Int → Int → Option (Int)
 | 0, _, _, _, _, _, _, _, _, _ => none
 | k + 1, x9, x448000, x448001, x449000, x449001, x450000, x450001, x451000, x451001 => (spec_l03Between.f x449000 x449001 x450000 x450001 x451000 x451001).bind fun t460 => (if t460 = true then (if x9.length < 35184372088832 then (spec_l03Seam.j2 k (x9 ++ [(⟨x449000, x449001⟩ : S43)]) x448000 x448001 x449000 x449001 x450000 x450001 x451000 x451001) else (none)) else (spec_l03Seam.j2 k x9 x448000 x448001 x449000 x449001 x450000 x450001 x451000 x451001))
def spec_l03Seam.j2 : Nat → List (S43) → Int → Int → Int → Int → Int → Int → Int → Int → Option (Int)
 | 0, _, _, _, _, _, _, _, _, _ => none
 | k + 1, x9, x448000, x448001, x449000, x449001, x450000, x450001, x451000, x451001 => (spec_l03Between.f x450000 x450001 x448000 x448001 x449000 x449001).bind fun t464 => (if t464 = true then (if x9.length < 35184372088832 then (spec_l03Seam.j3 k (x9 ++ [(⟨x450000, x450001⟩ : S43)]) x448000 x448001 x449000 x449001 x451000 x451001) else (none)) else (spec_l03Seam.j3 k x9 x448000 x448001 x449000 x449001 x451000 x451001))
def spec_l03Seam.j3 : Nat → List (S43) → Int → Int → Int → Int → Int → Int → Option (Int)
 | 0, _, _, _, _, _, _, _ => none
 | k + 1, x9, x448000, x448001, x449000, x449001, x451000, x451001 => (spec_l03Between.f x451000 x451001 x448000 x448001 x449000 x449001).bind fun t468 => (if t468 = true then (if x9.length < 35184372088832 then (spec_l03Seam.j4 k (x9 ++ [(⟨x451000, x451001⟩ : S43)])) else (none)) else (spec_l03Seam.j4 k x9))
def spec_l03Seam.j4 : Nat → List (S43) → Option (Int)
 | 0, _ => none
 | k + 1, x9 => spec_l03Seam.l0 k x9 0 0
def spec_l03Seam.l0 : Nat → List (S43) → Int → Int → Option (Int)
 | 0, _, _, _ => none
 | k + 1, x9, x10, x11 => if x11 < (x9.length : Int) then (spec_l03Seam.l1 k x9 x10 x11 0) else (some x10)
def spec_l03Seam.l1 : Nat → List (S43) → Int → Int → Int → Option (Int)
 | 0, _, _, _, _ => none
 | k + 1, x9, x10, x11, x12 => if x12 < x11 then (if 0 ≤ x11 then (if x11 < (x9.length : Int) then (if 0 ≤ x12 then (if x12 < (x9.length : Int) then ((spec_l00Max.f x10 (wrap64 ((wrap64 ((wrap64 ((wrap64 ((rd_T43 x9 x11).f0)) - (wrap64 ((rd_T43 x9 x12).f0)))) * (wrap64 ((wrap64 ((rd_T43 x9 x11).f0)) - (wrap64 ((rd_T43 x9 x12).f0)))))) + (wrap64 ((wrap64 ((wrap64 ((rd_T43 x9 x11).f1)) - (wrap64 ((rd_T43 x9 x12).f1)))) * (wrap64 ((wrap64 ((rd_T43 x9 x11).f1)) - (wrap64 ((rd_T43 x9 x12).f1))))))))).bind fun t476 => (spec_l03Seam.l1 k x9 t476 x11 (wrap64 (x12 + 1)))) else (none)) else (none)) else (none)) else (none)) else (spec_l03Seam.l0 k x9 x10 (wrap64 (x11 + 1)))
end
def spec_l03Seam.f (k : Nat) (a0_0 : Int) (a0_1 : Int) (a1_0 : Int) (a1_1 : Int) (a2_0 : Int) (a2_1 : Int) (a3_0 : Int) (a3_1 : Int) : Option (Int) := (spec_l03Side.f a0_0 a0_1 a1_0 a1_1 a2_0 a2_1).bind fun t451 => (if t451 = 0 then ((spec_l03Side.f a0_0 a0_1 a1_0 a1_1 a3_0 a3_1).bind fun t452 => (spec_l03Seam.j0 k (t452 != 0) a0_0 a0_1 a1_0 a1_1 a2_0 a2_1 a3_0 a3_1)) else (spec_l03Seam.j0 k true a0_0 a0_1 a1_0 a1_1 a2_0 a2_1 a3_0 a3_1))
theorem spec_l03Seam.mono_l : ∀ k, (∀ y0 y1 y2 y3 y4 y5 y6 y7 y8, LeO (spec_l03Seam.j0 k y0 y1 y2 y3 y4 y5 y6 y7 y8) (spec_l03Seam.j0 (k + 1) y0 y1 y2 y3 y4 y5 y6 y7 y8)) ∧ (∀ y0 y1 y2 y3 y4 y5 y6 y7 y8, LeO (spec_l03Seam.j1 k y0 y1 y2 y3 y4 y5 y6 y7 y8) (spec_l03Seam.j1 (k + 1) y0 y1 y2 y3 y4 y5 y6 y7 y8)) ∧ (∀ y0 y1 y2 y3 y4 y5 y6 y7 y8, LeO (spec_l03Seam.j2 k y0 y1 y2 y3 y4 y5 y6 y7 y8) (spec_l03Seam.j2 (k + 1) y0 y1 y2 y3 y4 y5 y6 y7 y8)) ∧ (∀ y0 y1 y2 y3 y4 y5 y6, LeO (spec_l03Seam.j3 k y0 y1 y2 y3 y4 y5 y6) (spec_l03Seam.j3 (k + 1) y0 y1 y2 y3 y4 y5 y6)) ∧ (∀ y0, LeO (spec_l03Seam.j4 k y0) (spec_l03Seam.j4 (k + 1) y0)) ∧ (∀ y0 y1 y2, LeO (spec_l03Seam.l0 k y0 y1 y2) (spec_l03Seam.l0 (k + 1) y0 y1 y2)) ∧ (∀ y0 y1 y2 y3, LeO (spec_l03Seam.l1 k y0 y1 y2 y3) (spec_l03Seam.l1 (k + 1) y0 y1 y2 y3))
 | 0 => ⟨fun _ _ _ _ _ _ _ _ _ r h => by simp [spec_l03Seam.j0] at h, fun _ _ _ _ _ _ _ _ _ r h => by simp [spec_l03Seam.j1] at h, fun _ _ _ _ _ _ _ _ _ r h => by simp [spec_l03Seam.j2] at h, fun _ _ _ _ _ _ _ r h => by simp [spec_l03Seam.j3] at h, fun _ r h => by simp [spec_l03Seam.j4] at h, fun _ _ _ r h => by simp [spec_l03Seam.l0] at h, fun _ _ _ _ r h => by simp [spec_l03Seam.l1] at h⟩
 | k + 1 => by
  obtain ⟨ih0, ih1, ih2, ih3, ih4, ih5, ih6⟩ := spec_l03Seam.mono_l k
  refine ⟨?_, ?_, ?_, ?_, ?_, ?_, ?_⟩ <;> intros
  all_goals first | unfold spec_l03Seam.j0 | unfold spec_l03Seam.j1 | unfold spec_l03Seam.j2 | unfold spec_l03Seam.j3 | unfold spec_l03Seam.j4 | unfold spec_l03Seam.l0 | unfold spec_l03Seam.l1
  all_goals repeat' first
  | (with_reducible exact ih0 _ _ _ _ _ _ _ _ _)
  | (with_reducible exact ih1 _ _ _ _ _ _ _ _ _)
  | (with_reducible exact ih2 _ _ _ _ _ _ _ _ _)
  | (with_reducible exact ih3 _ _ _ _ _ _ _)
  | (with_reducible exact ih4 _)
  | (with_reducible exact ih5 _ _ _)
  | (with_reducible exact ih6 _ _ _ _)
  | (with_reducible exact LeO.refl _)
  | (with_reducible exact LeO.none _)
  | (with_reducible refine LeO.ite ?_ ?_)
  | (with_reducible refine LeO.bind ?_ (fun _ => ?_))
theorem spec_l03Seam.mono : ∀ a0 a1 a2 a3 a4 a5 a6 a7 k, LeO (spec_l03Seam.f k a0 a1 a2 a3 a4 a5 a6 a7) (spec_l03Seam.f (k + 1) a0 a1 a2 a3 a4 a5 a6 a7) := by
 intro a0 a1 a2 a3 a4 a5 a6 a7 k
 obtain ⟨ih0, ih1, ih2, ih3, ih4, ih5, ih6⟩ := spec_l03Seam.mono_l k
 unfold spec_l03Seam.f
 repeat' first
   | (with_reducible exact ih0 _ _ _ _ _ _ _ _ _)
   | (with_reducible exact ih1 _ _ _ _ _ _ _ _ _)
   | (with_reducible exact ih2 _ _ _ _ _ _ _ _ _)
   | (with_reducible exact ih3 _ _ _ _ _ _ _)
   | (with_reducible exact ih4 _)
   | (with_reducible exact ih5 _ _ _)
   | (with_reducible exact ih6 _ _ _ _)
   | (with_reducible exact LeO.refl _)
   | (with_reducible exact LeO.none _)
   | (with_reducible refine LeO.ite ?_ ?_)
   | (with_reducible refine LeO.bind ?_ (fun _ => ?_))
set_option maxHeartbeats 8000000 in
set_option maxRecDepth 100000 in
theorem spec_l03Seam.calls (k : Nat) (a0_0 : Int) (a0_1 : Int) (a1_0 : Int) (a1_1 : Int) (a2_0 : Int) (a2_1 : Int) (a3_0 : Int) (a3_1 : Int) (r : Int) (w : World) (h : spec_l03Seam.f k a0_0 a0_1 a1_0 a1_1 a2_0 a2_1 a3_0 a3_1 = some r) :
  Calls Try.prog 61 #[.agg #[.int .i16 a0_0, .int .i16 a0_1], .agg #[.int .i16 a1_0, .int .i16 a1_1], .agg #[.int .i16 a2_0, .int .i16 a2_1], .agg #[.int .i16 a3_0, .int .i16 a3_1]] w fun e w' => e = .returned (.int .i64 r) ∧ Below w.heap.size w w' := by
 have hu43 := Try.underlying43
 have HB := Aside0.mk (Below.refl w.heap.size w)
 have H : ((spec_l03Side.f a0_0 a0_1 a1_0 a1_1 a2_0 a2_1).bind fun t451 => (if t451 = 0 then ((spec_l03Side.f a0_0 a0_1 a1_0 a1_1 a3_0 a3_1).bind fun t452 => (spec_l03Seam.j0 k (t452 != 0) a0_0 a0_1 a1_0 a1_1 a2_0 a2_1 a3_0 a3_1)) else (spec_l03Seam.j0 k true a0_0 a0_1 a1_0 a1_1 a2_0 a2_1 a3_0 a3_1))) = some r := h
 clear h
 have HC5 := Aside0.mk H
 clear H
 go_enter Try.func61, Try.ntmps61
 go_upto_region 1 with (first | ((with_reducible refine gate_dst (N := 4) rfl ?_); refine boxM_ 4 #[.int .i16 a0_0, .int .i16 a0_1] 43 ?_; intro gb447 hg w6 hbox hb; have BK447 := Aside0.mk (hbox); have GW447 := ge_ HB hg; have GE447 := ge_ HB hg; replace HB := bs_ HB hb; clear hb hbox hg) | ((with_reducible refine gate_dst (N := 5) rfl ?_); refine boxM_ 5 #[.int .i16 a1_0, .int .i16 a1_1] 43 ?_; intro gb448 hg w7 hbox hb; have BK448 := Aside0.mk (hbox); have GW448 := ge_ HB hg; have GE448 := ge_ HB hg; replace HB := bs_ HB hb; have NB447_448 := nl_ BK447 hg; have NB448_447 := ng_ BK447 hg; replace BK447 := bd_ BK447 hb; clear hb hbox hg) | ((with_reducible refine gate_dst (N := 6) rfl ?_); refine boxM_ 6 #[.int .i16 a2_0, .int .i16 a2_1] 43 ?_; intro gb449 hg w8 hbox hb; have BK449 := Aside0.mk (hbox); have GW449 := ge_ HB hg; have GE449 := ge_ HB hg; replace HB := bs_ HB hb; have NB447_449 := nl_ BK447 hg; have NB449_447 := ng_ BK447 hg; replace BK447 := bd_ BK447 hb; have NB448_449 := nl_ BK448 hg; have NB449_448 := ng_ BK448 hg; replace BK448 := bd_ BK448 hb; clear hb hbox hg) | ((with_reducible refine gate_dst (N := 7) rfl ?_); refine boxM_ 7 #[.int .i16 a3_0, .int .i16 a3_1] 43 ?_; intro gb450 hg w9 hbox hb; have BK450 := Aside0.mk (hbox); have GW450 := ge_ HB hg; have GE450 := ge_ HB hg; replace HB := bs_ HB hb; have NB447_450 := nl_ BK447 hg; have NB450_447 := ng_ BK447 hg; replace BK447 := bd_ BK447 hb; have NB448_450 := nl_ BK448 hg; have NB450_448 := ng_ BK448 hg; replace BK448 := bd_ BK448 hb; have NB449_450 := nl_ BK449 hg; have NB450_449 := ng_ BK449 hg; replace BK449 := bd_ BK449 hb; clear hb hbox hg))
 repeat (go_quiet (fail); try go_wp2)
 (try simp only [Act.put, List.setIfInBounds_toArray, List.set_cons_zero, List.set_cons_succ])
 go_cut [26] (fun v26 wc => ∃ (kq : Nat) (x26_4 : Bool), v26 = .bool x26_4 ∧ Aside0 (spec_l03Seam.j0 kq x26_4 a0_0 a0_1 a1_0 a1_1 a2_0 a2_1 a3_0 a3_1 = some r) ∧ Aside0 (kq ≤ k) ∧ Aside0 (wc.heap[gb447]? = some (.cells #[.int .i16 a0_0, .int .i16 a0_1] 43 (0, 0))) ∧ Aside0 (wc.heap[gb448]? = some (.cells #[.int .i16 a1_0, .int .i16 a1_1] 43 (0, 0))) ∧ Aside0 (wc.heap[gb449]? = some (.cells #[.int .i16 a2_0, .int .i16 a2_1] 43 (0, 0))) ∧ Aside0 (wc.heap[gb450]? = some (.cells #[.int .i16 a3_0, .int .i16 a3_1] 43 (0, 0))) ∧ Aside0 (Below w.heap.size w wc))
 case first =>
  have H := HC5.out
  clear HC5
  replace H := Option.bind_eq_some_iff.mp H
  obtain ⟨t451, A100, H⟩ := H
  (try dsimp only at H)
  have A10 := Aside0.mk A100
  clear A100
  rcases (Decidable.em (t451 = 0)).symm with c11 | c11
  ·
   rw [if_neg c11] at H
   have c11b0 : (t451 == 0) = false := beq_eq_false_iff_ne.mpr c11
   have c11b1 : (t451 != 0) = true := bne_iff_ne.mpr c11
   (first | rw [c11b0] | (simp only [i64_w, i32_w]; rw [c11b0]) | skip)
   have H' := Aside0.mk H
   clear H
   have hnb27 := NB447_448.out
   have hnc27 := NB448_447.out
   have hnb28 := NB447_449.out
   have hnc28 := NB449_447.out
   have hnb29 := NB447_450.out
   have hnc29 := NB450_447.out
   obtain ⟨⟨hcz30_0, hcz30_1⟩, hfz30_0, hfz30_1⟩ := bq_ BK447
   have hnb31 := NB448_449.out
   have hnc31 := NB449_448.out
   have hnb32 := NB448_450.out
   have hnc32 := NB450_448.out
   obtain ⟨⟨hcz33_0, hcz33_1⟩, hfz33_0, hfz33_1⟩ := bq_ BK448
   have hnb34 := NB449_450.out
   have hnc34 := NB450_449.out
   obtain ⟨⟨hcz35_0, hcz35_1⟩, hfz35_0, hfz35_1⟩ := bq_ BK449
   go_wp2_with (first | (go_at_call 66; (with_reducible refine (spec_l03Side.calls a0_0 a0_1 a1_0 a1_1 a2_0 a2_1 t451 _ A10.out).mono ?_); rintro e w36 ⟨rfl, hb⟩; replace BK447 := bd_ BK447 hb; replace BK448 := bd_ BK448 hb; replace BK449 := bd_ BK449 hb; replace BK450 := bd_ BK450 hb; replace HB := bs_ HB hb; clear hb))
   repeat (go_quiet (fail); try go_wp2)
   go_meet
   case rel => exact ⟨_, (true), (by first | rfl | (simp; done) | (simp [*]; done)), H', ⟨by first | omega | exact Nat.le_refl _⟩, ⟨bk_ BK447⟩, ⟨bk_ BK448⟩, ⟨bk_ BK449⟩, ⟨bk_ BK450⟩, ⟨bl_ HB⟩⟩
  rw [if_pos c11] at H
  have c11b0 : (t451 == 0) = true := beq_iff_eq.mpr c11
  have c11b1 : (t451 != 0) = false := bne_eq_false_iff_eq.mpr c11
  clear c11
  (first | rw [c11b0] | (simp only [i64_w, i32_w]; rw [c11b0]) | skip)
  replace H := Option.bind_eq_some_iff.mp H
  obtain ⟨t452, A120, H⟩ := H
  (try dsimp only at H)
  have A12 := Aside0.mk A120
  clear A120
  have H' := Aside0.mk H
  clear H
  have hnb13 := NB447_448.out
  have hnc13 := NB448_447.out
  have hnb14 := NB447_449.out
  have hnc14 := NB449_447.out
  have hnb15 := NB447_450.out
  have hnc15 := NB450_447.out
  obtain ⟨⟨hcz16_0, hcz16_1⟩, hfz16_0, hfz16_1⟩ := bq_ BK447
  have hnb17 := NB448_449.out
  have hnc17 := NB449_448.out
  have hnb18 := NB448_450.out
  have hnc18 := NB450_448.out
  obtain ⟨⟨hcz19_0, hcz19_1⟩, hfz19_0, hfz19_1⟩ := bq_ BK448
  have hnb20 := NB449_450.out
  have hnc20 := NB450_449.out
  obtain ⟨⟨hcz21_0, hcz21_1⟩, hfz21_0, hfz21_1⟩ := bq_ BK449
  go_wp2_with (first | (go_at_call 66; (with_reducible refine (spec_l03Side.calls a0_0 a0_1 a1_0 a1_1 a2_0 a2_1 t451 _ A10.out).mono ?_); rintro e w22 ⟨rfl, hb⟩; replace BK447 := bd_ BK447 hb; replace BK448 := bd_ BK448 hb; replace BK449 := bd_ BK449 hb; replace BK450 := bd_ BK450 hb; replace HB := bs_ HB hb; clear hb; obtain ⟨⟨hcz23_0, hcz23_1⟩, hfz23_0, hfz23_1⟩ := bq_ BK447; obtain ⟨⟨hcz24_0, hcz24_1⟩, hfz24_0, hfz24_1⟩ := bq_ BK448; obtain ⟨⟨hcz25_0, hcz25_1⟩, hfz25_0, hfz25_1⟩ := bq_ BK450) | (go_at_call 66; (with_reducible refine (spec_l03Side.calls a0_0 a0_1 a1_0 a1_1 a3_0 a3_1 t452 _ A12.out).mono ?_); rintro e w26 ⟨rfl, hb⟩; replace BK447 := bd_ BK447 hb; replace BK448 := bd_ BK448 hb; replace BK449 := bd_ BK449 hb; replace BK450 := bd_ BK450 hb; replace HB := bs_ HB hb; clear hb))
  repeat (go_quiet (fail); try go_wp2)
  go_meet
  case rel => exact ⟨_, ((t452 != 0)), (by first | rfl | (simp; done) | (simp [*]; done)), H', ⟨by first | omega | exact Nat.le_refl _⟩, ⟨bk_ BK447⟩, ⟨bk_ BK448⟩, ⟨bk_ BK449⟩, ⟨bk_ BK450⟩, ⟨bl_ HB⟩⟩
 case rest =>
  clear HC5
  obtain ⟨kq, x26_4, rfl, HA, HJ4, BK447, BK448, BK449, BK450, HB⟩ := hcut
  rcases kq with _ | kj4
  · exact absurd HA.out (by simp [spec_l03Seam.j0])
  have H := HA.out
  clear HA
  simp only [spec_l03Seam.j0] at H
  by_cases c37 : x26_4 = true
  ·
   subst c37
   replace H := gt_ H
   obtain rfl := Option.some.inj H
   go_wp2
   repeat (go_quiet (fail); try go_wp2)
   go_ret
   exact ⟨rt_, bl_ HB⟩
  replace c37 := Bool.eq_false_iff.mpr c37
  subst c37
  replace H := gf_ H
  obtain ⟨y453, hy453⟩ : ∃ y_ : List (S43), y_ = (([] : List (S43))) := ⟨_, rfl⟩
  replace H : ((spec_l03Between.f a0_0 a0_1 a2_0 a2_1 a3_0 a3_1).bind fun t456 => (if t456 = true then (if y453.length < 35184372088832 then (spec_l03Seam.j1 kj4 (y453 ++ [(⟨a0_0, a0_1⟩ : S43)]) a0_0 a0_1 a1_0 a1_1 a2_0 a2_1 a3_0 a3_1) else (none)) else (spec_l03Seam.j1 kj4 y453 a0_0 a0_1 a1_0 a1_1 a2_0 a2_1 a3_0 a3_1))) = some r := by first | (rw [hy453]; with_reducible exact H) | (have H2_ := (Option.bind_some _ _).symm.trans H; rw [hy453]; with_reducible exact H2_) | (have H2_ := (Option.bind_some _ _).symm.trans H; with_reducible exact H2_) | with_reducible exact H | (rw [hy453]; exact H) | exact H
  have Ny453 := Aside0.mk hy453
  clear hy453
  replace H := Option.bind_eq_some_iff.mp H
  obtain ⟨t456, A380, H⟩ := H
  (try dsimp only at H)
  have A38 := Aside0.mk A380
  clear A380
  have HC39 := Aside0.mk H
  clear H
  go_upto_if 31 with (first | ((with_reducible refine gate_dst (N := 27) rfl ?_); refine Kd.R_lit k43 _ 43 ?hg (N := 27) ?hd (xs := ([] : List (S43))) (inner := []) (ok := fun _ => True) (okp := fun _ => True) ?hr ?hp (fun _ hk => hk) trivial (Below.refl _ _) (Nat.le_refl _) (by simp) ?_; (case hd => rfl); (case hg => rfl); (case hr => first | (go_simp; done) | (go_simp; rfl)); (case hp => exact (Reps.none _ _)); intro v454 w40 ho41 hb hg_ hnew_; clear hg_ hnew_; (first | rw [← Ny453.out] at ho41 | (simp only [Int.reduceToNat] at ho41; rw [← Ny453.out] at ho41)); have HO455 := Aside0.mk (Kd.R_lower (Kd.R_newB (Kd.R_newB (Kd.R_newB (Kd.R_newB ho41 (g := gb447) (o := .cells #[.int .i16 a0_0, .int .i16 a0_1] 43 (0, 0)) (kb_ BK447)) (g := gb448) (o := .cells #[.int .i16 a1_0, .int .i16 a1_1] 43 (0, 0)) (kb_ BK448)) (g := gb449) (o := .cells #[.int .i16 a2_0, .int .i16 a2_1] 43 (0, 0)) (kb_ BK449)) (g := gb450) (o := .cells #[.int .i16 a3_0, .int .i16 a3_1] 43 (0, 0)) (kb_ BK450)) (below_size (k4_ HB GE447 GE448 GE449 GE450))); replace BK447 := bd_ BK447 hb; replace BK448 := bd_ BK448 hb; replace BK449 := bd_ BK449 hb; replace BK450 := bd_ BK450 hb; replace HB := bs_ HB hb; clear hb ho41; have hnb42 := NB447_448.out; have hnc42 := NB448_447.out; have hnb43 := NB447_449.out; have hnc43 := NB449_447.out; have hnb44 := NB447_450.out; have hnc44 := NB450_447.out; obtain ⟨⟨hcz45_0, hcz45_1⟩, hfz45_0, hfz45_1⟩ := bq_ BK447; have hnb46 := NB449_448.out; have hnc46 := NB448_449.out; have hnb47 := NB449_450.out; have hnc47 := NB450_449.out; obtain ⟨⟨hcz48_0, hcz48_1⟩, hfz48_0, hfz48_1⟩ := bq_ BK449; have hnb49 := NB450_448.out; have hnc49 := NB448_450.out; obtain ⟨⟨hcz50_0, hcz50_1⟩, hfz50_0, hfz50_1⟩ := bq_ BK450) | (go_at_call 67; (with_reducible refine (spec_l03Between.calls a0_0 a0_1 a2_0 a2_1 a3_0 a3_1 t456 _ A38.out).mono ?_); rintro e w51 ⟨rfl, hb⟩; replace HO455 := Aside0.mk (Kd.R_below (kp_ HO455) hb); replace BK447 := bd_ BK447 hb; replace BK448 := bd_ BK448 hb; replace BK449 := bd_ BK449 hb; replace BK450 := bd_ BK450 hb; replace HB := bs_ HB hb; clear hb))
  repeat (go_quiet (fail); try go_wp2)
  (try simp only [Act.put, List.setIfInBounds_toArray, List.set_cons_zero, List.set_cons_succ])
  go_cut [9] (fun v9 wc => ∃ (kq : Nat) (x9_38 : List (S43)), Aside0 (spec_l03Seam.j1 kq x9_38 a0_0 a0_1 a1_0 a1_1 a2_0 a2_1 a3_0 a3_1 = some r) ∧ Aside0 (kq ≤ kj4) ∧ Aside0 (Kd.R k43 43 wc w.heap.size (fun k_ => k_ ≠ gb447 ∧ k_ ≠ gb448 ∧ k_ ≠ gb449 ∧ k_ ≠ gb450) v9 x9_38) ∧ Aside0 (wc.heap[gb447]? = some (.cells #[.int .i16 a0_0, .int .i16 a0_1] 43 (0, 0))) ∧ Aside0 (wc.heap[gb448]? = some (.cells #[.int .i16 a1_0, .int .i16 a1_1] 43 (0, 0))) ∧ Aside0 (wc.heap[gb449]? = some (.cells #[.int .i16 a2_0, .int .i16 a2_1] 43 (0, 0))) ∧ Aside0 (wc.heap[gb450]? = some (.cells #[.int .i16 a3_0, .int .i16 a3_1] 43 (0, 0))) ∧ Aside0 (Below w.heap.size w wc))
  case first =>
   have H := HC39.out
   clear HC39
   rcases (Decidable.em (t456 = true)).symm with c52 | c52
   ·
    replace c52 := Bool.eq_false_iff.mpr c52
    subst c52
    replace H := gf_ H
    have H' := Aside0.mk H
    clear H
    go_wp2
    repeat (go_quiet (fail); try go_wp2)
    go_meet
    case rel => exact ⟨_, (y453), H', ⟨by have := HJ4.out; first | omega | exact Nat.le_refl _⟩, ⟨by (with_reducible repeat (first | apply Kd.R_alloc | apply Kd.R_drewN | apply Kd.R_drew)); exact Kd.R_mono HO455.out (fun _ hk => ⟨hk.1.1.1.2, ⟨hk.1.1.2, ⟨hk.1.2, hk.2⟩⟩⟩)⟩, ⟨bk_ BK447⟩, ⟨bk_ BK448⟩, ⟨bk_ BK449⟩, ⟨bk_ BK450⟩, ⟨bl_ HB⟩⟩
   subst c52
   replace H := gt_ H
   obtain ⟨(c53 : y453.length < 35184372088832), H⟩ := gd_ H
   have LMc53 := Aside0.mk c53
   clear c53
   obtain ⟨y457, hy457⟩ : ∃ y_ : List (S43), y_ = (y453 ++ [(⟨a0_0, a0_1⟩ : S43)]) := ⟨_, rfl⟩
   replace H : (spec_l03Seam.j1 kj4 y457 a0_0 a0_1 a1_0 a1_1 a2_0 a2_1 a3_0 a3_1) = some r := by first | (rw [hy457]; with_reducible exact H) | (have H2_ := (Option.bind_some _ _).symm.trans H; rw [hy457]; with_reducible exact H2_) | (have H2_ := (Option.bind_some _ _).symm.trans H; with_reducible exact H2_) | with_reducible exact H | (rw [hy457]; exact H) | exact H
   have Ny457 := Aside0.mk hy457
   clear hy457
   have H' := Aside0.mk H
   clear H
   have hnb54 := NB447_448.out
   have hnc54 := NB448_447.out
   have hnb55 := NB447_449.out
   have hnc55 := NB449_447.out
   have hnb56 := NB447_450.out
   have hnc56 := NB450_447.out
   obtain ⟨⟨hcz57_0, hcz57_1⟩, hfz57_0, hfz57_1⟩ := bq_ BK447
   go_wp2_with (first | ((with_reducible refine gate_builtin (b := .append) (xs := #[.tmp 32, .tmp 34]) rfl ?_); at_builtin; refine Kd.R_append k43 (w0 := w) w.heap.size rfl (.tmp 32) (.tmp 34) 35 43 (.agg #[(.int .i16 0), (.int .i16 0)]) 4 rfl Try.underlying35 info43 rfl (by decide) (by omega) v454 y453 (⟨a0_0, a0_1⟩ : S43) [.int .i16 a0_0, .int .i16 a0_1] (fun k_ => k_ ≠ gb447 ∧ k_ ≠ gb448 ∧ k_ ≠ gb449 ∧ k_ ≠ gb450) (fun _ => False) rfl rfl ?aP (fun _ hk => hk.elim) ?aF ?aO ?aB ?aS ?aL ?_; (case aP => exact k43_mkM _ _ _ (⟨a0_0, a0_1⟩ : S43)); (case aB => exact (k4_ HB GE447 GE448 GE449 GE450)); (case aF => exact (fun k_ hk => ⟨Kd.freshB (g := gb447) (o := .cells #[.int .i16 a0_0, .int .i16 a0_1] 43 (0, 0)) (kb_ BK447) k_ hk, Kd.freshB (g := gb448) (o := .cells #[.int .i16 a1_0, .int .i16 a1_1] 43 (0, 0)) (kb_ BK448) k_ hk, Kd.freshB (g := gb449) (o := .cells #[.int .i16 a2_0, .int .i16 a2_1] 43 (0, 0)) (kb_ BK449) k_ hk, Kd.freshB (g := gb450) (o := .cells #[.int .i16 a3_0, .int .i16 a3_1] 43 (0, 0)) (kb_ BK450) k_ hk⟩)); (case aO => exact (by (with_reducible repeat (first | apply Kd.R_alloc | apply Kd.R_drewN | apply Kd.R_drew)); exact Kd.R_mono HO455.out (fun _ hk => ⟨hk.1.1.1.2, ⟨hk.1.1.2, ⟨hk.1.2, hk.2⟩⟩⟩))); (case aS => exact (below_size (k4_ HB GE447 GE448 GE449 GE450))); (case aL => have := LMc53.out; omega); intro v458 w58 ho hb hg hat; rw [← Ny457.out] at ho; have n0_ := Aside0.mk (blk_grown (g := gb447) (o := .cells #[.int .i16 a0_0, .int .i16 a0_1] 43 (0, 0)) (kb_ BK447) hg (Kd.R_away HO455.out (fun _ hk => hk.1.1.1.2))); have n1_ := Aside0.mk (blk_grown (g := gb448) (o := .cells #[.int .i16 a1_0, .int .i16 a1_1] 43 (0, 0)) (kb_ BK448) hg (Kd.R_away HO455.out (fun _ hk => hk.1.1.2))); have n2_ := Aside0.mk (blk_grown (g := gb449) (o := .cells #[.int .i16 a2_0, .int .i16 a2_1] 43 (0, 0)) (kb_ BK449) hg (Kd.R_away HO455.out (fun _ hk => hk.1.2))); have n3_ := Aside0.mk (blk_grown (g := gb450) (o := .cells #[.int .i16 a3_0, .int .i16 a3_1] 43 (0, 0)) (kb_ BK450) hg (Kd.R_away HO455.out (fun _ hk => hk.2))); have n4_ := Aside0.mk (hb); have n5_ := Aside0.mk (ho); clear BK447; clear BK448; clear BK449; clear BK450; clear HB; clear HO455; have BK447 := n0_; have BK448 := n1_; have BK449 := n2_; have BK450 := n3_; have HB := n4_; have HO459 := n5_; clear n0_ n1_ n2_ n3_ n4_ n5_; clear ho hb hg hat))
   repeat (go_quiet (fail); try go_wp2)
   go_meet
   case rel => exact ⟨_, (y457), H', ⟨by have := HJ4.out; first | omega | exact Nat.le_refl _⟩, ⟨kp_ HO459⟩, ⟨bk_ BK447⟩, ⟨bk_ BK448⟩, ⟨bk_ BK449⟩, ⟨bk_ BK450⟩, ⟨bl_ HB⟩⟩
  case rest =>
   clear HC39
   obtain ⟨kq, x9_38, HA, HJ38, HO_9, BK447, BK448, BK449, BK450, HB⟩ := hcut
   rcases kq with _ | kj38
   · exact absurd HA.out (by simp [spec_l03Seam.j1])
   have H := HA.out
   clear HA
   simp only [spec_l03Seam.j1] at H
   replace H := Option.bind_eq_some_iff.mp H
   obtain ⟨t460, A590, H⟩ := H
   (try dsimp only at H)
   have A59 := Aside0.mk A590
   clear A590
   have HC60 := Aside0.mk H
   clear H
   have hnb61 := NB448_447.out
   have hnc61 := NB447_448.out
   have hnb62 := NB448_449.out
   have hnc62 := NB449_448.out
   have hnb63 := NB448_450.out
   have hnc63 := NB450_448.out
   obtain ⟨⟨hcz64_0, hcz64_1⟩, hfz64_0, hfz64_1⟩ := bq_ BK448
   have hnb65 := NB449_447.out
   have hnc65 := NB447_449.out
   have hnb66 := NB449_450.out
   have hnc66 := NB450_449.out
   obtain ⟨⟨hcz67_0, hcz67_1⟩, hfz67_0, hfz67_1⟩ := bq_ BK449
   have hnb68 := NB450_447.out
   have hnc68 := NB447_450.out
   obtain ⟨⟨hcz69_0, hcz69_1⟩, hfz69_0, hfz69_1⟩ := bq_ BK450
   go_upto_if 39 with (first | (go_at_call 67; (with_reducible refine (spec_l03Between.calls a1_0 a1_1 a2_0 a2_1 a3_0 a3_1 t460 _ A59.out).mono ?_); rintro e w70 ⟨rfl, hb⟩; replace HO_9 := Aside0.mk (Kd.R_below (kp_ HO_9) hb); replace BK447 := bd_ BK447 hb; replace BK448 := bd_ BK448 hb; replace BK449 := bd_ BK449 hb; replace BK450 := bd_ BK450 hb; replace HB := bs_ HB hb; clear hb))
   repeat (go_quiet (fail); try go_wp2)
   (try simp only [Act.put, List.setIfInBounds_toArray, List.set_cons_zero, List.set_cons_succ])
   go_cut [9] (fun v9 wc => ∃ (kq : Nat) (x9_59 : List (S43)), Aside0 (spec_l03Seam.j2 kq x9_59 a0_0 a0_1 a1_0 a1_1 a2_0 a2_1 a3_0 a3_1 = some r) ∧ Aside0 (kq ≤ kj38) ∧ Aside0 (Kd.R k43 43 wc w.heap.size (fun k_ => k_ ≠ gb447 ∧ k_ ≠ gb448 ∧ k_ ≠ gb449 ∧ k_ ≠ gb450) v9 x9_59) ∧ Aside0 (wc.heap[gb447]? = some (.cells #[.int .i16 a0_0, .int .i16 a0_1] 43 (0, 0))) ∧ Aside0 (wc.heap[gb448]? = some (.cells #[.int .i16 a1_0, .int .i16 a1_1] 43 (0, 0))) ∧ Aside0 (wc.heap[gb449]? = some (.cells #[.int .i16 a2_0, .int .i16 a2_1] 43 (0, 0))) ∧ Aside0 (wc.heap[gb450]? = some (.cells #[.int .i16 a3_0, .int .i16 a3_1] 43 (0, 0))) ∧ Aside0 (Below w.heap.size w wc))
   case first =>
    have H := HC60.out
    clear HC60
    rcases (Decidable.em (t460 = true)).symm with c71 | c71
    ·
     replace c71 := Bool.eq_false_iff.mpr c71
     subst c71
     replace H := gf_ H
     have H' := Aside0.mk H
     clear H
     go_wp2
     repeat (go_quiet (fail); try go_wp2)
     go_meet
     case rel => exact ⟨_, (x9_38), H', ⟨by have := HJ4.out; have := HJ38.out; first | omega | exact Nat.le_refl _⟩, ⟨kp_ HO_9⟩, ⟨bk_ BK447⟩, ⟨bk_ BK448⟩, ⟨bk_ BK449⟩, ⟨bk_ BK450⟩, ⟨bl_ HB⟩⟩
    subst c71
    replace H := gt_ H
    obtain ⟨(c72 : x9_38.length < 35184372088832), H⟩ := gd_ H
    have LMc72 := Aside0.mk c72
    clear c72
    obtain ⟨y461, hy461⟩ : ∃ y_ : List (S43), y_ = (x9_38 ++ [(⟨a1_0, a1_1⟩ : S43)]) := ⟨_, rfl⟩
    replace H : (spec_l03Seam.j2 kj38 y461 a0_0 a0_1 a1_0 a1_1 a2_0 a2_1 a3_0 a3_1) = some r := by first | (rw [hy461]; with_reducible exact H) | (have H2_ := (Option.bind_some _ _).symm.trans H; rw [hy461]; with_reducible exact H2_) | (have H2_ := (Option.bind_some _ _).symm.trans H; with_reducible exact H2_) | with_reducible exact H | (rw [hy461]; exact H) | exact H
    have Ny461 := Aside0.mk hy461
    clear hy461
    have H' := Aside0.mk H
    clear H
    have hnb73 := NB448_447.out
    have hnc73 := NB447_448.out
    have hnb74 := NB448_449.out
    have hnc74 := NB449_448.out
    have hnb75 := NB448_450.out
    have hnc75 := NB450_448.out
    obtain ⟨⟨hcz76_0, hcz76_1⟩, hfz76_0, hfz76_1⟩ := bq_ BK448
    go_wp2_with (first | ((with_reducible refine gate_builtin (b := .append) (xs := #[.tmp 40, .tmp 42]) rfl ?_); at_builtin; refine Kd.R_append k43 (w0 := w) w.heap.size rfl (.tmp 40) (.tmp 42) 35 43 (.agg #[(.int .i16 0), (.int .i16 0)]) 4 rfl Try.underlying35 info43 rfl (by decide) (by omega) u9 x9_38 (⟨a1_0, a1_1⟩ : S43) [.int .i16 a1_0, .int .i16 a1_1] (fun k_ => k_ ≠ gb447 ∧ k_ ≠ gb448 ∧ k_ ≠ gb449 ∧ k_ ≠ gb450) (fun _ => False) rfl rfl ?aP (fun _ hk => hk.elim) ?aF ?aO ?aB ?aS ?aL ?_; (case aP => exact k43_mkM _ _ _ (⟨a1_0, a1_1⟩ : S43)); (case aB => exact (k4_ HB GE447 GE448 GE449 GE450)); (case aF => exact (fun k_ hk => ⟨Kd.freshB (g := gb447) (o := .cells #[.int .i16 a0_0, .int .i16 a0_1] 43 (0, 0)) (kb_ BK447) k_ hk, Kd.freshB (g := gb448) (o := .cells #[.int .i16 a1_0, .int .i16 a1_1] 43 (0, 0)) (kb_ BK448) k_ hk, Kd.freshB (g := gb449) (o := .cells #[.int .i16 a2_0, .int .i16 a2_1] 43 (0, 0)) (kb_ BK449) k_ hk, Kd.freshB (g := gb450) (o := .cells #[.int .i16 a3_0, .int .i16 a3_1] 43 (0, 0)) (kb_ BK450) k_ hk⟩)); (case aO => exact (kp_ HO_9)); (case aS => exact (below_size (k4_ HB GE447 GE448 GE449 GE450))); (case aL => have := LMc72.out; omega); intro v462 w77 ho hb hg hat; rw [← Ny461.out] at ho; have n0_ := Aside0.mk (blk_grown (g := gb447) (o := .cells #[.int .i16 a0_0, .int .i16 a0_1] 43 (0, 0)) (kb_ BK447) hg (Kd.R_away HO_9.out (fun _ hk => hk.1))); have n1_ := Aside0.mk (blk_grown (g := gb448) (o := .cells #[.int .i16 a1_0, .int .i16 a1_1] 43 (0, 0)) (kb_ BK448) hg (Kd.R_away HO_9.out (fun _ hk => hk.2.1))); have n2_ := Aside0.mk (blk_grown (g := gb449) (o := .cells #[.int .i16 a2_0, .int .i16 a2_1] 43 (0, 0)) (kb_ BK449) hg (Kd.R_away HO_9.out (fun _ hk => hk.2.2.1))); have n3_ := Aside0.mk (blk_grown (g := gb450) (o := .cells #[.int .i16 a3_0, .int .i16 a3_1] 43 (0, 0)) (kb_ BK450) hg (Kd.R_away HO_9.out (fun _ hk => hk.2.2.2))); have n4_ := Aside0.mk (hb); have n5_ := Aside0.mk (ho); clear BK447; clear BK448; clear BK449; clear BK450; clear HB; clear HO_9; have BK447 := n0_; have BK448 := n1_; have BK449 := n2_; have BK450 := n3_; have HB := n4_; have HO463 := n5_; clear n0_ n1_ n2_ n3_ n4_ n5_; clear ho hb hg hat))
    repeat (go_quiet (fail); try go_wp2)
    go_meet
    case rel => exact ⟨_, (y461), H', ⟨by have := HJ4.out; have := HJ38.out; first | omega | exact Nat.le_refl _⟩, ⟨kp_ HO463⟩, ⟨bk_ BK447⟩, ⟨bk_ BK448⟩, ⟨bk_ BK449⟩, ⟨bk_ BK450⟩, ⟨bl_ HB⟩⟩
   case rest =>
    clear HC60
    obtain ⟨kq, x9_59, HA, HJ59, HO_9, BK447, BK448, BK449, BK450, HB⟩ := hcut
    rcases kq with _ | kj59
    · exact absurd HA.out (by simp [spec_l03Seam.j2])
    have H := HA.out
    clear HA
    simp only [spec_l03Seam.j2] at H
    replace H := Option.bind_eq_some_iff.mp H
    obtain ⟨t464, A780, H⟩ := H
    (try dsimp only at H)
    have A78 := Aside0.mk A780
    clear A780
    have HC79 := Aside0.mk H
    clear H
    have hnb80 := NB449_447.out
    have hnc80 := NB447_449.out
    have hnb81 := NB449_448.out
    have hnc81 := NB448_449.out
    have hnb82 := NB449_450.out
    have hnc82 := NB450_449.out
    obtain ⟨⟨hcz83_0, hcz83_1⟩, hfz83_0, hfz83_1⟩ := bq_ BK449
    have hnb84 := NB447_448.out
    have hnc84 := NB448_447.out
    have hnb85 := NB447_450.out
    have hnc85 := NB450_447.out
    obtain ⟨⟨hcz86_0, hcz86_1⟩, hfz86_0, hfz86_1⟩ := bq_ BK447
    have hnb87 := NB448_450.out
    have hnc87 := NB450_448.out
    obtain ⟨⟨hcz88_0, hcz88_1⟩, hfz88_0, hfz88_1⟩ := bq_ BK448
    go_upto_if 47 with (first | (go_at_call 67; (with_reducible refine (spec_l03Between.calls a2_0 a2_1 a0_0 a0_1 a1_0 a1_1 t464 _ A78.out).mono ?_); rintro e w89 ⟨rfl, hb⟩; replace HO_9 := Aside0.mk (Kd.R_below (kp_ HO_9) hb); replace BK447 := bd_ BK447 hb; replace BK448 := bd_ BK448 hb; replace BK449 := bd_ BK449 hb; replace BK450 := bd_ BK450 hb; replace HB := bs_ HB hb; clear hb))
    repeat (go_quiet (fail); try go_wp2)
    (try simp only [Act.put, List.setIfInBounds_toArray, List.set_cons_zero, List.set_cons_succ])
    go_cut [9] (fun v9 wc => ∃ (kq : Nat) (x9_78 : List (S43)), Aside0 (spec_l03Seam.j3 kq x9_78 a0_0 a0_1 a1_0 a1_1 a3_0 a3_1 = some r) ∧ Aside0 (kq ≤ kj59) ∧ Aside0 (Kd.R k43 43 wc w.heap.size (fun k_ => k_ ≠ gb447 ∧ k_ ≠ gb448 ∧ k_ ≠ gb449 ∧ k_ ≠ gb450) v9 x9_78) ∧ Aside0 (wc.heap[gb447]? = some (.cells #[.int .i16 a0_0, .int .i16 a0_1] 43 (0, 0))) ∧ Aside0 (wc.heap[gb448]? = some (.cells #[.int .i16 a1_0, .int .i16 a1_1] 43 (0, 0))) ∧ Aside0 (wc.heap[gb449]? = some (.cells #[.int .i16 a2_0, .int .i16 a2_1] 43 (0, 0))) ∧ Aside0 (wc.heap[gb450]? = some (.cells #[.int .i16 a3_0, .int .i16 a3_1] 43 (0, 0))) ∧ Aside0 (Below w.heap.size w wc))
    case first =>
     have H := HC79.out
     clear HC79
     rcases (Decidable.em (t464 = true)).symm with c90 | c90
     ·
      replace c90 := Bool.eq_false_iff.mpr c90
      subst c90
      replace H := gf_ H
      have H' := Aside0.mk H
      clear H
      go_wp2
      repeat (go_quiet (fail); try go_wp2)
      go_meet
      case rel => exact ⟨_, (x9_59), H', ⟨by have := HJ4.out; have := HJ38.out; have := HJ59.out; first | omega | exact Nat.le_refl _⟩, ⟨kp_ HO_9⟩, ⟨bk_ BK447⟩, ⟨bk_ BK448⟩, ⟨bk_ BK449⟩, ⟨bk_ BK450⟩, ⟨bl_ HB⟩⟩
     subst c90
     replace H := gt_ H
     obtain ⟨(c91 : x9_59.length < 35184372088832), H⟩ := gd_ H
     have LMc91 := Aside0.mk c91
     clear c91
     obtain ⟨y465, hy465⟩ : ∃ y_ : List (S43), y_ = (x9_59 ++ [(⟨a2_0, a2_1⟩ : S43)]) := ⟨_, rfl⟩
     replace H : (spec_l03Seam.j3 kj59 y465 a0_0 a0_1 a1_0 a1_1 a3_0 a3_1) = some r := by first | (rw [hy465]; with_reducible exact H) | (have H2_ := (Option.bind_some _ _).symm.trans H; rw [hy465]; with_reducible exact H2_) | (have H2_ := (Option.bind_some _ _).symm.trans H; with_reducible exact H2_) | with_reducible exact H | (rw [hy465]; exact H) | exact H
     have Ny465 := Aside0.mk hy465
     clear hy465
     have H' := Aside0.mk H
     clear H
     have hnb92 := NB449_447.out
     have hnc92 := NB447_449.out
     have hnb93 := NB449_448.out
     have hnc93 := NB448_449.out
     have hnb94 := NB449_450.out
     have hnc94 := NB450_449.out
     obtain ⟨⟨hcz95_0, hcz95_1⟩, hfz95_0, hfz95_1⟩ := bq_ BK449
     go_wp2_with (first | ((with_reducible refine gate_builtin (b := .append) (xs := #[.tmp 48, .tmp 50]) rfl ?_); at_builtin; refine Kd.R_append k43 (w0 := w) w.heap.size rfl (.tmp 48) (.tmp 50) 35 43 (.agg #[(.int .i16 0), (.int .i16 0)]) 4 rfl Try.underlying35 info43 rfl (by decide) (by omega) u9 x9_59 (⟨a2_0, a2_1⟩ : S43) [.int .i16 a2_0, .int .i16 a2_1] (fun k_ => k_ ≠ gb447 ∧ k_ ≠ gb448 ∧ k_ ≠ gb449 ∧ k_ ≠ gb450) (fun _ => False) rfl rfl ?aP (fun _ hk => hk.elim) ?aF ?aO ?aB ?aS ?aL ?_; (case aP => exact k43_mkM _ _ _ (⟨a2_0, a2_1⟩ : S43)); (case aB => exact (k4_ HB GE447 GE448 GE449 GE450)); (case aF => exact (fun k_ hk => ⟨Kd.freshB (g := gb447) (o := .cells #[.int .i16 a0_0, .int .i16 a0_1] 43 (0, 0)) (kb_ BK447) k_ hk, Kd.freshB (g := gb448) (o := .cells #[.int .i16 a1_0, .int .i16 a1_1] 43 (0, 0)) (kb_ BK448) k_ hk, Kd.freshB (g := gb449) (o := .cells #[.int .i16 a2_0, .int .i16 a2_1] 43 (0, 0)) (kb_ BK449) k_ hk, Kd.freshB (g := gb450) (o := .cells #[.int .i16 a3_0, .int .i16 a3_1] 43 (0, 0)) (kb_ BK450) k_ hk⟩)); (case aO => exact (kp_ HO_9)); (case aS => exact (below_size (k4_ HB GE447 GE448 GE449 GE450))); (case aL => have := LMc91.out; omega); intro v466 w96 ho hb hg hat; rw [← Ny465.out] at ho; have n0_ := Aside0.mk (blk_grown (g := gb447) (o := .cells #[.int .i16 a0_0, .int .i16 a0_1] 43 (0, 0)) (kb_ BK447) hg (Kd.R_away HO_9.out (fun _ hk => hk.1))); have n1_ := Aside0.mk (blk_grown (g := gb448) (o := .cells #[.int .i16 a1_0, .int .i16 a1_1] 43 (0, 0)) (kb_ BK448) hg (Kd.R_away HO_9.out (fun _ hk => hk.2.1))); have n2_ := Aside0.mk (blk_grown (g := gb449) (o := .cells #[.int .i16 a2_0, .int .i16 a2_1] 43 (0, 0)) (kb_ BK449) hg (Kd.R_away HO_9.out (fun _ hk => hk.2.2.1))); have n3_ := Aside0.mk (blk_grown (g := gb450) (o := .cells #[.int .i16 a3_0, .int .i16 a3_1] 43 (0, 0)) (kb_ BK450) hg (Kd.R_away HO_9.out (fun _ hk => hk.2.2.2))); have n4_ := Aside0.mk (hb); have n5_ := Aside0.mk (ho); clear BK447; clear BK448; clear BK449; clear BK450; clear HB; clear HO_9; have BK447 := n0_; have BK448 := n1_; have BK449 := n2_; have BK450 := n3_; have HB := n4_; have HO467 := n5_; clear n0_ n1_ n2_ n3_ n4_ n5_; clear ho hb hg hat))
     repeat (go_quiet (fail); try go_wp2)
     go_meet
     case rel => exact ⟨_, (y465), H', ⟨by have := HJ4.out; have := HJ38.out; have := HJ59.out; first | omega | exact Nat.le_refl _⟩, ⟨kp_ HO467⟩, ⟨bk_ BK447⟩, ⟨bk_ BK448⟩, ⟨bk_ BK449⟩, ⟨bk_ BK450⟩, ⟨bl_ HB⟩⟩
    case rest =>
     clear HC79
     obtain ⟨kq, x9_78, HA, HJ78, HO_9, BK447, BK448, BK449, BK450, HB⟩ := hcut
     rcases kq with _ | kj78
     · exact absurd HA.out (by simp [spec_l03Seam.j3])
     have H := HA.out
     clear HA
     simp only [spec_l03Seam.j3] at H
     replace H := Option.bind_eq_some_iff.mp H
     obtain ⟨t468, A970, H⟩ := H
     (try dsimp only at H)
     have A97 := Aside0.mk A970
     clear A970
     have HC98 := Aside0.mk H
     clear H
     have hnb99 := NB450_447.out
     have hnc99 := NB447_450.out
     have hnb100 := NB450_448.out
     have hnc100 := NB448_450.out
     have hnb101 := NB450_449.out
     have hnc101 := NB449_450.out
     obtain ⟨⟨hcz102_0, hcz102_1⟩, hfz102_0, hfz102_1⟩ := bq_ BK450
     have hnb103 := NB447_448.out
     have hnc103 := NB448_447.out
     have hnb104 := NB447_449.out
     have hnc104 := NB449_447.out
     obtain ⟨⟨hcz105_0, hcz105_1⟩, hfz105_0, hfz105_1⟩ := bq_ BK447
     have hnb106 := NB448_449.out
     have hnc106 := NB449_448.out
     obtain ⟨⟨hcz107_0, hcz107_1⟩, hfz107_0, hfz107_1⟩ := bq_ BK448
     go_upto_if 55 with (first | (go_at_call 67; (with_reducible refine (spec_l03Between.calls a3_0 a3_1 a0_0 a0_1 a1_0 a1_1 t468 _ A97.out).mono ?_); rintro e w108 ⟨rfl, hb⟩; replace HO_9 := Aside0.mk (Kd.R_below (kp_ HO_9) hb); replace BK447 := bd_ BK447 hb; replace BK448 := bd_ BK448 hb; replace BK449 := bd_ BK449 hb; replace BK450 := bd_ BK450 hb; replace HB := bs_ HB hb; clear hb))
     repeat (go_quiet (fail); try go_wp2)
     (try simp only [Act.put, List.setIfInBounds_toArray, List.set_cons_zero, List.set_cons_succ])
     go_cut [9] (fun v9 wc => ∃ (kq : Nat) (x9_97 : List (S43)), Aside0 (spec_l03Seam.j4 kq x9_97 = some r) ∧ Aside0 (kq ≤ kj78) ∧ Aside0 (Kd.R k43 43 wc w.heap.size (fun k_ => k_ ≠ gb447 ∧ k_ ≠ gb448 ∧ k_ ≠ gb449 ∧ k_ ≠ gb450) v9 x9_97) ∧ Aside0 (wc.heap[gb447]? = some (.cells #[.int .i16 a0_0, .int .i16 a0_1] 43 (0, 0))) ∧ Aside0 (wc.heap[gb448]? = some (.cells #[.int .i16 a1_0, .int .i16 a1_1] 43 (0, 0))) ∧ Aside0 (wc.heap[gb449]? = some (.cells #[.int .i16 a2_0, .int .i16 a2_1] 43 (0, 0))) ∧ Aside0 (wc.heap[gb450]? = some (.cells #[.int .i16 a3_0, .int .i16 a3_1] 43 (0, 0))) ∧ Aside0 (Below w.heap.size w wc))
     case first =>
      have H := HC98.out
      clear HC98
      rcases (Decidable.em (t468 = true)).symm with c109 | c109
      ·
       replace c109 := Bool.eq_false_iff.mpr c109
       subst c109
       replace H := gf_ H
       have H' := Aside0.mk H
       clear H
       go_wp2
       repeat (go_quiet (fail); try go_wp2)
       go_meet
       case rel => exact ⟨_, (x9_78), H', ⟨by have := HJ4.out; have := HJ38.out; have := HJ59.out; have := HJ78.out; first | omega | exact Nat.le_refl _⟩, ⟨kp_ HO_9⟩, ⟨bk_ BK447⟩, ⟨bk_ BK448⟩, ⟨bk_ BK449⟩, ⟨bk_ BK450⟩, ⟨bl_ HB⟩⟩
      subst c109
      replace H := gt_ H
      obtain ⟨(c110 : x9_78.length < 35184372088832), H⟩ := gd_ H
      have LMc110 := Aside0.mk c110
      clear c110
      obtain ⟨y469, hy469⟩ : ∃ y_ : List (S43), y_ = (x9_78 ++ [(⟨a3_0, a3_1⟩ : S43)]) := ⟨_, rfl⟩
      replace H : (spec_l03Seam.j4 kj78 y469) = some r := by first | (rw [hy469]; with_reducible exact H) | (have H2_ := (Option.bind_some _ _).symm.trans H; rw [hy469]; with_reducible exact H2_) | (have H2_ := (Option.bind_some _ _).symm.trans H; with_reducible exact H2_) | with_reducible exact H | (rw [hy469]; exact H) | exact H
      have Ny469 := Aside0.mk hy469
      clear hy469
      have H' := Aside0.mk H
      clear H
      have hnb111 := NB450_447.out
      have hnc111 := NB447_450.out
      have hnb112 := NB450_448.out
      have hnc112 := NB448_450.out
      have hnb113 := NB450_449.out
      have hnc113 := NB449_450.out
      obtain ⟨⟨hcz114_0, hcz114_1⟩, hfz114_0, hfz114_1⟩ := bq_ BK450
      go_wp2_with (first | ((with_reducible refine gate_builtin (b := .append) (xs := #[.tmp 56, .tmp 58]) rfl ?_); at_builtin; refine Kd.R_append k43 (w0 := w) w.heap.size rfl (.tmp 56) (.tmp 58) 35 43 (.agg #[(.int .i16 0), (.int .i16 0)]) 4 rfl Try.underlying35 info43 rfl (by decide) (by omega) u9 x9_78 (⟨a3_0, a3_1⟩ : S43) [.int .i16 a3_0, .int .i16 a3_1] (fun k_ => k_ ≠ gb447 ∧ k_ ≠ gb448 ∧ k_ ≠ gb449 ∧ k_ ≠ gb450) (fun _ => False) rfl rfl ?aP (fun _ hk => hk.elim) ?aF ?aO ?aB ?aS ?aL ?_; (case aP => exact k43_mkM _ _ _ (⟨a3_0, a3_1⟩ : S43)); (case aB => exact (k4_ HB GE447 GE448 GE449 GE450)); (case aF => exact (fun k_ hk => ⟨Kd.freshB (g := gb447) (o := .cells #[.int .i16 a0_0, .int .i16 a0_1] 43 (0, 0)) (kb_ BK447) k_ hk, Kd.freshB (g := gb448) (o := .cells #[.int .i16 a1_0, .int .i16 a1_1] 43 (0, 0)) (kb_ BK448) k_ hk, Kd.freshB (g := gb449) (o := .cells #[.int .i16 a2_0, .int .i16 a2_1] 43 (0, 0)) (kb_ BK449) k_ hk, Kd.freshB (g := gb450) (o := .cells #[.int .i16 a3_0, .int .i16 a3_1] 43 (0, 0)) (kb_ BK450) k_ hk⟩)); (case aO => exact (kp_ HO_9)); (case aS => exact (below_size (k4_ HB GE447 GE448 GE449 GE450))); (case aL => have := LMc110.out; omega); intro v470 w115 ho hb hg hat; rw [← Ny469.out] at ho; have n0_ := Aside0.mk (blk_grown (g := gb447) (o := .cells #[.int .i16 a0_0, .int .i16 a0_1] 43 (0, 0)) (kb_ BK447) hg (Kd.R_away HO_9.out (fun _ hk => hk.1))); have n1_ := Aside0.mk (blk_grown (g := gb448) (o := .cells #[.int .i16 a1_0, .int .i16 a1_1] 43 (0, 0)) (kb_ BK448) hg (Kd.R_away HO_9.out (fun _ hk => hk.2.1))); have n2_ := Aside0.mk (blk_grown (g := gb449) (o := .cells #[.int .i16 a2_0, .int .i16 a2_1] 43 (0, 0)) (kb_ BK449) hg (Kd.R_away HO_9.out (fun _ hk => hk.2.2.1))); have n3_ := Aside0.mk (blk_grown (g := gb450) (o := .cells #[.int .i16 a3_0, .int .i16 a3_1] 43 (0, 0)) (kb_ BK450) hg (Kd.R_away HO_9.out (fun _ hk => hk.2.2.2))); have n4_ := Aside0.mk (hb); have n5_ := Aside0.mk (ho); clear BK447; clear BK448; clear BK449; clear BK450; clear HB; clear HO_9; have BK447 := n0_; have BK448 := n1_; have BK449 := n2_; have BK450 := n3_; have HB := n4_; have HO471 := n5_; clear n0_ n1_ n2_ n3_ n4_ n5_; clear ho hb hg hat))
      repeat (go_quiet (fail); try go_wp2)
      go_meet
      case rel => exact ⟨_, (y469), H', ⟨by have := HJ4.out; have := HJ38.out; have := HJ59.out; have := HJ78.out; first | omega | exact Nat.le_refl _⟩, ⟨kp_ HO471⟩, ⟨bk_ BK447⟩, ⟨bk_ BK448⟩, ⟨bk_ BK449⟩, ⟨bk_ BK450⟩, ⟨bl_ HB⟩⟩
     case rest =>
      clear HC98
      obtain ⟨kq, x9_97, HA, HJ97, HO_9, BK447, BK448, BK449, BK450, HB⟩ := hcut
      rcases kq with _ | kj97
      · exact absurd HA.out (by simp [spec_l03Seam.j4])
      have H := HA.out
      clear HA
      simp only [spec_l03Seam.j4] at H
      have H' := Aside0.mk H
      clear H
      go_wp2
      repeat (go_quiet (fail); try go_wp2)
      go_loopg [10, 11] kj97 (fun kq v10 v11 w' => ∃ (x10_6 : Int) (x11_6 : Int), v10 = .int .i64 x10_6 ∧ v11 = .int .i64 x11_6 ∧ Aside0 (spec_l03Seam.l0 kq x9_97 x10_6 x11_6 = some r) ∧ Aside0 (kq ≤ kj97) ∧ Aside0 (Kd.R k43 43 w' w.heap.size (fun k_ => k_ ≠ gb447 ∧ k_ ≠ gb448 ∧ k_ ≠ gb449 ∧ k_ ≠ gb450) u9 x9_97) ∧ Aside0 (w'.heap[gb447]? = some (.cells #[.int .i16 a0_0, .int .i16 a0_1] 43 (0, 0))) ∧ Aside0 (w'.heap[gb448]? = some (.cells #[.int .i16 a1_0, .int .i16 a1_1] 43 (0, 0))) ∧ Aside0 (w'.heap[gb449]? = some (.cells #[.int .i16 a2_0, .int .i16 a2_1] 43 (0, 0))) ∧ Aside0 (w'.heap[gb450]? = some (.cells #[.int .i16 a3_0, .int .i16 a3_1] 43 (0, 0))) ∧ Aside0 (Below w.heap.size w w'))
      case atStart => exact ⟨(0), (0), (by first | rfl | (simp; done) | (simp [*]; done)), (by first | rfl | (simp; done) | (simp [*]; done)), H', ⟨Nat.le_refl _⟩, ⟨kp_ HO_9⟩, ⟨bk_ BK447⟩, ⟨bk_ BK448⟩, ⟨bk_ BK449⟩, ⟨bk_ BK450⟩, ⟨bl_ HB⟩⟩
      case round =>
       clear H'
       obtain ⟨x10_6, x11_6, rfl, rfl, HA, HK6, HO_9, BK447, BK448, BK449, BK450, HB⟩ := hrel
       rcases gk with _ | k6
       · exact absurd HA.out (by simp [spec_l03Seam.l0])
       have H := HA.out
       clear HA
       simp only [spec_l03Seam.l0] at H
       rcases (Decidable.em (x11_6 < (x9_97.length : Int))).symm with c116 | c116
       ·
        rw [if_neg c116] at H
        have c116b0 : decide (x11_6 < (x9_97.length : Int)) = false := decide_eq_false c116
        clear c116
        obtain rfl := Option.some.inj H
        obtain ⟨Ao124, co124, eo124⟩ := Kd.R_slice HO_9.out
        subst eo124
        go_wp2
        repeat (go_quiet (fail); try go_wp2)
        go_ret
        exact ⟨rt_, bl_ HB⟩

       rw [if_pos c116] at H
       have c116b0 : decide (x11_6 < (x9_97.length : Int)) = true := decide_eq_true c116
       clear c116
       have H' := Aside0.mk H
       clear H
       obtain ⟨Ao117, co117, eo117⟩ := Kd.R_slice HO_9.out
       subst eo117
       go_wp2
       repeat (go_quiet (fail); try go_wp2)
       go_loopg [10, 12] k6 (fun kq v10 v12 w' => ∃ (x10_7 : Int) (x12_7 : Int), v10 = .int .i64 x10_7 ∧ v12 = .int .i64 x12_7 ∧ Aside0 (spec_l03Seam.l1 kq x9_97 x10_7 x11_6 x12_7 = some r) ∧ Aside0 (kq ≤ k6) ∧ Aside0 (Kd.R k43 43 w' w.heap.size (fun k_ => k_ ≠ gb447 ∧ k_ ≠ gb448 ∧ k_ ≠ gb449 ∧ k_ ≠ gb450) (.slice Ao117 x9_97.length co117) x9_97) ∧ Aside0 (w'.heap[gb447]? = some (.cells #[.int .i16 a0_0, .int .i16 a0_1] 43 (0, 0))) ∧ Aside0 (w'.heap[gb448]? = some (.cells #[.int .i16 a1_0, .int .i16 a1_1] 43 (0, 0))) ∧ Aside0 (w'.heap[gb449]? = some (.cells #[.int .i16 a2_0, .int .i16 a2_1] 43 (0, 0))) ∧ Aside0 (w'.heap[gb450]? = some (.cells #[.int .i16 a3_0, .int .i16 a3_1] 43 (0, 0))) ∧ Aside0 (Below w.heap.size w w'))
       case atStart => exact ⟨(x10_6), (0), (by first | rfl | (simp; done) | (simp [*]; done)), (by first | rfl | (simp; done) | (simp [*]; done)), H', ⟨Nat.le_refl _⟩, ⟨kp_ HO_9⟩, ⟨bk_ BK447⟩, ⟨bk_ BK448⟩, ⟨bk_ BK449⟩, ⟨bk_ BK450⟩, ⟨bl_ HB⟩⟩
       case round =>
        clear H'
        obtain ⟨x10_7, x12_7, rfl, rfl, HA, HK7, HO_9, BK447, BK448, BK449, BK450, HB⟩ := hrel
        rcases gk with _ | k7
        · exact absurd HA.out (by simp [spec_l03Seam.l1])
        have H := HA.out
        clear HA
        simp only [spec_l03Seam.l1] at H
        rcases (Decidable.em (x12_7 < x11_6)).symm with c118 | c118
        ·
         rw [if_neg c118] at H
         have c118b0 : decide (x12_7 < x11_6) = false := decide_eq_false c118
         clear c118
         have H' := Aside0.mk H
         clear H
         go_wp2
         repeat (go_quiet (fail); try go_wp2)
         go_roundg k7
         case measure => have := HJ4.out; have := HJ38.out; have := HJ59.out; have := HJ78.out; have := HJ97.out; have := HK6.out; have := HK7.out; omega
         case rel => exact ⟨(x10_7), (wrap64 (x11_6 + 1)), (by first | rfl | (simp; done) | (simp [*]; done)), (by first | rfl | (simp; done) | (simp [*]; done)), H', ⟨by have := HJ4.out; have := HJ38.out; have := HJ59.out; have := HJ78.out; have := HJ97.out; have := HK6.out; have := HK7.out; omega⟩, ⟨kp_ HO_9⟩, ⟨bk_ BK447⟩, ⟨bk_ BK448⟩, ⟨bk_ BK449⟩, ⟨bk_ BK450⟩, ⟨bl_ HB⟩⟩
        rw [if_pos c118] at H
        have c118b0 : decide (x12_7 < x11_6) = true := decide_eq_true c118
        clear c118
        obtain ⟨(c119 : 0 ≤ x11_6), H⟩ := gd_ H
        have c119b0 : decide (0 ≤ x11_6) = true := decide_eq_true c119
        clear c119
        obtain ⟨(c120 : x11_6 < (x9_97.length : Int)), H⟩ := gd_ H
        have c120b0 : decide (x11_6 < (x9_97.length : Int)) = true := decide_eq_true c120
        clear c120
        obtain ⟨(c121 : 0 ≤ x12_7), H⟩ := gd_ H
        have c121b0 : decide (0 ≤ x12_7) = true := decide_eq_true c121
        clear c121
        obtain ⟨(c122 : x12_7 < (x9_97.length : Int)), H⟩ := gd_ H
        have c122b0 : decide (x12_7 < (x9_97.length : Int)) = true := decide_eq_true c122
        clear c122
        replace H := Option.bind_eq_some_iff.mp H
        obtain ⟨t476, A1230, H⟩ := H
        (try dsimp only at H)
        have A123 := Aside0.mk A1230
        clear A1230
        have H' := Aside0.mk H
        clear H
        have p472 : 0 ≤ (x11_6 : Int) := od_
        have q472 : x11_6 < (x9_97.length : Int) := od_
        obtain ⟨ad472, e472, hx472_0, hx472_1⟩ := at_T43 (Kd.R_reads' HO_9.out).2.2 x11_6 p472 q472
        cases e472
        replace p472 := eq_true p472
        replace q472 := eq_true q472
        have p473 : 0 ≤ (x12_7 : Int) := od_
        have q473 : x12_7 < (x9_97.length : Int) := od_
        obtain ⟨ad473, e473, hx473_0, hx473_1⟩ := at_T43 (Kd.R_reads' HO_9.out).2.2 x12_7 p473 q473
        obtain rfl : ad472 = ad473 := (by injection e473)
        replace p473 := eq_true p473
        replace q473 := eq_true q473
        have p474 : 0 ≤ (x11_6 : Int) := od_
        have q474 : x11_6 < (x9_97.length : Int) := od_
        obtain ⟨ad474, e474, hx474_0, hx474_1⟩ := at_T43 (Kd.R_reads' HO_9.out).2.2 x11_6 p474 q474
        obtain rfl : ad472 = ad474 := (by injection e474)
        replace p474 := eq_true p474
        replace q474 := eq_true q474
        have p475 : 0 ≤ (x12_7 : Int) := od_
        have q475 : x12_7 < (x9_97.length : Int) := od_
        obtain ⟨ad475, e475, hx475_0, hx475_1⟩ := at_T43 (Kd.R_reads' HO_9.out).2.2 x12_7 p475 q475
        obtain rfl : ad472 = ad475 := (by injection e475)
        replace p475 := eq_true p475
        replace q475 := eq_true q475
        go_wp2_with (first | (go_at_call 60; (with_reducible refine (spec_l00Max.calls x10_7 (wrap64 ((wrap64 ((wrap64 ((wrap64 ((rd_T43 x9_97 x11_6).f0)) - (wrap64 ((rd_T43 x9_97 x12_7).f0)))) * (wrap64 ((wrap64 ((rd_T43 x9_97 x11_6).f0)) - (wrap64 ((rd_T43 x9_97 x12_7).f0)))))) + (wrap64 ((wrap64 ((wrap64 ((rd_T43 x9_97 x11_6).f1)) - (wrap64 ((rd_T43 x9_97 x12_7).f1)))) * (wrap64 ((wrap64 ((rd_T43 x9_97 x11_6).f1)) - (wrap64 ((rd_T43 x9_97 x12_7).f1)))))))) t476 _ A123.out).mono ?_); rintro e w' ⟨rfl, ⟨nd, rfl⟩⟩; (try first | exact ⟨rfl, _, World.drewN_drewN _ _ _⟩ | exact ⟨rfl, _, Eq.trans (World.drewN_drewN _ _ _) (congrArg (World.drewN _) (Nat.add_assoc _ _ _))⟩)))
        repeat (go_quiet (first | (go_at_call 60; (with_reducible refine (spec_l00Max.calls x10_7 (wrap64 ((wrap64 ((wrap64 ((wrap64 ((rd_T43 x9_97 x11_6).f0)) - (wrap64 ((rd_T43 x9_97 x12_7).f0)))) * (wrap64 ((wrap64 ((rd_T43 x9_97 x11_6).f0)) - (wrap64 ((rd_T43 x9_97 x12_7).f0)))))) + (wrap64 ((wrap64 ((wrap64 ((rd_T43 x9_97 x11_6).f1)) - (wrap64 ((rd_T43 x9_97 x12_7).f1)))) * (wrap64 ((wrap64 ((rd_T43 x9_97 x11_6).f1)) - (wrap64 ((rd_T43 x9_97 x12_7).f1)))))))) t476 _ A123.out).mono ?_); rintro e w' ⟨rfl, ⟨nd, rfl⟩⟩; (try first | exact ⟨rfl, _, World.drewN_drewN _ _ _⟩ | exact ⟨rfl, _, Eq.trans (World.drewN_drewN _ _ _) (congrArg (World.drewN _) (Nat.add_assoc _ _ _))⟩))); try go_wp2_with (first | (go_at_call 60; (with_reducible refine (spec_l00Max.calls x10_7 (wrap64 ((wrap64 ((wrap64 ((wrap64 ((rd_T43 x9_97 x11_6).f0)) - (wrap64 ((rd_T43 x9_97 x12_7).f0)))) * (wrap64 ((wrap64 ((rd_T43 x9_97 x11_6).f0)) - (wrap64 ((rd_T43 x9_97 x12_7).f0)))))) + (wrap64 ((wrap64 ((wrap64 ((rd_T43 x9_97 x11_6).f1)) - (wrap64 ((rd_T43 x9_97 x12_7).f1)))) * (wrap64 ((wrap64 ((rd_T43 x9_97 x11_6).f1)) - (wrap64 ((rd_T43 x9_97 x12_7).f1)))))))) t476 _ A123.out).mono ?_); rintro e w' ⟨rfl, ⟨nd, rfl⟩⟩; (try first | exact ⟨rfl, _, World.drewN_drewN _ _ _⟩ | exact ⟨rfl, _, Eq.trans (World.drewN_drewN _ _ _) (congrArg (World.drewN _) (Nat.add_assoc _ _ _))⟩))))
        go_roundg k7
        case measure => have := HJ4.out; have := HJ38.out; have := HJ59.out; have := HJ78.out; have := HJ97.out; have := HK6.out; have := HK7.out; omega
        case rel => exact ⟨(t476), (wrap64 (x12_7 + 1)), (by first | rfl | (simp; done) | (simp [*]; done)), (by first | rfl | (simp; done) | (simp [*]; done)), H', ⟨by have := HJ4.out; have := HJ38.out; have := HJ59.out; have := HJ78.out; have := HJ97.out; have := HK6.out; have := HK7.out; omega⟩, ⟨kp_ HO_9⟩, ⟨bk_ BK447⟩, ⟨bk_ BK448⟩, ⟨bk_ BK449⟩, ⟨bk_ BK450⟩, ⟨bl_ HB⟩⟩
end Go.Proofs.Ytllfeehchiikoaa.PA
