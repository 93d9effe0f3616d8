/- Pure functions, and that Go's functions come to them. -/
import Derived.Test.YtmglnofmmgokkaaPAx0
import Derived.Test.YtmglnofmmgokkaaPAxf67
import Derived.Test.YtmglnofmmgokkaaPAxm21
import Derived.Test.YtmglnofmmgokkaaPAxgSpec
namespace Go.Proofs.Ytmglnofmmgokkaa.PA
open Go.RowKit Go.Proofs.YtmglnofmmgokkaaW.PrintWords Go.Proofs.YtmglnofmmgokkaaW.PrintLast Go.Proofs.YtmglnofmmgokkaaW.PrintMore
set_option linter.unusedVariables false
set_option linter.unusedSimpArgs false

/-! ### spec_l03Seam: function 60 -/
mutual
def spec_l03Seam.j0 : Nat → Bool → Int → Int → Int → Int → Int → Int → Int → Int → Option (Int)
 | 0, _, _, _, _, _, _, _, _, _ => none
 | k + 1, x26, x307000, x307001, x308000, x308001, x309000, x309001, x310000, x310001 => if x26 = true then (some 0) else ((some (([] : List (S34)) : List (S34))).bind fun y312 => ((spec_l03Between.f x307000 x307001 x309000 x309001 x310000 x310001).bind fun t315 => (if t315 = true then (if y312.length < 35184372088832 then (spec_l03Seam.j1 k (y312 ++ [(⟨x307000, x307001⟩ : S34)]) x307000 x307001 x308000 x308001 x309000 x309001 x310000 x310001) else (none)) else (spec_l03Seam.j1 k y312 x307000 x307001 x308000 x308001 x309000 x309001 x310000 x310001))))
def spec_l03Seam.j1 : Nat → List (S34) → Int → Int → Int → Int → Int → Int → Int → Int → Option (Int)
 | 0, _, _, _, _, _, _, _, _, _ => none
 | k + 1, x9, x307000, x307001, x308000, x308001, x309000, x309001, x310000, x310001 => (spec_l03Between.f x308000 x308001 x309000 x309001 x310000 x310001).bind fun t319 => (if t319 = true then (if x9.length < 35184372088832 then (spec_l03Seam.j2 k (x9 ++ [(⟨x308000, x308001⟩ : S34)]) x307000 x307001 x308000 x308001 x309000 x309001 x310000 x310001) else (none)) else (spec_l03Seam.j2 k x9 x307000 x307001 x308000 x308001 x309000 x309001 x310000 x310001))
def spec_l03Seam.j2 : Nat → List (S34) → Int → Int → Int → Int → Int → Int → Int → Int → Option (Int)
 | 0, _, _, _, _, _, _, _, _, _ => none
 | k + 1, x9, x307000, x307001, x308000, x308001, x309000, x309001, x310000, x310001 => (spec_l03Between.f x309000 x309001 x307000 x307001 x308000 x308001).bind fun t323 => (if t323 = true then (if x9.length < 35184372088832 then (spec_l03Seam.j3 k (x9 ++ [(⟨x309000, x309001⟩ : S34)]) x307000 x307001 x308000 x308001 x310000 x310001) else (none)) else (spec_l03Seam.j3 k x9 x307000 x307001 x308000 x308001 x310000 x310001))
def spec_l03Seam.j3 : Nat → List (S34) → Int → Int → Int → Int → Int → Int → Option (Int)
 | 0, _, _, _, _, _, _, _ => none
 | k + 1, x9, x307000, x307001, x308000, x308001, x310000, x310001 => (spec_l03Between.f x310000 x310001 x307000 x307001 x308000 x308001).bind fun t327 => (if t327 = true then (if x9.length < 35184372088832 then (spec_l03Seam.j4 k (x9 ++ [(⟨x310000, x310001⟩ : S34)])) else (none)) else (spec_l03Seam.j4 k x9))
def spec_l03Seam.j4 : Nat → List (S34) → Option (Int)
 | 0, _ => none
 | k + 1, x9 => spec_l03Seam.l0 k x9 0 0
def spec_l03Seam.l0 : Nat → List (S34) → Int → Int → Option (Int)
 | 0, _, _, _ => none
 | k + 1, x9, x10, x11 => if x11 < (x9.length : Int) then (spec_l03Seam.l1 k x9 x10 x11 0) else (some x10)
def spec_l03Seam.l1 : Nat → List (S34) → Int → Int → Int → Option (Int)
 | 0, _, _, _, _ => none
 | k + 1, x9, x10, x11, x12 => if x12 < x11 then (if 0 ≤ x11 then (if x11 < (x9.length : Int) then (if 0 ≤ x12 then (if x12 < (x9.length : Int) then ((spec_l00Max.f x10 (wrap64 ((wrap64 ((wrap64 ((wrap64 ((rd_T34 x9 x11).f0)) - (wrap64 ((rd_T34 x9 x12).f0)))) * (wrap64 ((wrap64 ((rd_T34 x9 x11).f0)) - (wrap64 ((rd_T34 x9 x12).f0)))))) + (wrap64 ((wrap64 ((wrap64 ((rd_T34 x9 x11).f1)) - (wrap64 ((rd_T34 x9 x12).f1)))) * (wrap64 ((wrap64 ((rd_T34 x9 x11).f1)) - (wrap64 ((rd_T34 x9 x12).f1))))))))).bind fun t335 => (spec_l03Seam.l1 k x9 t335 x11 (wrap64 (x12 + 1)))) else (none)) else (none)) else (none)) else (none)) else (spec_l03Seam.l0 k x9 x10 (wrap64 (x11 + 1)))
end
def spec_l03Seam.f (k : Nat) (a0_0 : Int) (a0_1 : Int) (a1_0 : Int) (a1_1 : Int) (a2_0 : Int) (a2_1 : Int) (a3_0 : Int) (a3_1 : Int) : Option (Int) := (spec_l03Side.f a0_0 a0_1 a1_0 a1_1 a2_0 a2_1).bind fun t310 => (if t310 = 0 then ((spec_l03Side.f a0_0 a0_1 a1_0 a1_1 a3_0 a3_1).bind fun t311 => (spec_l03Seam.j0 k (t311 != 0) a0_0 a0_1 a1_0 a1_1 a2_0 a2_1 a3_0 a3_1)) else (spec_l03Seam.j0 k true a0_0 a0_1 a1_0 a1_1 a2_0 a2_1 a3_0 a3_1))
theorem spec_l03Seam.mono_l : ∀ k, (∀ y0 y1 y2 y3 y4 y5 y6 y7 y8, LeO (spec_l03Seam.j0 k y0 y1 y2 y3 y4 y5 y6 y7 y8) (spec_l03Seam.j0 (k + 1) y0 y1 y2 y3 y4 y5 y6 y7 y8)) ∧ (∀ y0 y1 y2 y3 y4 y5 y6 y7 y8, LeO (spec_l03Seam.j1 k y0 y1 y2 y3 y4 y5 y6 y7 y8) (spec_l03Seam.j1 (k + 1) y0 y1 y2 y3 y4 y5 y6 y7 y8)) ∧ (∀ y0 y1 y2 y3 y4 y5 y6 y7 y8, LeO (spec_l03Seam.j2 k y0 y1 y2 y3 y4 y5 y6 y7 y8) (spec_l03Seam.j2 (k + 1) y0 y1 y2 y3 y4 y5 y6 y7 y8)) ∧ (∀ y0 y1 y2 y3 y4 y5 y6, LeO (spec_l03Seam.j3 k y0 y1 y2 y3 y4 y5 y6) (spec_l03Seam.j3 (k + 1) y0 y1 y2 y3 y4 y5 y6)) ∧ (∀ y0, LeO (spec_l03Seam.j4 k y0) (spec_l03Seam.j4 (k + 1) y0)) ∧ (∀ y0 y1 y2, LeO (spec_l03Seam.l0 k y0 y1 y2) (spec_l03Seam.l0 (k + 1) y0 y1 y2)) ∧ (∀ y0 y1 y2 y3, LeO (spec_l03Seam.l1 k y0 y1 y2 y3) (spec_l03Seam.l1 (k + 1) y0 y1 y2 y3))
 | 0 => ⟨fun _ _ _ _ _ _ _ _ _ r h => by simp [spec_l03Seam.j0] at h, fun _ _ _ _ _ _ _ _ _ r h => by simp [spec_l03Seam.j1] at h, fun _ _ _ _ _ _ _ _ _ r h => by simp [spec_l03Seam.j2] at h, fun _ _ _ _ _ _ _ r h => by simp [spec_l03Seam.j3] at h, fun _ r h => by simp [spec_l03Seam.j4] at h, fun _ _ _ r h => by simp [spec_l03Seam.l0] at h, fun _ _ _ _ r h => by simp [spec_l03Seam.l1] at h⟩
 | k + 1 => by
  obtain ⟨ih0, ih1, ih2, ih3, ih4, ih5, ih6⟩ := spec_l03Seam.mono_l k
  refine ⟨?_, ?_, ?_, ?_, ?_, ?_, ?_⟩ <;> intros
  all_goals first | unfold spec_l03Seam.j0 | unfold spec_l03Seam.j1 | unfold spec_l03Seam.j2 | unfold spec_l03Seam.j3 | unfold spec_l03Seam.j4 | unfold spec_l03Seam.l0 | unfold spec_l03Seam.l1
  all_goals repeat' first | (with_reducible first | exact ih0 _ _ _ _ _ _ _ _ _ | exact ih1 _ _ _ _ _ _ _ _ _ | exact ih2 _ _ _ _ _ _ _ _ _ | exact ih3 _ _ _ _ _ _ _ | exact ih4 _ | exact ih5 _ _ _ | exact ih6 _ _ _ _ | exact LeO.refl _ | exact LeO.none _ | refine LeO.ite ?_ ?_ | refine LeO.bind ?_ (fun _ => ?_))
theorem spec_l03Seam.mono : ∀ a0 a1 a2 a3 a4 a5 a6 a7 k, LeO (spec_l03Seam.f k a0 a1 a2 a3 a4 a5 a6 a7) (spec_l03Seam.f (k + 1) a0 a1 a2 a3 a4 a5 a6 a7) := by
 intro a0 a1 a2 a3 a4 a5 a6 a7 k
 obtain ⟨ih0, ih1, ih2, ih3, ih4, ih5, ih6⟩ := spec_l03Seam.mono_l k
 unfold spec_l03Seam.f
 repeat' first | (with_reducible first | exact ih0 _ _ _ _ _ _ _ _ _ | exact ih1 _ _ _ _ _ _ _ _ _ | exact ih2 _ _ _ _ _ _ _ _ _ | exact ih3 _ _ _ _ _ _ _ | exact ih4 _ | exact ih5 _ _ _ | exact ih6 _ _ _ _ | exact LeO.refl _ | exact LeO.none _ | refine LeO.ite ?_ ?_ | refine LeO.bind ?_ (fun _ => ?_))
set_option maxHeartbeats 8000000 in
set_option maxRecDepth 100000 in
theorem spec_l03Seam.calls (k : Nat) (a0_0 : Int) (a0_1 : Int) (a1_0 : Int) (a1_1 : Int) (a2_0 : Int) (a2_1 : Int) (a3_0 : Int) (a3_1 : Int) (r : Int) (w : World) (h : spec_l03Seam.f k a0_0 a0_1 a1_0 a1_1 a2_0 a2_1 a3_0 a3_1 = some r) :
  Calls Try.prog 60 #[.agg #[.int .i16 a0_0, .int .i16 a0_1], .agg #[.int .i16 a1_0, .int .i16 a1_1], .agg #[.int .i16 a2_0, .int .i16 a2_1], .agg #[.int .i16 a3_0, .int .i16 a3_1]] w fun e w' => e = .returned (.int .i64 r) ∧ Below w.heap.size w w' := by
 have hu34 := Try.underlying34
 have HB := Aside0.mk (Below.refl w.heap.size w)
 have H : ((spec_l03Side.f a0_0 a0_1 a1_0 a1_1 a2_0 a2_1).bind fun t310 => (if t310 = 0 then ((spec_l03Side.f a0_0 a0_1 a1_0 a1_1 a3_0 a3_1).bind fun t311 => (spec_l03Seam.j0 k (t311 != 0) a0_0 a0_1 a1_0 a1_1 a2_0 a2_1 a3_0 a3_1)) else (spec_l03Seam.j0 k true a0_0 a0_1 a1_0 a1_1 a2_0 a2_1 a3_0 a3_1))) = some r := h
 clear h
 have HC5 := Aside0.mk H
 clear H
 go_enter Try.func60, Try.ntmps60
 go_upto_region 1 with (first | ((with_reducible refine gate_dst (N := 4) rfl ?_); refine boxM_ 4 #[.int .i16 a0_0, .int .i16 a0_1] 34 ?_; intro gb306 hg w6 hbox hb; have BK306 := Aside0.mk (hbox); have GW306 := ge_ HB hg; have GE306 := ge_ HB hg; replace HB := bs_ HB hb; clear hb hbox hg) | ((with_reducible refine gate_dst (N := 5) rfl ?_); refine boxM_ 5 #[.int .i16 a1_0, .int .i16 a1_1] 34 ?_; intro gb307 hg w7 hbox hb; have BK307 := Aside0.mk (hbox); have GW307 := ge_ HB hg; have GE307 := ge_ HB hg; replace HB := bs_ HB hb; have NB306_307 := nl_ BK306 hg; have NB307_306 := ng_ BK306 hg; replace BK306 := bd_ BK306 hb; clear hb hbox hg) | ((with_reducible refine gate_dst (N := 6) rfl ?_); refine boxM_ 6 #[.int .i16 a2_0, .int .i16 a2_1] 34 ?_; intro gb308 hg w8 hbox hb; have BK308 := Aside0.mk (hbox); have GW308 := ge_ HB hg; have GE308 := ge_ HB hg; replace HB := bs_ HB hb; have NB306_308 := nl_ BK306 hg; have NB308_306 := ng_ BK306 hg; replace BK306 := bd_ BK306 hb; have NB307_308 := nl_ BK307 hg; have NB308_307 := ng_ BK307 hg; replace BK307 := bd_ BK307 hb; clear hb hbox hg) | ((with_reducible refine gate_dst (N := 7) rfl ?_); refine boxM_ 7 #[.int .i16 a3_0, .int .i16 a3_1] 34 ?_; intro gb309 hg w9 hbox hb; have BK309 := Aside0.mk (hbox); have GW309 := ge_ HB hg; have GE309 := ge_ HB hg; replace HB := bs_ HB hb; have NB306_309 := nl_ BK306 hg; have NB309_306 := ng_ BK306 hg; replace BK306 := bd_ BK306 hb; have NB307_309 := nl_ BK307 hg; have NB309_307 := ng_ BK307 hg; replace BK307 := bd_ BK307 hb; have NB308_309 := nl_ BK308 hg; have NB309_308 := ng_ BK308 hg; replace BK308 := bd_ BK308 hb; clear hb hbox hg))
 repeat (go_quiet (fail); try go_wp2)
 (try simp only [Act.put, List.setIfInBounds_toArray, List.set_cons_zero, List.set_cons_succ])
 go_cut [26] (fun v26 wc => ∃ (kq : Nat) (x26_4 : Bool), v26 = .bool x26_4 ∧ Aside0 (spec_l03Seam.j0 kq x26_4 a0_0 a0_1 a1_0 a1_1 a2_0 a2_1 a3_0 a3_1 = some r) ∧ Aside0 (kq ≤ k) ∧ Aside0 (wc.heap[gb306]? = some (.cells #[.int .i16 a0_0, .int .i16 a0_1] 34 (0, 0))) ∧ Aside0 (wc.heap[gb307]? = some (.cells #[.int .i16 a1_0, .int .i16 a1_1] 34 (0, 0))) ∧ Aside0 (wc.heap[gb308]? = some (.cells #[.int .i16 a2_0, .int .i16 a2_1] 34 (0, 0))) ∧ Aside0 (wc.heap[gb309]? = some (.cells #[.int .i16 a3_0, .int .i16 a3_1] 34 (0, 0))) ∧ Aside0 (Below w.heap.size w wc))
 case first =>
  have H := HC5.out
  clear HC5
  obtain ⟨t310, A10, H⟩ := be_ H
  (try dsimp only at H)
  rcases (Decidable.em (t310 = 0)).symm with c11 | c11
  ·
   rw [if_neg c11] at H
   have c11b0 : (t310 == 0) = false := beq_eq_false_iff_ne.mpr c11
   have c11b1 : (t310 != 0) = true := bne_iff_ne.mpr c11
   (first | rw [c11b0] | (simp only [i64_w, i32_w]; rw [c11b0]) | skip)
   have H' := Aside0.mk H
   clear H
   have hnb27 := NB306_307.out
   have hnc27 := NB307_306.out
   have hnb28 := NB306_308.out
   have hnc28 := NB308_306.out
   have hnb29 := NB306_309.out
   have hnc29 := NB309_306.out
   obtain ⟨⟨hcz30_0, hcz30_1⟩, hfz30_0, hfz30_1⟩ := bq_ BK306
   have hnb31 := NB307_308.out
   have hnc31 := NB308_307.out
   have hnb32 := NB307_309.out
   have hnc32 := NB309_307.out
   obtain ⟨⟨hcz33_0, hcz33_1⟩, hfz33_0, hfz33_1⟩ := bq_ BK307
   have hnb34 := NB308_309.out
   have hnc34 := NB309_308.out
   obtain ⟨⟨hcz35_0, hcz35_1⟩, hfz35_0, hfz35_1⟩ := bq_ BK308
   go_wp2_with (first | (go_at_call 57; (with_reducible refine (spec_l03Side.calls a0_0 a0_1 a1_0 a1_1 a2_0 a2_1 t310 _ A10.out).mono ?_); rintro e w36 ⟨rfl, hb⟩; replace BK306 := bd_ BK306 hb; replace BK307 := bd_ BK307 hb; replace BK308 := bd_ BK308 hb; replace BK309 := bd_ BK309 hb; replace HB := bs_ HB hb; clear hb))
   repeat (go_quiet (fail); try go_wp2)
   go_meet
   case rel => exact ⟨_, (true), (by first | rfl | (simp; done) | (simp [*]; done)), H', ⟨by first | omega | exact Nat.le_refl _⟩, ⟨bk_ BK306⟩, ⟨bk_ BK307⟩, ⟨bk_ BK308⟩, ⟨bk_ BK309⟩, ⟨bl_ HB⟩⟩
  rw [if_pos c11] at H
  have c11b0 : (t310 == 0) = true := beq_iff_eq.mpr c11
  have c11b1 : (t310 != 0) = false := bne_eq_false_iff_eq.mpr c11
  clear c11
  (first | rw [c11b0] | (simp only [i64_w, i32_w]; rw [c11b0]) | skip)
  obtain ⟨t311, A12, H⟩ := be_ H
  (try dsimp only at H)
  have H' := Aside0.mk H
  clear H
  have hnb13 := NB306_307.out
  have hnc13 := NB307_306.out
  have hnb14 := NB306_308.out
  have hnc14 := NB308_306.out
  have hnb15 := NB306_309.out
  have hnc15 := NB309_306.out
  obtain ⟨⟨hcz16_0, hcz16_1⟩, hfz16_0, hfz16_1⟩ := bq_ BK306
  have hnb17 := NB307_308.out
  have hnc17 := NB308_307.out
  have hnb18 := NB307_309.out
  have hnc18 := NB309_307.out
  obtain ⟨⟨hcz19_0, hcz19_1⟩, hfz19_0, hfz19_1⟩ := bq_ BK307
  have hnb20 := NB308_309.out
  have hnc20 := NB309_308.out
  obtain ⟨⟨hcz21_0, hcz21_1⟩, hfz21_0, hfz21_1⟩ := bq_ BK308
  go_wp2_with (first | (go_at_call 57; (with_reducible refine (spec_l03Side.calls a0_0 a0_1 a1_0 a1_1 a2_0 a2_1 t310 _ A10.out).mono ?_); rintro e w22 ⟨rfl, hb⟩; replace BK306 := bd_ BK306 hb; replace BK307 := bd_ BK307 hb; replace BK308 := bd_ BK308 hb; replace BK309 := bd_ BK309 hb; replace HB := bs_ HB hb; clear hb; obtain ⟨⟨hcz23_0, hcz23_1⟩, hfz23_0, hfz23_1⟩ := bq_ BK306; obtain ⟨⟨hcz24_0, hcz24_1⟩, hfz24_0, hfz24_1⟩ := bq_ BK307; obtain ⟨⟨hcz25_0, hcz25_1⟩, hfz25_0, hfz25_1⟩ := bq_ BK309) | (go_at_call 57; (with_reducible refine (spec_l03Side.calls a0_0 a0_1 a1_0 a1_1 a3_0 a3_1 t311 _ A12.out).mono ?_); rintro e w26 ⟨rfl, hb⟩; replace BK306 := bd_ BK306 hb; replace BK307 := bd_ BK307 hb; replace BK308 := bd_ BK308 hb; replace BK309 := bd_ BK309 hb; replace HB := bs_ HB hb; clear hb))
  repeat (go_quiet (fail); try go_wp2)
  go_meet
  case rel => exact ⟨_, ((t311 != 0)), (by first | rfl | (simp; done) | (simp [*]; done)), H', ⟨by first | omega | exact Nat.le_refl _⟩, ⟨bk_ BK306⟩, ⟨bk_ BK307⟩, ⟨bk_ BK308⟩, ⟨bk_ BK309⟩, ⟨bl_ HB⟩⟩
 case rest =>
  clear HC5
  obtain ⟨kq, x26_4, rfl, HA, HJ4, BK306, BK307, BK308, BK309, HB⟩ := hcut
  rcases kq with _ | kj4
  · exact absurd HA.out (by simp [spec_l03Seam.j0])
  have H := HA.out
  clear HA
  simp only [spec_l03Seam.j0] at H
  by_cases c37 : x26_4 = true
  ·
   subst c37
   replace H := gt_ H
   obtain rfl := Option.some.inj H
   go_wp2
   repeat (go_quiet (fail); try go_wp2)
   go_ret
   exact ⟨rt_, bl_ HB⟩
  replace c37 := Bool.eq_false_iff.mpr c37
  subst c37
  replace H := gf_ H
  obtain ⟨y312, hy312⟩ : ∃ y_ : List (S34), y_ = (([] : List (S34))) := ⟨_, rfl⟩
  replace H : ((spec_l03Between.f a0_0 a0_1 a2_0 a2_1 a3_0 a3_1).bind fun t315 => (if t315 = true then (if y312.length < 35184372088832 then (spec_l03Seam.j1 kj4 (y312 ++ [(⟨a0_0, a0_1⟩ : S34)]) a0_0 a0_1 a1_0 a1_1 a2_0 a2_1 a3_0 a3_1) else (none)) else (spec_l03Seam.j1 kj4 y312 a0_0 a0_1 a1_0 a1_1 a2_0 a2_1 a3_0 a3_1))) = some r := by first | (rw [hy312]; with_reducible exact H) | (have H2_ := (Option.bind_some _ _).symm.trans H; rw [hy312]; with_reducible exact H2_) | (have H2_ := (Option.bind_some _ _).symm.trans H; with_reducible exact H2_) | with_reducible exact H | (rw [hy312]; exact H) | exact H
  have Ny312 := Aside0.mk hy312
  clear hy312
  obtain ⟨t315, A38, H⟩ := be_ H
  (try dsimp only at H)
  have HC39 := Aside0.mk H
  clear H
  go_upto_if 31 with (first | ((with_reducible refine gate_dst (N := 27) rfl ?_); refine Kd.R_lit k34 _ 34 ?hg (N := 27) ?hd (xs := ([] : List (S34))) (inner := []) (ok := fun _ => True) (okp := fun _ => True) ?hr ?hp (fun _ hk => hk) trivial (Below.refl _ _) (Nat.le_refl _) (by simp) ?_; (case hd => rfl); (case hg => rfl); (case hr => first | (go_simp; done) | (go_simp; rfl)); (case hp => exact (Reps.none _ _)); intro v313 w40 ho41 hb hg_ hnew_; clear hg_ hnew_; (first | rw [← Ny312.out] at ho41 | (simp only [Int.reduceToNat] at ho41; rw [← Ny312.out] at ho41)); have HO314 := Aside0.mk (Kd.R_lower (Kd.R_newB (Kd.R_newB (Kd.R_newB (Kd.R_newB ho41 (g := gb306) (o := .cells #[.int .i16 a0_0, .int .i16 a0_1] 34 (0, 0)) (kb_ BK306)) (g := gb307) (o := .cells #[.int .i16 a1_0, .int .i16 a1_1] 34 (0, 0)) (kb_ BK307)) (g := gb308) (o := .cells #[.int .i16 a2_0, .int .i16 a2_1] 34 (0, 0)) (kb_ BK308)) (g := gb309) (o := .cells #[.int .i16 a3_0, .int .i16 a3_1] 34 (0, 0)) (kb_ BK309)) (below_size (k4_ HB GE306 GE307 GE308 GE309))); replace BK306 := bd_ BK306 hb; replace BK307 := bd_ BK307 hb; replace BK308 := bd_ BK308 hb; replace BK309 := bd_ BK309 hb; replace HB := bs_ HB hb; clear hb ho41; have hnb42 := NB306_307.out; have hnc42 := NB307_306.out; have hnb43 := NB306_308.out; have hnc43 := NB308_306.out; have hnb44 := NB306_309.out; have hnc44 := NB309_306.out; obtain ⟨⟨hcz45_0, hcz45_1⟩, hfz45_0, hfz45_1⟩ := bq_ BK306; have hnb46 := NB308_307.out; have hnc46 := NB307_308.out; have hnb47 := NB308_309.out; have hnc47 := NB309_308.out; obtain ⟨⟨hcz48_0, hcz48_1⟩, hfz48_0, hfz48_1⟩ := bq_ BK308; have hnb49 := NB309_307.out; have hnc49 := NB307_309.out; obtain ⟨⟨hcz50_0, hcz50_1⟩, hfz50_0, hfz50_1⟩ := bq_ BK309) | (go_at_call 67; (with_reducible refine (spec_l03Between.calls a0_0 a0_1 a2_0 a2_1 a3_0 a3_1 t315 _ A38.out).mono ?_); rintro e w51 ⟨rfl, hb⟩; replace HO314 := Aside0.mk (Kd.R_below (kp_ HO314) hb); replace BK306 := bd_ BK306 hb; replace BK307 := bd_ BK307 hb; replace BK308 := bd_ BK308 hb; replace BK309 := bd_ BK309 hb; replace HB := bs_ HB hb; clear hb))
  repeat (go_quiet (fail); try go_wp2)
  (try simp only [Act.put, List.setIfInBounds_toArray, List.set_cons_zero, List.set_cons_succ])
  go_cut [9] (fun v9 wc => ∃ (kq : Nat) (x9_38 : List (S34)), Aside0 (spec_l03Seam.j1 kq x9_38 a0_0 a0_1 a1_0 a1_1 a2_0 a2_1 a3_0 a3_1 = some r) ∧ Aside0 (kq ≤ kj4) ∧ Aside0 (Kd.R k34 34 wc w.heap.size (fun k_ => k_ ≠ gb306 ∧ k_ ≠ gb307 ∧ k_ ≠ gb308 ∧ k_ ≠ gb309) v9 x9_38) ∧ Aside0 (wc.heap[gb306]? = some (.cells #[.int .i16 a0_0, .int .i16 a0_1] 34 (0, 0))) ∧ Aside0 (wc.heap[gb307]? = some (.cells #[.int .i16 a1_0, .int .i16 a1_1] 34 (0, 0))) ∧ Aside0 (wc.heap[gb308]? = some (.cells #[.int .i16 a2_0, .int .i16 a2_1] 34 (0, 0))) ∧ Aside0 (wc.heap[gb309]? = some (.cells #[.int .i16 a3_0, .int .i16 a3_1] 34 (0, 0))) ∧ Aside0 (Below w.heap.size w wc))
  case first =>
   have H := HC39.out
   clear HC39
   rcases (Decidable.em (t315 = true)).symm with c52 | c52
   ·
    replace c52 := Bool.eq_false_iff.mpr c52
    subst c52
    replace H := gf_ H
    have H' := Aside0.mk H
    clear H
    go_wp2
    repeat (go_quiet (fail); try go_wp2)
    go_meet
    case rel => exact ⟨_, (y312), H', ⟨by have := HJ4.out; first | omega | exact Nat.le_refl _⟩, ⟨by (with_reducible repeat (first | apply Kd.R_alloc | apply Kd.R_drewN | apply Kd.R_drew)); exact Kd.R_mono HO314.out (fun _ hk => ⟨hk.1.1.1.2, ⟨hk.1.1.2, ⟨hk.1.2, hk.2⟩⟩⟩)⟩, ⟨bk_ BK306⟩, ⟨bk_ BK307⟩, ⟨bk_ BK308⟩, ⟨bk_ BK309⟩, ⟨bl_ HB⟩⟩
   subst c52
   replace H := gt_ H
   obtain ⟨(c53 : y312.length < 35184372088832), H⟩ := gd_ H
   have LMc53 := Aside0.mk c53
   clear c53
   obtain ⟨y316, hy316⟩ : ∃ y_ : List (S34), y_ = (y312 ++ [(⟨a0_0, a0_1⟩ : S34)]) := ⟨_, rfl⟩
   replace H : (spec_l03Seam.j1 kj4 y316 a0_0 a0_1 a1_0 a1_1 a2_0 a2_1 a3_0 a3_1) = some r := by first | (rw [hy316]; with_reducible exact H) | (have H2_ := (Option.bind_some _ _).symm.trans H; rw [hy316]; with_reducible exact H2_) | (have H2_ := (Option.bind_some _ _).symm.trans H; with_reducible exact H2_) | with_reducible exact H | (rw [hy316]; exact H) | exact H
   have Ny316 := Aside0.mk hy316
   clear hy316
   have H' := Aside0.mk H
   clear H
   have hnb54 := NB306_307.out
   have hnc54 := NB307_306.out
   have hnb55 := NB306_308.out
   have hnc55 := NB308_306.out
   have hnb56 := NB306_309.out
   have hnc56 := NB309_306.out
   obtain ⟨⟨hcz57_0, hcz57_1⟩, hfz57_0, hfz57_1⟩ := bq_ BK306
   go_wp2_with (first | ((with_reducible refine gate_builtin (b := .append) (xs := #[.tmp 32, .tmp 34]) rfl ?_); at_builtin; refine Kd.R_append k34 (w0 := w) w.heap.size rfl (.tmp 32) (.tmp 34) 24 34 (.agg #[(.int .i16 0), (.int .i16 0)]) 4 rfl Try.underlying24 info34 rfl (by decide) (by omega) v313 y312 (⟨a0_0, a0_1⟩ : S34) [.int .i16 a0_0, .int .i16 a0_1] (fun k_ => k_ ≠ gb306 ∧ k_ ≠ gb307 ∧ k_ ≠ gb308 ∧ k_ ≠ gb309) (fun _ => False) rfl rfl ?aP (fun _ hk => hk.elim) ?aF ?aO ?aB ?aS ?aL ?_; (case aP => exact k34_mkM _ _ _ (⟨a0_0, a0_1⟩ : S34)); (case aB => exact (k4_ HB GE306 GE307 GE308 GE309)); (case aF => exact (fun k_ hk => ⟨Kd.freshB (g := gb306) (o := .cells #[.int .i16 a0_0, .int .i16 a0_1] 34 (0, 0)) (kb_ BK306) k_ hk, Kd.freshB (g := gb307) (o := .cells #[.int .i16 a1_0, .int .i16 a1_1] 34 (0, 0)) (kb_ BK307) k_ hk, Kd.freshB (g := gb308) (o := .cells #[.int .i16 a2_0, .int .i16 a2_1] 34 (0, 0)) (kb_ BK308) k_ hk, Kd.freshB (g := gb309) (o := .cells #[.int .i16 a3_0, .int .i16 a3_1] 34 (0, 0)) (kb_ BK309) k_ hk⟩)); (case aO => exact (by (with_reducible repeat (first | apply Kd.R_alloc | apply Kd.R_drewN | apply Kd.R_drew)); exact Kd.R_mono HO314.out (fun _ hk => ⟨hk.1.1.1.2, ⟨hk.1.1.2, ⟨hk.1.2, hk.2⟩⟩⟩))); (case aS => exact (below_size (k4_ HB GE306 GE307 GE308 GE309))); (case aL => have := LMc53.out; omega); intro v317 w58 ho hb hg hat; rw [← Ny316.out] at ho; have n0_ := Aside0.mk (blk_grown (g := gb306) (o := .cells #[.int .i16 a0_0, .int .i16 a0_1] 34 (0, 0)) (kb_ BK306) hg (Kd.R_away HO314.out (fun _ hk => hk.1.1.1.2))); have n1_ := Aside0.mk (blk_grown (g := gb307) (o := .cells #[.int .i16 a1_0, .int .i16 a1_1] 34 (0, 0)) (kb_ BK307) hg (Kd.R_away HO314.out (fun _ hk => hk.1.1.2))); have n2_ := Aside0.mk (blk_grown (g := gb308) (o := .cells #[.int .i16 a2_0, .int .i16 a2_1] 34 (0, 0)) (kb_ BK308) hg (Kd.R_away HO314.out (fun _ hk => hk.1.2))); have n3_ := Aside0.mk (blk_grown (g := gb309) (o := .cells #[.int .i16 a3_0, .int .i16 a3_1] 34 (0, 0)) (kb_ BK309) hg (Kd.R_away HO314.out (fun _ hk => hk.2))); have n4_ := Aside0.mk (hb); have n5_ := Aside0.mk (ho); clear BK306; clear BK307; clear BK308; clear BK309; clear HB; clear HO314; have BK306 := n0_; have BK307 := n1_; have BK308 := n2_; have BK309 := n3_; have HB := n4_; have HO318 := n5_; clear n0_ n1_ n2_ n3_ n4_ n5_; clear ho hb hg hat))
   repeat (go_quiet (fail); try go_wp2)
   go_meet
   case rel => exact ⟨_, (y316), H', ⟨by have := HJ4.out; first | omega | exact Nat.le_refl _⟩, ⟨kp_ HO318⟩, ⟨bk_ BK306⟩, ⟨bk_ BK307⟩, ⟨bk_ BK308⟩, ⟨bk_ BK309⟩, ⟨bl_ HB⟩⟩
  case rest =>
   clear HC39
   obtain ⟨kq, x9_38, HA, HJ38, HO_9, BK306, BK307, BK308, BK309, HB⟩ := hcut
   rcases kq with _ | kj38
   · exact absurd HA.out (by simp [spec_l03Seam.j1])
   have H := HA.out
   clear HA
   simp only [spec_l03Seam.j1] at H
   obtain ⟨t319, A59, H⟩ := be_ H
   (try dsimp only at H)
   have HC60 := Aside0.mk H
   clear H
   have hnb61 := NB307_306.out
   have hnc61 := NB306_307.out
   have hnb62 := NB307_308.out
   have hnc62 := NB308_307.out
   have hnb63 := NB307_309.out
   have hnc63 := NB309_307.out
   obtain ⟨⟨hcz64_0, hcz64_1⟩, hfz64_0, hfz64_1⟩ := bq_ BK307
   have hnb65 := NB308_306.out
   have hnc65 := NB306_308.out
   have hnb66 := NB308_309.out
   have hnc66 := NB309_308.out
   obtain ⟨⟨hcz67_0, hcz67_1⟩, hfz67_0, hfz67_1⟩ := bq_ BK308
   have hnb68 := NB309_306.out
   have hnc68 := NB306_309.out
   obtain ⟨⟨hcz69_0, hcz69_1⟩, hfz69_0, hfz69_1⟩ := bq_ BK309
   go_upto_if 39 with (first | (go_at_call 67; (with_reducible refine (spec_l03Between.calls a1_0 a1_1 a2_0 a2_1 a3_0 a3_1 t319 _ A59.out).mono ?_); rintro e w70 ⟨rfl, hb⟩; replace HO_9 := Aside0.mk (Kd.R_below (kp_ HO_9) hb); replace BK306 := bd_ BK306 hb; replace BK307 := bd_ BK307 hb; replace BK308 := bd_ BK308 hb; replace BK309 := bd_ BK309 hb; replace HB := bs_ HB hb; clear hb))
   repeat (go_quiet (fail); try go_wp2)
   (try simp only [Act.put, List.setIfInBounds_toArray, List.set_cons_zero, List.set_cons_succ])
   go_cut [9] (fun v9 wc => ∃ (kq : Nat) (x9_59 : List (S34)), Aside0 (spec_l03Seam.j2 kq x9_59 a0_0 a0_1 a1_0 a1_1 a2_0 a2_1 a3_0 a3_1 = some r) ∧ Aside0 (kq ≤ kj38) ∧ Aside0 (Kd.R k34 34 wc w.heap.size (fun k_ => k_ ≠ gb306 ∧ k_ ≠ gb307 ∧ k_ ≠ gb308 ∧ k_ ≠ gb309) v9 x9_59) ∧ Aside0 (wc.heap[gb306]? = some (.cells #[.int .i16 a0_0, .int .i16 a0_1] 34 (0, 0))) ∧ Aside0 (wc.heap[gb307]? = some (.cells #[.int .i16 a1_0, .int .i16 a1_1] 34 (0, 0))) ∧ Aside0 (wc.heap[gb308]? = some (.cells #[.int .i16 a2_0, .int .i16 a2_1] 34 (0, 0))) ∧ Aside0 (wc.heap[gb309]? = some (.cells #[.int .i16 a3_0, .int .i16 a3_1] 34 (0, 0))) ∧ Aside0 (Below w.heap.size w wc))
   case first =>
    have H := HC60.out
    clear HC60
    rcases (Decidable.em (t319 = true)).symm with c71 | c71
    ·
     replace c71 := Bool.eq_false_iff.mpr c71
     subst c71
     replace H := gf_ H
     have H' := Aside0.mk H
     clear H
     go_wp2
     repeat (go_quiet (fail); try go_wp2)
     go_meet
     case rel => exact ⟨_, (x9_38), H', ⟨by have := HJ4.out; have := HJ38.out; first | omega | exact Nat.le_refl _⟩, ⟨kp_ HO_9⟩, ⟨bk_ BK306⟩, ⟨bk_ BK307⟩, ⟨bk_ BK308⟩, ⟨bk_ BK309⟩, ⟨bl_ HB⟩⟩
    subst c71
    replace H := gt_ H
    obtain ⟨(c72 : x9_38.length < 35184372088832), H⟩ := gd_ H
    have LMc72 := Aside0.mk c72
    clear c72
    obtain ⟨y320, hy320⟩ : ∃ y_ : List (S34), y_ = (x9_38 ++ [(⟨a1_0, a1_1⟩ : S34)]) := ⟨_, rfl⟩
    replace H : (spec_l03Seam.j2 kj38 y320 a0_0 a0_1 a1_0 a1_1 a2_0 a2_1 a3_0 a3_1) = some r := by first | (rw [hy320]; with_reducible exact H) | (have H2_ := (Option.bind_some _ _).symm.trans H; rw [hy320]; with_reducible exact H2_) | (have H2_ := (Option.bind_some _ _).symm.trans H; with_reducible exact H2_) | with_reducible exact H | (rw [hy320]; exact H) | exact H
    have Ny320 := Aside0.mk hy320
    clear hy320
    have H' := Aside0.mk H
    clear H
    have hnb73 := NB307_306.out
    have hnc73 := NB306_307.out
    have hnb74 := NB307_308.out
    have hnc74 := NB308_307.out
    have hnb75 := NB307_309.out
    have hnc75 := NB309_307.out
    obtain ⟨⟨hcz76_0, hcz76_1⟩, hfz76_0, hfz76_1⟩ := bq_ BK307
    go_wp2_with (first | ((with_reducible refine gate_builtin (b := .append) (xs := #[.tmp 40, .tmp 42]) rfl ?_); at_builtin; refine Kd.R_append k34 (w0 := w) w.heap.size rfl (.tmp 40) (.tmp 42) 24 34 (.agg #[(.int .i16 0), (.int .i16 0)]) 4 rfl Try.underlying24 info34 rfl (by decide) (by omega) u9 x9_38 (⟨a1_0, a1_1⟩ : S34) [.int .i16 a1_0, .int .i16 a1_1] (fun k_ => k_ ≠ gb306 ∧ k_ ≠ gb307 ∧ k_ ≠ gb308 ∧ k_ ≠ gb309) (fun _ => False) rfl rfl ?aP (fun _ hk => hk.elim) ?aF ?aO ?aB ?aS ?aL ?_; (case aP => exact k34_mkM _ _ _ (⟨a1_0, a1_1⟩ : S34)); (case aB => exact (k4_ HB GE306 GE307 GE308 GE309)); (case aF => exact (fun k_ hk => ⟨Kd.freshB (g := gb306) (o := .cells #[.int .i16 a0_0, .int .i16 a0_1] 34 (0, 0)) (kb_ BK306) k_ hk, Kd.freshB (g := gb307) (o := .cells #[.int .i16 a1_0, .int .i16 a1_1] 34 (0, 0)) (kb_ BK307) k_ hk, Kd.freshB (g := gb308) (o := .cells #[.int .i16 a2_0, .int .i16 a2_1] 34 (0, 0)) (kb_ BK308) k_ hk, Kd.freshB (g := gb309) (o := .cells #[.int .i16 a3_0, .int .i16 a3_1] 34 (0, 0)) (kb_ BK309) k_ hk⟩)); (case aO => exact (kp_ HO_9)); (case aS => exact (below_size (k4_ HB GE306 GE307 GE308 GE309))); (case aL => have := LMc72.out; omega); intro v321 w77 ho hb hg hat; rw [← Ny320.out] at ho; have n0_ := Aside0.mk (blk_grown (g := gb306) (o := .cells #[.int .i16 a0_0, .int .i16 a0_1] 34 (0, 0)) (kb_ BK306) hg (Kd.R_away HO_9.out (fun _ hk => hk.1))); have n1_ := Aside0.mk (blk_grown (g := gb307) (o := .cells #[.int .i16 a1_0, .int .i16 a1_1] 34 (0, 0)) (kb_ BK307) hg (Kd.R_away HO_9.out (fun _ hk => hk.2.1))); have n2_ := Aside0.mk (blk_grown (g := gb308) (o := .cells #[.int .i16 a2_0, .int .i16 a2_1] 34 (0, 0)) (kb_ BK308) hg (Kd.R_away HO_9.out (fun _ hk => hk.2.2.1))); have n3_ := Aside0.mk (blk_grown (g := gb309) (o := .cells #[.int .i16 a3_0, .int .i16 a3_1] 34 (0, 0)) (kb_ BK309) hg (Kd.R_away HO_9.out (fun _ hk => hk.2.2.2))); have n4_ := Aside0.mk (hb); have n5_ := Aside0.mk (ho); clear BK306; clear BK307; clear BK308; clear BK309; clear HB; clear HO_9; have BK306 := n0_; have BK307 := n1_; have BK308 := n2_; have BK309 := n3_; have HB := n4_; have HO322 := n5_; clear n0_ n1_ n2_ n3_ n4_ n5_; clear ho hb hg hat))
    repeat (go_quiet (fail); try go_wp2)
    go_meet
    case rel => exact ⟨_, (y320), H', ⟨by have := HJ4.out; have := HJ38.out; first | omega | exact Nat.le_refl _⟩, ⟨kp_ HO322⟩, ⟨bk_ BK306⟩, ⟨bk_ BK307⟩, ⟨bk_ BK308⟩, ⟨bk_ BK309⟩, ⟨bl_ HB⟩⟩
   case rest =>
    clear HC60
    obtain ⟨kq, x9_59, HA, HJ59, HO_9, BK306, BK307, BK308, BK309, HB⟩ := hcut
    rcases kq with _ | kj59
    · exact absurd HA.out (by simp [spec_l03Seam.j2])
    have H := HA.out
    clear HA
    simp only [spec_l03Seam.j2] at H
    obtain ⟨t323, A78, H⟩ := be_ H
    (try dsimp only at H)
    have HC79 := Aside0.mk H
    clear H
    have hnb80 := NB308_306.out
    have hnc80 := NB306_308.out
    have hnb81 := NB308_307.out
    have hnc81 := NB307_308.out
    have hnb82 := NB308_309.out
    have hnc82 := NB309_308.out
    obtain ⟨⟨hcz83_0, hcz83_1⟩, hfz83_0, hfz83_1⟩ := bq_ BK308
    have hnb84 := NB306_307.out
    have hnc84 := NB307_306.out
    have hnb85 := NB306_309.out
    have hnc85 := NB309_306.out
    obtain ⟨⟨hcz86_0, hcz86_1⟩, hfz86_0, hfz86_1⟩ := bq_ BK306
    have hnb87 := NB307_309.out
    have hnc87 := NB309_307.out
    obtain ⟨⟨hcz88_0, hcz88_1⟩, hfz88_0, hfz88_1⟩ := bq_ BK307
    go_upto_if 47 with (first | (go_at_call 67; (with_reducible refine (spec_l03Between.calls a2_0 a2_1 a0_0 a0_1 a1_0 a1_1 t323 _ A78.out).mono ?_); rintro e w89 ⟨rfl, hb⟩; replace HO_9 := Aside0.mk (Kd.R_below (kp_ HO_9) hb); replace BK306 := bd_ BK306 hb; replace BK307 := bd_ BK307 hb; replace BK308 := bd_ BK308 hb; replace BK309 := bd_ BK309 hb; replace HB := bs_ HB hb; clear hb))
    repeat (go_quiet (fail); try go_wp2)
    (try simp only [Act.put, List.setIfInBounds_toArray, List.set_cons_zero, List.set_cons_succ])
    go_cut [9] (fun v9 wc => ∃ (kq : Nat) (x9_78 : List (S34)), Aside0 (spec_l03Seam.j3 kq x9_78 a0_0 a0_1 a1_0 a1_1 a3_0 a3_1 = some r) ∧ Aside0 (kq ≤ kj59) ∧ Aside0 (Kd.R k34 34 wc w.heap.size (fun k_ => k_ ≠ gb306 ∧ k_ ≠ gb307 ∧ k_ ≠ gb308 ∧ k_ ≠ gb309) v9 x9_78) ∧ Aside0 (wc.heap[gb306]? = some (.cells #[.int .i16 a0_0, .int .i16 a0_1] 34 (0, 0))) ∧ Aside0 (wc.heap[gb307]? = some (.cells #[.int .i16 a1_0, .int .i16 a1_1] 34 (0, 0))) ∧ Aside0 (wc.heap[gb308]? = some (.cells #[.int .i16 a2_0, .int .i16 a2_1] 34 (0, 0))) ∧ Aside0 (wc.heap[gb309]? = some (.cells #[.int .i16 a3_0, .int .i16 a3_1] 34 (0, 0))) ∧ Aside0 (Below w.heap.size w wc))
    case first =>
     have H := HC79.out
     clear HC79
     rcases (Decidable.em (t323 = true)).symm with c90 | c90
     ·
      replace c90 := Bool.eq_false_iff.mpr c90
      subst c90
      replace H := gf_ H
      have H' := Aside0.mk H
      clear H
      go_wp2
      repeat (go_quiet (fail); try go_wp2)
      go_meet
      case rel => exact ⟨_, (x9_59), H', ⟨by have := HJ4.out; have := HJ38.out; have := HJ59.out; first | omega | exact Nat.le_refl _⟩, ⟨kp_ HO_9⟩, ⟨bk_ BK306⟩, ⟨bk_ BK307⟩, ⟨bk_ BK308⟩, ⟨bk_ BK309⟩, ⟨bl_ HB⟩⟩
     subst c90
     replace H := gt_ H
     obtain ⟨(c91 : x9_59.length < 35184372088832), H⟩ := gd_ H
     have LMc91 := Aside0.mk c91
     clear c91
     obtain ⟨y324, hy324⟩ : ∃ y_ : List (S34), y_ = (x9_59 ++ [(⟨a2_0, a2_1⟩ : S34)]) := ⟨_, rfl⟩
     replace H : (spec_l03Seam.j3 kj59 y324 a0_0 a0_1 a1_0 a1_1 a3_0 a3_1) = some r := by first | (rw [hy324]; with_reducible exact H) | (have H2_ := (Option.bind_some _ _).symm.trans H; rw [hy324]; with_reducible exact H2_) | (have H2_ := (Option.bind_some _ _).symm.trans H; with_reducible exact H2_) | with_reducible exact H | (rw [hy324]; exact H) | exact H
     have Ny324 := Aside0.mk hy324
     clear hy324
     have H' := Aside0.mk H
     clear H
     have hnb92 := NB308_306.out
     have hnc92 := NB306_308.out
     have hnb93 := NB308_307.out
     have hnc93 := NB307_308.out
     have hnb94 := NB308_309.out
     have hnc94 := NB309_308.out
     obtain ⟨⟨hcz95_0, hcz95_1⟩, hfz95_0, hfz95_1⟩ := bq_ BK308
     go_wp2_with (first | ((with_reducible refine gate_builtin (b := .append) (xs := #[.tmp 48, .tmp 50]) rfl ?_); at_builtin; refine Kd.R_append k34 (w0 := w) w.heap.size rfl (.tmp 48) (.tmp 50) 24 34 (.agg #[(.int .i16 0), (.int .i16 0)]) 4 rfl Try.underlying24 info34 rfl (by decide) (by omega) u9 x9_59 (⟨a2_0, a2_1⟩ : S34) [.int .i16 a2_0, .int .i16 a2_1] (fun k_ => k_ ≠ gb306 ∧ k_ ≠ gb307 ∧ k_ ≠ gb308 ∧ k_ ≠ gb309) (fun _ => False) rfl rfl ?aP (fun _ hk => hk.elim) ?aF ?aO ?aB ?aS ?aL ?_; (case aP => exact k34_mkM _ _ _ (⟨a2_0, a2_1⟩ : S34)); (case aB => exact (k4_ HB GE306 GE307 GE308 GE309)); (case aF => exact (fun k_ hk => ⟨Kd.freshB (g := gb306) (o := .cells #[.int .i16 a0_0, .int .i16 a0_1] 34 (0, 0)) (kb_ BK306) k_ hk, Kd.freshB (g := gb307) (o := .cells #[.int .i16 a1_0, .int .i16 a1_1] 34 (0, 0)) (kb_ BK307) k_ hk, Kd.freshB (g := gb308) (o := .cells #[.int .i16 a2_0, .int .i16 a2_1] 34 (0, 0)) (kb_ BK308) k_ hk, Kd.freshB (g := gb309) (o := .cells #[.int .i16 a3_0, .int .i16 a3_1] 34 (0, 0)) (kb_ BK309) k_ hk⟩)); (case aO => exact (kp_ HO_9)); (case aS => exact (below_size (k4_ HB GE306 GE307 GE308 GE309))); (case aL => have := LMc91.out; omega); intro v325 w96 ho hb hg hat; rw [← Ny324.out] at ho; have n0_ := Aside0.mk (blk_grown (g := gb306) (o := .cells #[.int .i16 a0_0, .int .i16 a0_1] 34 (0, 0)) (kb_ BK306) hg (Kd.R_away HO_9.out (fun _ hk => hk.1))); have n1_ := Aside0.mk (blk_grown (g := gb307) (o := .cells #[.int .i16 a1_0, .int .i16 a1_1] 34 (0, 0)) (kb_ BK307) hg (Kd.R_away HO_9.out (fun _ hk => hk.2.1))); have n2_ := Aside0.mk (blk_grown (g := gb308) (o := .cells #[.int .i16 a2_0, .int .i16 a2_1] 34 (0, 0)) (kb_ BK308) hg (Kd.R_away HO_9.out (fun _ hk => hk.2.2.1))); have n3_ := Aside0.mk (blk_grown (g := gb309) (o := .cells #[.int .i16 a3_0, .int .i16 a3_1] 34 (0, 0)) (kb_ BK309) hg (Kd.R_away HO_9.out (fun _ hk => hk.2.2.2))); have n4_ := Aside0.mk (hb); have n5_ := Aside0.mk (ho); clear BK306; clear BK307; clear BK308; clear BK309; clear HB; clear HO_9; have BK306 := n0_; have BK307 := n1_; have BK308 := n2_; have BK309 := n3_; have HB := n4_; have HO326 := n5_; clear n0_ n1_ n2_ n3_ n4_ n5_; clear ho hb hg hat))
     repeat (go_quiet (fail); try go_wp2)
     go_meet
     case rel => exact ⟨_, (y324), H', ⟨by have := HJ4.out; have := HJ38.out; have := HJ59.out; first | omega | exact Nat.le_refl _⟩, ⟨kp_ HO326⟩, ⟨bk_ BK306⟩, ⟨bk_ BK307⟩, ⟨bk_ BK308⟩, ⟨bk_ BK309⟩, ⟨bl_ HB⟩⟩
    case rest =>
     clear HC79
     obtain ⟨kq, x9_78, HA, HJ78, HO_9, BK306, BK307, BK308, BK309, HB⟩ := hcut
     rcases kq with _ | kj78
     · exact absurd HA.out (by simp [spec_l03Seam.j3])
     have H := HA.out
     clear HA
     simp only [spec_l03Seam.j3] at H
     obtain ⟨t327, A97, H⟩ := be_ H
     (try dsimp only at H)
     have HC98 := Aside0.mk H
     clear H
     have hnb99 := NB309_306.out
     have hnc99 := NB306_309.out
     have hnb100 := NB309_307.out
     have hnc100 := NB307_309.out
     have hnb101 := NB309_308.out
     have hnc101 := NB308_309.out
     obtain ⟨⟨hcz102_0, hcz102_1⟩, hfz102_0, hfz102_1⟩ := bq_ BK309
     have hnb103 := NB306_307.out
     have hnc103 := NB307_306.out
     have hnb104 := NB306_308.out
     have hnc104 := NB308_306.out
     obtain ⟨⟨hcz105_0, hcz105_1⟩, hfz105_0, hfz105_1⟩ := bq_ BK306
     have hnb106 := NB307_308.out
     have hnc106 := NB308_307.out
     obtain ⟨⟨hcz107_0, hcz107_1⟩, hfz107_0, hfz107_1⟩ := bq_ BK307
     go_upto_if 55 with (first | (go_at_call 67; (with_reducible refine (spec_l03Between.calls a3_0 a3_1 a0_0 a0_1 a1_0 a1_1 t327 _ A97.out).mono ?_); rintro e w108 ⟨rfl, hb⟩; replace HO_9 := Aside0.mk (Kd.R_below (kp_ HO_9) hb); replace BK306 := bd_ BK306 hb; replace BK307 := bd_ BK307 hb; replace BK308 := bd_ BK308 hb; replace BK309 := bd_ BK309 hb; replace HB := bs_ HB hb; clear hb))
     repeat (go_quiet (fail); try go_wp2)
     (try simp only [Act.put, List.setIfInBounds_toArray, List.set_cons_zero, List.set_cons_succ])
     go_cut [9] (fun v9 wc => ∃ (kq : Nat) (x9_97 : List (S34)), Aside0 (spec_l03Seam.j4 kq x9_97 = some r) ∧ Aside0 (kq ≤ kj78) ∧ Aside0 (Kd.R k34 34 wc w.heap.size (fun k_ => k_ ≠ gb306 ∧ k_ ≠ gb307 ∧ k_ ≠ gb308 ∧ k_ ≠ gb309) v9 x9_97) ∧ Aside0 (wc.heap[gb306]? = some (.cells #[.int .i16 a0_0, .int .i16 a0_1] 34 (0, 0))) ∧ Aside0 (wc.heap[gb307]? = some (.cells #[.int .i16 a1_0, .int .i16 a1_1] 34 (0, 0))) ∧ Aside0 (wc.heap[gb308]? = some (.cells #[.int .i16 a2_0, .int .i16 a2_1] 34 (0, 0))) ∧ Aside0 (wc.heap[gb309]? = some (.cells #[.int .i16 a3_0, .int .i16 a3_1] 34 (0, 0))) ∧ Aside0 (Below w.heap.size w wc))
     case first =>
      have H := HC98.out
      clear HC98
      rcases (Decidable.em (t327 = true)).symm with c109 | c109
      ·
       replace c109 := Bool.eq_false_iff.mpr c109
       subst c109
       replace H := gf_ H
       have H' := Aside0.mk H
       clear H
       go_wp2
       repeat (go_quiet (fail); try go_wp2)
       go_meet
       case rel => exact ⟨_, (x9_78), H', ⟨by have := HJ4.out; have := HJ38.out; have := HJ59.out; have := HJ78.out; first | omega | exact Nat.le_refl _⟩, ⟨kp_ HO_9⟩, ⟨bk_ BK306⟩, ⟨bk_ BK307⟩, ⟨bk_ BK308⟩, ⟨bk_ BK309⟩, ⟨bl_ HB⟩⟩
      subst c109
      replace H := gt_ H
      obtain ⟨(c110 : x9_78.length < 35184372088832), H⟩ := gd_ H
      have LMc110 := Aside0.mk c110
      clear c110
      obtain ⟨y328, hy328⟩ : ∃ y_ : List (S34), y_ = (x9_78 ++ [(⟨a3_0, a3_1⟩ : S34)]) := ⟨_, rfl⟩
      replace H : (spec_l03Seam.j4 kj78 y328) = some r := by first | (rw [hy328]; with_reducible exact H) | (have H2_ := (Option.bind_some _ _).symm.trans H; rw [hy328]; with_reducible exact H2_) | (have H2_ := (Option.bind_some _ _).symm.trans H; with_reducible exact H2_) | with_reducible exact H | (rw [hy328]; exact H) | exact H
      have Ny328 := Aside0.mk hy328
      clear hy328
      have H' := Aside0.mk H
      clear H
      have hnb111 := NB309_306.out
      have hnc111 := NB306_309.out
      have hnb112 := NB309_307.out
      have hnc112 := NB307_309.out
      have hnb113 := NB309_308.out
      have hnc113 := NB308_309.out
      obtain ⟨⟨hcz114_0, hcz114_1⟩, hfz114_0, hfz114_1⟩ := bq_ BK309
      go_wp2_with (first | ((with_reducible refine gate_builtin (b := .append) (xs := #[.tmp 56, .tmp 58]) rfl ?_); at_builtin; refine Kd.R_append k34 (w0 := w) w.heap.size rfl (.tmp 56) (.tmp 58) 24 34 (.agg #[(.int .i16 0), (.int .i16 0)]) 4 rfl Try.underlying24 info34 rfl (by decide) (by omega) u9 x9_78 (⟨a3_0, a3_1⟩ : S34) [.int .i16 a3_0, .int .i16 a3_1] (fun k_ => k_ ≠ gb306 ∧ k_ ≠ gb307 ∧ k_ ≠ gb308 ∧ k_ ≠ gb309) (fun _ => False) rfl rfl ?aP (fun _ hk => hk.elim) ?aF ?aO ?aB ?aS ?aL ?_; (case aP => exact k34_mkM _ _ _ (⟨a3_0, a3_1⟩ : S34)); (case aB => exact (k4_ HB GE306 GE307 GE308 GE309)); (case aF => exact (fun k_ hk => ⟨Kd.freshB (g := gb306) (o := .cells #[.int .i16 a0_0, .int .i16 a0_1] 34 (0, 0)) (kb_ BK306) k_ hk, Kd.freshB (g := gb307) (o := .cells #[.int .i16 a1_0, .int .i16 a1_1] 34 (0, 0)) (kb_ BK307) k_ hk, Kd.freshB (g := gb308) (o := .cells #[.int .i16 a2_0, .int .i16 a2_1] 34 (0, 0)) (kb_ BK308) k_ hk, Kd.freshB (g := gb309) (o := .cells #[.int .i16 a3_0, .int .i16 a3_1] 34 (0, 0)) (kb_ BK309) k_ hk⟩)); (case aO => exact (kp_ HO_9)); (case aS => exact (below_size (k4_ HB GE306 GE307 GE308 GE309))); (case aL => have := LMc110.out; omega); intro v329 w115 ho hb hg hat; rw [← Ny328.out] at ho; have n0_ := Aside0.mk (blk_grown (g := gb306) (o := .cells #[.int .i16 a0_0, .int .i16 a0_1] 34 (0, 0)) (kb_ BK306) hg (Kd.R_away HO_9.out (fun _ hk => hk.1))); have n1_ := Aside0.mk (blk_grown (g := gb307) (o := .cells #[.int .i16 a1_0, .int .i16 a1_1] 34 (0, 0)) (kb_ BK307) hg (Kd.R_away HO_9.out (fun _ hk => hk.2.1))); have n2_ := Aside0.mk (blk_grown (g := gb308) (o := .cells #[.int .i16 a2_0, .int .i16 a2_1] 34 (0, 0)) (kb_ BK308) hg (Kd.R_away HO_9.out (fun _ hk => hk.2.2.1))); have n3_ := Aside0.mk (blk_grown (g := gb309) (o := .cells #[.int .i16 a3_0, .int .i16 a3_1] 34 (0, 0)) (kb_ BK309) hg (Kd.R_away HO_9.out (fun _ hk => hk.2.2.2))); have n4_ := Aside0.mk (hb); have n5_ := Aside0.mk (ho); clear BK306; clear BK307; clear BK308; clear BK309; clear HB; clear HO_9; have BK306 := n0_; have BK307 := n1_; have BK308 := n2_; have BK309 := n3_; have HB := n4_; have HO330 := n5_; clear n0_ n1_ n2_ n3_ n4_ n5_; clear ho hb hg hat))
      repeat (go_quiet (fail); try go_wp2)
      go_meet
      case rel => exact ⟨_, (y328), H', ⟨by have := HJ4.out; have := HJ38.out; have := HJ59.out; have := HJ78.out; first | omega | exact Nat.le_refl _⟩, ⟨kp_ HO330⟩, ⟨bk_ BK306⟩, ⟨bk_ BK307⟩, ⟨bk_ BK308⟩, ⟨bk_ BK309⟩, ⟨bl_ HB⟩⟩
     case rest =>
      clear HC98
      obtain ⟨kq, x9_97, HA, HJ97, HO_9, BK306, BK307, BK308, BK309, HB⟩ := hcut
      rcases kq with _ | kj97
      · exact absurd HA.out (by simp [spec_l03Seam.j4])
      have H := HA.out
      clear HA
      simp only [spec_l03Seam.j4] at H
      have H' := Aside0.mk H
      clear H
      go_wp2
      repeat (go_quiet (fail); try go_wp2)
      go_loopg [10, 11] kj97 (fun kq v10 v11 w' => ∃ (x10_6 : Int) (x11_6 : Int), v10 = .int .i64 x10_6 ∧ v11 = .int .i64 x11_6 ∧ Aside0 (spec_l03Seam.l0 kq x9_97 x10_6 x11_6 = some r) ∧ Aside0 (kq ≤ kj97) ∧ Aside0 (Kd.R k34 34 w' w.heap.size (fun k_ => k_ ≠ gb306 ∧ k_ ≠ gb307 ∧ k_ ≠ gb308 ∧ k_ ≠ gb309) u9 x9_97) ∧ Aside0 (w'.heap[gb306]? = some (.cells #[.int .i16 a0_0, .int .i16 a0_1] 34 (0, 0))) ∧ Aside0 (w'.heap[gb307]? = some (.cells #[.int .i16 a1_0, .int .i16 a1_1] 34 (0, 0))) ∧ Aside0 (w'.heap[gb308]? = some (.cells #[.int .i16 a2_0, .int .i16 a2_1] 34 (0, 0))) ∧ Aside0 (w'.heap[gb309]? = some (.cells #[.int .i16 a3_0, .int .i16 a3_1] 34 (0, 0))) ∧ Aside0 (Below w.heap.size w w'))
      case atStart => exact ⟨(0), (0), (by first | rfl | (simp; done) | (simp [*]; done)), (by first | rfl | (simp; done) | (simp [*]; done)), H', ⟨Nat.le_refl _⟩, ⟨kp_ HO_9⟩, ⟨bk_ BK306⟩, ⟨bk_ BK307⟩, ⟨bk_ BK308⟩, ⟨bk_ BK309⟩, ⟨bl_ HB⟩⟩
      case round =>
       clear H'
       obtain ⟨x10_6, x11_6, rfl, rfl, HA, HK6, HO_9, BK306, BK307, BK308, BK309, HB⟩ := hrel
       rcases gk with _ | k6
       · exact absurd HA.out (by simp [spec_l03Seam.l0])
       have H := HA.out
       clear HA
       simp only [spec_l03Seam.l0] at H
       rcases (Decidable.em (x11_6 < (x9_97.length : Int))).symm with c116 | c116
       ·
        rw [if_neg c116] at H
        have c116b0 : decide (x11_6 < (x9_97.length : Int)) = false := decide_eq_false c116
        clear c116
        obtain rfl := Option.some.inj H
        obtain ⟨Ao124, co124, eo124⟩ := Kd.R_slice HO_9.out
        subst eo124
        go_wp2
        repeat (go_quiet (fail); try go_wp2)
        go_ret
        exact ⟨rt_, bl_ HB⟩

       rw [if_pos c116] at H
       have c116b0 : decide (x11_6 < (x9_97.length : Int)) = true := decide_eq_true c116
       clear c116
       have H' := Aside0.mk H
       clear H
       obtain ⟨Ao117, co117, eo117⟩ := Kd.R_slice HO_9.out
       subst eo117
       go_wp2
       repeat (go_quiet (fail); try go_wp2)
       go_loopg [10, 12] k6 (fun kq v10 v12 w' => ∃ (x10_7 : Int) (x12_7 : Int), v10 = .int .i64 x10_7 ∧ v12 = .int .i64 x12_7 ∧ Aside0 (spec_l03Seam.l1 kq x9_97 x10_7 x11_6 x12_7 = some r) ∧ Aside0 (kq ≤ k6) ∧ Aside0 (Kd.R k34 34 w' w.heap.size (fun k_ => k_ ≠ gb306 ∧ k_ ≠ gb307 ∧ k_ ≠ gb308 ∧ k_ ≠ gb309) (.slice Ao117 x9_97.length co117) x9_97) ∧ Aside0 (w'.heap[gb306]? = some (.cells #[.int .i16 a0_0, .int .i16 a0_1] 34 (0, 0))) ∧ Aside0 (w'.heap[gb307]? = some (.cells #[.int .i16 a1_0, .int .i16 a1_1] 34 (0, 0))) ∧ Aside0 (w'.heap[gb308]? = some (.cells #[.int .i16 a2_0, .int .i16 a2_1] 34 (0, 0))) ∧ Aside0 (w'.heap[gb309]? = some (.cells #[.int .i16 a3_0, .int .i16 a3_1] 34 (0, 0))) ∧ Aside0 (Below w.heap.size w w'))
       case atStart => exact ⟨(x10_6), (0), (by first | rfl | (simp; done) | (simp [*]; done)), (by first | rfl | (simp; done) | (simp [*]; done)), H', ⟨Nat.le_refl _⟩, ⟨kp_ HO_9⟩, ⟨bk_ BK306⟩, ⟨bk_ BK307⟩, ⟨bk_ BK308⟩, ⟨bk_ BK309⟩, ⟨bl_ HB⟩⟩
       case round =>
        clear H'
        obtain ⟨x10_7, x12_7, rfl, rfl, HA, HK7, HO_9, BK306, BK307, BK308, BK309, HB⟩ := hrel
        rcases gk with _ | k7
        · exact absurd HA.out (by simp [spec_l03Seam.l1])
        have H := HA.out
        clear HA
        simp only [spec_l03Seam.l1] at H
        rcases (Decidable.em (x12_7 < x11_6)).symm with c118 | c118
        ·
         rw [if_neg c118] at H
         have c118b0 : decide (x12_7 < x11_6) = false := decide_eq_false c118
         clear c118
         have H' := Aside0.mk H
         clear H
         go_wp2
         repeat (go_quiet (fail); try go_wp2)
         go_roundg k7
         case measure => have := HJ4.out; have := HJ38.out; have := HJ59.out; have := HJ78.out; have := HJ97.out; have := HK6.out; have := HK7.out; omega
         case rel => exact ⟨(x10_7), (wrap64 (x11_6 + 1)), (by first | rfl | (simp; done) | (simp [*]; done)), (by first | rfl | (simp; done) | (simp [*]; done)), H', ⟨by have := HJ4.out; have := HJ38.out; have := HJ59.out; have := HJ78.out; have := HJ97.out; have := HK6.out; have := HK7.out; omega⟩, ⟨kp_ HO_9⟩, ⟨bk_ BK306⟩, ⟨bk_ BK307⟩, ⟨bk_ BK308⟩, ⟨bk_ BK309⟩, ⟨bl_ HB⟩⟩
        rw [if_pos c118] at H
        have c118b0 : decide (x12_7 < x11_6) = true := decide_eq_true c118
        clear c118
        obtain ⟨c119b0, H⟩ := gx_ H
        obtain ⟨c120b0, H⟩ := gx_ H
        obtain ⟨c121b0, H⟩ := gx_ H
        obtain ⟨c122b0, H⟩ := gx_ H
        obtain ⟨t335, A123, H⟩ := be_ H
        (try dsimp only at H)
        have H' := Aside0.mk H
        clear H
        have p331 : 0 ≤ (x11_6 : Int) := od_
        have q331 : x11_6 < (x9_97.length : Int) := od_
        obtain ⟨ad331, e331, hx331_0, hx331_1⟩ := at_T34 (Kd.R_reads' HO_9.out).2.2 x11_6 p331 q331
        cases e331
        replace p331 := eq_true p331
        replace q331 := eq_true q331
        have p332 : 0 ≤ (x12_7 : Int) := od_
        have q332 : x12_7 < (x9_97.length : Int) := od_
        obtain ⟨ad332, e332, hx332_0, hx332_1⟩ := at_T34 (Kd.R_reads' HO_9.out).2.2 x12_7 p332 q332
        obtain rfl : ad331 = ad332 := (by injection e332)
        replace p332 := eq_true p332
        replace q332 := eq_true q332
        have p333 : 0 ≤ (x11_6 : Int) := od_
        have q333 : x11_6 < (x9_97.length : Int) := od_
        obtain ⟨ad333, e333, hx333_0, hx333_1⟩ := at_T34 (Kd.R_reads' HO_9.out).2.2 x11_6 p333 q333
        obtain rfl : ad331 = ad333 := (by injection e333)
        replace p333 := eq_true p333
        replace q333 := eq_true q333
        have p334 : 0 ≤ (x12_7 : Int) := od_
        have q334 : x12_7 < (x9_97.length : Int) := od_
        obtain ⟨ad334, e334, hx334_0, hx334_1⟩ := at_T34 (Kd.R_reads' HO_9.out).2.2 x12_7 p334 q334
        obtain rfl : ad331 = ad334 := (by injection e334)
        replace p334 := eq_true p334
        replace q334 := eq_true q334
        go_wp2_with (first | (go_at_call 59; (with_reducible refine (spec_l00Max.calls x10_7 (wrap64 ((wrap64 ((wrap64 ((wrap64 ((rd_T34 x9_97 x11_6).f0)) - (wrap64 ((rd_T34 x9_97 x12_7).f0)))) * (wrap64 ((wrap64 ((rd_T34 x9_97 x11_6).f0)) - (wrap64 ((rd_T34 x9_97 x12_7).f0)))))) + (wrap64 ((wrap64 ((wrap64 ((rd_T34 x9_97 x11_6).f1)) - (wrap64 ((rd_T34 x9_97 x12_7).f1)))) * (wrap64 ((wrap64 ((rd_T34 x9_97 x11_6).f1)) - (wrap64 ((rd_T34 x9_97 x12_7).f1)))))))) t335 _ A123.out).mono ?_); rintro e w' ⟨rfl, ⟨nd, rfl⟩⟩; (try first | exact ⟨rfl, _, World.drewN_drewN _ _ _⟩ | exact ⟨rfl, _, Eq.trans (World.drewN_drewN _ _ _) (congrArg (World.drewN _) (Nat.add_assoc _ _ _))⟩)))
        repeat (go_quiet (first | (go_at_call 59; (with_reducible refine (spec_l00Max.calls x10_7 (wrap64 ((wrap64 ((wrap64 ((wrap64 ((rd_T34 x9_97 x11_6).f0)) - (wrap64 ((rd_T34 x9_97 x12_7).f0)))) * (wrap64 ((wrap64 ((rd_T34 x9_97 x11_6).f0)) - (wrap64 ((rd_T34 x9_97 x12_7).f0)))))) + (wrap64 ((wrap64 ((wrap64 ((rd_T34 x9_97 x11_6).f1)) - (wrap64 ((rd_T34 x9_97 x12_7).f1)))) * (wrap64 ((wrap64 ((rd_T34 x9_97 x11_6).f1)) - (wrap64 ((rd_T34 x9_97 x12_7).f1)))))))) t335 _ A123.out).mono ?_); rintro e w' ⟨rfl, ⟨nd, rfl⟩⟩; (try first | exact ⟨rfl, _, World.drewN_drewN _ _ _⟩ | exact ⟨rfl, _, Eq.trans (World.drewN_drewN _ _ _) (congrArg (World.drewN _) (Nat.add_assoc _ _ _))⟩))); try go_wp2_with (first | (go_at_call 59; (with_reducible refine (spec_l00Max.calls x10_7 (wrap64 ((wrap64 ((wrap64 ((wrap64 ((rd_T34 x9_97 x11_6).f0)) - (wrap64 ((rd_T34 x9_97 x12_7).f0)))) * (wrap64 ((wrap64 ((rd_T34 x9_97 x11_6).f0)) - (wrap64 ((rd_T34 x9_97 x12_7).f0)))))) + (wrap64 ((wrap64 ((wrap64 ((rd_T34 x9_97 x11_6).f1)) - (wrap64 ((rd_T34 x9_97 x12_7).f1)))) * (wrap64 ((wrap64 ((rd_T34 x9_97 x11_6).f1)) - (wrap64 ((rd_T34 x9_97 x12_7).f1)))))))) t335 _ A123.out).mono ?_); rintro e w' ⟨rfl, ⟨nd, rfl⟩⟩; (try first | exact ⟨rfl, _, World.drewN_drewN _ _ _⟩ | exact ⟨rfl, _, Eq.trans (World.drewN_drewN _ _ _) (congrArg (World.drewN _) (Nat.add_assoc _ _ _))⟩))))
        go_roundg k7
        case measure => have := HJ4.out; have := HJ38.out; have := HJ59.out; have := HJ78.out; have := HJ97.out; have := HK6.out; have := HK7.out; omega
        case rel => exact ⟨(t335), (wrap64 (x12_7 + 1)), (by first | rfl | (simp; done) | (simp [*]; done)), (by first | rfl | (simp; done) | (simp [*]; done)), H', ⟨by have := HJ4.out; have := HJ38.out; have := HJ59.out; have := HJ78.out; have := HJ97.out; have := HK6.out; have := HK7.out; omega⟩, ⟨kp_ HO_9⟩, ⟨bk_ BK306⟩, ⟨bk_ BK307⟩, ⟨bk_ BK308⟩, ⟨bk_ BK309⟩, ⟨bl_ HB⟩⟩
end Go.Proofs.Ytmglnofmmgokkaa.PA
