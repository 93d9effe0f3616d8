/- Pure functions, and that Go's functions come to them. -/
import Derived.Test.YtmglnofmmgokkaaPAx0
import Derived.Test.YtmglnofmmgokkaaPAxm22
import Derived.Test.YtmglnofmmgokkaaPAxgImpl
namespace Go.Proofs.Ytmglnofmmgokkaa.PA
open Go.RowKit Go.Proofs.YtmglnofmmgokkaaW.PrintWords Go.Proofs.YtmglnofmmgokkaaW.PrintLast Go.Proofs.YtmglnofmmgokkaaW.PrintMore
set_option linter.unusedVariables false
set_option linter.unusedSimpArgs false

/-! ### impl_common: function 58 -/
mutual
def impl_common.j0 : Nat → Bool → Int → Int → Int → Int → Int → Int → Int → Int → Option (Int)
 | 0, _, _, _, _, _, _, _, _, _ => none
 | k + 1, x22, x284000, x284001, x285000, x285001, x286000, x286001, x287000, x287001 => if x22 = true then (some 0) else ((impl_cornerLess.f x285000 x285001 x284000 x284001).bind fun t289 => (if t289 = true then (impl_common.j1 k x285000 x285001 x284000 x284001 x286000 x286001 x287000 x287001) else (impl_common.j1 k x284000 x284001 x285000 x285001 x286000 x286001 x287000 x287001)))
def impl_common.j1 : Nat → Int → Int → Int → Int → Int → Int → Int → Int → Option (Int)
 | 0, _, _, _, _, _, _, _, _ => none
 | k + 1, x284000, x284001, x285000, x285001, x286000, x286001, x287000, x287001 => (impl_cornerLess.f x287000 x287001 x286000 x286001).bind fun t290 => (if t290 = true then (impl_common.j2 k x284000 x284001 x285000 x285001 x287000 x287001 x286000 x286001) else (impl_common.j2 k x284000 x284001 x285000 x285001 x286000 x286001 x287000 x287001))
def impl_common.j2 : Nat → Int → Int → Int → Int → Int → Int → Int → Int → Option (Int)
 | 0, _, _, _, _, _, _, _, _ => none
 | k + 1, x284000, x284001, x285000, x285001, x286000, x286001, x287000, x287001 => (impl_cornerLess.f x284000 x284001 x286000 x286001).bind fun t291 => (if t291 = true then (impl_common.j3 k x286000 x286001 x285000 x285001 x287000 x287001) else (impl_common.j3 k x284000 x284001 x285000 x285001 x287000 x287001))
def impl_common.j3 : Nat → Int → Int → Int → Int → Int → Int → Option (Int)
 | 0, _, _, _, _, _, _ => none
 | k + 1, x284000, x284001, x285000, x285001, x287000, x287001 => (impl_cornerLess.f x287000 x287001 x285000 x285001).bind fun t292 => (if t292 = true then ((impl_cornerLess.f x284000 x284001 x287000 x287001).bind fun t293 => (if t293 = true then (some (wrap64 ((wrap64 ((wrap64 ((wrap64 (x287000)) - (wrap64 (x284000)))) * (wrap64 ((wrap64 (x287000)) - (wrap64 (x284000)))))) + (wrap64 ((wrap64 ((wrap64 (x287001)) - (wrap64 (x284001)))) * (wrap64 ((wrap64 (x287001)) - (wrap64 (x284001))))))))) else (some 0))) else ((impl_cornerLess.f x284000 x284001 x285000 x285001).bind fun t294 => (if t294 = true then (some (wrap64 ((wrap64 ((wrap64 ((wrap64 (x285000)) - (wrap64 (x284000)))) * (wrap64 ((wrap64 (x285000)) - (wrap64 (x284000)))))) + (wrap64 ((wrap64 ((wrap64 (x285001)) - (wrap64 (x284001)))) * (wrap64 ((wrap64 (x285001)) - (wrap64 (x284001))))))))) else (some 0))))
end
def impl_common.f (k : Nat) (a0_0 : Int) (a0_1 : Int) (a1_0 : Int) (a1_1 : Int) (a2_0 : Int) (a2_1 : Int) (a3_0 : Int) (a3_1 : Int) : Option (Int) := (impl_side.f a0_0 a0_1 a1_0 a1_1 a2_0 a2_1).bind fun t287 => (if t287 = 0 then ((impl_side.f a0_0 a0_1 a1_0 a1_1 a3_0 a3_1).bind fun t288 => (impl_common.j0 k (t288 != 0) a0_0 a0_1 a1_0 a1_1 a2_0 a2_1 a3_0 a3_1)) else (impl_common.j0 k true a0_0 a0_1 a1_0 a1_1 a2_0 a2_1 a3_0 a3_1))
theorem impl_common.mono_l : ∀ k, (∀ y0 y1 y2 y3 y4 y5 y6 y7 y8, LeO (impl_common.j0 k y0 y1 y2 y3 y4 y5 y6 y7 y8) (impl_common.j0 (k + 1) y0 y1 y2 y3 y4 y5 y6 y7 y8)) ∧ (∀ y0 y1 y2 y3 y4 y5 y6 y7, LeO (impl_common.j1 k y0 y1 y2 y3 y4 y5 y6 y7) (impl_common.j1 (k + 1) y0 y1 y2 y3 y4 y5 y6 y7)) ∧ (∀ y0 y1 y2 y3 y4 y5 y6 y7, LeO (impl_common.j2 k y0 y1 y2 y3 y4 y5 y6 y7) (impl_common.j2 (k + 1) y0 y1 y2 y3 y4 y5 y6 y7)) ∧ (∀ y0 y1 y2 y3 y4 y5, LeO (impl_common.j3 k y0 y1 y2 y3 y4 y5) (impl_common.j3 (k + 1) y0 y1 y2 y3 y4 y5))
 | 0 => ⟨fun _ _ _ _ _ _ _ _ _ r h => by simp [impl_common.j0] at h, fun _ _ _ _ _ _ _ _ r h => by simp [impl_common.j1] at h, fun _ _ _ _ _ _ _ _ r h => by simp [impl_common.j2] at h, fun _ _ _ _ _ _ r h => by simp [impl_common.j3] at h⟩
 | k + 1 => by
  obtain ⟨ih0, ih1, ih2, ih3⟩ := impl_common.mono_l k
  refine ⟨?_, ?_, ?_, ?_⟩ <;> intros
  all_goals first | unfold impl_common.j0 | unfold impl_common.j1 | unfold impl_common.j2 | unfold impl_common.j3
  all_goals repeat' first | (with_reducible first | exact ih0 _ _ _ _ _ _ _ _ _ | exact ih1 _ _ _ _ _ _ _ _ | exact ih2 _ _ _ _ _ _ _ _ | exact ih3 _ _ _ _ _ _ | exact LeO.refl _ | exact LeO.none _ | refine LeO.ite ?_ ?_ | refine LeO.bind ?_ (fun _ => ?_))
theorem impl_common.mono : ∀ a0 a1 a2 a3 a4 a5 a6 a7 k, LeO (impl_common.f k a0 a1 a2 a3 a4 a5 a6 a7) (impl_common.f (k + 1) a0 a1 a2 a3 a4 a5 a6 a7) := by
 intro a0 a1 a2 a3 a4 a5 a6 a7 k
 obtain ⟨ih0, ih1, ih2, ih3⟩ := impl_common.mono_l k
 unfold impl_common.f
 repeat' first | (with_reducible first | exact ih0 _ _ _ _ _ _ _ _ _ | exact ih1 _ _ _ _ _ _ _ _ | exact ih2 _ _ _ _ _ _ _ _ | exact ih3 _ _ _ _ _ _ | exact LeO.refl _ | exact LeO.none _ | refine LeO.ite ?_ ?_ | refine LeO.bind ?_ (fun _ => ?_))
set_option maxHeartbeats 8000000 in
set_option maxRecDepth 100000 in
theorem impl_common.calls (k : Nat) (a0_0 : Int) (a0_1 : Int) (a1_0 : Int) (a1_1 : Int) (a2_0 : Int) (a2_1 : Int) (a3_0 : Int) (a3_1 : Int) (r : Int) (w : World) (h : impl_common.f k a0_0 a0_1 a1_0 a1_1 a2_0 a2_1 a3_0 a3_1 = some r) :
  Calls Try.prog 58 #[.agg #[.int .i16 a0_0, .int .i16 a0_1], .agg #[.int .i16 a1_0, .int .i16 a1_1], .agg #[.int .i16 a2_0, .int .i16 a2_1], .agg #[.int .i16 a3_0, .int .i16 a3_1]] w fun e w' => e = .returned (.int .i64 r) ∧ Below w.heap.size w w' := by
 have hu34 := Try.underlying34
 have HB := Aside0.mk (Below.refl w.heap.size w)
 have H : ((impl_side.f a0_0 a0_1 a1_0 a1_1 a2_0 a2_1).bind fun t287 => (if t287 = 0 then ((impl_side.f a0_0 a0_1 a1_0 a1_1 a3_0 a3_1).bind fun t288 => (impl_common.j0 k (t288 != 0) a0_0 a0_1 a1_0 a1_1 a2_0 a2_1 a3_0 a3_1)) else (impl_common.j0 k true a0_0 a0_1 a1_0 a1_1 a2_0 a2_1 a3_0 a3_1))) = some r := h
 clear h
 have HC5 := Aside0.mk H
 clear H
 go_enter Try.func58, Try.ntmps58
 go_upto_region 1 with (first | ((with_reducible refine gate_dst (N := 4) rfl ?_); refine boxM_ 4 #[.int .i16 a0_0, .int .i16 a0_1] 34 ?_; intro gb283 hg w6 hbox hb; have BK283 := Aside0.mk (hbox); have GW283 := Aside0.mk ((by rw [hg]; exact (below_size (kB_ HB)) : w.heap.size ≤ gb283)); have GE283 := Aside0.mk ((by rw [hg]; exact (below_size (kB_ HB)) : w.heap.size ≤ gb283)); replace HB := Aside0.mk (below_step (kB_ HB) hb); clear hb hbox hg) | ((with_reducible refine gate_dst (N := 5) rfl ?_); refine boxM_ 5 #[.int .i16 a1_0, .int .i16 a1_1] 34 ?_; intro gb284 hg w7 hbox hb; have BK284 := Aside0.mk (hbox); have GW284 := Aside0.mk ((by rw [hg]; exact (below_size (k1_ HB GE283)) : w.heap.size ≤ gb284)); have GE284 := Aside0.mk ((by rw [hg]; exact (below_size (k1_ HB GE283)) : w.heap.size ≤ gb284)); replace HB := Aside0.mk (below_step (k1_ HB GE283) hb); have NB283_284 := nl_ BK283 hg; have NB284_283 := ng_ BK283 hg; replace BK283 := bd_ BK283 hb; clear hb hbox hg) | ((with_reducible refine gate_dst (N := 6) rfl ?_); refine boxM_ 6 #[.int .i16 a2_0, .int .i16 a2_1] 34 ?_; intro gb285 hg w8 hbox hb; have BK285 := Aside0.mk (hbox); have GW285 := Aside0.mk ((by rw [hg]; exact (below_size (k2_ HB GE283 GE284)) : w.heap.size ≤ gb285)); have GE285 := Aside0.mk ((by rw [hg]; exact (below_size (k2_ HB GE283 GE284)) : w.heap.size ≤ gb285)); replace HB := Aside0.mk (below_step (k2_ HB GE283 GE284) hb); have NB283_285 := nl_ BK283 hg; have NB285_283 := ng_ BK283 hg; replace BK283 := bd_ BK283 hb; have NB284_285 := nl_ BK284 hg; have NB285_284 := ng_ BK284 hg; replace BK284 := bd_ BK284 hb; clear hb hbox hg) | ((with_reducible refine gate_dst (N := 7) rfl ?_); refine boxM_ 7 #[.int .i16 a3_0, .int .i16 a3_1] 34 ?_; intro gb286 hg w9 hbox hb; have BK286 := Aside0.mk (hbox); have GW286 := Aside0.mk ((by rw [hg]; exact (below_size (k3_ HB GE283 GE284 GE285)) : w.heap.size ≤ gb286)); have GE286 := Aside0.mk ((by rw [hg]; exact (below_size (k3_ HB GE283 GE284 GE285)) : w.heap.size ≤ gb286)); replace HB := Aside0.mk (below_step (k3_ HB GE283 GE284 GE285) hb); have NB283_286 := nl_ BK283 hg; have NB286_283 := ng_ BK283 hg; replace BK283 := bd_ BK283 hb; have NB284_286 := nl_ BK284 hg; have NB286_284 := ng_ BK284 hg; replace BK284 := bd_ BK284 hb; have NB285_286 := nl_ BK285 hg; have NB286_285 := ng_ BK285 hg; replace BK285 := bd_ BK285 hb; clear hb hbox hg))
 repeat (go_quiet (fail); try go_wp2)
 (try simp only [Act.put, List.setIfInBounds_toArray, List.set_cons_zero, List.set_cons_succ])
 go_cut [22] (fun v22 wc => ∃ (kq : Nat) (x22_4 : Bool), v22 = .bool x22_4 ∧ Aside0 (impl_common.j0 kq x22_4 a0_0 a0_1 a1_0 a1_1 a2_0 a2_1 a3_0 a3_1 = some r) ∧ Aside0 (kq ≤ k) ∧ Aside0 (wc.heap[gb283]? = some (.cells #[.int .i16 a0_0, .int .i16 a0_1] 34 (0, 0))) ∧ Aside0 (wc.heap[gb284]? = some (.cells #[.int .i16 a1_0, .int .i16 a1_1] 34 (0, 0))) ∧ Aside0 (wc.heap[gb285]? = some (.cells #[.int .i16 a2_0, .int .i16 a2_1] 34 (0, 0))) ∧ Aside0 (wc.heap[gb286]? = some (.cells #[.int .i16 a3_0, .int .i16 a3_1] 34 (0, 0))) ∧ Aside0 (Below w.heap.size w wc))
 case first =>
  have H := HC5.out
  clear HC5
  obtain ⟨t287, A10, H⟩ := be_ H
  (try dsimp only at H)
  rcases (Decidable.em (t287 = 0)).symm with c11 | c11
  ·
   rw [if_neg c11] at H
   have c11b0 : (t287 == 0) = false := beq_eq_false_iff_ne.mpr c11
   have c11b1 : (t287 != 0) = true := bne_iff_ne.mpr c11
   (first | rw [c11b0] | (simp only [i64_w, i32_w]; rw [c11b0]) | skip)
   have H' := Aside0.mk H
   clear H
   have hnb27 := NB283_284.out
   have hnc27 := NB284_283.out
   have hnb28 := NB283_285.out
   have hnc28 := NB285_283.out
   have hnb29 := NB283_286.out
   have hnc29 := NB286_283.out
   obtain ⟨⟨hcz30_0, hcz30_1⟩, hfz30_0, hfz30_1⟩ := bq_ BK283
   have hnb31 := NB284_285.out
   have hnc31 := NB285_284.out
   have hnb32 := NB284_286.out
   have hnc32 := NB286_284.out
   obtain ⟨⟨hcz33_0, hcz33_1⟩, hfz33_0, hfz33_1⟩ := bq_ BK284
   have hnb34 := NB285_286.out
   have hnc34 := NB286_285.out
   obtain ⟨⟨hcz35_0, hcz35_1⟩, hfz35_0, hfz35_1⟩ := bq_ BK285
   go_wp2_with (first | (go_at_call 56; (with_reducible refine (impl_side.calls a0_0 a0_1 a1_0 a1_1 a2_0 a2_1 t287 _ A10.out).mono ?_); rintro e w36 ⟨rfl, hb⟩; replace BK283 := bd_ BK283 hb; replace BK284 := bd_ BK284 hb; replace BK285 := bd_ BK285 hb; replace BK286 := bd_ BK286 hb; replace HB := Aside0.mk (below_step (k4_ HB GE283 GE284 GE285 GE286) hb); clear hb))
   repeat (go_quiet (fail); try go_wp2)
   go_meet
   case rel => exact ⟨_, (true), (by first | rfl | (simp; done) | (simp [*]; done)), H', ⟨by first | omega | exact Nat.le_refl _⟩, ⟨bk_ BK283⟩, ⟨bk_ BK284⟩, ⟨bk_ BK285⟩, ⟨bk_ BK286⟩, ⟨k4_ HB GE283 GE284 GE285 GE286⟩⟩
  rw [if_pos c11] at H
  have c11b0 : (t287 == 0) = true := beq_iff_eq.mpr c11
  have c11b1 : (t287 != 0) = false := bne_eq_false_iff_eq.mpr c11
  clear c11
  (first | rw [c11b0] | (simp only [i64_w, i32_w]; rw [c11b0]) | skip)
  obtain ⟨t288, A12, H⟩ := be_ H
  (try dsimp only at H)
  have H' := Aside0.mk H
  clear H
  have hnb13 := NB283_284.out
  have hnc13 := NB284_283.out
  have hnb14 := NB283_285.out
  have hnc14 := NB285_283.out
  have hnb15 := NB283_286.out
  have hnc15 := NB286_283.out
  obtain ⟨⟨hcz16_0, hcz16_1⟩, hfz16_0, hfz16_1⟩ := bq_ BK283
  have hnb17 := NB284_285.out
  have hnc17 := NB285_284.out
  have hnb18 := NB284_286.out
  have hnc18 := NB286_284.out
  obtain ⟨⟨hcz19_0, hcz19_1⟩, hfz19_0, hfz19_1⟩ := bq_ BK284
  have hnb20 := NB285_286.out
  have hnc20 := NB286_285.out
  obtain ⟨⟨hcz21_0, hcz21_1⟩, hfz21_0, hfz21_1⟩ := bq_ BK285
  go_wp2_with (first | (go_at_call 56; (with_reducible refine (impl_side.calls a0_0 a0_1 a1_0 a1_1 a2_0 a2_1 t287 _ A10.out).mono ?_); rintro e w22 ⟨rfl, hb⟩; replace BK283 := bd_ BK283 hb; replace BK284 := bd_ BK284 hb; replace BK285 := bd_ BK285 hb; replace BK286 := bd_ BK286 hb; replace HB := Aside0.mk (below_step (k4_ HB GE283 GE284 GE285 GE286) hb); clear hb; obtain ⟨⟨hcz23_0, hcz23_1⟩, hfz23_0, hfz23_1⟩ := bq_ BK283; obtain ⟨⟨hcz24_0, hcz24_1⟩, hfz24_0, hfz24_1⟩ := bq_ BK284; obtain ⟨⟨hcz25_0, hcz25_1⟩, hfz25_0, hfz25_1⟩ := bq_ BK286) | (go_at_call 56; (with_reducible refine (impl_side.calls a0_0 a0_1 a1_0 a1_1 a3_0 a3_1 t288 _ A12.out).mono ?_); rintro e w26 ⟨rfl, hb⟩; replace BK283 := bd_ BK283 hb; replace BK284 := bd_ BK284 hb; replace BK285 := bd_ BK285 hb; replace BK286 := bd_ BK286 hb; replace HB := Aside0.mk (below_step (k4_ HB GE283 GE284 GE285 GE286) hb); clear hb))
  repeat (go_quiet (fail); try go_wp2)
  go_meet
  case rel => exact ⟨_, ((t288 != 0)), (by first | rfl | (simp; done) | (simp [*]; done)), H', ⟨by first | omega | exact Nat.le_refl _⟩, ⟨bk_ BK283⟩, ⟨bk_ BK284⟩, ⟨bk_ BK285⟩, ⟨bk_ BK286⟩, ⟨k4_ HB GE283 GE284 GE285 GE286⟩⟩
 case rest =>
  clear HC5
  obtain ⟨kq, x22_4, rfl, HA, HJ4, BK283, BK284, BK285, BK286, HB⟩ := hcut
  rcases kq with _ | kj4
  · exact absurd HA.out (by simp [impl_common.j0])
  have H := HA.out
  clear HA
  simp only [impl_common.j0] at H
  by_cases c37 : x22_4 = true
  ·
   subst c37
   replace H := gt_ H
   obtain rfl := Option.some.inj H
   go_wp2
   repeat (go_quiet (fail); try go_wp2)
   go_ret
   exact ⟨rt_, k4_ HB GE283 GE284 GE285 GE286⟩
  replace c37 := Bool.eq_false_iff.mpr c37
  subst c37
  replace H := gf_ H
  obtain ⟨t289, A38, H⟩ := be_ H
  (try dsimp only at H)
  have HC39 := Aside0.mk H
  clear H
  have hnb40 := NB284_283.out
  have hnc40 := NB283_284.out
  have hnb41 := NB284_285.out
  have hnc41 := NB285_284.out
  have hnb42 := NB284_286.out
  have hnc42 := NB286_284.out
  obtain ⟨⟨hcz43_0, hcz43_1⟩, hfz43_0, hfz43_1⟩ := bq_ BK284
  have hnb44 := NB283_285.out
  have hnc44 := NB285_283.out
  have hnb45 := NB283_286.out
  have hnc45 := NB286_283.out
  obtain ⟨⟨hcz46_0, hcz46_1⟩, hfz46_0, hfz46_1⟩ := bq_ BK283
  go_upto_if 25 with (first | (go_at_call 48; (with_reducible refine (impl_cornerLess.calls a1_0 a1_1 a0_0 a0_1 t289 _ A38.out).mono ?_); rintro e w47 ⟨rfl, hb⟩; replace BK283 := bd_ BK283 hb; replace BK284 := bd_ BK284 hb; replace BK285 := bd_ BK285 hb; replace BK286 := bd_ BK286 hb; replace HB := Aside0.mk (below_step (k4_ HB GE283 GE284 GE285 GE286) hb); clear hb))
  repeat (go_quiet (fail); try go_wp2)
  (try simp only [Act.put, List.setIfInBounds_toArray, List.set_cons_zero, List.set_cons_succ])
  go_cut [] (fun wc => ∃ (kq : Nat) (x284000_38 : Int) (x284001_38 : Int) (x285000_38 : Int) (x285001_38 : Int), Aside0 (impl_common.j1 kq x284000_38 x284001_38 x285000_38 x285001_38 a2_0 a2_1 a3_0 a3_1 = some r) ∧ Aside0 (kq ≤ kj4) ∧ Aside0 (wc.heap[gb283]? = some (.cells #[.int .i16 x284000_38, .int .i16 x284001_38] 34 (0, 0))) ∧ Aside0 (wc.heap[gb284]? = some (.cells #[.int .i16 x285000_38, .int .i16 x285001_38] 34 (0, 0))) ∧ Aside0 (wc.heap[gb285]? = some (.cells #[.int .i16 a2_0, .int .i16 a2_1] 34 (0, 0))) ∧ Aside0 (wc.heap[gb286]? = some (.cells #[.int .i16 a3_0, .int .i16 a3_1] 34 (0, 0))) ∧ Aside0 (Below w.heap.size w wc))
  case first =>
   have H := HC39.out
   clear HC39
   rcases (Decidable.em (t289 = true)).symm with c48 | c48
   ·
    replace c48 := Bool.eq_false_iff.mpr c48
    subst c48
    replace H := gf_ H
    have H' := Aside0.mk H
    clear H
    go_wp2
    repeat (go_quiet (fail); try go_wp2)
    go_meet
    case rel => exact ⟨_, (a0_0), (a0_1), (a1_0), (a1_1), H', ⟨by have := HJ4.out; first | omega | exact Nat.le_refl _⟩, ⟨bk_ BK283⟩, ⟨bk_ BK284⟩, ⟨bk_ BK285⟩, ⟨bk_ BK286⟩, ⟨k4_ HB GE283 GE284 GE285 GE286⟩⟩
   subst c48
   replace H := gt_ H
   have H' := Aside0.mk H
   clear H
   have hnb49 := NB284_283.out
   have hnc49 := NB283_284.out
   have hnb50 := NB284_285.out
   have hnc50 := NB285_284.out
   have hnb51 := NB284_286.out
   have hnc51 := NB286_284.out
   obtain ⟨⟨hcz52_0, hcz52_1⟩, hfz52_0, hfz52_1⟩ := bq_ BK284
   have hnb53 := NB283_285.out
   have hnc53 := NB285_283.out
   have hnb54 := NB283_286.out
   have hnc54 := NB286_283.out
   obtain ⟨⟨hcz55_0, hcz55_1⟩, hfz55_0, hfz55_1⟩ := bq_ BK283
   go_wp2
   repeat (go_quiet (fail); try go_wp2)
   go_meet
   case rel => exact ⟨_, (a1_0), (a1_1), (a0_0), (a0_1), H', ⟨by have := HJ4.out; first | omega | exact Nat.le_refl _⟩, ⟨by (with_reducible repeat (first | refine blk_drewN ?_ _ | refine blk_drew ?_ | refine blk_alloc ?_ _)); refine blk_far ?_ NB283_284.out _; (with_reducible repeat (first | refine blk_drewN ?_ _ | refine blk_drew ?_ | refine blk_alloc ?_ _)); refine blk_far ?_ NB283_284.out _; (with_reducible repeat (first | refine blk_drewN ?_ _ | refine blk_drew ?_ | refine blk_alloc ?_ _)); refine blk_put (cs := #[.int .i16 a1_0, .int .i16 a0_1]) ?_ 1 _ rfl; (with_reducible repeat (first | refine blk_drewN ?_ _ | refine blk_drew ?_ | refine blk_alloc ?_ _)); refine blk_put (cs := #[.int .i16 a0_0, .int .i16 a0_1]) ?_ 0 _ rfl; (with_reducible repeat (first | refine blk_drewN ?_ _ | refine blk_drew ?_ | refine blk_alloc ?_ _)); exact BK283.out⟩, ⟨by (with_reducible repeat (first | refine blk_drewN ?_ _ | refine blk_drew ?_ | refine blk_alloc ?_ _)); refine blk_put (cs := #[.int .i16 a0_0, .int .i16 a1_1]) ?_ 1 _ rfl; (with_reducible repeat (first | refine blk_drewN ?_ _ | refine blk_drew ?_ | refine blk_alloc ?_ _)); refine blk_put (cs := #[.int .i16 a1_0, .int .i16 a1_1]) ?_ 0 _ rfl; (with_reducible repeat (first | refine blk_drewN ?_ _ | refine blk_drew ?_ | refine blk_alloc ?_ _)); refine blk_far ?_ NB284_283.out _; (with_reducible repeat (first | refine blk_drewN ?_ _ | refine blk_drew ?_ | refine blk_alloc ?_ _)); refine blk_far ?_ NB284_283.out _; (with_reducible repeat (first | refine blk_drewN ?_ _ | refine blk_drew ?_ | refine blk_alloc ?_ _)); exact BK284.out⟩, ⟨by (with_reducible repeat (first | refine blk_drewN ?_ _ | refine blk_drew ?_ | refine blk_alloc ?_ _)); refine blk_far ?_ NB285_284.out _; (with_reducible repeat (first | refine blk_drewN ?_ _ | refine blk_drew ?_ | refine blk_alloc ?_ _)); refine blk_far ?_ NB285_284.out _; (with_reducible repeat (first | refine blk_drewN ?_ _ | refine blk_drew ?_ | refine blk_alloc ?_ _)); refine blk_far ?_ NB285_283.out _; (with_reducible repeat (first | refine blk_drewN ?_ _ | refine blk_drew ?_ | refine blk_alloc ?_ _)); refine blk_far ?_ NB285_283.out _; (with_reducible repeat (first | refine blk_drewN ?_ _ | refine blk_drew ?_ | refine blk_alloc ?_ _)); exact BK285.out⟩, ⟨by (with_reducible repeat (first | refine blk_drewN ?_ _ | refine blk_drew ?_ | refine blk_alloc ?_ _)); refine blk_far ?_ NB286_284.out _; (with_reducible repeat (first | refine blk_drewN ?_ _ | refine blk_drew ?_ | refine blk_alloc ?_ _)); refine blk_far ?_ NB286_284.out _; (with_reducible repeat (first | refine blk_drewN ?_ _ | refine blk_drew ?_ | refine blk_alloc ?_ _)); refine blk_far ?_ NB286_283.out _; (with_reducible repeat (first | refine blk_drewN ?_ _ | refine blk_drew ?_ | refine blk_alloc ?_ _)); refine blk_far ?_ NB286_283.out _; (with_reducible repeat (first | refine blk_drewN ?_ _ | refine blk_drew ?_ | refine blk_alloc ?_ _)); exact BK286.out⟩, ⟨k4_ HB GE283 GE284 GE285 GE286⟩⟩
  case rest =>
   clear HC39
   obtain ⟨kq, x284000_38, x284001_38, x285000_38, x285001_38, HA, HJ38, BK283, BK284, BK285, BK286, HB⟩ := hcut
   rcases kq with _ | kj38
   · exact absurd HA.out (by simp [impl_common.j1])
   have H := HA.out
   clear HA
   simp only [impl_common.j1] at H
   obtain ⟨t290, A56, H⟩ := be_ H
   (try dsimp only at H)
   have HC57 := Aside0.mk H
   clear H
   have hnb58 := NB286_283.out
   have hnc58 := NB283_286.out
   have hnb59 := NB286_284.out
   have hnc59 := NB284_286.out
   have hnb60 := NB286_285.out
   have hnc60 := NB285_286.out
   obtain ⟨⟨hcz61_0, hcz61_1⟩, hfz61_0, hfz61_1⟩ := bq_ BK286
   have hnb62 := NB285_283.out
   have hnc62 := NB283_285.out
   have hnb63 := NB285_284.out
   have hnc63 := NB284_285.out
   obtain ⟨⟨hcz64_0, hcz64_1⟩, hfz64_0, hfz64_1⟩ := bq_ BK285
   go_upto_if 30 with (first | (go_at_call 48; (with_reducible refine (impl_cornerLess.calls a3_0 a3_1 a2_0 a2_1 t290 _ A56.out).mono ?_); rintro e w65 ⟨rfl, hb⟩; replace BK283 := bd_ BK283 hb; replace BK284 := bd_ BK284 hb; replace BK285 := bd_ BK285 hb; replace BK286 := bd_ BK286 hb; replace HB := Aside0.mk (below_step (k4_ HB GE283 GE284 GE285 GE286) hb); clear hb))
   repeat (go_quiet (fail); try go_wp2)
   (try simp only [Act.put, List.setIfInBounds_toArray, List.set_cons_zero, List.set_cons_succ])
   go_cut [] (fun wc => ∃ (kq : Nat) (x286000_56 : Int) (x286001_56 : Int) (x287000_56 : Int) (x287001_56 : Int), Aside0 (impl_common.j2 kq x284000_38 x284001_38 x285000_38 x285001_38 x286000_56 x286001_56 x287000_56 x287001_56 = some r) ∧ Aside0 (kq ≤ kj38) ∧ Aside0 (wc.heap[gb283]? = some (.cells #[.int .i16 x284000_38, .int .i16 x284001_38] 34 (0, 0))) ∧ Aside0 (wc.heap[gb284]? = some (.cells #[.int .i16 x285000_38, .int .i16 x285001_38] 34 (0, 0))) ∧ Aside0 (wc.heap[gb285]? = some (.cells #[.int .i16 x286000_56, .int .i16 x286001_56] 34 (0, 0))) ∧ Aside0 (wc.heap[gb286]? = some (.cells #[.int .i16 x287000_56, .int .i16 x287001_56] 34 (0, 0))) ∧ Aside0 (Below w.heap.size w wc))
   case first =>
    have H := HC57.out
    clear HC57
    rcases (Decidable.em (t290 = true)).symm with c66 | c66
    ·
     replace c66 := Bool.eq_false_iff.mpr c66
     subst c66
     replace H := gf_ H
     have H' := Aside0.mk H
     clear H
     go_wp2
     repeat (go_quiet (fail); try go_wp2)
     go_meet
     case rel => exact ⟨_, (a2_0), (a2_1), (a3_0), (a3_1), H', ⟨by have := HJ4.out; have := HJ38.out; first | omega | exact Nat.le_refl _⟩, ⟨bk_ BK283⟩, ⟨bk_ BK284⟩, ⟨bk_ BK285⟩, ⟨bk_ BK286⟩, ⟨k4_ HB GE283 GE284 GE285 GE286⟩⟩
    subst c66
    replace H := gt_ H
    have H' := Aside0.mk H
    clear H
    have hnb67 := NB286_283.out
    have hnc67 := NB283_286.out
    have hnb68 := NB286_284.out
    have hnc68 := NB284_286.out
    have hnb69 := NB286_285.out
    have hnc69 := NB285_286.out
    obtain ⟨⟨hcz70_0, hcz70_1⟩, hfz70_0, hfz70_1⟩ := bq_ BK286
    have hnb71 := NB285_283.out
    have hnc71 := NB283_285.out
    have hnb72 := NB285_284.out
    have hnc72 := NB284_285.out
    obtain ⟨⟨hcz73_0, hcz73_1⟩, hfz73_0, hfz73_1⟩ := bq_ BK285
    go_wp2
    repeat (go_quiet (fail); try go_wp2)
    go_meet
    case rel => exact ⟨_, (a3_0), (a3_1), (a2_0), (a2_1), H', ⟨by have := HJ4.out; have := HJ38.out; first | omega | exact Nat.le_refl _⟩, ⟨by (with_reducible repeat (first | refine blk_drewN ?_ _ | refine blk_drew ?_ | refine blk_alloc ?_ _)); refine blk_far ?_ NB283_286.out _; (with_reducible repeat (first | refine blk_drewN ?_ _ | refine blk_drew ?_ | refine blk_alloc ?_ _)); refine blk_far ?_ NB283_286.out _; (with_reducible repeat (first | refine blk_drewN ?_ _ | refine blk_drew ?_ | refine blk_alloc ?_ _)); refine blk_far ?_ NB283_285.out _; (with_reducible repeat (first | refine blk_drewN ?_ _ | refine blk_drew ?_ | refine blk_alloc ?_ _)); refine blk_far ?_ NB283_285.out _; (with_reducible repeat (first | refine blk_drewN ?_ _ | refine blk_drew ?_ | refine blk_alloc ?_ _)); exact BK283.out⟩, ⟨by (with_reducible repeat (first | refine blk_drewN ?_ _ | refine blk_drew ?_ | refine blk_alloc ?_ _)); refine blk_far ?_ NB284_286.out _; (with_reducible repeat (first | refine blk_drewN ?_ _ | refine blk_drew ?_ | refine blk_alloc ?_ _)); refine blk_far ?_ NB284_286.out _; (with_reducible repeat (first | refine blk_drewN ?_ _ | refine blk_drew ?_ | refine blk_alloc ?_ _)); refine blk_far ?_ NB284_285.out _; (with_reducible repeat (first | refine blk_drewN ?_ _ | refine blk_drew ?_ | refine blk_alloc ?_ _)); refine blk_far ?_ NB284_285.out _; (with_reducible repeat (first | refine blk_drewN ?_ _ | refine blk_drew ?_ | refine blk_alloc ?_ _)); exact BK284.out⟩, ⟨by (with_reducible repeat (first | refine blk_drewN ?_ _ | refine blk_drew ?_ | refine blk_alloc ?_ _)); refine blk_far ?_ NB285_286.out _; (with_reducible repeat (first | refine blk_drewN ?_ _ | refine blk_drew ?_ | refine blk_alloc ?_ _)); refine blk_far ?_ NB285_286.out _; (with_reducible repeat (first | refine blk_drewN ?_ _ | refine blk_drew ?_ | refine blk_alloc ?_ _)); refine blk_put (cs := #[.int .i16 a3_0, .int .i16 a2_1]) ?_ 1 _ rfl; (with_reducible repeat (first | refine blk_drewN ?_ _ | refine blk_drew ?_ | refine blk_alloc ?_ _)); refine blk_put (cs := #[.int .i16 a2_0, .int .i16 a2_1]) ?_ 0 _ rfl; (with_reducible repeat (first | refine blk_drewN ?_ _ | refine blk_drew ?_ | refine blk_alloc ?_ _)); exact BK285.out⟩, ⟨by (with_reducible repeat (first | refine blk_drewN ?_ _ | refine blk_drew ?_ | refine blk_alloc ?_ _)); refine blk_put (cs := #[.int .i16 a2_0, .int .i16 a3_1]) ?_ 1 _ rfl; (with_reducible repeat (first | refine blk_drewN ?_ _ | refine blk_drew ?_ | refine blk_alloc ?_ _)); refine blk_put (cs := #[.int .i16 a3_0, .int .i16 a3_1]) ?_ 0 _ rfl; (with_reducible repeat (first | refine blk_drewN ?_ _ | refine blk_drew ?_ | refine blk_alloc ?_ _)); refine blk_far ?_ NB286_285.out _; (with_reducible repeat (first | refine blk_drewN ?_ _ | refine blk_drew ?_ | refine blk_alloc ?_ _)); refine blk_far ?_ NB286_285.out _; (with_reducible repeat (first | refine blk_drewN ?_ _ | refine blk_drew ?_ | refine blk_alloc ?_ _)); exact BK286.out⟩, ⟨k4_ HB GE283 GE284 GE285 GE286⟩⟩
   case rest =>
    clear HC57
    obtain ⟨kq, x286000_56, x286001_56, x287000_56, x287001_56, HA, HJ56, BK283, BK284, BK285, BK286, HB⟩ := hcut
    rcases kq with _ | kj56
    · exact absurd HA.out (by simp [impl_common.j2])
    have H := HA.out
    clear HA
    simp only [impl_common.j2] at H
    obtain ⟨t291, A74, H⟩ := be_ H
    (try dsimp only at H)
    have HC75 := Aside0.mk H
    clear H
    have hnb76 := NB283_284.out
    have hnc76 := NB284_283.out
    have hnb77 := NB283_285.out
    have hnc77 := NB285_283.out
    have hnb78 := NB283_286.out
    have hnc78 := NB286_283.out
    obtain ⟨⟨hcz79_0, hcz79_1⟩, hfz79_0, hfz79_1⟩ := bq_ BK283
    have hnb80 := NB285_284.out
    have hnc80 := NB284_285.out
    have hnb81 := NB285_286.out
    have hnc81 := NB286_285.out
    obtain ⟨⟨hcz82_0, hcz82_1⟩, hfz82_0, hfz82_1⟩ := bq_ BK285
    go_upto_if 35 with (first | (go_at_call 48; (with_reducible refine (impl_cornerLess.calls x284000_38 x284001_38 x286000_56 x286001_56 t291 _ A74.out).mono ?_); rintro e w83 ⟨rfl, hb⟩; replace BK283 := bd_ BK283 hb; replace BK284 := bd_ BK284 hb; replace BK285 := bd_ BK285 hb; replace BK286 := bd_ BK286 hb; replace HB := Aside0.mk (below_step (k4_ HB GE283 GE284 GE285 GE286) hb); clear hb))
    repeat (go_quiet (fail); try go_wp2)
    (try simp only [Act.put, List.setIfInBounds_toArray, List.set_cons_zero, List.set_cons_succ])
    go_cut [] (fun wc => ∃ (kq : Nat) (x284000_74 : Int) (x284001_74 : Int), Aside0 (impl_common.j3 kq x284000_74 x284001_74 x285000_38 x285001_38 x287000_56 x287001_56 = some r) ∧ Aside0 (kq ≤ kj56) ∧ Aside0 (wc.heap[gb283]? = some (.cells #[.int .i16 x284000_74, .int .i16 x284001_74] 34 (0, 0))) ∧ Aside0 (wc.heap[gb284]? = some (.cells #[.int .i16 x285000_38, .int .i16 x285001_38] 34 (0, 0))) ∧ Aside0 (wc.heap[gb285]? = some (.cells #[.int .i16 x286000_56, .int .i16 x286001_56] 34 (0, 0))) ∧ Aside0 (wc.heap[gb286]? = some (.cells #[.int .i16 x287000_56, .int .i16 x287001_56] 34 (0, 0))) ∧ Aside0 (Below w.heap.size w wc))
    case first =>
     have H := HC75.out
     clear HC75
     rcases (Decidable.em (t291 = true)).symm with c84 | c84
     ·
      replace c84 := Bool.eq_false_iff.mpr c84
      subst c84
      replace H := gf_ H
      have H' := Aside0.mk H
      clear H
      go_wp2
      repeat (go_quiet (fail); try go_wp2)
      go_meet
      case rel => exact ⟨_, (x284000_38), (x284001_38), H', ⟨by have := HJ4.out; have := HJ38.out; have := HJ56.out; first | omega | exact Nat.le_refl _⟩, ⟨bk_ BK283⟩, ⟨bk_ BK284⟩, ⟨bk_ BK285⟩, ⟨bk_ BK286⟩, ⟨k4_ HB GE283 GE284 GE285 GE286⟩⟩
     subst c84
     replace H := gt_ H
     have H' := Aside0.mk H
     clear H
     have hnb85 := NB285_283.out
     have hnc85 := NB283_285.out
     have hnb86 := NB285_284.out
     have hnc86 := NB284_285.out
     have hnb87 := NB285_286.out
     have hnc87 := NB286_285.out
     obtain ⟨⟨hcz88_0, hcz88_1⟩, hfz88_0, hfz88_1⟩ := bq_ BK285
     have hnb89 := NB283_284.out
     have hnc89 := NB284_283.out
     have hnb90 := NB283_286.out
     have hnc90 := NB286_283.out
     obtain ⟨⟨hcz91_0, hcz91_1⟩, hfz91_0, hfz91_1⟩ := bq_ BK283
     go_wp2
     repeat (go_quiet (fail); try go_wp2)
     go_meet
     case rel => exact ⟨_, (x286000_56), (x286001_56), H', ⟨by have := HJ4.out; have := HJ38.out; have := HJ56.out; first | omega | exact Nat.le_refl _⟩, ⟨by (with_reducible repeat (first | refine blk_drewN ?_ _ | refine blk_drew ?_ | refine blk_alloc ?_ _)); refine blk_put (cs := #[.int .i16 x286000_56, .int .i16 x284001_38]) ?_ 1 _ rfl; (with_reducible repeat (first | refine blk_drewN ?_ _ | refine blk_drew ?_ | refine blk_alloc ?_ _)); refine blk_put (cs := #[.int .i16 x284000_38, .int .i16 x284001_38]) ?_ 0 _ rfl; (with_reducible repeat (first | refine blk_drewN ?_ _ | refine blk_drew ?_ | refine blk_alloc ?_ _)); exact BK283.out⟩, ⟨by (with_reducible repeat (first | refine blk_drewN ?_ _ | refine blk_drew ?_ | refine blk_alloc ?_ _)); refine blk_far ?_ NB284_283.out _; (with_reducible repeat (first | refine blk_drewN ?_ _ | refine blk_drew ?_ | refine blk_alloc ?_ _)); refine blk_far ?_ NB284_283.out _; (with_reducible repeat (first | refine blk_drewN ?_ _ | refine blk_drew ?_ | refine blk_alloc ?_ _)); exact BK284.out⟩, ⟨by (with_reducible repeat (first | refine blk_drewN ?_ _ | refine blk_drew ?_ | refine blk_alloc ?_ _)); refine blk_far ?_ NB285_283.out _; (with_reducible repeat (first | refine blk_drewN ?_ _ | refine blk_drew ?_ | refine blk_alloc ?_ _)); refine blk_far ?_ NB285_283.out _; (with_reducible repeat (first | refine blk_drewN ?_ _ | refine blk_drew ?_ | refine blk_alloc ?_ _)); exact BK285.out⟩, ⟨by (with_reducible repeat (first | refine blk_drewN ?_ _ | refine blk_drew ?_ | refine blk_alloc ?_ _)); refine blk_far ?_ NB286_283.out _; (with_reducible repeat (first | refine blk_drewN ?_ _ | refine blk_drew ?_ | refine blk_alloc ?_ _)); refine blk_far ?_ NB286_283.out _; (with_reducible repeat (first | refine blk_drewN ?_ _ | refine blk_drew ?_ | refine blk_alloc ?_ _)); exact BK286.out⟩, ⟨k4_ HB GE283 GE284 GE285 GE286⟩⟩
    case rest =>
     clear HC75
     obtain ⟨kq, x284000_74, x284001_74, HA, HJ74, BK283, BK284, BK285, BK286, HB⟩ := hcut
     rcases kq with _ | kj74
     · exact absurd HA.out (by simp [impl_common.j3])
     have H := HA.out
     clear HA
     simp only [impl_common.j3] at H
     obtain ⟨t292, A92, H⟩ := be_ H
     (try dsimp only at H)
     by_cases c93 : t292 = true
     ·
      subst c93
      replace H := gt_ H
      obtain ⟨t293, A94, H⟩ := be_ H
      (try dsimp only at H)
      by_cases c95 : t293 = true
      ·
       subst c95
       replace H := gt_ H
       obtain rfl := Option.some.inj H
       have hnb96 := NB286_283.out
       have hnc96 := NB283_286.out
       have hnb97 := NB286_284.out
       have hnc97 := NB284_286.out
       have hnb98 := NB286_285.out
       have hnc98 := NB285_286.out
       obtain ⟨⟨hcz99_0, hcz99_1⟩, hfz99_0, hfz99_1⟩ := bq_ BK286
       have hnb100 := NB284_283.out
       have hnc100 := NB283_284.out
       have hnb101 := NB284_285.out
       have hnc101 := NB285_284.out
       obtain ⟨⟨hcz102_0, hcz102_1⟩, hfz102_0, hfz102_1⟩ := bq_ BK284
       go_wp2_with (first | (go_at_call 48; (with_reducible refine (impl_cornerLess.calls x287000_56 x287001_56 x285000_38 x285001_38 true _ A92.out).mono ?_); rintro e w103 ⟨rfl, hb⟩; replace BK283 := bd_ BK283 hb; replace BK284 := bd_ BK284 hb; replace BK285 := bd_ BK285 hb; replace BK286 := bd_ BK286 hb; replace HB := Aside0.mk (below_step (k4_ HB GE283 GE284 GE285 GE286) hb); clear hb; obtain ⟨⟨hcz104_0, hcz104_1⟩, hfz104_0, hfz104_1⟩ := bq_ BK286; obtain ⟨⟨hcz105_0, hcz105_1⟩, hfz105_0, hfz105_1⟩ := bq_ BK284; have hnb106 := NB283_285.out; have hnc106 := NB285_283.out; obtain ⟨⟨hcz107_0, hcz107_1⟩, hfz107_0, hfz107_1⟩ := bq_ BK283) | (go_at_call 48; (with_reducible refine (impl_cornerLess.calls x284000_74 x284001_74 x287000_56 x287001_56 true _ A94.out).mono ?_); rintro e w108 ⟨rfl, hb⟩; replace BK283 := Aside0.mk (blk_below (g := gb283) (o := .cells #[.int .i16 x284000_74, .int .i16 x284001_74] 34 (0, 0)) (by (with_reducible repeat (first | refine blk_drewN ?_ _ | refine blk_drew ?_ | refine blk_alloc ?_ _)); refine blk_far ?_ NB283_284.out _; (with_reducible repeat (first | refine blk_drewN ?_ _ | refine blk_drew ?_ | refine blk_alloc ?_ _)); refine blk_far ?_ NB283_284.out _; (with_reducible repeat (first | refine blk_drewN ?_ _ | refine blk_drew ?_ | refine blk_alloc ?_ _)); exact BK283.out) hb); replace BK284 := Aside0.mk (blk_below (g := gb284) (o := .cells #[.int .i16 x287000_56, .int .i16 x287001_56] 34 (0, 0)) (by (with_reducible repeat (first | refine blk_drewN ?_ _ | refine blk_drew ?_ | refine blk_alloc ?_ _)); refine blk_put (cs := #[.int .i16 x287000_56, .int .i16 x285001_38]) ?_ 1 _ rfl; (with_reducible repeat (first | refine blk_drewN ?_ _ | refine blk_drew ?_ | refine blk_alloc ?_ _)); refine blk_put (cs := #[.int .i16 x285000_38, .int .i16 x285001_38]) ?_ 0 _ rfl; (with_reducible repeat (first | refine blk_drewN ?_ _ | refine blk_drew ?_ | refine blk_alloc ?_ _)); exact BK284.out) hb); replace BK285 := Aside0.mk (blk_below (g := gb285) (o := .cells #[.int .i16 x286000_56, .int .i16 x286001_56] 34 (0, 0)) (by (with_reducible repeat (first | refine blk_drewN ?_ _ | refine blk_drew ?_ | refine blk_alloc ?_ _)); refine blk_far ?_ NB285_284.out _; (with_reducible repeat (first | refine blk_drewN ?_ _ | refine blk_drew ?_ | refine blk_alloc ?_ _)); refine blk_far ?_ NB285_284.out _; (with_reducible repeat (first | refine blk_drewN ?_ _ | refine blk_drew ?_ | refine blk_alloc ?_ _)); exact BK285.out) hb); replace BK286 := Aside0.mk (blk_below (g := gb286) (o := .cells #[.int .i16 x287000_56, .int .i16 x287001_56] 34 (0, 0)) (by (with_reducible repeat (first | refine blk_drewN ?_ _ | refine blk_drew ?_ | refine blk_alloc ?_ _)); refine blk_far ?_ NB286_284.out _; (with_reducible repeat (first | refine blk_drewN ?_ _ | refine blk_drew ?_ | refine blk_alloc ?_ _)); refine blk_far ?_ NB286_284.out _; (with_reducible repeat (first | refine blk_drewN ?_ _ | refine blk_drew ?_ | refine blk_alloc ?_ _)); exact BK286.out) hb); replace HB := Aside0.mk (below_step (k4_ HB GE283 GE284 GE285 GE286) hb); clear hb; obtain ⟨⟨hcz109_0, hcz109_1⟩, hfz109_0, hfz109_1⟩ := bq_ BK284; obtain ⟨⟨hcz110_0, hcz110_1⟩, hfz110_0, hfz110_1⟩ := bq_ BK283))
       repeat (go_quiet (fail); try go_wp2)
       go_ret
       exact ⟨rt_, k4_ HB GE283 GE284 GE285 GE286⟩
      replace c95 := Bool.eq_false_iff.mpr c95
      subst c95
      replace H := gf_ H
      obtain rfl := Option.some.inj H
      have hnb111 := NB286_283.out
      have hnc111 := NB283_286.out
      have hnb112 := NB286_284.out
      have hnc112 := NB284_286.out
      have hnb113 := NB286_285.out
      have hnc113 := NB285_286.out
      obtain ⟨⟨hcz114_0, hcz114_1⟩, hfz114_0, hfz114_1⟩ := bq_ BK286
      have hnb115 := NB284_283.out
      have hnc115 := NB283_284.out
      have hnb116 := NB284_285.out
      have hnc116 := NB285_284.out
      obtain ⟨⟨hcz117_0, hcz117_1⟩, hfz117_0, hfz117_1⟩ := bq_ BK284
      go_wp2_with (first | (go_at_call 48; (with_reducible refine (impl_cornerLess.calls x287000_56 x287001_56 x285000_38 x285001_38 true _ A92.out).mono ?_); rintro e w118 ⟨rfl, hb⟩; replace BK283 := bd_ BK283 hb; replace BK284 := bd_ BK284 hb; replace BK285 := bd_ BK285 hb; replace BK286 := bd_ BK286 hb; replace HB := Aside0.mk (below_step (k4_ HB GE283 GE284 GE285 GE286) hb); clear hb; obtain ⟨⟨hcz119_0, hcz119_1⟩, hfz119_0, hfz119_1⟩ := bq_ BK286; obtain ⟨⟨hcz120_0, hcz120_1⟩, hfz120_0, hfz120_1⟩ := bq_ BK284; have hnb121 := NB283_285.out; have hnc121 := NB285_283.out; obtain ⟨⟨hcz122_0, hcz122_1⟩, hfz122_0, hfz122_1⟩ := bq_ BK283) | (go_at_call 48; (with_reducible refine (impl_cornerLess.calls x284000_74 x284001_74 x287000_56 x287001_56 false _ A94.out).mono ?_); rintro e w123 ⟨rfl, hb⟩; replace BK283 := Aside0.mk (blk_below (g := gb283) (o := .cells #[.int .i16 x284000_74, .int .i16 x284001_74] 34 (0, 0)) (by (with_reducible repeat (first | refine blk_drewN ?_ _ | refine blk_drew ?_ | refine blk_alloc ?_ _)); refine blk_far ?_ NB283_284.out _; (with_reducible repeat (first | refine blk_drewN ?_ _ | refine blk_drew ?_ | refine blk_alloc ?_ _)); refine blk_far ?_ NB283_284.out _; (with_reducible repeat (first | refine blk_drewN ?_ _ | refine blk_drew ?_ | refine blk_alloc ?_ _)); exact BK283.out) hb); replace BK284 := Aside0.mk (blk_below (g := gb284) (o := .cells #[.int .i16 x287000_56, .int .i16 x287001_56] 34 (0, 0)) (by (with_reducible repeat (first | refine blk_drewN ?_ _ | refine blk_drew ?_ | refine blk_alloc ?_ _)); refine blk_put (cs := #[.int .i16 x287000_56, .int .i16 x285001_38]) ?_ 1 _ rfl; (with_reducible repeat (first | refine blk_drewN ?_ _ | refine blk_drew ?_ | refine blk_alloc ?_ _)); refine blk_put (cs := #[.int .i16 x285000_38, .int .i16 x285001_38]) ?_ 0 _ rfl; (with_reducible repeat (first | refine blk_drewN ?_ _ | refine blk_drew ?_ | refine blk_alloc ?_ _)); exact BK284.out) hb); replace BK285 := Aside0.mk (blk_below (g := gb285) (o := .cells #[.int .i16 x286000_56, .int .i16 x286001_56] 34 (0, 0)) (by (with_reducible repeat (first | refine blk_drewN ?_ _ | refine blk_drew ?_ | refine blk_alloc ?_ _)); refine blk_far ?_ NB285_284.out _; (with_reducible repeat (first | refine blk_drewN ?_ _ | refine blk_drew ?_ | refine blk_alloc ?_ _)); refine blk_far ?_ NB285_284.out _; (with_reducible repeat (first | refine blk_drewN ?_ _ | refine blk_drew ?_ | refine blk_alloc ?_ _)); exact BK285.out) hb); replace BK286 := Aside0.mk (blk_below (g := gb286) (o := .cells #[.int .i16 x287000_56, .int .i16 x287001_56] 34 (0, 0)) (by (with_reducible repeat (first | refine blk_drewN ?_ _ | refine blk_drew ?_ | refine blk_alloc ?_ _)); refine blk_far ?_ NB286_284.out _; (with_reducible repeat (first | refine blk_drewN ?_ _ | refine blk_drew ?_ | refine blk_alloc ?_ _)); refine blk_far ?_ NB286_284.out _; (with_reducible repeat (first | refine blk_drewN ?_ _ | refine blk_drew ?_ | refine blk_alloc ?_ _)); exact BK286.out) hb); replace HB := Aside0.mk (below_step (k4_ HB GE283 GE284 GE285 GE286) hb); clear hb))
      repeat (go_quiet (fail); try go_wp2)
      go_ret
      exact ⟨rt_, k4_ HB GE283 GE284 GE285 GE286⟩
     replace c93 := Bool.eq_false_iff.mpr c93
     subst c93
     replace H := gf_ H
     obtain ⟨t294, A124, H⟩ := be_ H
     (try dsimp only at H)
     by_cases c125 : t294 = true
     ·
      subst c125
      replace H := gt_ H
      obtain rfl := Option.some.inj H
      have hnb126 := NB286_283.out
      have hnc126 := NB283_286.out
      have hnb127 := NB286_284.out
      have hnc127 := NB284_286.out
      have hnb128 := NB286_285.out
      have hnc128 := NB285_286.out
      obtain ⟨⟨hcz129_0, hcz129_1⟩, hfz129_0, hfz129_1⟩ := bq_ BK286
      have hnb130 := NB284_283.out
      have hnc130 := NB283_284.out
      have hnb131 := NB284_285.out
      have hnc131 := NB285_284.out
      obtain ⟨⟨hcz132_0, hcz132_1⟩, hfz132_0, hfz132_1⟩ := bq_ BK284
      go_wp2_with (first | (go_at_call 48; (with_reducible refine (impl_cornerLess.calls x287000_56 x287001_56 x285000_38 x285001_38 false _ A92.out).mono ?_); rintro e w133 ⟨rfl, hb⟩; replace BK283 := bd_ BK283 hb; replace BK284 := bd_ BK284 hb; replace BK285 := bd_ BK285 hb; replace BK286 := bd_ BK286 hb; replace HB := Aside0.mk (below_step (k4_ HB GE283 GE284 GE285 GE286) hb); clear hb; have hnb134 := NB283_285.out; have hnc134 := NB285_283.out; obtain ⟨⟨hcz135_0, hcz135_1⟩, hfz135_0, hfz135_1⟩ := bq_ BK283; obtain ⟨⟨hcz136_0, hcz136_1⟩, hfz136_0, hfz136_1⟩ := bq_ BK284) | (go_at_call 48; (with_reducible refine (impl_cornerLess.calls x284000_74 x284001_74 x285000_38 x285001_38 true _ A124.out).mono ?_); rintro e w137 ⟨rfl, hb⟩; replace BK283 := bd_ BK283 hb; replace BK284 := bd_ BK284 hb; replace BK285 := bd_ BK285 hb; replace BK286 := bd_ BK286 hb; replace HB := Aside0.mk (below_step (k4_ HB GE283 GE284 GE285 GE286) hb); clear hb; obtain ⟨⟨hcz138_0, hcz138_1⟩, hfz138_0, hfz138_1⟩ := bq_ BK284; obtain ⟨⟨hcz139_0, hcz139_1⟩, hfz139_0, hfz139_1⟩ := bq_ BK283))
      repeat (go_quiet (fail); try go_wp2)
      go_ret
      exact ⟨rt_, k4_ HB GE283 GE284 GE285 GE286⟩
     replace c125 := Bool.eq_false_iff.mpr c125
     subst c125
     replace H := gf_ H
     obtain rfl := Option.some.inj H
     have hnb140 := NB286_283.out
     have hnc140 := NB283_286.out
     have hnb141 := NB286_284.out
     have hnc141 := NB284_286.out
     have hnb142 := NB286_285.out
     have hnc142 := NB285_286.out
     obtain ⟨⟨hcz143_0, hcz143_1⟩, hfz143_0, hfz143_1⟩ := bq_ BK286
     have hnb144 := NB284_283.out
     have hnc144 := NB283_284.out
     have hnb145 := NB284_285.out
     have hnc145 := NB285_284.out
     obtain ⟨⟨hcz146_0, hcz146_1⟩, hfz146_0, hfz146_1⟩ := bq_ BK284
     go_wp2_with (first | (go_at_call 48; (with_reducible refine (impl_cornerLess.calls x287000_56 x287001_56 x285000_38 x285001_38 false _ A92.out).mono ?_); rintro e w147 ⟨rfl, hb⟩; replace BK283 := bd_ BK283 hb; replace BK284 := bd_ BK284 hb; replace BK285 := bd_ BK285 hb; replace BK286 := bd_ BK286 hb; replace HB := Aside0.mk (below_step (k4_ HB GE283 GE284 GE285 GE286) hb); clear hb; have hnb148 := NB283_285.out; have hnc148 := NB285_283.out; obtain ⟨⟨hcz149_0, hcz149_1⟩, hfz149_0, hfz149_1⟩ := bq_ BK283; obtain ⟨⟨hcz150_0, hcz150_1⟩, hfz150_0, hfz150_1⟩ := bq_ BK284) | (go_at_call 48; (with_reducible refine (impl_cornerLess.calls x284000_74 x284001_74 x285000_38 x285001_38 false _ A124.out).mono ?_); rintro e w151 ⟨rfl, hb⟩; replace BK283 := bd_ BK283 hb; replace BK284 := bd_ BK284 hb; replace BK285 := bd_ BK285 hb; replace BK286 := bd_ BK286 hb; replace HB := Aside0.mk (below_step (k4_ HB GE283 GE284 GE285 GE286) hb); clear hb))
     repeat (go_quiet (fail); try go_wp2)
     go_ret
     exact ⟨rt_, k4_ HB GE283 GE284 GE285 GE286⟩

end Go.Proofs.Ytmglnofmmgokkaa.PA
