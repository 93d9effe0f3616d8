/- Pure functions, and that Go's functions come to them. -/
import Derived.Test.YtllfeehchiikoaaPAx0
import Derived.Test.YtllfeehchiikoaaPAxmH
import Derived.Test.YtllfeehchiikoaaPAxgImpl
namespace Go.Proofs.Ytllfeehchiikoaa.PA
open Go.RowKit Go.Proofs.YtllfeehchiikoaaW.PrintWords Go.Proofs.YtllfeehchiikoaaW.PrintLast Go.Proofs.YtllfeehchiikoaaW.PrintMore
set_option linter.unusedVariables false
set_option linter.unusedSimpArgs false

/-! ### impl_common: function 59 -/
mutual
def impl_common.j0 : Nat → Bool → Int → Int → Int → Int → Int → Int → Int → Int → Option (Int)
 | 0, _, _, _, _, _, _, _, _, _ => none
 | k + 1, x22, x417000, x417001, x418000, x418001, x419000, x419001, x420000, x420001 => if x22 = true then (some 0) else ((impl_cornerLess.f x418000 x418001 x417000 x417001).bind fun t422 => (if t422 = true then (impl_common.j1 k x418000 x418001 x417000 x417001 x419000 x419001 x420000 x420001) else (impl_common.j1 k x417000 x417001 x418000 x418001 x419000 x419001 x420000 x420001)))
def impl_common.j1 : Nat → Int → Int → Int → Int → Int → Int → Int → Int → Option (Int)
 | 0, _, _, _, _, _, _, _, _ => none
 | k + 1, x417000, x417001, x418000, x418001, x419000, x419001, x420000, x420001 => (impl_cornerLess.f x420000 x420001 x419000 x419001).bind fun t423 => (if t423 = true then (impl_common.j2 k x417000 x417001 x418000 x418001 x420000 x420001 x419000 x419001) else (impl_common.j2 k x417000 x417001 x418000 x418001 x419000 x419001 x420000 x420001))
def impl_common.j2 : Nat → Int → Int → Int → Int → Int → Int → Int → Int → Option (Int)
 | 0, _, _, _, _, _, _, _, _ => none
 | k + 1, x417000, x417001, x418000, x418001, x419000, x419001, x420000, x420001 => (impl_cornerLess.f x417000 x417001 x419000 x419001).bind fun t424 => (if t424 = true then (impl_common.j3 k x419000 x419001 x418000 x418001 x420000 x420001) else (impl_common.j3 k x417000 x417001 x418000 x418001 x420000 x420001))
def impl_common.j3 : Nat → Int → Int → Int → Int → Int → Int → Option (Int)
 | 0, _, _, _, _, _, _ => none
 | k + 1, x417000, x417001, x418000, x418001, x420000, x420001 => (impl_cornerLess.f x420000 x420001 x418000 x418001).bind fun t425 => (if t425 = true then ((impl_cornerLess.f x417000 x417001 x420000 x420001).bind fun t426 => (if t426 = true then (some (wrap64 ((wrap64 ((wrap64 ((wrap64 (x420000)) - (wrap64 (x417000)))) * (wrap64 ((wrap64 (x420000)) - (wrap64 (x417000)))))) + (wrap64 ((wrap64 ((wrap64 (x420001)) - (wrap64 (x417001)))) * (wrap64 ((wrap64 (x420001)) - (wrap64 (x417001))))))))) else (some 0))) else ((impl_cornerLess.f x417000 x417001 x418000 x418001).bind fun t427 => (if t427 = true then (some (wrap64 ((wrap64 ((wrap64 ((wrap64 (x418000)) - (wrap64 (x417000)))) * (wrap64 ((wrap64 (x418000)) - (wrap64 (x417000)))))) + (wrap64 ((wrap64 ((wrap64 (x418001)) - (wrap64 (x417001)))) * (wrap64 ((wrap64 (x418001)) - (wrap64 (x417001))))))))) else (some 0))))
end
def impl_common.f (k : Nat) (a0_0 : Int) (a0_1 : Int) (a1_0 : Int) (a1_1 : Int) (a2_0 : Int) (a2_1 : Int) (a3_0 : Int) (a3_1 : Int) : Option (Int) := (impl_side.f a0_0 a0_1 a1_0 a1_1 a2_0 a2_1).bind fun t420 => (if t420 = 0 then ((impl_side.f a0_0 a0_1 a1_0 a1_1 a3_0 a3_1).bind fun t421 => (impl_common.j0 k (t421 != 0) a0_0 a0_1 a1_0 a1_1 a2_0 a2_1 a3_0 a3_1)) else (impl_common.j0 k true a0_0 a0_1 a1_0 a1_1 a2_0 a2_1 a3_0 a3_1))
theorem impl_common.mono_l : ∀ k, (∀ y0 y1 y2 y3 y4 y5 y6 y7 y8, LeO (impl_common.j0 k y0 y1 y2 y3 y4 y5 y6 y7 y8) (impl_common.j0 (k + 1) y0 y1 y2 y3 y4 y5 y6 y7 y8)) ∧ (∀ y0 y1 y2 y3 y4 y5 y6 y7, LeO (impl_common.j1 k y0 y1 y2 y3 y4 y5 y6 y7) (impl_common.j1 (k + 1) y0 y1 y2 y3 y4 y5 y6 y7)) ∧ (∀ y0 y1 y2 y3 y4 y5 y6 y7, LeO (impl_common.j2 k y0 y1 y2 y3 y4 y5 y6 y7) (impl_common.j2 (k + 1) y0 y1 y2 y3 y4 y5 y6 y7)) ∧ (∀ y0 y1 y2 y3 y4 y5, LeO (impl_common.j3 k y0 y1 y2 y3 y4 y5) (impl_common.j3 (k + 1) y0 y1 y2 y3 y4 y5))
 | 0 => ⟨fun _ _ _ _ _ _ _ _ _ r h => by simp [impl_common.j0] at h, fun _ _ _ _ _ _ _ _ r h => by simp [impl_common.j1] at h, fun _ _ _ _ _ _ _ _ r h => by simp [impl_common.j2] at h, fun _ _ _ _ _ _ r h => by simp [impl_common.j3] at h⟩
 | k + 1 => by
  obtain ⟨ih0, ih1, ih2, ih3⟩ := impl_common.mono_l k
  refine ⟨?_, ?_, ?_, ?_⟩ <;> intros
  all_goals first | unfold impl_common.j0 | unfold impl_common.j1 | unfold impl_common.j2 | unfold impl_common.j3
  all_goals repeat' first
  | (with_reducible exact ih0 _ _ _ _ _ _ _ _ _)
  | (with_reducible exact ih1 _ _ _ _ _ _ _ _)
  | (with_reducible exact ih2 _ _ _ _ _ _ _ _)
  | (with_reducible exact ih3 _ _ _ _ _ _)
  | (with_reducible exact LeO.refl _)
  | (with_reducible exact LeO.none _)
  | (with_reducible refine LeO.ite ?_ ?_)
  | (with_reducible refine LeO.bind ?_ (fun _ => ?_))
theorem impl_common.mono : ∀ a0 a1 a2 a3 a4 a5 a6 a7 k, LeO (impl_common.f k a0 a1 a2 a3 a4 a5 a6 a7) (impl_common.f (k + 1) a0 a1 a2 a3 a4 a5 a6 a7) := by
 intro a0 a1 a2 a3 a4 a5 a6 a7 k
 obtain ⟨ih0, ih1, ih2, ih3⟩ := impl_common.mono_l k
 unfold impl_common.f
 repeat' first
   | (with_reducible exact ih0 _ _ _ _ _ _ _ _ _)
   | (with_reducible exact ih1 _ _ _ _ _ _ _ _)
   | (with_reducible exact ih2 _ _ _ _ _ _ _ _)
   | (with_reducible exact ih3 _ _ _ _ _ _)
   | (with_reducible exact LeO.refl _)
   | (with_reducible exact LeO.none _)
   | (with_reducible refine LeO.ite ?_ ?_)
   | (with_reducible refine LeO.bind ?_ (fun _ => ?_))
set_option maxHeartbeats 8000000 in
set_option maxRecDepth 100000 in
theorem impl_common.calls (k : Nat) (a0_0 : Int) (a0_1 : Int) (a1_0 : Int) (a1_1 : Int) (a2_0 : Int) (a2_1 : Int) (a3_0 : Int) (a3_1 : Int) (r : Int) (w : World) (h : impl_common.f k a0_0 a0_1 a1_0 a1_1 a2_0 a2_1 a3_0 a3_1 = some r) :
  Calls Try.prog 59 #[.agg #[.int .i16 a0_0, .int .i16 a0_1], .agg #[.int .i16 a1_0, .int .i16 a1_1], .agg #[.int .i16 a2_0, .int .i16 a2_1], .agg #[.int .i16 a3_0, .int .i16 a3_1]] w fun e w' => e = .returned (.int .i64 r) ∧ Below w.heap.size w w' := by
 have hu43 := Try.underlying43
 have HB := Aside0.mk (Below.refl w.heap.size w)
 have H : ((impl_side.f a0_0 a0_1 a1_0 a1_1 a2_0 a2_1).bind fun t420 => (if t420 = 0 then ((impl_side.f a0_0 a0_1 a1_0 a1_1 a3_0 a3_1).bind fun t421 => (impl_common.j0 k (t421 != 0) a0_0 a0_1 a1_0 a1_1 a2_0 a2_1 a3_0 a3_1)) else (impl_common.j0 k true a0_0 a0_1 a1_0 a1_1 a2_0 a2_1 a3_0 a3_1))) = some r := h
 clear h
 have HC5 := Aside0.mk H
 clear H
 go_enter Try.func59, Try.ntmps59
 go_upto_region 1 with (first | ((with_reducible refine gate_dst (N := 4) rfl ?_); refine boxM_ 4 #[.int .i16 a0_0, .int .i16 a0_1] 43 ?_; intro gb416 hg w6 hbox hb; have BK416 := Aside0.mk (hbox); have GW416 := Aside0.mk ((by rw [hg]; exact (below_size (kB_ HB)) : w.heap.size ≤ gb416)); have GE416 := Aside0.mk ((by rw [hg]; exact (below_size (kB_ HB)) : w.heap.size ≤ gb416)); replace HB := Aside0.mk (below_step (kB_ HB) hb); clear hb hbox hg) | ((with_reducible refine gate_dst (N := 5) rfl ?_); refine boxM_ 5 #[.int .i16 a1_0, .int .i16 a1_1] 43 ?_; intro gb417 hg w7 hbox hb; have BK417 := Aside0.mk (hbox); have GW417 := Aside0.mk ((by rw [hg]; exact (below_size (k1_ HB GE416)) : w.heap.size ≤ gb417)); have GE417 := Aside0.mk ((by rw [hg]; exact (below_size (k1_ HB GE416)) : w.heap.size ≤ gb417)); replace HB := Aside0.mk (below_step (k1_ HB GE416) hb); have NB416_417 := nl_ BK416 hg; have NB417_416 := ng_ BK416 hg; replace BK416 := bd_ BK416 hb; clear hb hbox hg) | ((with_reducible refine gate_dst (N := 6) rfl ?_); refine boxM_ 6 #[.int .i16 a2_0, .int .i16 a2_1] 43 ?_; intro gb418 hg w8 hbox hb; have BK418 := Aside0.mk (hbox); have GW418 := Aside0.mk ((by rw [hg]; exact (below_size (k2_ HB GE416 GE417)) : w.heap.size ≤ gb418)); have GE418 := Aside0.mk ((by rw [hg]; exact (below_size (k2_ HB GE416 GE417)) : w.heap.size ≤ gb418)); replace HB := Aside0.mk (below_step (k2_ HB GE416 GE417) hb); have NB416_418 := nl_ BK416 hg; have NB418_416 := ng_ BK416 hg; replace BK416 := bd_ BK416 hb; have NB417_418 := nl_ BK417 hg; have NB418_417 := ng_ BK417 hg; replace BK417 := bd_ BK417 hb; clear hb hbox hg) | ((with_reducible refine gate_dst (N := 7) rfl ?_); refine boxM_ 7 #[.int .i16 a3_0, .int .i16 a3_1] 43 ?_; intro gb419 hg w9 hbox hb; have BK419 := Aside0.mk (hbox); have GW419 := Aside0.mk ((by rw [hg]; exact (below_size (k3_ HB GE416 GE417 GE418)) : w.heap.size ≤ gb419)); have GE419 := Aside0.mk ((by rw [hg]; exact (below_size (k3_ HB GE416 GE417 GE418)) : w.heap.size ≤ gb419)); replace HB := Aside0.mk (below_step (k3_ HB GE416 GE417 GE418) hb); have NB416_419 := nl_ BK416 hg; have NB419_416 := ng_ BK416 hg; replace BK416 := bd_ BK416 hb; have NB417_419 := nl_ BK417 hg; have NB419_417 := ng_ BK417 hg; replace BK417 := bd_ BK417 hb; have NB418_419 := nl_ BK418 hg; have NB419_418 := ng_ BK418 hg; replace BK418 := bd_ BK418 hb; clear hb hbox hg))
 repeat (go_quiet (fail); try go_wp2)
 (try simp only [Act.put, List.setIfInBounds_toArray, List.set_cons_zero, List.set_cons_succ])
 go_cut [22] (fun v22 wc => ∃ (kq : Nat) (x22_4 : Bool), v22 = .bool x22_4 ∧ Aside0 (impl_common.j0 kq x22_4 a0_0 a0_1 a1_0 a1_1 a2_0 a2_1 a3_0 a3_1 = some r) ∧ Aside0 (kq ≤ k) ∧ Aside0 (wc.heap[gb416]? = some (.cells #[.int .i16 a0_0, .int .i16 a0_1] 43 (0, 0))) ∧ Aside0 (wc.heap[gb417]? = some (.cells #[.int .i16 a1_0, .int .i16 a1_1] 43 (0, 0))) ∧ Aside0 (wc.heap[gb418]? = some (.cells #[.int .i16 a2_0, .int .i16 a2_1] 43 (0, 0))) ∧ Aside0 (wc.heap[gb419]? = some (.cells #[.int .i16 a3_0, .int .i16 a3_1] 43 (0, 0))) ∧ Aside0 (Below w.heap.size w wc))
 case first =>
  have H := HC5.out
  clear HC5
  replace H := Option.bind_eq_some_iff.mp H
  obtain ⟨t420, A100, H⟩ := H
  (try dsimp only at H)
  have A10 := Aside0.mk A100
  clear A100
  rcases (Decidable.em (t420 = 0)).symm with c11 | c11
  ·
   rw [if_neg c11] at H
   have c11b0 : (t420 == 0) = false := beq_eq_false_iff_ne.mpr c11
   have c11b1 : (t420 != 0) = true := bne_iff_ne.mpr c11
   (first | rw [c11b0] | (simp only [i64_w, i32_w]; rw [c11b0]) | skip)
   have H' := Aside0.mk H
   clear H
   have hnb27 := NB416_417.out
   have hnc27 := NB417_416.out
   have hnb28 := NB416_418.out
   have hnc28 := NB418_416.out
   have hnb29 := NB416_419.out
   have hnc29 := NB419_416.out
   obtain ⟨⟨hcz30_0, hcz30_1⟩, hfz30_0, hfz30_1⟩ := bq_ BK416
   have hnb31 := NB417_418.out
   have hnc31 := NB418_417.out
   have hnb32 := NB417_419.out
   have hnc32 := NB419_417.out
   obtain ⟨⟨hcz33_0, hcz33_1⟩, hfz33_0, hfz33_1⟩ := bq_ BK417
   have hnb34 := NB418_419.out
   have hnc34 := NB419_418.out
   obtain ⟨⟨hcz35_0, hcz35_1⟩, hfz35_0, hfz35_1⟩ := bq_ BK418
   go_wp2_with (first | (go_at_call 58; (with_reducible refine (impl_side.calls a0_0 a0_1 a1_0 a1_1 a2_0 a2_1 t420 _ A10.out).mono ?_); rintro e w36 ⟨rfl, hb⟩; replace BK416 := bd_ BK416 hb; replace BK417 := bd_ BK417 hb; replace BK418 := bd_ BK418 hb; replace BK419 := bd_ BK419 hb; replace HB := Aside0.mk (below_step (k4_ HB GE416 GE417 GE418 GE419) hb); clear hb))
   repeat (go_quiet (fail); try go_wp2)
   go_meet
   case rel => exact ⟨_, (true), (by first | rfl | (simp; done) | (simp [*]; done)), H', ⟨by first | omega | exact Nat.le_refl _⟩, ⟨bk_ BK416⟩, ⟨bk_ BK417⟩, ⟨bk_ BK418⟩, ⟨bk_ BK419⟩, ⟨k4_ HB GE416 GE417 GE418 GE419⟩⟩
  rw [if_pos c11] at H
  have c11b0 : (t420 == 0) = true := beq_iff_eq.mpr c11
  have c11b1 : (t420 != 0) = false := bne_eq_false_iff_eq.mpr c11
  clear c11
  (first | rw [c11b0] | (simp only [i64_w, i32_w]; rw [c11b0]) | skip)
  replace H := Option.bind_eq_some_iff.mp H
  obtain ⟨t421, A120, H⟩ := H
  (try dsimp only at H)
  have A12 := Aside0.mk A120
  clear A120
  have H' := Aside0.mk H
  clear H
  have hnb13 := NB416_417.out
  have hnc13 := NB417_416.out
  have hnb14 := NB416_418.out
  have hnc14 := NB418_416.out
  have hnb15 := NB416_419.out
  have hnc15 := NB419_416.out
  obtain ⟨⟨hcz16_0, hcz16_1⟩, hfz16_0, hfz16_1⟩ := bq_ BK416
  have hnb17 := NB417_418.out
  have hnc17 := NB418_417.out
  have hnb18 := NB417_419.out
  have hnc18 := NB419_417.out
  obtain ⟨⟨hcz19_0, hcz19_1⟩, hfz19_0, hfz19_1⟩ := bq_ BK417
  have hnb20 := NB418_419.out
  have hnc20 := NB419_418.out
  obtain ⟨⟨hcz21_0, hcz21_1⟩, hfz21_0, hfz21_1⟩ := bq_ BK418
  go_wp2_with (first | (go_at_call 58; (with_reducible refine (impl_side.calls a0_0 a0_1 a1_0 a1_1 a2_0 a2_1 t420 _ A10.out).mono ?_); rintro e w22 ⟨rfl, hb⟩; replace BK416 := bd_ BK416 hb; replace BK417 := bd_ BK417 hb; replace BK418 := bd_ BK418 hb; replace BK419 := bd_ BK419 hb; replace HB := Aside0.mk (below_step (k4_ HB GE416 GE417 GE418 GE419) hb); clear hb; obtain ⟨⟨hcz23_0, hcz23_1⟩, hfz23_0, hfz23_1⟩ := bq_ BK416; obtain ⟨⟨hcz24_0, hcz24_1⟩, hfz24_0, hfz24_1⟩ := bq_ BK417; obtain ⟨⟨hcz25_0, hcz25_1⟩, hfz25_0, hfz25_1⟩ := bq_ BK419) | (go_at_call 58; (with_reducible refine (impl_side.calls a0_0 a0_1 a1_0 a1_1 a3_0 a3_1 t421 _ A12.out).mono ?_); rintro e w26 ⟨rfl, hb⟩; replace BK416 := bd_ BK416 hb; replace BK417 := bd_ BK417 hb; replace BK418 := bd_ BK418 hb; replace BK419 := bd_ BK419 hb; replace HB := Aside0.mk (below_step (k4_ HB GE416 GE417 GE418 GE419) hb); clear hb))
  repeat (go_quiet (fail); try go_wp2)
  go_meet
  case rel => exact ⟨_, ((t421 != 0)), (by first | rfl | (simp; done) | (simp [*]; done)), H', ⟨by first | omega | exact Nat.le_refl _⟩, ⟨bk_ BK416⟩, ⟨bk_ BK417⟩, ⟨bk_ BK418⟩, ⟨bk_ BK419⟩, ⟨k4_ HB GE416 GE417 GE418 GE419⟩⟩
 case rest =>
  clear HC5
  obtain ⟨kq, x22_4, rfl, HA, HJ4, BK416, BK417, BK418, BK419, HB⟩ := hcut
  rcases kq with _ | kj4
  · exact absurd HA.out (by simp [impl_common.j0])
  have H := HA.out
  clear HA
  simp only [impl_common.j0] at H
  by_cases c37 : x22_4 = true
  ·
   subst c37
   replace H := gt_ H
   obtain rfl := Option.some.inj H
   go_wp2
   repeat (go_quiet (fail); try go_wp2)
   go_ret
   exact ⟨rt_, k4_ HB GE416 GE417 GE418 GE419⟩
  replace c37 := Bool.eq_false_iff.mpr c37
  subst c37
  replace H := gf_ H
  replace H := Option.bind_eq_some_iff.mp H
  obtain ⟨t422, A380, H⟩ := H
  (try dsimp only at H)
  have A38 := Aside0.mk A380
  clear A380
  have HC39 := Aside0.mk H
  clear H
  have hnb40 := NB417_416.out
  have hnc40 := NB416_417.out
  have hnb41 := NB417_418.out
  have hnc41 := NB418_417.out
  have hnb42 := NB417_419.out
  have hnc42 := NB419_417.out
  obtain ⟨⟨hcz43_0, hcz43_1⟩, hfz43_0, hfz43_1⟩ := bq_ BK417
  have hnb44 := NB416_418.out
  have hnc44 := NB418_416.out
  have hnb45 := NB416_419.out
  have hnc45 := NB419_416.out
  obtain ⟨⟨hcz46_0, hcz46_1⟩, hfz46_0, hfz46_1⟩ := bq_ BK416
  go_upto_if 25 with (first | (go_at_call 75; (with_reducible refine (impl_cornerLess.calls a1_0 a1_1 a0_0 a0_1 t422 _ A38.out).mono ?_); rintro e w47 ⟨rfl, hb⟩; replace BK416 := bd_ BK416 hb; replace BK417 := bd_ BK417 hb; replace BK418 := bd_ BK418 hb; replace BK419 := bd_ BK419 hb; replace HB := Aside0.mk (below_step (k4_ HB GE416 GE417 GE418 GE419) hb); clear hb))
  repeat (go_quiet (fail); try go_wp2)
  (try simp only [Act.put, List.setIfInBounds_toArray, List.set_cons_zero, List.set_cons_succ])
  go_cut [] (fun wc => ∃ (kq : Nat) (x417000_38 : Int) (x417001_38 : Int) (x418000_38 : Int) (x418001_38 : Int), Aside0 (impl_common.j1 kq x417000_38 x417001_38 x418000_38 x418001_38 a2_0 a2_1 a3_0 a3_1 = some r) ∧ Aside0 (kq ≤ kj4) ∧ Aside0 (wc.heap[gb416]? = some (.cells #[.int .i16 x417000_38, .int .i16 x417001_38] 43 (0, 0))) ∧ Aside0 (wc.heap[gb417]? = some (.cells #[.int .i16 x418000_38, .int .i16 x418001_38] 43 (0, 0))) ∧ Aside0 (wc.heap[gb418]? = some (.cells #[.int .i16 a2_0, .int .i16 a2_1] 43 (0, 0))) ∧ Aside0 (wc.heap[gb419]? = some (.cells #[.int .i16 a3_0, .int .i16 a3_1] 43 (0, 0))) ∧ Aside0 (Below w.heap.size w wc))
  case first =>
   have H := HC39.out
   clear HC39
   rcases (Decidable.em (t422 = true)).symm with c48 | c48
   ·
    replace c48 := Bool.eq_false_iff.mpr c48
    subst c48
    replace H := gf_ H
    have H' := Aside0.mk H
    clear H
    go_wp2
    repeat (go_quiet (fail); try go_wp2)
    go_meet
    case rel => exact ⟨_, (a0_0), (a0_1), (a1_0), (a1_1), H', ⟨by have := HJ4.out; first | omega | exact Nat.le_refl _⟩, ⟨bk_ BK416⟩, ⟨bk_ BK417⟩, ⟨bk_ BK418⟩, ⟨bk_ BK419⟩, ⟨k4_ HB GE416 GE417 GE418 GE419⟩⟩
   subst c48
   replace H := gt_ H
   have H' := Aside0.mk H
   clear H
   have hnb49 := NB417_416.out
   have hnc49 := NB416_417.out
   have hnb50 := NB417_418.out
   have hnc50 := NB418_417.out
   have hnb51 := NB417_419.out
   have hnc51 := NB419_417.out
   obtain ⟨⟨hcz52_0, hcz52_1⟩, hfz52_0, hfz52_1⟩ := bq_ BK417
   have hnb53 := NB416_418.out
   have hnc53 := NB418_416.out
   have hnb54 := NB416_419.out
   have hnc54 := NB419_416.out
   obtain ⟨⟨hcz55_0, hcz55_1⟩, hfz55_0, hfz55_1⟩ := bq_ BK416
   go_wp2
   repeat (go_quiet (fail); try go_wp2)
   go_meet
   case rel => exact ⟨_, (a1_0), (a1_1), (a0_0), (a0_1), H', ⟨by have := HJ4.out; first | omega | exact Nat.le_refl _⟩, ⟨by (with_reducible repeat (first | refine blk_drewN ?_ _ | refine blk_drew ?_ | refine blk_alloc ?_ _)); refine blk_far ?_ NB416_417.out _; (with_reducible repeat (first | refine blk_drewN ?_ _ | refine blk_drew ?_ | refine blk_alloc ?_ _)); refine blk_far ?_ NB416_417.out _; (with_reducible repeat (first | refine blk_drewN ?_ _ | refine blk_drew ?_ | refine blk_alloc ?_ _)); refine blk_put (cs := #[.int .i16 a1_0, .int .i16 a0_1]) ?_ 1 _ rfl; (with_reducible repeat (first | refine blk_drewN ?_ _ | refine blk_drew ?_ | refine blk_alloc ?_ _)); refine blk_put (cs := #[.int .i16 a0_0, .int .i16 a0_1]) ?_ 0 _ rfl; (with_reducible repeat (first | refine blk_drewN ?_ _ | refine blk_drew ?_ | refine blk_alloc ?_ _)); exact BK416.out⟩, ⟨by (with_reducible repeat (first | refine blk_drewN ?_ _ | refine blk_drew ?_ | refine blk_alloc ?_ _)); refine blk_put (cs := #[.int .i16 a0_0, .int .i16 a1_1]) ?_ 1 _ rfl; (with_reducible repeat (first | refine blk_drewN ?_ _ | refine blk_drew ?_ | refine blk_alloc ?_ _)); refine blk_put (cs := #[.int .i16 a1_0, .int .i16 a1_1]) ?_ 0 _ rfl; (with_reducible repeat (first | refine blk_drewN ?_ _ | refine blk_drew ?_ | refine blk_alloc ?_ _)); refine blk_far ?_ NB417_416.out _; (with_reducible repeat (first | refine blk_drewN ?_ _ | refine blk_drew ?_ | refine blk_alloc ?_ _)); refine blk_far ?_ NB417_416.out _; (with_reducible repeat (first | refine blk_drewN ?_ _ | refine blk_drew ?_ | refine blk_alloc ?_ _)); exact BK417.out⟩, ⟨by (with_reducible repeat (first | refine blk_drewN ?_ _ | refine blk_drew ?_ | refine blk_alloc ?_ _)); refine blk_far ?_ NB418_417.out _; (with_reducible repeat (first | refine blk_drewN ?_ _ | refine blk_drew ?_ | refine blk_alloc ?_ _)); refine blk_far ?_ NB418_417.out _; (with_reducible repeat (first | refine blk_drewN ?_ _ | refine blk_drew ?_ | refine blk_alloc ?_ _)); refine blk_far ?_ NB418_416.out _; (with_reducible repeat (first | refine blk_drewN ?_ _ | refine blk_drew ?_ | refine blk_alloc ?_ _)); refine blk_far ?_ NB418_416.out _; (with_reducible repeat (first | refine blk_drewN ?_ _ | refine blk_drew ?_ | refine blk_alloc ?_ _)); exact BK418.out⟩, ⟨by (with_reducible repeat (first | refine blk_drewN ?_ _ | refine blk_drew ?_ | refine blk_alloc ?_ _)); refine blk_far ?_ NB419_417.out _; (with_reducible repeat (first | refine blk_drewN ?_ _ | refine blk_drew ?_ | refine blk_alloc ?_ _)); refine blk_far ?_ NB419_417.out _; (with_reducible repeat (first | refine blk_drewN ?_ _ | refine blk_drew ?_ | refine blk_alloc ?_ _)); refine blk_far ?_ NB419_416.out _; (with_reducible repeat (first | refine blk_drewN ?_ _ | refine blk_drew ?_ | refine blk_alloc ?_ _)); refine blk_far ?_ NB419_416.out _; (with_reducible repeat (first | refine blk_drewN ?_ _ | refine blk_drew ?_ | refine blk_alloc ?_ _)); exact BK419.out⟩, ⟨k4_ HB GE416 GE417 GE418 GE419⟩⟩
  case rest =>
   clear HC39
   obtain ⟨kq, x417000_38, x417001_38, x418000_38, x418001_38, HA, HJ38, BK416, BK417, BK418, BK419, HB⟩ := hcut
   rcases kq with _ | kj38
   · exact absurd HA.out (by simp [impl_common.j1])
   have H := HA.out
   clear HA
   simp only [impl_common.j1] at H
   replace H := Option.bind_eq_some_iff.mp H
   obtain ⟨t423, A560, H⟩ := H
   (try dsimp only at H)
   have A56 := Aside0.mk A560
   clear A560
   have HC57 := Aside0.mk H
   clear H
   have hnb58 := NB419_416.out
   have hnc58 := NB416_419.out
   have hnb59 := NB419_417.out
   have hnc59 := NB417_419.out
   have hnb60 := NB419_418.out
   have hnc60 := NB418_419.out
   obtain ⟨⟨hcz61_0, hcz61_1⟩, hfz61_0, hfz61_1⟩ := bq_ BK419
   have hnb62 := NB418_416.out
   have hnc62 := NB416_418.out
   have hnb63 := NB418_417.out
   have hnc63 := NB417_418.out
   obtain ⟨⟨hcz64_0, hcz64_1⟩, hfz64_0, hfz64_1⟩ := bq_ BK418
   go_upto_if 30 with (first | (go_at_call 75; (with_reducible refine (impl_cornerLess.calls a3_0 a3_1 a2_0 a2_1 t423 _ A56.out).mono ?_); rintro e w65 ⟨rfl, hb⟩; replace BK416 := bd_ BK416 hb; replace BK417 := bd_ BK417 hb; replace BK418 := bd_ BK418 hb; replace BK419 := bd_ BK419 hb; replace HB := Aside0.mk (below_step (k4_ HB GE416 GE417 GE418 GE419) hb); clear hb))
   repeat (go_quiet (fail); try go_wp2)
   (try simp only [Act.put, List.setIfInBounds_toArray, List.set_cons_zero, List.set_cons_succ])
   go_cut [] (fun wc => ∃ (kq : Nat) (x419000_56 : Int) (x419001_56 : Int) (x420000_56 : Int) (x420001_56 : Int), Aside0 (impl_common.j2 kq x417000_38 x417001_38 x418000_38 x418001_38 x419000_56 x419001_56 x420000_56 x420001_56 = some r) ∧ Aside0 (kq ≤ kj38) ∧ Aside0 (wc.heap[gb416]? = some (.cells #[.int .i16 x417000_38, .int .i16 x417001_38] 43 (0, 0))) ∧ Aside0 (wc.heap[gb417]? = some (.cells #[.int .i16 x418000_38, .int .i16 x418001_38] 43 (0, 0))) ∧ Aside0 (wc.heap[gb418]? = some (.cells #[.int .i16 x419000_56, .int .i16 x419001_56] 43 (0, 0))) ∧ Aside0 (wc.heap[gb419]? = some (.cells #[.int .i16 x420000_56, .int .i16 x420001_56] 43 (0, 0))) ∧ Aside0 (Below w.heap.size w wc))
   case first =>
    have H := HC57.out
    clear HC57
    rcases (Decidable.em (t423 = true)).symm with c66 | c66
    ·
     replace c66 := Bool.eq_false_iff.mpr c66
     subst c66
     replace H := gf_ H
     have H' := Aside0.mk H
     clear H
     go_wp2
     repeat (go_quiet (fail); try go_wp2)
     go_meet
     case rel => exact ⟨_, (a2_0), (a2_1), (a3_0), (a3_1), H', ⟨by have := HJ4.out; have := HJ38.out; first | omega | exact Nat.le_refl _⟩, ⟨bk_ BK416⟩, ⟨bk_ BK417⟩, ⟨bk_ BK418⟩, ⟨bk_ BK419⟩, ⟨k4_ HB GE416 GE417 GE418 GE419⟩⟩
    subst c66
    replace H := gt_ H
    have H' := Aside0.mk H
    clear H
    have hnb67 := NB419_416.out
    have hnc67 := NB416_419.out
    have hnb68 := NB419_417.out
    have hnc68 := NB417_419.out
    have hnb69 := NB419_418.out
    have hnc69 := NB418_419.out
    obtain ⟨⟨hcz70_0, hcz70_1⟩, hfz70_0, hfz70_1⟩ := bq_ BK419
    have hnb71 := NB418_416.out
    have hnc71 := NB416_418.out
    have hnb72 := NB418_417.out
    have hnc72 := NB417_418.out
    obtain ⟨⟨hcz73_0, hcz73_1⟩, hfz73_0, hfz73_1⟩ := bq_ BK418
    go_wp2
    repeat (go_quiet (fail); try go_wp2)
    go_meet
    case rel => exact ⟨_, (a3_0), (a3_1), (a2_0), (a2_1), H', ⟨by have := HJ4.out; have := HJ38.out; first | omega | exact Nat.le_refl _⟩, ⟨by (with_reducible repeat (first | refine blk_drewN ?_ _ | refine blk_drew ?_ | refine blk_alloc ?_ _)); refine blk_far ?_ NB416_419.out _; (with_reducible repeat (first | refine blk_drewN ?_ _ | refine blk_drew ?_ | refine blk_alloc ?_ _)); refine blk_far ?_ NB416_419.out _; (with_reducible repeat (first | refine blk_drewN ?_ _ | refine blk_drew ?_ | refine blk_alloc ?_ _)); refine blk_far ?_ NB416_418.out _; (with_reducible repeat (first | refine blk_drewN ?_ _ | refine blk_drew ?_ | refine blk_alloc ?_ _)); refine blk_far ?_ NB416_418.out _; (with_reducible repeat (first | refine blk_drewN ?_ _ | refine blk_drew ?_ | refine blk_alloc ?_ _)); exact BK416.out⟩, ⟨by (with_reducible repeat (first | refine blk_drewN ?_ _ | refine blk_drew ?_ | refine blk_alloc ?_ _)); refine blk_far ?_ NB417_419.out _; (with_reducible repeat (first | refine blk_drewN ?_ _ | refine blk_drew ?_ | refine blk_alloc ?_ _)); refine blk_far ?_ NB417_419.out _; (with_reducible repeat (first | refine blk_drewN ?_ _ | refine blk_drew ?_ | refine blk_alloc ?_ _)); refine blk_far ?_ NB417_418.out _; (with_reducible repeat (first | refine blk_drewN ?_ _ | refine blk_drew ?_ | refine blk_alloc ?_ _)); refine blk_far ?_ NB417_418.out _; (with_reducible repeat (first | refine blk_drewN ?_ _ | refine blk_drew ?_ | refine blk_alloc ?_ _)); exact BK417.out⟩, ⟨by (with_reducible repeat (first | refine blk_drewN ?_ _ | refine blk_drew ?_ | refine blk_alloc ?_ _)); refine blk_far ?_ NB418_419.out _; (with_reducible repeat (first | refine blk_drewN ?_ _ | refine blk_drew ?_ | refine blk_alloc ?_ _)); refine blk_far ?_ NB418_419.out _; (with_reducible repeat (first | refine blk_drewN ?_ _ | refine blk_drew ?_ | refine blk_alloc ?_ _)); refine blk_put (cs := #[.int .i16 a3_0, .int .i16 a2_1]) ?_ 1 _ rfl; (with_reducible repeat (first | refine blk_drewN ?_ _ | refine blk_drew ?_ | refine blk_alloc ?_ _)); refine blk_put (cs := #[.int .i16 a2_0, .int .i16 a2_1]) ?_ 0 _ rfl; (with_reducible repeat (first | refine blk_drewN ?_ _ | refine blk_drew ?_ | refine blk_alloc ?_ _)); exact BK418.out⟩, ⟨by (with_reducible repeat (first | refine blk_drewN ?_ _ | refine blk_drew ?_ | refine blk_alloc ?_ _)); refine blk_put (cs := #[.int .i16 a2_0, .int .i16 a3_1]) ?_ 1 _ rfl; (with_reducible repeat (first | refine blk_drewN ?_ _ | refine blk_drew ?_ | refine blk_alloc ?_ _)); refine blk_put (cs := #[.int .i16 a3_0, .int .i16 a3_1]) ?_ 0 _ rfl; (with_reducible repeat (first | refine blk_drewN ?_ _ | refine blk_drew ?_ | refine blk_alloc ?_ _)); refine blk_far ?_ NB419_418.out _; (with_reducible repeat (first | refine blk_drewN ?_ _ | refine blk_drew ?_ | refine blk_alloc ?_ _)); refine blk_far ?_ NB419_418.out _; (with_reducible repeat (first | refine blk_drewN ?_ _ | refine blk_drew ?_ | refine blk_alloc ?_ _)); exact BK419.out⟩, ⟨k4_ HB GE416 GE417 GE418 GE419⟩⟩
   case rest =>
    clear HC57
    obtain ⟨kq, x419000_56, x419001_56, x420000_56, x420001_56, HA, HJ56, BK416, BK417, BK418, BK419, HB⟩ := hcut
    rcases kq with _ | kj56
    · exact absurd HA.out (by simp [impl_common.j2])
    have H := HA.out
    clear HA
    simp only [impl_common.j2] at H
    replace H := Option.bind_eq_some_iff.mp H
    obtain ⟨t424, A740, H⟩ := H
    (try dsimp only at H)
    have A74 := Aside0.mk A740
    clear A740
    have HC75 := Aside0.mk H
    clear H
    have hnb76 := NB416_417.out
    have hnc76 := NB417_416.out
    have hnb77 := NB416_418.out
    have hnc77 := NB418_416.out
    have hnb78 := NB416_419.out
    have hnc78 := NB419_416.out
    obtain ⟨⟨hcz79_0, hcz79_1⟩, hfz79_0, hfz79_1⟩ := bq_ BK416
    have hnb80 := NB418_417.out
    have hnc80 := NB417_418.out
    have hnb81 := NB418_419.out
    have hnc81 := NB419_418.out
    obtain ⟨⟨hcz82_0, hcz82_1⟩, hfz82_0, hfz82_1⟩ := bq_ BK418
    go_upto_if 35 with (first | (go_at_call 75; (with_reducible refine (impl_cornerLess.calls x417000_38 x417001_38 x419000_56 x419001_56 t424 _ A74.out).mono ?_); rintro e w83 ⟨rfl, hb⟩; replace BK416 := bd_ BK416 hb; replace BK417 := bd_ BK417 hb; replace BK418 := bd_ BK418 hb; replace BK419 := bd_ BK419 hb; replace HB := Aside0.mk (below_step (k4_ HB GE416 GE417 GE418 GE419) hb); clear hb))
    repeat (go_quiet (fail); try go_wp2)
    (try simp only [Act.put, List.setIfInBounds_toArray, List.set_cons_zero, List.set_cons_succ])
    go_cut [] (fun wc => ∃ (kq : Nat) (x417000_74 : Int) (x417001_74 : Int), Aside0 (impl_common.j3 kq x417000_74 x417001_74 x418000_38 x418001_38 x420000_56 x420001_56 = some r) ∧ Aside0 (kq ≤ kj56) ∧ Aside0 (wc.heap[gb416]? = some (.cells #[.int .i16 x417000_74, .int .i16 x417001_74] 43 (0, 0))) ∧ Aside0 (wc.heap[gb417]? = some (.cells #[.int .i16 x418000_38, .int .i16 x418001_38] 43 (0, 0))) ∧ Aside0 (wc.heap[gb418]? = some (.cells #[.int .i16 x419000_56, .int .i16 x419001_56] 43 (0, 0))) ∧ Aside0 (wc.heap[gb419]? = some (.cells #[.int .i16 x420000_56, .int .i16 x420001_56] 43 (0, 0))) ∧ Aside0 (Below w.heap.size w wc))
    case first =>
     have H := HC75.out
     clear HC75
     rcases (Decidable.em (t424 = true)).symm with c84 | c84
     ·
      replace c84 := Bool.eq_false_iff.mpr c84
      subst c84
      replace H := gf_ H
      have H' := Aside0.mk H
      clear H
      go_wp2
      repeat (go_quiet (fail); try go_wp2)
      go_meet
      case rel => exact ⟨_, (x417000_38), (x417001_38), H', ⟨by have := HJ4.out; have := HJ38.out; have := HJ56.out; first | omega | exact Nat.le_refl _⟩, ⟨bk_ BK416⟩, ⟨bk_ BK417⟩, ⟨bk_ BK418⟩, ⟨bk_ BK419⟩, ⟨k4_ HB GE416 GE417 GE418 GE419⟩⟩
     subst c84
     replace H := gt_ H
     have H' := Aside0.mk H
     clear H
     have hnb85 := NB418_416.out
     have hnc85 := NB416_418.out
     have hnb86 := NB418_417.out
     have hnc86 := NB417_418.out
     have hnb87 := NB418_419.out
     have hnc87 := NB419_418.out
     obtain ⟨⟨hcz88_0, hcz88_1⟩, hfz88_0, hfz88_1⟩ := bq_ BK418
     have hnb89 := NB416_417.out
     have hnc89 := NB417_416.out
     have hnb90 := NB416_419.out
     have hnc90 := NB419_416.out
     obtain ⟨⟨hcz91_0, hcz91_1⟩, hfz91_0, hfz91_1⟩ := bq_ BK416
     go_wp2
     repeat (go_quiet (fail); try go_wp2)
     go_meet
     case rel => exact ⟨_, (x419000_56), (x419001_56), H', ⟨by have := HJ4.out; have := HJ38.out; have := HJ56.out; first | omega | exact Nat.le_refl _⟩, ⟨by (with_reducible repeat (first | refine blk_drewN ?_ _ | refine blk_drew ?_ | refine blk_alloc ?_ _)); refine blk_put (cs := #[.int .i16 x419000_56, .int .i16 x417001_38]) ?_ 1 _ rfl; (with_reducible repeat (first | refine blk_drewN ?_ _ | refine blk_drew ?_ | refine blk_alloc ?_ _)); refine blk_put (cs := #[.int .i16 x417000_38, .int .i16 x417001_38]) ?_ 0 _ rfl; (with_reducible repeat (first | refine blk_drewN ?_ _ | refine blk_drew ?_ | refine blk_alloc ?_ _)); exact BK416.out⟩, ⟨by (with_reducible repeat (first | refine blk_drewN ?_ _ | refine blk_drew ?_ | refine blk_alloc ?_ _)); refine blk_far ?_ NB417_416.out _; (with_reducible repeat (first | refine blk_drewN ?_ _ | refine blk_drew ?_ | refine blk_alloc ?_ _)); refine blk_far ?_ NB417_416.out _; (with_reducible repeat (first | refine blk_drewN ?_ _ | refine blk_drew ?_ | refine blk_alloc ?_ _)); exact BK417.out⟩, ⟨by (with_reducible repeat (first | refine blk_drewN ?_ _ | refine blk_drew ?_ | refine blk_alloc ?_ _)); refine blk_far ?_ NB418_416.out _; (with_reducible repeat (first | refine blk_drewN ?_ _ | refine blk_drew ?_ | refine blk_alloc ?_ _)); refine blk_far ?_ NB418_416.out _; (with_reducible repeat (first | refine blk_drewN ?_ _ | refine blk_drew ?_ | refine blk_alloc ?_ _)); exact BK418.out⟩, ⟨by (with_reducible repeat (first | refine blk_drewN ?_ _ | refine blk_drew ?_ | refine blk_alloc ?_ _)); refine blk_far ?_ NB419_416.out _; (with_reducible repeat (first | refine blk_drewN ?_ _ | refine blk_drew ?_ | refine blk_alloc ?_ _)); refine blk_far ?_ NB419_416.out _; (with_reducible repeat (first | refine blk_drewN ?_ _ | refine blk_drew ?_ | refine blk_alloc ?_ _)); exact BK419.out⟩, ⟨k4_ HB GE416 GE417 GE418 GE419⟩⟩
    case rest =>
     clear HC75
     obtain ⟨kq, x417000_74, x417001_74, HA, HJ74, BK416, BK417, BK418, BK419, HB⟩ := hcut
     rcases kq with _ | kj74
     · exact absurd HA.out (by simp [impl_common.j3])
     have H := HA.out
     clear HA
     simp only [impl_common.j3] at H
     replace H := Option.bind_eq_some_iff.mp H
     obtain ⟨t425, A920, H⟩ := H
     (try dsimp only at H)
     have A92 := Aside0.mk A920
     clear A920
     by_cases c93 : t425 = true
     ·
      subst c93
      replace H := gt_ H
      replace H := Option.bind_eq_some_iff.mp H
      obtain ⟨t426, A940, H⟩ := H
      (try dsimp only at H)
      have A94 := Aside0.mk A940
      clear A940
      by_cases c95 : t426 = true
      ·
       subst c95
       replace H := gt_ H
       obtain rfl := Option.some.inj H
       have hnb96 := NB419_416.out
       have hnc96 := NB416_419.out
       have hnb97 := NB419_417.out
       have hnc97 := NB417_419.out
       have hnb98 := NB419_418.out
       have hnc98 := NB418_419.out
       obtain ⟨⟨hcz99_0, hcz99_1⟩, hfz99_0, hfz99_1⟩ := bq_ BK419
       have hnb100 := NB417_416.out
       have hnc100 := NB416_417.out
       have hnb101 := NB417_418.out
       have hnc101 := NB418_417.out
       obtain ⟨⟨hcz102_0, hcz102_1⟩, hfz102_0, hfz102_1⟩ := bq_ BK417
       go_wp2_with (first | (go_at_call 75; (with_reducible refine (impl_cornerLess.calls x420000_56 x420001_56 x418000_38 x418001_38 true _ A92.out).mono ?_); rintro e w103 ⟨rfl, hb⟩; replace BK416 := bd_ BK416 hb; replace BK417 := bd_ BK417 hb; replace BK418 := bd_ BK418 hb; replace BK419 := bd_ BK419 hb; replace HB := Aside0.mk (below_step (k4_ HB GE416 GE417 GE418 GE419) hb); clear hb; obtain ⟨⟨hcz104_0, hcz104_1⟩, hfz104_0, hfz104_1⟩ := bq_ BK419; obtain ⟨⟨hcz105_0, hcz105_1⟩, hfz105_0, hfz105_1⟩ := bq_ BK417; have hnb106 := NB416_418.out; have hnc106 := NB418_416.out; obtain ⟨⟨hcz107_0, hcz107_1⟩, hfz107_0, hfz107_1⟩ := bq_ BK416) | (go_at_call 75; (with_reducible refine (impl_cornerLess.calls x417000_74 x417001_74 x420000_56 x420001_56 true _ A94.out).mono ?_); rintro e w108 ⟨rfl, hb⟩; replace BK416 := Aside0.mk (blk_below (g := gb416) (o := .cells #[.int .i16 x417000_74, .int .i16 x417001_74] 43 (0, 0)) (by (with_reducible repeat (first | refine blk_drewN ?_ _ | refine blk_drew ?_ | refine blk_alloc ?_ _)); refine blk_far ?_ NB416_417.out _; (with_reducible repeat (first | refine blk_drewN ?_ _ | refine blk_drew ?_ | refine blk_alloc ?_ _)); refine blk_far ?_ NB416_417.out _; (with_reducible repeat (first | refine blk_drewN ?_ _ | refine blk_drew ?_ | refine blk_alloc ?_ _)); exact BK416.out) hb); replace BK417 := Aside0.mk (blk_below (g := gb417) (o := .cells #[.int .i16 x420000_56, .int .i16 x420001_56] 43 (0, 0)) (by (with_reducible repeat (first | refine blk_drewN ?_ _ | refine blk_drew ?_ | refine blk_alloc ?_ _)); refine blk_put (cs := #[.int .i16 x420000_56, .int .i16 x418001_38]) ?_ 1 _ rfl; (with_reducible repeat (first | refine blk_drewN ?_ _ | refine blk_drew ?_ | refine blk_alloc ?_ _)); refine blk_put (cs := #[.int .i16 x418000_38, .int .i16 x418001_38]) ?_ 0 _ rfl; (with_reducible repeat (first | refine blk_drewN ?_ _ | refine blk_drew ?_ | refine blk_alloc ?_ _)); exact BK417.out) hb); replace BK418 := Aside0.mk (blk_below (g := gb418) (o := .cells #[.int .i16 x419000_56, .int .i16 x419001_56] 43 (0, 0)) (by (with_reducible repeat (first | refine blk_drewN ?_ _ | refine blk_drew ?_ | refine blk_alloc ?_ _)); refine blk_far ?_ NB418_417.out _; (with_reducible repeat (first | refine blk_drewN ?_ _ | refine blk_drew ?_ | refine blk_alloc ?_ _)); refine blk_far ?_ NB418_417.out _; (with_reducible repeat (first | refine blk_drewN ?_ _ | refine blk_drew ?_ | refine blk_alloc ?_ _)); exact BK418.out) hb); replace BK419 := Aside0.mk (blk_below (g := gb419) (o := .cells #[.int .i16 x420000_56, .int .i16 x420001_56] 43 (0, 0)) (by (with_reducible repeat (first | refine blk_drewN ?_ _ | refine blk_drew ?_ | refine blk_alloc ?_ _)); refine blk_far ?_ NB419_417.out _; (with_reducible repeat (first | refine blk_drewN ?_ _ | refine blk_drew ?_ | refine blk_alloc ?_ _)); refine blk_far ?_ NB419_417.out _; (with_reducible repeat (first | refine blk_drewN ?_ _ | refine blk_drew ?_ | refine blk_alloc ?_ _)); exact BK419.out) hb); replace HB := Aside0.mk (below_step (k4_ HB GE416 GE417 GE418 GE419) hb); clear hb; obtain ⟨⟨hcz109_0, hcz109_1⟩, hfz109_0, hfz109_1⟩ := bq_ BK417; obtain ⟨⟨hcz110_0, hcz110_1⟩, hfz110_0, hfz110_1⟩ := bq_ BK416))
       repeat (go_quiet (fail); try go_wp2)
       go_ret
       exact ⟨rt_, k4_ HB GE416 GE417 GE418 GE419⟩
      replace c95 := Bool.eq_false_iff.mpr c95
      subst c95
      replace H := gf_ H
      obtain rfl := Option.some.inj H
      have hnb111 := NB419_416.out
      have hnc111 := NB416_419.out
      have hnb112 := NB419_417.out
      have hnc112 := NB417_419.out
      have hnb113 := NB419_418.out
      have hnc113 := NB418_419.out
      obtain ⟨⟨hcz114_0, hcz114_1⟩, hfz114_0, hfz114_1⟩ := bq_ BK419
      have hnb115 := NB417_416.out
      have hnc115 := NB416_417.out
      have hnb116 := NB417_418.out
      have hnc116 := NB418_417.out
      obtain ⟨⟨hcz117_0, hcz117_1⟩, hfz117_0, hfz117_1⟩ := bq_ BK417
      go_wp2_with (first | (go_at_call 75; (with_reducible refine (impl_cornerLess.calls x420000_56 x420001_56 x418000_38 x418001_38 true _ A92.out).mono ?_); rintro e w118 ⟨rfl, hb⟩; replace BK416 := bd_ BK416 hb; replace BK417 := bd_ BK417 hb; replace BK418 := bd_ BK418 hb; replace BK419 := bd_ BK419 hb; replace HB := Aside0.mk (below_step (k4_ HB GE416 GE417 GE418 GE419) hb); clear hb; obtain ⟨⟨hcz119_0, hcz119_1⟩, hfz119_0, hfz119_1⟩ := bq_ BK419; obtain ⟨⟨hcz120_0, hcz120_1⟩, hfz120_0, hfz120_1⟩ := bq_ BK417; have hnb121 := NB416_418.out; have hnc121 := NB418_416.out; obtain ⟨⟨hcz122_0, hcz122_1⟩, hfz122_0, hfz122_1⟩ := bq_ BK416) | (go_at_call 75; (with_reducible refine (impl_cornerLess.calls x417000_74 x417001_74 x420000_56 x420001_56 false _ A94.out).mono ?_); rintro e w123 ⟨rfl, hb⟩; replace BK416 := Aside0.mk (blk_below (g := gb416) (o := .cells #[.int .i16 x417000_74, .int .i16 x417001_74] 43 (0, 0)) (by (with_reducible repeat (first | refine blk_drewN ?_ _ | refine blk_drew ?_ | refine blk_alloc ?_ _)); refine blk_far ?_ NB416_417.out _; (with_reducible repeat (first | refine blk_drewN ?_ _ | refine blk_drew ?_ | refine blk_alloc ?_ _)); refine blk_far ?_ NB416_417.out _; (with_reducible repeat (first | refine blk_drewN ?_ _ | refine blk_drew ?_ | refine blk_alloc ?_ _)); exact BK416.out) hb); replace BK417 := Aside0.mk (blk_below (g := gb417) (o := .cells #[.int .i16 x420000_56, .int .i16 x420001_56] 43 (0, 0)) (by (with_reducible repeat (first | refine blk_drewN ?_ _ | refine blk_drew ?_ | refine blk_alloc ?_ _)); refine blk_put (cs := #[.int .i16 x420000_56, .int .i16 x418001_38]) ?_ 1 _ rfl; (with_reducible repeat (first | refine blk_drewN ?_ _ | refine blk_drew ?_ | refine blk_alloc ?_ _)); refine blk_put (cs := #[.int .i16 x418000_38, .int .i16 x418001_38]) ?_ 0 _ rfl; (with_reducible repeat (first | refine blk_drewN ?_ _ | refine blk_drew ?_ | refine blk_alloc ?_ _)); exact BK417.out) hb); replace BK418 := Aside0.mk (blk_below (g := gb418) (o := .cells #[.int .i16 x419000_56, .int .i16 x419001_56] 43 (0, 0)) (by (with_reducible repeat (first | refine blk_drewN ?_ _ | refine blk_drew ?_ | refine blk_alloc ?_ _)); refine blk_far ?_ NB418_417.out _; (with_reducible repeat (first | refine blk_drewN ?_ _ | refine blk_drew ?_ | refine blk_alloc ?_ _)); refine blk_far ?_ NB418_417.out _; (with_reducible repeat (first | refine blk_drewN ?_ _ | refine blk_drew ?_ | refine blk_alloc ?_ _)); exact BK418.out) hb); replace BK419 := Aside0.mk (blk_below (g := gb419) (o := .cells #[.int .i16 x420000_56, .int .i16 x420001_56] 43 (0, 0)) (by (with_reducible repeat (first | refine blk_drewN ?_ _ | refine blk_drew ?_ | refine blk_alloc ?_ _)); refine blk_far ?_ NB419_417.out _; (with_reducible repeat (first | refine blk_drewN ?_ _ | refine blk_drew ?_ | refine blk_alloc ?_ _)); refine blk_far ?_ NB419_417.out _; (with_reducible repeat (first | refine blk_drewN ?_ _ | refine blk_drew ?_ | refine blk_alloc ?_ _)); exact BK419.out) hb); replace HB := Aside0.mk (below_step (k4_ HB GE416 GE417 GE418 GE419) hb); clear hb))
      repeat (go_quiet (fail); try go_wp2)
      go_ret
      exact ⟨rt_, k4_ HB GE416 GE417 GE418 GE419⟩
     replace c93 := Bool.eq_false_iff.mpr c93
     subst c93
     replace H := gf_ H
     replace H := Option.bind_eq_some_iff.mp H
     obtain ⟨t427, A1240, H⟩ := H
     (try dsimp only at H)
     have A124 := Aside0.mk A1240
     clear A1240
     by_cases c125 : t427 = true
     ·
      subst c125
      replace H := gt_ H
      obtain rfl := Option.some.inj H
      have hnb126 := NB419_416.out
      have hnc126 := NB416_419.out
      have hnb127 := NB419_417.out
      have hnc127 := NB417_419.out
      have hnb128 := NB419_418.out
      have hnc128 := NB418_419.out
      obtain ⟨⟨hcz129_0, hcz129_1⟩, hfz129_0, hfz129_1⟩ := bq_ BK419
      have hnb130 := NB417_416.out
      have hnc130 := NB416_417.out
      have hnb131 := NB417_418.out
      have hnc131 := NB418_417.out
      obtain ⟨⟨hcz132_0, hcz132_1⟩, hfz132_0, hfz132_1⟩ := bq_ BK417
      go_wp2_with (first | (go_at_call 75; (with_reducible refine (impl_cornerLess.calls x420000_56 x420001_56 x418000_38 x418001_38 false _ A92.out).mono ?_); rintro e w133 ⟨rfl, hb⟩; replace BK416 := bd_ BK416 hb; replace BK417 := bd_ BK417 hb; replace BK418 := bd_ BK418 hb; replace BK419 := bd_ BK419 hb; replace HB := Aside0.mk (below_step (k4_ HB GE416 GE417 GE418 GE419) hb); clear hb; have hnb134 := NB416_418.out; have hnc134 := NB418_416.out; obtain ⟨⟨hcz135_0, hcz135_1⟩, hfz135_0, hfz135_1⟩ := bq_ BK416; obtain ⟨⟨hcz136_0, hcz136_1⟩, hfz136_0, hfz136_1⟩ := bq_ BK417) | (go_at_call 75; (with_reducible refine (impl_cornerLess.calls x417000_74 x417001_74 x418000_38 x418001_38 true _ A124.out).mono ?_); rintro e w137 ⟨rfl, hb⟩; replace BK416 := bd_ BK416 hb; replace BK417 := bd_ BK417 hb; replace BK418 := bd_ BK418 hb; replace BK419 := bd_ BK419 hb; replace HB := Aside0.mk (below_step (k4_ HB GE416 GE417 GE418 GE419) hb); clear hb; obtain ⟨⟨hcz138_0, hcz138_1⟩, hfz138_0, hfz138_1⟩ := bq_ BK417; obtain ⟨⟨hcz139_0, hcz139_1⟩, hfz139_0, hfz139_1⟩ := bq_ BK416))
      repeat (go_quiet (fail); try go_wp2)
      go_ret
      exact ⟨rt_, k4_ HB GE416 GE417 GE418 GE419⟩
     replace c125 := Bool.eq_false_iff.mpr c125
     subst c125
     replace H := gf_ H
     obtain rfl := Option.some.inj H
     have hnb140 := NB419_416.out
     have hnc140 := NB416_419.out
     have hnb141 := NB419_417.out
     have hnc141 := NB417_419.out
     have hnb142 := NB419_418.out
     have hnc142 := NB418_419.out
     obtain ⟨⟨hcz143_0, hcz143_1⟩, hfz143_0, hfz143_1⟩ := bq_ BK419
     have hnb144 := NB417_416.out
     have hnc144 := NB416_417.out
     have hnb145 := NB417_418.out
     have hnc145 := NB418_417.out
     obtain ⟨⟨hcz146_0, hcz146_1⟩, hfz146_0, hfz146_1⟩ := bq_ BK417
     go_wp2_with (first | (go_at_call 75; (with_reducible refine (impl_cornerLess.calls x420000_56 x420001_56 x418000_38 x418001_38 false _ A92.out).mono ?_); rintro e w147 ⟨rfl, hb⟩; replace BK416 := bd_ BK416 hb; replace BK417 := bd_ BK417 hb; replace BK418 := bd_ BK418 hb; replace BK419 := bd_ BK419 hb; replace HB := Aside0.mk (below_step (k4_ HB GE416 GE417 GE418 GE419) hb); clear hb; have hnb148 := NB416_418.out; have hnc148 := NB418_416.out; obtain ⟨⟨hcz149_0, hcz149_1⟩, hfz149_0, hfz149_1⟩ := bq_ BK416; obtain ⟨⟨hcz150_0, hcz150_1⟩, hfz150_0, hfz150_1⟩ := bq_ BK417) | (go_at_call 75; (with_reducible refine (impl_cornerLess.calls x417000_74 x417001_74 x418000_38 x418001_38 false _ A124.out).mono ?_); rintro e w151 ⟨rfl, hb⟩; replace BK416 := bd_ BK416 hb; replace BK417 := bd_ BK417 hb; replace BK418 := bd_ BK418 hb; replace BK419 := bd_ BK419 hb; replace HB := Aside0.mk (below_step (k4_ HB GE416 GE417 GE418 GE419) hb); clear hb))
     repeat (go_quiet (fail); try go_wp2)
     go_ret
     exact ⟨rt_, k4_ HB GE416 GE417 GE418 GE419⟩

end Go.Proofs.Ytllfeehchiikoaa.PA
