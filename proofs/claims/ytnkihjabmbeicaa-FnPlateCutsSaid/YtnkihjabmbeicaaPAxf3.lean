/- Pure functions, and that Go's functions come to them. -/
import Derived.Test.YtnkihjabmbeicaaPAx0
import Derived.Test.YtnkihjabmbeicaaPAxm11
import Derived.Test.YtnkihjabmbeicaaPAxf11
import Derived.Test.YtnkihjabmbeicaaPAxm7
import Derived.Test.YtnkihjabmbeicaaPAxf14
import Derived.Test.YtnkihjabmbeicaaPAxm9
import Derived.Test.YtnkihjabmbeicaaPAxm10
import Derived.Test.YtnkihjabmbeicaaPAxf20
import Derived.Test.YtnkihjabmbeicaaPAxm8
import Derived.Test.YtnkihjabmbeicaaPAxf5
import Derived.Test.YtnkihjabmbeicaaPAxm6
import Derived.Test.YtnkihjabmbeicaaPAxf7
import Derived.Test.YtnkihjabmbeicaaPAxf8
import Derived.Test.YtnkihjabmbeicaaPAxf9
import Derived.Test.YtnkihjabmbeicaaPAxgKinds
namespace Go.Proofs.Ytnkihjabmbeicaa.PA
open Go.RowKit Go.Proofs.YtnkihjabmbeicaaW.PrintWords Go.Proofs.YtnkihjabmbeicaaW.PrintLast Go.Proofs.YtnkihjabmbeicaaW.PrintMore
set_option linter.unusedVariables false
set_option linter.unusedSimpArgs false

/-! ### laws_FnPlateCuts: function 3 -/
mutual
def laws_FnPlateCuts.j0 : Nat → List Int → List Int → Bool → Option (Bool)
 | 0, _, _, _ => none
 | k + 1, x0, x1, x49 => if x49 = true then (some true) else ((spec_P6Kinds.f k x0).bind fun t289 => ((spec_P6Pick.f x1 9).bind fun t292 => ((spec_P6Pick.f x0 7).bind fun t293 => ((impl_BestCuts.f k (wrap64 (1 + t292)) (wrap64 (1 + t293)) t289).bind fun bt294 => ((spec_BestCuts.f k (wrap64 (1 + t292)) (wrap64 (1 + t293)) t289).bind fun bt299 => ((impl_BestValue.f k (wrap64 (1 + t292)) (wrap64 (1 + t293)) t289).bind fun bt304 => ((spec_BestValue.f k (wrap64 (1 + t292)) (wrap64 (1 + t293)) t289).bind fun bt306 => (if bt294.2.2 = bt299.2.2 then ((spec_SameCuts.f k bt294.1 bt299.1).bind fun t308 => (if t308 = true then (if bt294.2.1 = bt299.2.1 then (if bt304.2 = bt306.2 then (if bt304.2 = 0 then (if bt304.1 = bt306.1 then ((impl_ValidKinds.f t289).bind fun t309 => (laws_FnPlateCuts.j1 k x1 t289 (wrap64 (1 + t292)) (wrap64 (1 + t293)) bt294.2.2 bt299.1 bt299.2.1 bt306.1 (!t309))) else (none)) else (none)) else (none)) else (none)) else (none))) else (none)))))))))
def laws_FnPlateCuts.j1 : Nat → List Int → List (S46) → Int → Int → Int → List (S48) → Int → Int → Bool → Option (Bool)
 | 0, _, _, _, _, _, _, _, _, _ => none
 | k + 1, x1, x5, x6, x7, x10, x11, x12, x16, x120 => if x120 = true then (none) else (if x10 = 0 then ((impl_ValueOf.f k x6 x7 x5 x11).bind fun bt310 => ((impl_PiecesOf.f k x6 x7 x5 x11).bind fun bt312 => ((impl_WasteIn.f k x6 x7 x5 x11).bind fun bt316 => ((impl_SizesOf.f k x6 x7 x5 x11).bind fun bt318 => ((spec_SizesOf.f k x6 x7 x5 x11).bind fun bt322 => ((impl_CutLength.f k x6 x7 x5 x11).bind fun bt326 => (if x12 = x16 then ((impl_ValidCuts.f k x6 x7 x5 x11).bind fun t328 => (if t328 = true then (if bt310.2 = 0 then (if bt310.1 = x16 then (if bt312.2 = 0 then (if (bt312.1.length : Int) = (x5.length : Int) then (if bt316.2 = 0 then (if bt318.2 = bt322.2 then (if bt318.2 = 0 then ((spec_SamePairs.f k bt318.1 bt322.1).bind fun t329 => (if t329 = true then (if (bt322.1.length : Int) = (x11.length : Int) then (laws_FnPlateCuts.j2 k x1 x5 x6 x7 x11 x16 bt312.1 bt316.1 bt322.1 bt326.1 (bt326.2 != 0)) else (none)) else (none))) else (none)) else (none)) else (none)) else (none)) else (none)) else (none)) else (none)) else (none))) else (none)))))))) else (some (x10 == 3)))
def laws_FnPlateCuts.j2 : Nat → List Int → List (S46) → Int → Int → List (S48) → Int → List Int → Int → List (S49) → Int → Bool → Option (Bool)
 | 0, _, _, _, _, _, _, _, _, _, _, _ => none
 | k + 1, x1, x5, x6, x7, x11, x16, x20, x22, x26, x28, x233 => if x233 = true then (none) else (laws_FnPlateCuts.l0 k x1 x5 x6 x7 x11 x16 x20 x26 x28 x22 0)
def laws_FnPlateCuts.l0 : Nat → List Int → List (S46) → Int → Int → List (S48) → Int → List Int → List (S49) → Int → Int → Int → Option (Bool)
 | 0, _, _, _, _, _, _, _, _, _, _, _ => none
 | k + 1, x1, x5, x6, x7, x11, x16, x20, x26, x28, x30, x31 => if x31 < (x5.length : Int) then (if 0 ≤ x31 then (if x31 < (x20.length : Int) then (laws_FnPlateCuts.l0 k x1 x5 x6 x7 x11 x16 x20 x26 x28 (wrap64 (x30 + (wrap64 ((wrap64 ((rd x20 x31) * (wrap64 ((rd_T46 x5 x31).f0)))) * (wrap64 ((rd_T46 x5 x31).f1)))))) (wrap64 (x31 + 1))) else (none)) else (none)) else (laws_FnPlateCuts.l1 k x1 x5 x6 x7 x11 x16 x26 x28 x30 0 0)
def laws_FnPlateCuts.l1 : Nat → List Int → List (S46) → Int → Int → List (S48) → Int → List (S49) → Int → Int → Int → Int → Option (Bool)
 | 0, _, _, _, _, _, _, _, _, _, _, _ => none
 | k + 1, x1, x5, x6, x7, x11, x16, x26, x28, x30, x32, x33 => if x33 < (x11.length : Int) then (if 0 ≤ x33 then (if ((rd_T48 x11 x33).f0) = 2 then (if x33 < (x26.length : Int) then (laws_FnPlateCuts.l1 k x1 x5 x6 x7 x11 x16 x26 x28 x30 (wrap64 (x32 + ((rd_T49 x26 x33).f1))) (wrap64 (x33 + 1))) else (none)) else (if ((rd_T48 x11 x33).f0) = 3 then (if x33 < (x26.length : Int) then (laws_FnPlateCuts.l1 k x1 x5 x6 x7 x11 x16 x26 x28 x30 (wrap64 (x32 + ((rd_T49 x26 x33).f0))) (wrap64 (x33 + 1))) else (none)) else (laws_FnPlateCuts.l1 k x1 x5 x6 x7 x11 x16 x26 x28 x30 x32 (wrap64 (x33 + 1))))) else (none)) else (if x30 = (wrap64 (x6 * x7)) then (laws_FnPlateCuts.j5 k x1 x5 x6 x7 x16 (x32 != x28)) else (none))
def laws_FnPlateCuts.j5 : Nat → List Int → List (S46) → Int → Int → Int → Bool → Option (Bool)
 | 0, _, _, _, _, _, _ => none
 | k + 1, x1, x5, x6, x7, x16, x299 => if x299 = true then (none) else (if x6 > 1 then ((spec_P6Pick.f x1 (wrap64 (x6 - 1))).bind fun t336 => ((impl_BestValue.f k (wrap64 (1 + t336)) x7 x5).bind fun bt337 => ((impl_BestValue.f k (wrap64 (x6 - (wrap64 (1 + t336)))) x7 x5).bind fun bt339 => (if bt337.2 = 0 then (if bt339.2 = 0 then (laws_FnPlateCuts.j6 k x5 x6 x7 (decide ((wrap64 (bt337.1 + bt339.1)) > x16))) else (none)) else (none))))) else ((some (([(⟨0, 0, 0, 0⟩ : S48)] : List (S48)) : List (S48))).bind fun y348 => ((impl_ValueOf.f k x6 x7 x5 y348).bind fun bt351 => ((impl_WasteIn.f k x6 x7 x5 y348).bind fun bt353 => (if bt351.2 = 0 then (if bt351.1 = 0 then (if bt353.2 = 0 then (some (bt353.1 == (wrap64 (x6 * x7)))) else (none)) else (none)) else (none))))))
def laws_FnPlateCuts.j6 : Nat → List (S46) → Int → Int → Bool → Option (Bool)
 | 0, _, _, _, _ => none
 | k + 1, x5, x6, x7, x335 => if x335 = true then (none) else ((some (([(⟨0, 0, 0, 0⟩ : S48)] : List (S48)) : List (S48))).bind fun y341 => ((impl_ValueOf.f k x6 x7 x5 y341).bind fun bt344 => ((impl_WasteIn.f k x6 x7 x5 y341).bind fun bt346 => (if bt344.2 = 0 then (if bt344.1 = 0 then (if bt346.2 = 0 then (some (bt346.1 == (wrap64 (x6 * x7)))) else (none)) else (none)) else (none)))))
end
def laws_FnPlateCuts.f (k : Nat) (l0 : List Int) (l1 : List Int) : Option (Bool) := (laws_f6big.f l0).bind fun t287 => (if t287 = true then (laws_FnPlateCuts.j0 k l0 l1 true) else ((laws_f6big.f l1).bind fun t288 => (laws_FnPlateCuts.j0 k l0 l1 t288)))
theorem laws_FnPlateCuts.mono_l : ∀ k, (∀ y0 y1 y2, LeO (laws_FnPlateCuts.j0 k y0 y1 y2) (laws_FnPlateCuts.j0 (k + 1) y0 y1 y2)) ∧ (∀ y0 y1 y2 y3 y4 y5 y6 y7 y8, LeO (laws_FnPlateCuts.j1 k y0 y1 y2 y3 y4 y5 y6 y7 y8) (laws_FnPlateCuts.j1 (k + 1) y0 y1 y2 y3 y4 y5 y6 y7 y8)) ∧ (∀ y0 y1 y2 y3 y4 y5 y6 y7 y8 y9 y10, LeO (laws_FnPlateCuts.j2 k y0 y1 y2 y3 y4 y5 y6 y7 y8 y9 y10) (laws_FnPlateCuts.j2 (k + 1) y0 y1 y2 y3 y4 y5 y6 y7 y8 y9 y10)) ∧ (∀ y0 y1 y2 y3 y4 y5 y6 y7 y8 y9 y10, LeO (laws_FnPlateCuts.l0 k y0 y1 y2 y3 y4 y5 y6 y7 y8 y9 y10) (laws_FnPlateCuts.l0 (k + 1) y0 y1 y2 y3 y4 y5 y6 y7 y8 y9 y10)) ∧ (∀ y0 y1 y2 y3 y4 y5 y6 y7 y8 y9 y10, LeO (laws_FnPlateCuts.l1 k y0 y1 y2 y3 y4 y5 y6 y7 y8 y9 y10) (laws_FnPlateCuts.l1 (k + 1) y0 y1 y2 y3 y4 y5 y6 y7 y8 y9 y10)) ∧ (∀ y0 y1 y2 y3 y4 y5, LeO (laws_FnPlateCuts.j5 k y0 y1 y2 y3 y4 y5) (laws_FnPlateCuts.j5 (k + 1) y0 y1 y2 y3 y4 y5)) ∧ (∀ y0 y1 y2 y3, LeO (laws_FnPlateCuts.j6 k y0 y1 y2 y3) (laws_FnPlateCuts.j6 (k + 1) y0 y1 y2 y3))
 | 0 => ⟨fun _ _ _ r h => by simp [laws_FnPlateCuts.j0] at h, fun _ _ _ _ _ _ _ _ _ r h => by simp [laws_FnPlateCuts.j1] at h, fun _ _ _ _ _ _ _ _ _ _ _ r h => by simp [laws_FnPlateCuts.j2] at h, fun _ _ _ _ _ _ _ _ _ _ _ r h => by simp [laws_FnPlateCuts.l0] at h, fun _ _ _ _ _ _ _ _ _ _ _ r h => by simp [laws_FnPlateCuts.l1] at h, fun _ _ _ _ _ _ r h => by simp [laws_FnPlateCuts.j5] at h, fun _ _ _ _ r h => by simp [laws_FnPlateCuts.j6] at h⟩
 | k + 1 => by
  obtain ⟨ih0, ih1, ih2, ih3, ih4, ih5, ih6⟩ := laws_FnPlateCuts.mono_l k
  refine ⟨?_, ?_, ?_, ?_, ?_, ?_, ?_⟩ <;> intros
  all_goals first | unfold laws_FnPlateCuts.j0 | unfold laws_FnPlateCuts.j1 | unfold laws_FnPlateCuts.j2 | unfold laws_FnPlateCuts.l0 | unfold laws_FnPlateCuts.l1 | unfold laws_FnPlateCuts.j5 | unfold laws_FnPlateCuts.j6
  all_goals repeat' first | (with_reducible first | exact ih0 _ _ _ | exact ih1 _ _ _ _ _ _ _ _ _ | exact ih2 _ _ _ _ _ _ _ _ _ _ _ | exact ih3 _ _ _ _ _ _ _ _ _ _ _ | exact ih4 _ _ _ _ _ _ _ _ _ _ _ | exact ih5 _ _ _ _ _ _ | exact ih6 _ _ _ _ | exact impl_BestCuts.mono _ _ _ _ | exact impl_BestValue.mono _ _ _ _ | exact impl_CutLength.mono _ _ _ _ _ | exact impl_PiecesOf.mono _ _ _ _ _ | exact impl_SizesOf.mono _ _ _ _ _ | exact impl_ValidCuts.mono _ _ _ _ _ | exact impl_ValueOf.mono _ _ _ _ _ | exact impl_WasteIn.mono _ _ _ _ _ | exact spec_BestCuts.mono _ _ _ _ | exact spec_BestValue.mono _ _ _ _ | exact spec_P6Kinds.mono _ _ | exact spec_SameCuts.mono _ _ _ | exact spec_SamePairs.mono _ _ _ | exact spec_SizesOf.mono _ _ _ _ _ | exact LeO.refl _ | exact LeO.none _ | refine LeO.ite ?_ ?_ | refine LeO.bind ?_ (fun _ => ?_))
theorem laws_FnPlateCuts.mono : ∀ a0 a1 k, LeO (laws_FnPlateCuts.f k a0 a1) (laws_FnPlateCuts.f (k + 1) a0 a1) := by
 intro a0 a1 k
 obtain ⟨ih0, ih1, ih2, ih3, ih4, ih5, ih6⟩ := laws_FnPlateCuts.mono_l k
 unfold laws_FnPlateCuts.f
 repeat' first | (with_reducible first | exact ih0 _ _ _ | exact ih1 _ _ _ _ _ _ _ _ _ | exact ih2 _ _ _ _ _ _ _ _ _ _ _ | exact ih3 _ _ _ _ _ _ _ _ _ _ _ | exact ih4 _ _ _ _ _ _ _ _ _ _ _ | exact ih5 _ _ _ _ _ _ | exact ih6 _ _ _ _ | exact impl_BestCuts.mono _ _ _ _ | exact impl_BestValue.mono _ _ _ _ | exact impl_CutLength.mono _ _ _ _ _ | exact impl_PiecesOf.mono _ _ _ _ _ | exact impl_SizesOf.mono _ _ _ _ _ | exact impl_ValidCuts.mono _ _ _ _ _ | exact impl_ValueOf.mono _ _ _ _ _ | exact impl_WasteIn.mono _ _ _ _ _ | exact spec_BestCuts.mono _ _ _ _ | exact spec_BestValue.mono _ _ _ _ | exact spec_P6Kinds.mono _ _ | exact spec_SameCuts.mono _ _ _ | exact spec_SamePairs.mono _ _ _ | exact spec_SizesOf.mono _ _ _ _ _ | exact LeO.refl _ | exact LeO.none _ | refine LeO.ite ?_ ?_ | refine LeO.bind ?_ (fun _ => ?_))
set_option maxHeartbeats 8000000 in
set_option maxRecDepth 100000 in
theorem laws_FnPlateCuts.calls (k : Nat) (A0 : Option Addr) (c0 : Nat) (l0 : List Int) (A1 : Option Addr) (c1 : Nat) (l1 : List Int) (r : Bool) (w : World) (hr0 : Kd.C (Kd.int .u8) w A0 l0.length l0) (hc0 : l0.length ≤ c0) (hr1 : Kd.C (Kd.int .u8) w A1 l1.length l1) (hc1 : l1.length ≤ c1) (h : laws_FnPlateCuts.f k l0 l1 = some r) :
  Calls Try.prog 3 #[.slice A0 l0.length c0, .slice A1 l1.length c1] w fun e w' => e = .returned (.bool r) ∧ Below w.heap.size w w' := by
 have hu48 := Try.underlying48
 have HR0 := Aside0.mk hr0
 have HC0 := Aside0.mk hc0
 clear hr0 hc0
 have HR1 := Aside0.mk hr1
 have HC1 := Aside0.mk hc1
 clear hr1 hc1
 have HB := Aside0.mk (Below.refl w.heap.size w)
 have H : ((laws_f6big.f l0).bind fun t287 => (if t287 = true then (laws_FnPlateCuts.j0 k l0 l1 true) else ((laws_f6big.f l1).bind fun t288 => (laws_FnPlateCuts.j0 k l0 l1 t288)))) = some r := h
 clear h
 have HC3 := Aside0.mk H
 clear H
 go_enter Try.func3, Try.ntmps3
 go_upto_region 1 with (fail)
 repeat (go_quiet (fail); go_upto_region 1 with (fail))
 go_cut [49] (fun v49 wc => ∃ (kq : Nat) (x49_2 : Bool), v49 = .bool x49_2 ∧ Aside0 (laws_FnPlateCuts.j0 kq l0 l1 x49_2 = some r) ∧ Aside0 (kq ≤ k) ∧ Aside0 (Below w.heap.size w wc))
 case first => as_aux_lemma =>
  have H := HC3.out
  clear HC3
  obtain ⟨t287, A4, H⟩ := be_ H
  (try dsimp only at H)
  by_cases c5 : t287 = true
  ·
   subst c5
   replace H := gt_ H
   have H' := Aside0.mk H
   clear H
   go_wp2_with (first | (go_at_call 4; (with_reducible refine (laws_f6big.calls _ _ l0 true _ ?side1 ?side2 A4.out).mono ?_); (case side1 => exact kc_ (Kd.C_below HR0.out HB.out)); (case side2 => exact HC0.out); rintro e w' ⟨rfl, ⟨nd, rfl⟩⟩; (try first | exact ⟨rfl, _, World.drewN_drewN _ _ _⟩ | exact ⟨rfl, _, Eq.trans (World.drewN_drewN _ _ _) (congrArg (World.drewN _) (Nat.add_assoc _ _ _))⟩)))
   repeat (go_quiet (fail); try go_wp2)
   go_meet
   case rel => exact ⟨_, (true), (by first | rfl | (simp; done) | (simp [*]; done)), H', ⟨by first | omega | exact Nat.le_refl _⟩, ⟨bl_ HB⟩⟩
  replace c5 := Bool.eq_false_iff.mpr c5
  subst c5
  replace H := gf_ H
  obtain ⟨t288, A6, H⟩ := be_ H
  (try dsimp only at H)
  have H' := Aside0.mk H
  clear H
  go_wp2_with (first | (go_at_call 4; (with_reducible refine (laws_f6big.calls _ _ l0 false _ ?side1 ?side2 A4.out).mono ?_); (case side1 => exact kc_ (Kd.C_below HR0.out HB.out)); (case side2 => exact HC0.out); rintro e w' ⟨rfl, ⟨nd, rfl⟩⟩; (try first | exact ⟨rfl, _, World.drewN_drewN _ _ _⟩ | exact ⟨rfl, _, Eq.trans (World.drewN_drewN _ _ _) (congrArg (World.drewN _) (Nat.add_assoc _ _ _))⟩)) | (go_at_call 4; (with_reducible refine (laws_f6big.calls _ _ l1 t288 _ ?side1 ?side2 A6.out).mono ?_); (case side1 => repeat (first | exact (Kd.C_below HR1.out (kB_ HB)) | (with_reducible refine Kd.C_alloc ?_ _) | (with_reducible refine Kd.C_drewN ?_ _) | (with_reducible refine Kd.C_drew ?_))); (case side2 => exact HC1.out); rintro e w' ⟨rfl, ⟨nd, rfl⟩⟩; (try first | exact ⟨rfl, _, World.drewN_drewN _ _ _⟩ | exact ⟨rfl, _, Eq.trans (World.drewN_drewN _ _ _) (congrArg (World.drewN _) (Nat.add_assoc _ _ _))⟩)))
  repeat (go_quiet (fail); try go_wp2)
  go_meet
  case rel => exact ⟨_, (t288), (by first | rfl | (simp; done) | (simp [*]; done)), H', ⟨by first | omega | exact Nat.le_refl _⟩, ⟨bl_ HB⟩⟩
 case rest => as_aux_lemma =>
  clear HC3
  obtain ⟨kq, x49_2, rfl, HA, HJ2, HB⟩ := hcut
  rcases kq with _ | kj2
  · exact absurd HA.out (by simp [laws_FnPlateCuts.j0])
  have H := HA.out
  clear HA
  simp only [laws_FnPlateCuts.j0] at H
  by_cases c7 : x49_2 = true
  ·
   subst c7
   replace H := gt_ H
   obtain rfl := Option.some.inj H
   go_wp2
   repeat (go_quiet (fail); try go_wp2)
   go_ret
   exact ⟨rt_, bl_ HB⟩
  replace c7 := Bool.eq_false_iff.mpr c7
  subst c7
  replace H := gf_ H
  obtain ⟨t289, A8, H⟩ := be_ H
  (try dsimp only at H)
  obtain ⟨t292, A9, H⟩ := be_ H
  (try dsimp only at H)
  obtain ⟨t293, A10, H⟩ := be_ H
  (try dsimp only at H)
  obtain ⟨⟨t294, t295, t296⟩, A11, H⟩ := be_ H
  (try dsimp only at H)
  obtain ⟨⟨t299, t300, t301⟩, A12, H⟩ := be_ H
  (try dsimp only at H)
  obtain ⟨⟨t304, t305⟩, A13, H⟩ := be_ H
  (try dsimp only at H)
  obtain ⟨⟨t306, t307⟩, A14, H⟩ := be_ H
  (try dsimp only at H)
  have HC15 := Aside0.mk H
  clear H
  go_upto_region 10 with (first | (go_at_call 5; (with_reducible refine (spec_P6Kinds.calls kj2 _ _ l0 t289 _ ?side1 ?side2 A8.out).mono ?_); (case side1 => exact kc_ (Kd.C_below HR0.out HB.out)); (case side2 => exact HC0.out); rintro e w16 ⟨v290, rfl, ho0, hb⟩; have HO291 := Aside0.mk (Kd.R_lower ho0 (below_size (kB_ HB))); replace HB := bs_ HB hb; clear hb; (try clear ho0)) | (go_at_call 6; (with_reducible refine (spec_P6Pick.calls _ _ l1 9 t292 _ ?side1 ?side2 A9.out).mono ?_); (case side1 => exact kc_ (Kd.C_below HR1.out HB.out)); (case side2 => exact HC1.out); rintro e w17 ⟨rfl, hb⟩; replace HO291 := Aside0.mk (Kd.R_below (kp_ HO291) hb); replace HB := bs_ HB hb; clear hb) | (go_at_call 6; (with_reducible refine (spec_P6Pick.calls _ _ l0 7 t293 _ ?side1 ?side2 A10.out).mono ?_); (case side1 => exact kc_ (Kd.C_below HR0.out HB.out)); (case side2 => exact HC0.out); rintro e w18 ⟨rfl, hb⟩; replace HO291 := Aside0.mk (Kd.R_below (kp_ HO291) hb); replace HB := bs_ HB hb; clear hb; obtain ⟨Ao19, co19, eo19⟩ := Kd.R_slice HO291.out; subst eo19) | (go_at_call 7; (with_reducible refine (impl_BestCuts.calls kj2 (wrap64 (1 + t292)) (wrap64 (1 + t293)) _ _ t289 t294 t295 t296 _ ?side1 ?side2 A11.out).mono ?_); (case side1 => exact kc_ ((Kd.R_reads' HO291.out).2.2)); (case side2 => exact (Kd.R_reads' HO291.out).2.1); rintro e w20 ⟨v297, rfl, ho0, hb⟩; replace HO291 := Aside0.mk (Kd.R_below (kp_ HO291) hb); have HO298 := Aside0.mk (Kd.R_lower ho0 (below_size (kB_ HB))); replace HB := bs_ HB hb; clear hb; (try clear ho0)) | (go_at_call 8; (with_reducible refine (spec_BestCuts.calls kj2 (wrap64 (1 + t292)) (wrap64 (1 + t293)) _ _ t289 t299 t300 t301 _ ?side1 ?side2 A12.out).mono ?_); (case side1 => exact kc_ ((Kd.R_reads' HO291.out).2.2)); (case side2 => exact (Kd.R_reads' HO291.out).2.1); rintro e w21 ⟨v302, rfl, ho0, hb⟩; replace HO291 := Aside0.mk (Kd.R_below (kp_ HO291) hb); have HO303 := Aside0.mk (Kd.R_lower (Kd.R_new' ho0 (Kd.R_lt (kp_ HO298))) (below_size (kB_ HB))); replace HO298 := Aside0.mk (Kd.R_elder' (kp_ HO298) (Kd.R_base ho0) hb); replace HB := bs_ HB hb; clear hb; (try clear ho0)) | (go_at_call 9; (with_reducible refine (impl_BestValue.calls kj2 (wrap64 (1 + t292)) (wrap64 (1 + t293)) _ _ t289 t304 t305 _ ?side1 ?side2 A13.out).mono ?_); (case side1 => exact kc_ ((Kd.R_reads' HO291.out).2.2)); (case side2 => exact (Kd.R_reads' HO291.out).2.1); rintro e w22 ⟨rfl, hb⟩; replace HO291 := Aside0.mk (Kd.R_below (kp_ HO291) hb); replace HO298 := Aside0.mk (Kd.R_below (kp_ HO298) hb); replace HO303 := Aside0.mk (Kd.R_below (kp_ HO303) hb); replace HB := bs_ HB hb; clear hb) | (go_at_call 10; (with_reducible refine (spec_BestValue.calls kj2 (wrap64 (1 + t292)) (wrap64 (1 + t293)) _ _ t289 t306 t307 _ ?side1 ?side2 A14.out).mono ?_); (case side1 => exact kc_ ((Kd.R_reads' HO291.out).2.2)); (case side2 => exact (Kd.R_reads' HO291.out).2.1); rintro e w23 ⟨rfl, hb⟩; replace HO291 := Aside0.mk (Kd.R_below (kp_ HO291) hb); replace HO298 := Aside0.mk (Kd.R_below (kp_ HO298) hb); replace HO303 := Aside0.mk (Kd.R_below (kp_ HO303) hb); replace HB := bs_ HB hb; clear hb))
  repeat (go_quiet (fail); try go_wp2)
  (try simp only [Act.put, List.setIfInBounds_toArray, List.set_cons_zero, List.set_cons_succ])
  go_cut [120] (fun v120 wc => ∃ (kq : Nat) (x120_14 : Bool), v120 = .bool x120_14 ∧ Aside0 (laws_FnPlateCuts.j1 kq l1 t289 (wrap64 (1 + t292)) (wrap64 (1 + t293)) t296 t299 t300 t306 x120_14 = some r) ∧ Aside0 (kq ≤ kj2) ∧ Aside0 (Kd.R k46 46 wc w.heap.size (fun _ => True) (.slice Ao19 t289.length co19) t289) ∧ Aside0 (Kd.R k48 48 wc w.heap.size (fun _ => True) v302 t299) ∧ Aside0 (Below w.heap.size w wc))
  case first => as_aux_lemma =>
   have H := HC15.out
   clear HC15
   obtain ⟨c24b0, c24b1, H⟩ := gy_ H
   (first | rw [c24b0] | (simp only [i64_w, i32_w]; rw [c24b0]) | skip)
   obtain ⟨t308, A25, H⟩ := be_ H
   (try dsimp only at H)
   rcases (Decidable.em (t308 = true)).symm with c26 | c26
   ·
    replace c26 := Bool.eq_false_iff.mpr c26
    subst c26
    have H1 := gf_ H
    exact absurd H1 (by simp)
   subst c26
   replace H := gt_ H
   obtain ⟨c27b0, c27b1, H⟩ := gy_ H
   obtain ⟨c28b0, c28b1, H⟩ := gy_ H
   obtain ⟨c29b0, c29b1, H⟩ := gy_ H
   obtain ⟨c30b0, c30b1, H⟩ := gy_ H
   obtain ⟨t309, A31, H⟩ := be_ H
   (try dsimp only at H)
   have H' := Aside0.mk H
   clear H
   obtain ⟨Ao32, co32, eo32⟩ := Kd.R_slice HO298.out
   subst eo32
   obtain ⟨Ao33, co33, eo33⟩ := Kd.R_slice HO303.out
   subst eo33
   go_wp2_with (first | (go_at_call 11; (with_reducible refine (spec_SameCuts.calls kj2 _ _ t294 _ _ t299 true _ ?side1 ?side2 ?side3 ?side4 A25.out).mono ?_); (case side1 => exact kc_ ((Kd.R_reads' HO298.out).2.2)); (case side2 => exact (Kd.R_reads' HO298.out).2.1); (case side3 => exact kc_ ((Kd.R_reads' HO303.out).2.2)); (case side4 => exact (Kd.R_reads' HO303.out).2.1); rintro e w' ⟨rfl, ⟨nd, rfl⟩⟩; (try first | exact ⟨rfl, _, World.drewN_drewN _ _ _⟩ | exact ⟨rfl, _, Eq.trans (World.drewN_drewN _ _ _) (congrArg (World.drewN _) (Nat.add_assoc _ _ _))⟩)) | (go_at_call 12; (with_reducible refine (impl_ValidKinds.calls _ _ t289 t309 _ ?side1 ?side2 A31.out).mono ?_); (case side1 => exact kc_ ((Kd.R_reads' HO291.out).2.2)); (case side2 => exact (Kd.R_reads' HO291.out).2.1); rintro e w34 ⟨rfl, hb⟩; replace HO291 := Aside0.mk (Kd.R_below (kp_ HO291) hb); replace HO298 := Aside0.mk (Kd.R_below (kp_ HO298) hb); replace HO303 := Aside0.mk (Kd.R_below (kp_ HO303) hb); replace HB := bs_ HB hb; clear hb))
   repeat (go_quiet (fail); try go_wp2)
   go_meet
   case rel => exact ⟨_, (!t309), (by first | rfl | (simp; done) | (simp [*]; done)), H', ⟨by have := HJ2.out; first | omega | exact Nat.le_refl _⟩, ⟨kp_ HO291⟩, ⟨by (with_reducible repeat (first | apply Kd.R_alloc | apply Kd.R_drewN | apply Kd.R_drew)); exact Kd.R_mono HO303.out (fun _ hk => trivial)⟩, ⟨bl_ HB⟩⟩
  case rest => as_aux_lemma =>
   clear HC15
   obtain ⟨kq, x120_14, rfl, HA, HJ14, HO_5, HO_11, HB⟩ := hcut
   rcases kq with _ | kj14
   · exact absurd HA.out (by simp [laws_FnPlateCuts.j1])
   have H := HA.out
   clear HA
   simp only [laws_FnPlateCuts.j1] at H
   by_cases c45 : x120_14 = true
   ·
    subst c45
    have H1 := gt_ H
    exact absurd H1 (by simp)
   replace c45 := Bool.eq_false_iff.mpr c45
   subst c45
   replace H := gf_ H
   rcases (Decidable.em (t296 = 0)).symm with c46 | c46
   ·
    rw [if_neg c46] at H
    have c46b0 : (t296 == 0) = false := beq_eq_false_iff_ne.mpr c46
    have c46b1 : (t296 != 0) = true := bne_iff_ne.mpr c46
    obtain rfl := Option.some.inj H
    go_wp2
    repeat (go_quiet (fail); try go_wp2)
    go_ret
    exact ⟨rt_, bl_ HB⟩

   rw [if_pos c46] at H
   have c46b0 : (t296 == 0) = true := beq_iff_eq.mpr c46
   have c46b1 : (t296 != 0) = false := bne_eq_false_iff_eq.mpr c46
   clear c46
   obtain ⟨⟨t310, t311⟩, A47, H⟩ := be_ H
   (try dsimp only at H)
   obtain ⟨⟨t312, t313⟩, A48, H⟩ := be_ H
   (try dsimp only at H)
   obtain ⟨⟨t316, t317⟩, A49, H⟩ := be_ H
   (try dsimp only at H)
   obtain ⟨⟨t318, t319⟩, A50, H⟩ := be_ H
   (try dsimp only at H)
   obtain ⟨⟨t322, t323⟩, A51, H⟩ := be_ H
   (try dsimp only at H)
   obtain ⟨⟨t326, t327⟩, A52, H⟩ := be_ H
   (try dsimp only at H)
   have HC53 := Aside0.mk H
   clear H
   obtain ⟨Ao54, co54, eo54⟩ := Kd.R_slice HO_11.out
   subst eo54
   go_upto_region 20 with (first | (go_at_call 13; (with_reducible refine (impl_ValueOf.calls kj14 (wrap64 (1 + t292)) (wrap64 (1 + t293)) _ _ t289 _ _ t299 t310 t311 _ ?side1 ?side2 ?side3 ?side4 A47.out).mono ?_); (case side1 => exact kc_ ((Kd.R_reads' HO_5.out).2.2)); (case side2 => exact (Kd.R_reads' HO_5.out).2.1); (case side3 => exact kc_ ((Kd.R_reads' HO_11.out).2.2)); (case side4 => exact (Kd.R_reads' HO_11.out).2.1); rintro e w55 ⟨rfl, hb⟩; replace HO_5 := Aside0.mk (Kd.R_below (kp_ HO_5) hb); replace HO_11 := Aside0.mk (Kd.R_below (kp_ HO_11) hb); replace HB := bs_ HB hb; clear hb) | (go_at_call 14; (with_reducible refine (impl_PiecesOf.calls kj14 (wrap64 (1 + t292)) (wrap64 (1 + t293)) _ _ t289 _ _ t299 t312 t313 _ ?side1 ?side2 ?side3 ?side4 A48.out).mono ?_); (case side1 => exact kc_ ((Kd.R_reads' HO_5.out).2.2)); (case side2 => exact (Kd.R_reads' HO_5.out).2.1); (case side3 => exact kc_ ((Kd.R_reads' HO_11.out).2.2)); (case side4 => exact (Kd.R_reads' HO_11.out).2.1); rintro e w56 ⟨v314, rfl, ho0, hb⟩; replace HO_5 := Aside0.mk (Kd.R_below (kp_ HO_5) hb); replace HO_11 := Aside0.mk (Kd.R_below (kp_ HO_11) hb); have HO315 := Aside0.mk (Kd.R_lower ho0 (below_size (kB_ HB))); replace HB := bs_ HB hb; clear hb; (try clear ho0)) | (go_at_call 15; (with_reducible refine (impl_WasteIn.calls kj14 (wrap64 (1 + t292)) (wrap64 (1 + t293)) _ _ t289 _ _ t299 t316 t317 _ ?side1 ?side2 ?side3 ?side4 A49.out).mono ?_); (case side1 => exact kc_ ((Kd.R_reads' HO_5.out).2.2)); (case side2 => exact (Kd.R_reads' HO_5.out).2.1); (case side3 => exact kc_ ((Kd.R_reads' HO_11.out).2.2)); (case side4 => exact (Kd.R_reads' HO_11.out).2.1); rintro e w57 ⟨rfl, hb⟩; replace HO_5 := Aside0.mk (Kd.R_below (kp_ HO_5) hb); replace HO_11 := Aside0.mk (Kd.R_below (kp_ HO_11) hb); replace HO315 := Aside0.mk (Kd.R_below (kp_ HO315) hb); replace HB := bs_ HB hb; clear hb) | (go_at_call 16; (with_reducible refine (impl_SizesOf.calls kj14 (wrap64 (1 + t292)) (wrap64 (1 + t293)) _ _ t289 _ _ t299 t318 t319 _ ?side1 ?side2 ?side3 ?side4 A50.out).mono ?_); (case side1 => exact kc_ ((Kd.R_reads' HO_5.out).2.2)); (case side2 => exact (Kd.R_reads' HO_5.out).2.1); (case side3 => exact kc_ ((Kd.R_reads' HO_11.out).2.2)); (case side4 => exact (Kd.R_reads' HO_11.out).2.1); rintro e w58 ⟨v320, rfl, ho0, hb⟩; replace HO_5 := Aside0.mk (Kd.R_below (kp_ HO_5) hb); replace HO_11 := Aside0.mk (Kd.R_below (kp_ HO_11) hb); replace HO315 := Aside0.mk (Kd.R_below (kp_ HO315) hb); have HO321 := Aside0.mk (Kd.R_lower ho0 (below_size (kB_ HB))); replace HB := bs_ HB hb; clear hb; (try clear ho0)) | (go_at_call 17; (with_reducible refine (spec_SizesOf.calls kj14 (wrap64 (1 + t292)) (wrap64 (1 + t293)) _ _ t289 _ _ t299 t322 t323 _ ?side1 ?side2 ?side3 ?side4 A51.out).mono ?_); (case side1 => exact kc_ ((Kd.R_reads' HO_5.out).2.2)); (case side2 => exact (Kd.R_reads' HO_5.out).2.1); (case side3 => exact kc_ ((Kd.R_reads' HO_11.out).2.2)); (case side4 => exact (Kd.R_reads' HO_11.out).2.1); rintro e w59 ⟨v324, rfl, ho0, hb⟩; replace HO_5 := Aside0.mk (Kd.R_below (kp_ HO_5) hb); replace HO_11 := Aside0.mk (Kd.R_below (kp_ HO_11) hb); replace HO315 := Aside0.mk (Kd.R_below (kp_ HO315) hb); have HO325 := Aside0.mk (Kd.R_lower (Kd.R_new' ho0 (Kd.R_lt (kp_ HO321))) (below_size (kB_ HB))); replace HO321 := Aside0.mk (Kd.R_elder' (kp_ HO321) (Kd.R_base ho0) hb); replace HB := bs_ HB hb; clear hb; (try clear ho0)) | (go_at_call 18; (with_reducible refine (impl_CutLength.calls kj14 (wrap64 (1 + t292)) (wrap64 (1 + t293)) _ _ t289 _ _ t299 t326 t327 _ ?side1 ?side2 ?side3 ?side4 A52.out).mono ?_); (case side1 => exact kc_ ((Kd.R_reads' HO_5.out).2.2)); (case side2 => exact (Kd.R_reads' HO_5.out).2.1); (case side3 => exact kc_ ((Kd.R_reads' HO_11.out).2.2)); (case side4 => exact (Kd.R_reads' HO_11.out).2.1); rintro e w60 ⟨rfl, hb⟩; replace HO_5 := Aside0.mk (Kd.R_below (kp_ HO_5) hb); replace HO_11 := Aside0.mk (Kd.R_below (kp_ HO_11) hb); replace HO315 := Aside0.mk (Kd.R_below (kp_ HO315) hb); replace HO321 := Aside0.mk (Kd.R_below (kp_ HO321) hb); replace HO325 := Aside0.mk (Kd.R_below (kp_ HO325) hb); replace HB := bs_ HB hb; clear hb))
   repeat (go_quiet (fail); try go_wp2)
   (try simp only [Act.put, List.setIfInBounds_toArray, List.set_cons_zero, List.set_cons_succ])
   go_cut [233] (fun v233 wc => ∃ (kq : Nat) (x233_52 : Bool), v233 = .bool x233_52 ∧ Aside0 (laws_FnPlateCuts.j2 kq l1 t289 (wrap64 (1 + t292)) (wrap64 (1 + t293)) t299 t306 t312 t316 t322 t326 x233_52 = some r) ∧ Aside0 (kq ≤ kj14) ∧ Aside0 (Kd.R k46 46 wc w.heap.size (fun _ => True) (.slice Ao19 t289.length co19) t289) ∧ Aside0 (Kd.R k48 48 wc w.heap.size (fun _ => True) (.slice Ao54 t299.length co54) t299) ∧ Aside0 (Kd.R (Kd.int .i64) 2 wc w.heap.size (fun _ => True) v314 t312) ∧ Aside0 (Kd.R k49 49 wc w.heap.size (fun _ => True) v324 t322) ∧ Aside0 (Below w.heap.size w wc))
   case first => as_aux_lemma =>
    have H := HC53.out
    clear HC53
    obtain ⟨c61b0, c61b1, H⟩ := gy_ H
    (first | rw [c61b0] | (simp only [i64_w, i32_w]; rw [c61b0]) | skip)
    obtain ⟨t328, A62, H⟩ := be_ H
    (try dsimp only at H)
    rcases (Decidable.em (t328 = true)).symm with c63 | c63
    ·
     replace c63 := Bool.eq_false_iff.mpr c63
     subst c63
     have H1 := gf_ H
     exact absurd H1 (by simp)
    subst c63
    replace H := gt_ H
    obtain ⟨c64b0, c64b1, H⟩ := gy_ H
    obtain ⟨c65b0, c65b1, H⟩ := gy_ H
    obtain ⟨c66b0, c66b1, H⟩ := gy_ H
    obtain ⟨(c67 : (t312.length : Int) = (t289.length : Int)), H⟩ := gd_ H
    have c67b0 : ((t312.length : Int) == (t289.length : Int)) = true := beq_iff_eq.mpr c67
    have c67b1 : ((t312.length : Int) != (t289.length : Int)) = false := bne_eq_false_iff_eq.mpr c67
    have c67b2 : (t312.length == t289.length) = true := by first | simpa using c67 | (simp at c67 ⊢; omega)
    clear c67
    obtain ⟨c68b0, c68b1, H⟩ := gy_ H
    obtain ⟨c69b0, c69b1, H⟩ := gy_ H
    obtain ⟨c70b0, c70b1, H⟩ := gy_ H
    obtain ⟨t329, A71, H⟩ := be_ H
    (try dsimp only at H)
    rcases (Decidable.em (t329 = true)).symm with c72 | c72
    ·
     replace c72 := Bool.eq_false_iff.mpr c72
     subst c72
     have H1 := gf_ H
     exact absurd H1 (by simp)
    subst c72
    replace H := gt_ H
    obtain ⟨(c73 : (t322.length : Int) = (t299.length : Int)), H⟩ := gd_ H
    have c73b0 : ((t322.length : Int) == (t299.length : Int)) = true := beq_iff_eq.mpr c73
    have c73b1 : ((t322.length : Int) != (t299.length : Int)) = false := bne_eq_false_iff_eq.mpr c73
    have c73b2 : (t322.length == t299.length) = true := by first | simpa using c73 | (simp at c73 ⊢; omega)
    clear c73
    have H' := Aside0.mk H
    clear H
    go_wp2_with (first | (go_at_call 19; (with_reducible refine (impl_ValidCuts.calls kj14 (wrap64 (1 + t292)) (wrap64 (1 + t293)) _ _ t289 _ _ t299 true _ ?side1 ?side2 ?side3 ?side4 A62.out).mono ?_); (case side1 => exact kc_ ((Kd.R_reads' HO_5.out).2.2)); (case side2 => exact (Kd.R_reads' HO_5.out).2.1); (case side3 => exact kc_ ((Kd.R_reads' HO_11.out).2.2)); (case side4 => exact (Kd.R_reads' HO_11.out).2.1); rintro e w74 ⟨rfl, hb⟩; replace HO_5 := Aside0.mk (Kd.R_below (kp_ HO_5) hb); replace HO_11 := Aside0.mk (Kd.R_below (kp_ HO_11) hb); replace HO315 := Aside0.mk (Kd.R_below (kp_ HO315) hb); replace HO321 := Aside0.mk (Kd.R_below (kp_ HO321) hb); replace HO325 := Aside0.mk (Kd.R_below (kp_ HO325) hb); replace HB := bs_ HB hb; clear hb; obtain ⟨Ao75, co75, eo75⟩ := Kd.R_slice HO315.out; subst eo75; obtain ⟨Ao76, co76, eo76⟩ := Kd.R_slice HO321.out; subst eo76; obtain ⟨Ao77, co77, eo77⟩ := Kd.R_slice HO325.out; subst eo77) | (go_at_call 20; (with_reducible refine (spec_SamePairs.calls kj14 _ _ t318 _ _ t322 true _ ?side1 ?side2 ?side3 ?side4 A71.out).mono ?_); (case side1 => exact kc_ ((Kd.R_reads' HO321.out).2.2)); (case side2 => exact (Kd.R_reads' HO321.out).2.1); (case side3 => exact kc_ ((Kd.R_reads' HO325.out).2.2)); (case side4 => exact (Kd.R_reads' HO325.out).2.1); rintro e w' ⟨rfl, ⟨nd, rfl⟩⟩; (try first | exact ⟨rfl, _, World.drewN_drewN _ _ _⟩ | exact ⟨rfl, _, Eq.trans (World.drewN_drewN _ _ _) (congrArg (World.drewN _) (Nat.add_assoc _ _ _))⟩)))
    repeat (go_quiet (fail); try go_wp2)
    go_meet
    case rel => exact ⟨_, ((t327 != 0)), (by first | rfl | (simp; done) | (simp [*]; done)), H', ⟨by have := HJ2.out; have := HJ14.out; first | omega | exact Nat.le_refl _⟩, ⟨kp_ HO_5⟩, ⟨kp_ HO_11⟩, ⟨kp_ HO315⟩, ⟨by (with_reducible repeat (first | apply Kd.R_alloc | apply Kd.R_drewN | apply Kd.R_drew)); exact Kd.R_mono HO325.out (fun _ hk => trivial)⟩, ⟨bl_ HB⟩⟩
   case rest => as_aux_lemma =>
    clear HC53
    obtain ⟨kq, x233_52, rfl, HA, HJ52, HO_5, HO_11, HO_20, HO_26, HB⟩ := hcut
    rcases kq with _ | kj52
    · exact absurd HA.out (by simp [laws_FnPlateCuts.j2])
    have H := HA.out
    clear HA
    simp only [laws_FnPlateCuts.j2] at H
    by_cases c98 : x233_52 = true
    ·
     subst c98
     have H1 := gt_ H
     exact absurd H1 (by simp)
    replace c98 := Bool.eq_false_iff.mpr c98
    subst c98
    replace H := gf_ H
    have H' := Aside0.mk H
    clear H
    go_wp2
    repeat (go_quiet (fail); try go_wp2)
    go_loopg [30, 31] kj52 (fun kq v30 v31 w' => ∃ (x30_4 : Int) (x31_4 : Int), v30 = .int .i64 x30_4 ∧ v31 = .int .i64 x31_4 ∧ Aside0 (laws_FnPlateCuts.l0 kq l1 t289 (wrap64 (1 + t292)) (wrap64 (1 + t293)) t299 t306 t312 t322 t326 x30_4 x31_4 = some r) ∧ Aside0 (kq ≤ kj52) ∧ Aside0 (Kd.R k46 46 w' w.heap.size (fun _ => True) (.slice Ao19 t289.length co19) t289) ∧ Aside0 (Kd.R k48 48 w' w.heap.size (fun _ => True) (.slice Ao54 t299.length co54) t299) ∧ Aside0 (Kd.R (Kd.int .i64) 2 w' w.heap.size (fun _ => True) v314 t312) ∧ Aside0 (Kd.R k49 49 w' w.heap.size (fun _ => True) v324 t322) ∧ Aside0 (Below w.heap.size w w'))
    case atStart => exact ⟨(t316), (0), (by first | rfl | (simp; done) | (simp [*]; done)), (by first | rfl | (simp; done) | (simp [*]; done)), H', ⟨Nat.le_refl _⟩, ⟨kp_ HO_5⟩, ⟨kp_ HO_11⟩, ⟨kp_ HO_20⟩, ⟨kp_ HO_26⟩, ⟨bl_ HB⟩⟩
    case round => as_aux_lemma =>
     clear H'
     obtain ⟨x30_4, x31_4, rfl, rfl, HA, HK4, HO_5, HO_11, HO_20, HO_26, HB⟩ := hrel
     rcases gk with _ | k4
     · exact absurd HA.out (by simp [laws_FnPlateCuts.l0])
     have H := HA.out
     clear HA
     simp only [laws_FnPlateCuts.l0] at H
     by_cases c99 : x31_4 < (t289.length : Int)
     ·
      rw [if_pos c99] at H
      have c99b0 : decide (x31_4 < (t289.length : Int)) = true := decide_eq_true c99
      clear c99
      obtain ⟨c100b0, H⟩ := gx_ H
      obtain ⟨c101b0, H⟩ := gx_ H
      have H' := Aside0.mk H
      clear H
      obtain ⟨Ao102, co102, eo102⟩ := Kd.R_slice HO_20.out
      subst eo102
      have p330 : 0 ≤ (x31_4 : Int) := od_
      have q330 : x31_4 < (t312.length : Int) := od_
      obtain ⟨ad330, e330, hx330_0⟩ := Kd.at_int (Kd.R_reads' HO_20.out).2.2 x31_4 p330 q330
      cases e330
      replace p330 := eq_true p330
      replace q330 := eq_true q330
      have p331 : 0 ≤ (x31_4 : Int) := od_
      have q331 : x31_4 < (t289.length : Int) := od_
      obtain ⟨ad331, e331, hx331_0, hx331_1, hx331_2⟩ := at_T46 (Kd.R_reads' HO_5.out).2.2 x31_4 p331 q331
      cases e331
      replace p331 := eq_true p331
      replace q331 := eq_true q331
      have p332 : 0 ≤ (x31_4 : Int) := od_
      have q332 : x31_4 < (t289.length : Int) := od_
      obtain ⟨ad332, e332, hx332_0, hx332_1, hx332_2⟩ := at_T46 (Kd.R_reads' HO_5.out).2.2 x31_4 p332 q332
      obtain rfl : ad331 = ad332 := (by injection e332)
      replace p332 := eq_true p332
      replace q332 := eq_true q332
      go_wp2
      repeat (go_quiet (fail); try go_wp2)
      go_roundg k4
      case measure => have := HJ2.out; have := HJ14.out; have := HJ52.out; have := HK4.out; omega
      case rel => exact ⟨(wrap64 (x30_4 + (wrap64 ((wrap64 ((rd t312 x31_4) * (wrap64 ((rd_T46 t289 x31_4).f0)))) * (wrap64 ((rd_T46 t289 x31_4).f1)))))), (wrap64 (x31_4 + 1)), (by first | rfl | (simp; done) | (simp [*]; done)), (by first | rfl | (simp; done) | (simp [*]; done)), H', ⟨by have := HJ2.out; have := HJ14.out; have := HJ52.out; have := HK4.out; omega⟩, ⟨kp_ HO_5⟩, ⟨kp_ HO_11⟩, ⟨kp_ HO_20⟩, ⟨kp_ HO_26⟩, ⟨bl_ HB⟩⟩
     rw [if_neg c99] at H
     have c99b0 : decide (x31_4 < (t289.length : Int)) = false := decide_eq_false c99
     clear c99
     have H' := Aside0.mk H
     clear H
     go_wp2
     repeat (go_quiet (fail); try go_wp2)
     go_loopg [32, 33] k4 (fun kq v32 v33 w' => ∃ (x32_5 : Int) (x33_5 : Int), v32 = .int .i64 x32_5 ∧ v33 = .int .i64 x33_5 ∧ Aside0 (laws_FnPlateCuts.l1 kq l1 t289 (wrap64 (1 + t292)) (wrap64 (1 + t293)) t299 t306 t322 t326 x30_4 x32_5 x33_5 = some r) ∧ Aside0 (kq ≤ k4) ∧ Aside0 (Kd.R k46 46 w' w.heap.size (fun _ => True) (.slice Ao19 t289.length co19) t289) ∧ Aside0 (Kd.R k48 48 w' w.heap.size (fun _ => True) (.slice Ao54 t299.length co54) t299) ∧ Aside0 (Kd.R k49 49 w' w.heap.size (fun _ => True) v324 t322) ∧ Aside0 (Below w.heap.size w w'))
     case atStart => exact ⟨(0), (0), (by first | rfl | (simp; done) | (simp [*]; done)), (by first | rfl | (simp; done) | (simp [*]; done)), H', ⟨Nat.le_refl _⟩, ⟨kp_ HO_5⟩, ⟨kp_ HO_11⟩, ⟨kp_ HO_26⟩, ⟨bl_ HB⟩⟩
     case round => as_aux_lemma =>
      clear H'
      obtain ⟨x32_5, x33_5, rfl, rfl, HA, HK5, HO_5, HO_11, HO_26, HB⟩ := hrel
      rcases gk with _ | k5
      · exact absurd HA.out (by simp [laws_FnPlateCuts.l1])
      have H := HA.out
      clear HA
      simp only [laws_FnPlateCuts.l1] at H
      by_cases c103 : x33_5 < (t299.length : Int)
      ·
       rw [if_pos c103] at H
       have c103b0 : decide (x33_5 < (t299.length : Int)) = true := decide_eq_true c103
       clear c103
       obtain ⟨c104b0, H⟩ := gx_ H
       by_cases c105 : ((rd_T48 t299 x33_5).f0) = 2
       ·
        rw [if_pos c105] at H
        have c105b0 : (((rd_T48 t299 x33_5).f0) == 2) = true := beq_iff_eq.mpr c105
        have c105b1 : (((rd_T48 t299 x33_5).f0) != 2) = false := bne_eq_false_iff_eq.mpr c105
        clear c105
        obtain ⟨c106b0, H⟩ := gx_ H
        have H' := Aside0.mk H
        clear H
        have p333 : 0 ≤ (x33_5 : Int) := od_
        have q333 : x33_5 < (t299.length : Int) := od_
        obtain ⟨ad333, e333, hx333_0, hx333_1, hx333_2, hx333_3⟩ := at_T48 (Kd.R_reads' HO_11.out).2.2 x33_5 p333 q333
        cases e333
        replace p333 := eq_true p333
        replace q333 := eq_true q333
        obtain ⟨Ao107, co107, eo107⟩ := Kd.R_slice HO_26.out
        subst eo107
        have p334 : 0 ≤ (x33_5 : Int) := od_
        have q334 : x33_5 < (t322.length : Int) := od_
        obtain ⟨ad334, e334, hx334_0, hx334_1⟩ := at_T49 (Kd.R_reads' HO_26.out).2.2 x33_5 p334 q334
        cases e334
        replace p334 := eq_true p334
        replace q334 := eq_true q334
        go_wp2
        repeat (go_quiet (fail); try go_wp2)
        go_roundg k5
        case measure => have := HJ2.out; have := HJ14.out; have := HJ52.out; have := HK4.out; have := HK5.out; omega
        case rel => exact ⟨(wrap64 (x32_5 + ((rd_T49 t322 x33_5).f1))), (wrap64 (x33_5 + 1)), (by first | rfl | (simp; done) | (simp [*]; done)), (by first | rfl | (simp; done) | (simp [*]; done)), H', ⟨by have := HJ2.out; have := HJ14.out; have := HJ52.out; have := HK4.out; have := HK5.out; omega⟩, ⟨kp_ HO_5⟩, ⟨kp_ HO_11⟩, ⟨kp_ HO_26⟩, ⟨bl_ HB⟩⟩
       rw [if_neg c105] at H
       have c105b0 : (((rd_T48 t299 x33_5).f0) == 2) = false := beq_eq_false_iff_ne.mpr c105
       have c105b1 : (((rd_T48 t299 x33_5).f0) != 2) = true := bne_iff_ne.mpr c105
       rcases (Decidable.em (((rd_T48 t299 x33_5).f0) = 3)).symm with c108 | c108
       ·
        rw [if_neg c108] at H
        have c108b0 : (((rd_T48 t299 x33_5).f0) == 3) = false := beq_eq_false_iff_ne.mpr c108
        have c108b1 : (((rd_T48 t299 x33_5).f0) != 3) = true := bne_iff_ne.mpr c108
        have H' := Aside0.mk H
        clear H
        have p333 : 0 ≤ (x33_5 : Int) := od_
        have q333 : x33_5 < (t299.length : Int) := od_
        obtain ⟨ad333, e333, hx333_0, hx333_1, hx333_2, hx333_3⟩ := at_T48 (Kd.R_reads' HO_11.out).2.2 x33_5 p333 q333
        cases e333
        replace p333 := eq_true p333
        replace q333 := eq_true q333
        go_wp2
        repeat (go_quiet (fail); try go_wp2)
        go_roundg k5
        case measure => have := HJ2.out; have := HJ14.out; have := HJ52.out; have := HK4.out; have := HK5.out; omega
        case rel => exact ⟨(x32_5), (wrap64 (x33_5 + 1)), (by first | rfl | (simp; done) | (simp [*]; done)), (by first | rfl | (simp; done) | (simp [*]; done)), H', ⟨by have := HJ2.out; have := HJ14.out; have := HJ52.out; have := HK4.out; have := HK5.out; omega⟩, ⟨kp_ HO_5⟩, ⟨kp_ HO_11⟩, ⟨kp_ HO_26⟩, ⟨bl_ HB⟩⟩
       rw [if_pos c108] at H
       have c108b0 : (((rd_T48 t299 x33_5).f0) == 3) = true := beq_iff_eq.mpr c108
       have c108b1 : (((rd_T48 t299 x33_5).f0) != 3) = false := bne_eq_false_iff_eq.mpr c108
       clear c108
       obtain ⟨c109b0, H⟩ := gx_ H
       have H' := Aside0.mk H
       clear H
       have p333 : 0 ≤ (x33_5 : Int) := od_
       have q333 : x33_5 < (t299.length : Int) := od_
       obtain ⟨ad333, e333, hx333_0, hx333_1, hx333_2, hx333_3⟩ := at_T48 (Kd.R_reads' HO_11.out).2.2 x33_5 p333 q333
       cases e333
       replace p333 := eq_true p333
       replace q333 := eq_true q333
       obtain ⟨Ao110, co110, eo110⟩ := Kd.R_slice HO_26.out
       subst eo110
       have p335 : 0 ≤ (x33_5 : Int) := od_
       have q335 : x33_5 < (t322.length : Int) := od_
       obtain ⟨ad335, e335, hx335_0, hx335_1⟩ := at_T49 (Kd.R_reads' HO_26.out).2.2 x33_5 p335 q335
       cases e335
       replace p335 := eq_true p335
       replace q335 := eq_true q335
       go_wp2
       repeat (go_quiet (fail); try go_wp2)
       go_roundg k5
       case measure => have := HJ2.out; have := HJ14.out; have := HJ52.out; have := HK4.out; have := HK5.out; omega
       case rel => exact ⟨(wrap64 (x32_5 + ((rd_T49 t322 x33_5).f0))), (wrap64 (x33_5 + 1)), (by first | rfl | (simp; done) | (simp [*]; done)), (by first | rfl | (simp; done) | (simp [*]; done)), H', ⟨by have := HJ2.out; have := HJ14.out; have := HJ52.out; have := HK4.out; have := HK5.out; omega⟩, ⟨kp_ HO_5⟩, ⟨kp_ HO_11⟩, ⟨kp_ HO_26⟩, ⟨bl_ HB⟩⟩
      rw [if_neg c103] at H
      have c103b0 : decide (x33_5 < (t299.length : Int)) = false := decide_eq_false c103
      clear c103
      have HC111 := Aside0.mk H
      clear H
      go_upto_region 36 with (fail)
      repeat (go_quiet (fail); go_upto_region 36 with (fail))
      go_cut [299] (fun v299 wc => ∃ (kq : Nat) (x299_110 : Bool), v299 = .bool x299_110 ∧ Aside0 (laws_FnPlateCuts.j5 kq l1 t289 (wrap64 (1 + t292)) (wrap64 (1 + t293)) t306 x299_110 = some r) ∧ Aside0 (kq ≤ k5) ∧ Aside0 (Kd.R k46 46 wc w.heap.size (fun _ => True) (.slice Ao19 t289.length co19) t289) ∧ Aside0 (Below w.heap.size w wc))
      case first => as_aux_lemma =>
       have H := HC111.out
       clear HC111
       obtain ⟨c112b0, c112b1, H⟩ := gy_ H
       (first | rw [c112b0] | (simp only [i64_w, i32_w]; rw [c112b0]) | skip)
       have H' := Aside0.mk H
       clear H
       go_wp2
       repeat (go_quiet (fail); try go_wp2)
       go_meet
       case rel => exact ⟨_, ((x32_5 != t326)), (by first | rfl | (simp; done) | (simp [*]; done)), H', ⟨by have := HJ2.out; have := HJ14.out; have := HJ52.out; have := HK4.out; have := HK5.out; first | omega | exact Nat.le_refl _⟩, ⟨kp_ HO_5⟩, ⟨bl_ HB⟩⟩
      case rest => as_aux_lemma =>
       clear HC111
       obtain ⟨kq, x299_110, rfl, HA, HJ110, HO_5, HB⟩ := hcut
       rcases kq with _ | kj110
       · exact absurd HA.out (by simp [laws_FnPlateCuts.j5])
       have H := HA.out
       clear HA
       simp only [laws_FnPlateCuts.j5] at H
       by_cases c113 : x299_110 = true
       ·
        subst c113
        have H1 := gt_ H
        exact absurd H1 (by simp)
       replace c113 := Bool.eq_false_iff.mpr c113
       subst c113
       replace H := gf_ H
       rcases (Decidable.em ((wrap64 (1 + t292)) > 1)).symm with c114 | c114
       ·
        rw [if_neg c114] at H
        have c114b0 : decide (1 < (wrap64 (1 + t292))) = false := decide_eq_false c114
        clear c114
        obtain ⟨y348, hy348⟩ : ∃ y_ : List (S48), y_ = (([(⟨0, 0, 0, 0⟩ : S48)] : List (S48))) := ⟨_, rfl⟩
        replace H : ((impl_ValueOf.f kj110 (wrap64 (1 + t292)) (wrap64 (1 + t293)) t289 y348).bind fun bt351 => ((impl_WasteIn.f kj110 (wrap64 (1 + t292)) (wrap64 (1 + t293)) t289 y348).bind fun bt353 => (if bt351.2 = 0 then (if bt351.1 = 0 then (if bt353.2 = 0 then (some (bt353.1 == (wrap64 ((wrap64 (1 + t292)) * (wrap64 (1 + t293)))))) else (none)) else (none)) else (none)))) = some r := by first | (rw [hy348]; with_reducible exact H) | (have H2_ := (Option.bind_some _ _).symm.trans H; rw [hy348]; with_reducible exact H2_) | (have H2_ := (Option.bind_some _ _).symm.trans H; with_reducible exact H2_) | with_reducible exact H | (rw [hy348]; exact H) | exact H
        have Ny348 := Aside0.mk hy348
        clear hy348
        obtain ⟨⟨t351, t352⟩, A150, H⟩ := be_ H
        (try dsimp only at H)
        obtain ⟨⟨t353, t354⟩, A151, H⟩ := be_ H
        (try dsimp only at H)
        obtain ⟨c152b0, c152b1, H⟩ := gy_ H
        obtain ⟨c153b0, c153b1, H⟩ := gy_ H
        obtain ⟨c154b0, c154b1, H⟩ := gy_ H
        obtain rfl := Option.some.inj H
        go_wp2_with (first | ((with_reducible refine gate_dst (N := 337) rfl ?_); (try (refine gate_guard (by rfl) ?_; dsimp only)); refine Kd.R_lit k48 _ 48 ?hg (N := 337) ?hd (xs := ([(⟨0, 0, 0, 0⟩ : S48)] : List (S48))) (inner := [.int .i8 0, .int .i8 0, .int .i8 0, .int .i8 0]) (ok := fun _ => True) (okp := fun _ => True) ?hr ?hp (fun _ hk => hk) trivial (Below.refl _ _) (Nat.le_refl _) (by simp) ?_; (case hd => rfl); (case hg => rfl); (case hr => first | (go_simp; done) | (go_simp; rfl)); (case hp => exact (Reps.c4 (show Kd.M k48 _ _ _ (⟨0, 0, 0, 0⟩ : S48) [.int .i8 0, .int .i8 0, .int .i8 0, .int .i8 0] from (k48_mkM _ _ _ (⟨0, 0, 0, 0⟩ : S48) )) (Reps.none _ _))); intro v349 w155 ho156 hb hg_ hnew_; clear hg_ hnew_; (first | rw [← Ny348.out] at ho156 | (simp only [Int.reduceToNat] at ho156; rw [← Ny348.out] at ho156)); replace HO_5 := Aside0.mk (Kd.R_below (kp_ HO_5) hb); have HO350 := Aside0.mk (Kd.R_lower ho156 (below_size (kB_ HB))); replace HB := bs_ HB hb; clear hb ho156; obtain ⟨Ao157, co157, eo157⟩ := Kd.R_slice HO350.out; subst eo157) | (go_at_call 13; (with_reducible refine (impl_ValueOf.calls kj110 (wrap64 (1 + t292)) (wrap64 (1 + t293)) _ _ t289 _ _ y348 t351 t352 _ ?side1 ?side2 ?side3 ?side4 A150.out).mono ?_); (case side1 => exact kc_ ((Kd.R_reads' HO_5.out).2.2)); (case side2 => exact (Kd.R_reads' HO_5.out).2.1); (case side3 => exact kc_ ((Kd.R_reads' HO350.out).2.2)); (case side4 => exact (Kd.R_reads' HO350.out).2.1); rintro e w158 ⟨rfl, hb⟩; replace HO_5 := Aside0.mk (Kd.R_below (kp_ HO_5) hb); replace HO350 := Aside0.mk (Kd.R_below (kp_ HO350) hb); replace HB := bs_ HB hb; clear hb) | (go_at_call 15; (with_reducible refine (impl_WasteIn.calls kj110 (wrap64 (1 + t292)) (wrap64 (1 + t293)) _ _ t289 _ _ y348 t353 t354 _ ?side1 ?side2 ?side3 ?side4 A151.out).mono ?_); (case side1 => exact kc_ ((Kd.R_reads' HO_5.out).2.2)); (case side2 => exact (Kd.R_reads' HO_5.out).2.1); (case side3 => exact kc_ ((Kd.R_reads' HO350.out).2.2)); (case side4 => exact (Kd.R_reads' HO350.out).2.1); rintro e w159 ⟨rfl, hb⟩; replace HO_5 := Aside0.mk (Kd.R_below (kp_ HO_5) hb); replace HO350 := Aside0.mk (Kd.R_below (kp_ HO350) hb); replace HB := bs_ HB hb; clear hb))
        repeat (go_quiet (fail); try go_wp2)
        go_ret
        exact ⟨rt_, bl_ HB⟩
       rw [if_pos c114] at H
       have c114b0 : decide (1 < (wrap64 (1 + t292))) = true := decide_eq_true c114
       clear c114
       obtain ⟨t336, A115, H⟩ := be_ H
       (try dsimp only at H)
       obtain ⟨⟨t337, t338⟩, A116, H⟩ := be_ H
       (try dsimp only at H)
       obtain ⟨⟨t339, t340⟩, A117, H⟩ := be_ H
       (try dsimp only at H)
       have HC118 := Aside0.mk H
       clear H
       go_upto_region 42 with (first | (go_at_call 6; (with_reducible refine (spec_P6Pick.calls _ _ l1 (wrap64 ((wrap64 (1 + t292)) - 1)) t336 _ ?side1 ?side2 A115.out).mono ?_); (case side1 => exact kc_ (Kd.C_below HR1.out HB.out)); (case side2 => exact HC1.out); rintro e w119 ⟨rfl, hb⟩; replace HO_5 := Aside0.mk (Kd.R_below (kp_ HO_5) hb); replace HB := bs_ HB hb; clear hb) | (go_at_call 9; (with_reducible refine (impl_BestValue.calls kj110 (wrap64 (1 + t336)) (wrap64 (1 + t293)) _ _ t289 t337 t338 _ ?side1 ?side2 A116.out).mono ?_); (case side1 => exact kc_ ((Kd.R_reads' HO_5.out).2.2)); (case side2 => exact (Kd.R_reads' HO_5.out).2.1); rintro e w120 ⟨rfl, hb⟩; replace HO_5 := Aside0.mk (Kd.R_below (kp_ HO_5) hb); replace HB := bs_ HB hb; clear hb) | (go_at_call 9; (with_reducible refine (impl_BestValue.calls kj110 (wrap64 ((wrap64 (1 + t292)) - (wrap64 (1 + t336)))) (wrap64 (1 + t293)) _ _ t289 t339 t340 _ ?side1 ?side2 A117.out).mono ?_); (case side1 => exact kc_ ((Kd.R_reads' HO_5.out).2.2)); (case side2 => exact (Kd.R_reads' HO_5.out).2.1); rintro e w121 ⟨rfl, hb⟩; replace HO_5 := Aside0.mk (Kd.R_below (kp_ HO_5) hb); replace HB := bs_ HB hb; clear hb))
       repeat (go_quiet (fail); try go_wp2)
       (try simp only [Act.put, List.setIfInBounds_toArray, List.set_cons_zero, List.set_cons_succ])
       go_cut [335] (fun v335 wc => ∃ (kq : Nat) (x335_117 : Bool), v335 = .bool x335_117 ∧ Aside0 (laws_FnPlateCuts.j6 kq t289 (wrap64 (1 + t292)) (wrap64 (1 + t293)) x335_117 = some r) ∧ Aside0 (kq ≤ kj110) ∧ Aside0 (Kd.R k46 46 wc w.heap.size (fun _ => True) (.slice Ao19 t289.length co19) t289) ∧ Aside0 (Below w.heap.size w wc))
       case first => as_aux_lemma =>
        have H := HC118.out
        clear HC118
        obtain ⟨c122b0, c122b1, H⟩ := gy_ H
        (first | rw [c122b0] | (simp only [i64_w, i32_w]; rw [c122b0]) | skip)
        obtain ⟨c123b0, c123b1, H⟩ := gy_ H
        have H' := Aside0.mk H
        clear H
        go_wp2
        repeat (go_quiet (fail); try go_wp2)
        go_meet
        case rel => exact ⟨_, (decide ((wrap64 (t337 + t339)) > t306)), (by first | rfl | (simp; done) | (simp [*]; done)), H', ⟨by have := HJ2.out; have := HJ14.out; have := HJ52.out; have := HK4.out; have := HK5.out; have := HJ110.out; first | omega | exact Nat.le_refl _⟩, ⟨kp_ HO_5⟩, ⟨bl_ HB⟩⟩
       case rest => as_aux_lemma =>
        clear HC118
        obtain ⟨kq, x335_117, rfl, HA, HJ117, HO_5, HB⟩ := hcut
        rcases kq with _ | kj117
        · exact absurd HA.out (by simp [laws_FnPlateCuts.j6])
        have H := HA.out
        clear HA
        simp only [laws_FnPlateCuts.j6] at H
        by_cases c124 : x335_117 = true
        ·
         subst c124
         have H1 := gt_ H
         exact absurd H1 (by simp)
        replace c124 := Bool.eq_false_iff.mpr c124
        subst c124
        replace H := gf_ H
        obtain ⟨y341, hy341⟩ : ∃ y_ : List (S48), y_ = (([(⟨0, 0, 0, 0⟩ : S48)] : List (S48))) := ⟨_, rfl⟩
        replace H : ((impl_ValueOf.f kj117 (wrap64 (1 + t292)) (wrap64 (1 + t293)) t289 y341).bind fun bt344 => ((impl_WasteIn.f kj117 (wrap64 (1 + t292)) (wrap64 (1 + t293)) t289 y341).bind fun bt346 => (if bt344.2 = 0 then (if bt344.1 = 0 then (if bt346.2 = 0 then (some (bt346.1 == (wrap64 ((wrap64 (1 + t292)) * (wrap64 (1 + t293)))))) else (none)) else (none)) else (none)))) = some r := by first | (rw [hy341]; with_reducible exact H) | (have H2_ := (Option.bind_some _ _).symm.trans H; rw [hy341]; with_reducible exact H2_) | (have H2_ := (Option.bind_some _ _).symm.trans H; with_reducible exact H2_) | with_reducible exact H | (rw [hy341]; exact H) | exact H
        have Ny341 := Aside0.mk hy341
        clear hy341
        obtain ⟨⟨t344, t345⟩, A125, H⟩ := be_ H
        (try dsimp only at H)
        obtain ⟨⟨t346, t347⟩, A126, H⟩ := be_ H
        (try dsimp only at H)
        obtain ⟨c127b0, c127b1, H⟩ := gy_ H
        obtain ⟨c128b0, c128b1, H⟩ := gy_ H
        obtain ⟨c129b0, c129b1, H⟩ := gy_ H
        obtain rfl := Option.some.inj H
        go_wp2_with (first | ((with_reducible refine gate_dst (N := 337) rfl ?_); (try (refine gate_guard (by rfl) ?_; dsimp only)); refine Kd.R_lit k48 _ 48 ?hg (N := 337) ?hd (xs := ([(⟨0, 0, 0, 0⟩ : S48)] : List (S48))) (inner := [.int .i8 0, .int .i8 0, .int .i8 0, .int .i8 0]) (ok := fun _ => True) (okp := fun _ => True) ?hr ?hp (fun _ hk => hk) trivial (Below.refl _ _) (Nat.le_refl _) (by simp) ?_; (case hd => rfl); (case hg => rfl); (case hr => first | (go_simp; done) | (go_simp; rfl)); (case hp => exact (Reps.c4 (show Kd.M k48 _ _ _ (⟨0, 0, 0, 0⟩ : S48) [.int .i8 0, .int .i8 0, .int .i8 0, .int .i8 0] from (k48_mkM _ _ _ (⟨0, 0, 0, 0⟩ : S48) )) (Reps.none _ _))); intro v342 w130 ho131 hb hg_ hnew_; clear hg_ hnew_; (first | rw [← Ny341.out] at ho131 | (simp only [Int.reduceToNat] at ho131; rw [← Ny341.out] at ho131)); replace HO_5 := Aside0.mk (Kd.R_below (kp_ HO_5) hb); have HO343 := Aside0.mk (Kd.R_lower ho131 (below_size (kB_ HB))); replace HB := bs_ HB hb; clear hb ho131; obtain ⟨Ao132, co132, eo132⟩ := Kd.R_slice HO343.out; subst eo132) | (go_at_call 13; (with_reducible refine (impl_ValueOf.calls kj117 (wrap64 (1 + t292)) (wrap64 (1 + t293)) _ _ t289 _ _ y341 t344 t345 _ ?side1 ?side2 ?side3 ?side4 A125.out).mono ?_); (case side1 => exact kc_ ((Kd.R_reads' HO_5.out).2.2)); (case side2 => exact (Kd.R_reads' HO_5.out).2.1); (case side3 => exact kc_ ((Kd.R_reads' HO343.out).2.2)); (case side4 => exact (Kd.R_reads' HO343.out).2.1); rintro e w133 ⟨rfl, hb⟩; replace HO_5 := Aside0.mk (Kd.R_below (kp_ HO_5) hb); replace HO343 := Aside0.mk (Kd.R_below (kp_ HO343) hb); replace HB := bs_ HB hb; clear hb) | (go_at_call 15; (with_reducible refine (impl_WasteIn.calls kj117 (wrap64 (1 + t292)) (wrap64 (1 + t293)) _ _ t289 _ _ y341 t346 t347 _ ?side1 ?side2 ?side3 ?side4 A126.out).mono ?_); (case side1 => exact kc_ ((Kd.R_reads' HO_5.out).2.2)); (case side2 => exact (Kd.R_reads' HO_5.out).2.1); (case side3 => exact kc_ ((Kd.R_reads' HO343.out).2.2)); (case side4 => exact (Kd.R_reads' HO343.out).2.1); rintro e w134 ⟨rfl, hb⟩; replace HO_5 := Aside0.mk (Kd.R_below (kp_ HO_5) hb); replace HO343 := Aside0.mk (Kd.R_below (kp_ HO343) hb); replace HB := bs_ HB hb; clear hb))
        repeat (go_quiet (fail); try go_wp2)
        go_ret
        exact ⟨rt_, bl_ HB⟩
/-- THE ONE PURE STATEMENT of laws_FnPlateCuts: yours. -/
def laws_FnPlateCuts.Pure : Prop := ∀ (l0 : List Int) (l1 : List Int), l0.length ≤ maxLen → l0.length * 1 ≤ 140737488351232 → (∀ x ∈ l0, (Lit.int .u8 x).wf = true) → l1.length ≤ maxLen → l1.length * 1 ≤ 140737488351232 → (∀ x ∈ l1, (Lit.int .u8 x).wf = true) → ∃ k, laws_FnPlateCuts.f k l0 l1 = some true
theorem laws_FnPlateCuts.walk (P : laws_FnPlateCuts.Pure) (a0 : Option Addr) (len0 cap0 : Nat) (z0 : List Int) (a1 : Option Addr) (len1 cap1 : Nat) (z1 : List Int) (w : World) (w0 : (a0 = none ∧ len0 = 0 ∧ cap0 = 0 ∧ z0 = []) ∨ ∃ x, a0 = some x ∧ len0 ≤ cap0 ∧ cap0 ≤ maxLen ∧ z0.length = cap0 ∧ (∀ i, i < z0.length → w.cell? (x.add i) = some (.int .u8 (z0.getD i 0))) ∧ ∀ n ∈ z0, (Lit.int .u8 n).wf = true) (y0 : len0 * 1 ≤ 140737488351232) (w1 : (a1 = none ∧ len1 = 0 ∧ cap1 = 0 ∧ z1 = []) ∨ ∃ x, a1 = some x ∧ len1 ≤ cap1 ∧ cap1 ≤ maxLen ∧ z1.length = cap1 ∧ (∀ i, i < z1.length → w.cell? (x.add i) = some (.int .u8 (z1.getD i 0))) ∧ ∀ n ∈ z1, (Lit.int .u8 n).wf = true) (y1 : len1 * 1 ≤ 140737488351232) :
  Calls Try.prog 3 #[.slice a0 len0 cap0, .slice a1 len1 cap1] w fun e w' => e = .returned (.bool true) ∧ Below w.heap.size w w' := by
 obtain ⟨l0, rfl, hr0, hm0, hw0, hc0⟩ := ReadsInt.ofRowC w0
 obtain ⟨l1, rfl, hr1, hm1, hw1, hc1⟩ := ReadsInt.ofRowC w1
 obtain ⟨k, h⟩ := P l0 l1 hm0 y0 hw0 hm1 y1 hw1
 refine (laws_FnPlateCuts.calls k _ _ l0 _ _ l1 true w (Kd.C_of_reads (d := (0 : Int)) (h1 := fun _ => rfl) hr0) hc0 (Kd.C_of_reads (d := (0 : Int)) (h1 := fun _ => rfl) hr1) hc1 h).mono ?_
 rintro e w' ⟨rfl, hd⟩
 exact ⟨rfl, hd⟩

end Go.Proofs.Ytnkihjabmbeicaa.PA
