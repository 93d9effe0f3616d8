/- Pure functions, and that Go's functions come to them. -/
import Derived.Test.YtmglnofmmgokkaaPAx0
import Derived.Test.YtmglnofmmgokkaaPAxm18
import Derived.Test.YtmglnofmmgokkaaPAxm17
import Derived.Test.YtmglnofmmgokkaaPAxm19
import Derived.Test.YtmglnofmmgokkaaPAxm20
import Derived.Test.YtmglnofmmgokkaaPAxf15
import Derived.Test.YtmglnofmmgokkaaPAxm16
import Derived.Test.YtmglnofmmgokkaaPAxm21
import Derived.Test.YtmglnofmmgokkaaPAxf19
import Derived.Test.YtmglnofmmgokkaaPAxf20
import Derived.Test.YtmglnofmmgokkaaPAxf21
import Derived.Test.YtmglnofmmgokkaaPAxm14
namespace Go.Proofs.Ytmglnofmmgokkaa.PA
open Go.RowKit Go.Proofs.YtmglnofmmgokkaaW.PrintWords Go.Proofs.YtmglnofmmgokkaaW.PrintLast Go.Proofs.YtmglnofmmgokkaaW.PrintMore
set_option linter.unusedVariables false
set_option linter.unusedSimpArgs false

/-! ### laws_FnStonePairs: function 3 -/
mutual
def laws_FnStonePairs.j0 : Nat → List Int → List Int → Bool → Option (Bool)
 | 0, _, _, _ => none
 | k + 1, x0, x1, x64 => if x64 = true then (some true) else ((spec_P6Stone.f k x0).bind fun t563 => ((spec_P6Stone.f k x1).bind fun t566 => ((impl_DoOverlap.f k t563 t566).bind fun bt569 => ((spec_DoOverlap.f k t563 t566).bind fun bt571 => ((impl_DoOverlap.f k t566 t563).bind fun bt573 => ((impl_DoTouch.f k t563 t566).bind fun bt575 => ((spec_DoTouch.f k t563 t566).bind fun bt577 => ((impl_DoTouch.f k t566 t563).bind fun bt579 => ((impl_SeamSquare.f k t563 t566).bind fun bt581 => ((spec_SeamSquare.f k t563 t566).bind fun bt583 => ((impl_SeamSquare.f k t566 t563).bind fun bt585 => ((impl_DoOverlap.f k t563 t563).bind fun bt587 => (if bt569.2 = bt571.2 then (if bt569.2 = 0 then (if (bt569.1 != bt571.1) = true then (none) else (if bt573.2 = 0 then (if (bt573.1 != bt571.1) = true then (none) else (if bt575.2 = bt577.2 then (if bt575.2 = 0 then (if (bt575.1 != bt577.1) = true then (none) else (if bt579.2 = 0 then (if (bt579.1 != bt577.1) = true then (none) else (if bt581.2 = bt583.2 then (if bt581.2 = 0 then (if bt581.1 = bt583.1 then (if bt585.2 = 0 then (if bt585.1 = bt583.1 then (if bt587.2 = 0 then (if bt587.1 = true then (if bt571.1 = true then (if bt577.1 = true then (none) else (if bt583.1 > 0 then (laws_FnStonePairs.j1 k x0 x1 t563 t566 bt571.1 bt577.1 (!bt577.1)) else (laws_FnStonePairs.j1 k x0 x1 t563 t566 bt571.1 bt577.1 false))) else (if bt583.1 > 0 then (laws_FnStonePairs.j1 k x0 x1 t563 t566 bt571.1 bt577.1 (!bt577.1)) else (laws_FnStonePairs.j1 k x0 x1 t563 t566 bt571.1 bt577.1 false))) else (none)) else (none)) else (none)) else (none)) else (none)) else (none)) else (none))) else (none))) else (none)) else (none))) else (none))) else (none)) else (none))))))))))))))
def laws_FnStonePairs.j1 : Nat → List Int → List Int → List (S34) → List (S34) → Bool → Bool → Bool → Option (Bool)
 | 0, _, _, _, _, _, _, _ => none
 | k + 1, x0, x1, x5, x6, x9, x15, x217 => if x217 = true then (none) else (laws_FnStonePairs.l0 k x0 x1 x5 x6 x9 x15 0)
def laws_FnStonePairs.l0 : Nat → List Int → List Int → List (S34) → List (S34) → Bool → Bool → Int → Option (Bool)
 | 0, _, _, _, _, _, _, _ => none
 | k + 1, x0, x1, x5, x6, x9, x15, x27 => if x27 < (x6.length : Int) then (if 0 ≤ x27 then ((impl_WhereIs.f k x5 (wrap64 ((rd_T34 x6 x27).f0)) (wrap64 ((rd_T34 x6 x27).f1))).bind fun bt591 => (if bt591.2 = 0 then (if bt591.1 = 2 then (if x9 = true then (if bt591.1 = 1 then (laws_FnStonePairs.l0 k x0 x1 x5 x6 x9 x15 (wrap64 (x27 + 1))) else (laws_FnStonePairs.l0 k x0 x1 x5 x6 x9 x15 (wrap64 (x27 + 1)))) else (none)) else (if bt591.1 = 1 then (if x9 = true then (laws_FnStonePairs.l0 k x0 x1 x5 x6 x9 x15 (wrap64 (x27 + 1))) else (if x15 = true then (laws_FnStonePairs.l0 k x0 x1 x5 x6 x9 x15 (wrap64 (x27 + 1))) else (none))) else (laws_FnStonePairs.l0 k x0 x1 x5 x6 x9 x15 (wrap64 (x27 + 1))))) else (none))) else (none)) else ((spec_P6Pick.f x1 (x5.length : Int)).bind fun t593 => ((spec_P6Pick.f x0 (x5.length : Int)).bind fun t594 => ((impl_SplitStone.f k x5 t593 t594).bind fun bt595 => ((spec_SplitStone.f k x5 t593 t594).bind fun bt602 => (if bt595.2.2 = bt602.2.2 then ((spec_SameStone.f k bt595.1 bt602.1).bind fun t609 => (if t609 = true then ((spec_SameStone.f k bt595.2.1 bt602.2.1).bind fun t610 => (if t610 = true then (if bt595.2.2 = 0 then (laws_FnStonePairs.j3 k x5 (x5.length : Int) t593 t594 bt595.2.2 bt602.1 bt602.2.1 false) else (laws_FnStonePairs.j3 k x5 (x5.length : Int) t593 t594 bt595.2.2 bt602.1 bt602.2.1 (bt595.2.2 != 4))) else (none))) else (none))) else (none))))))
def laws_FnStonePairs.j3 : Nat → List (S34) → Int → Int → Int → Int → List (S34) → List (S34) → Bool → Option (Bool)
 | 0, _, _, _, _, _, _, _, _ => none
 | k + 1, x5, x30, x31, x32, x35, x36, x37, x309 => if x309 = true then (none) else (if x35 = 0 then ((impl_AreaTwice.f k x36).bind fun bt611 => ((impl_AreaTwice.f k x37).bind fun bt613 => ((spec_AreaTwice.f k x5).bind fun bt615 => ((impl_DoTouch.f k x36 x37).bind fun bt617 => ((impl_SeamSquare.f k x36 x37).bind fun bt619 => (if 0 ≤ x31 then (if x31 < (x5.length : Int) then (if 0 ≤ x32 then (if x32 < (x5.length : Int) then ((impl_JoinStones.f k x36 x37).bind fun bt625 => ((spec_JoinStones.f k x36 x37).bind fun bt629 => (if bt611.2 = 0 then (if bt613.2 = 0 then (if bt615.2 = 0 then (if (wrap64 (bt611.1 + bt613.1)) = bt615.1 then (if bt617.2 = 0 then (if bt617.1 = true then (if bt619.2 = 0 then (if bt619.1 = (wrap64 ((wrap64 ((wrap64 ((wrap64 ((rd_T34 x5 x31).f0)) - (wrap64 ((rd_T34 x5 x32).f0)))) * (wrap64 ((wrap64 ((rd_T34 x5 x31).f0)) - (wrap64 ((rd_T34 x5 x32).f0)))))) + (wrap64 ((wrap64 ((wrap64 ((rd_T34 x5 x31).f1)) - (wrap64 ((rd_T34 x5 x32).f1)))) * (wrap64 ((wrap64 ((rd_T34 x5 x31).f1)) - (wrap64 ((rd_T34 x5 x32).f1)))))))) then (if bt625.2 = bt629.2 then (if bt625.2 = 0 then ((spec_SameStone.f k bt625.1 bt629.1).bind fun t633 => (laws_FnStonePairs.j4 k x5 bt629.1 (!t633))) else (none)) else (none)) else (none)) else (none)) else (none)) else (none)) else (none)) else (none)) else (none)) else (none)))) else (none)) else (none)) else (none)) else (none))))))) else (if x31 = x32 then (some true) else (if x30 = 0 then (none) else (if (Int.tmod (wrap64 (x31 + 1)) x30) = x32 then (some true) else (some ((Int.tmod (wrap64 (x32 + 1)) x30) == x31))))))
def laws_FnStonePairs.j4 : Nat → List (S34) → List (S34) → Bool → Option (Bool)
 | 0, _, _, _ => none
 | k + 1, x5, x53, x450 => if x450 = true then (none) else ((impl_FirstStone.f k x53).bind fun bt634 => ((impl_FirstStone.f k x5).bind fun bt638 => (if bt634.2 = 0 then (if bt638.2 = 0 then ((spec_SameStone.f k bt634.1 bt638.1).bind fun t642 => (some t642)) else (none)) else (none))))
end
def laws_FnStonePairs.f (k : Nat) (l0 : List Int) (l1 : List Int) : Option (Bool) := (laws_f6big.f l0).bind fun t561 => (if t561 = true then (laws_FnStonePairs.j0 k l0 l1 true) else ((laws_f6big.f l1).bind fun t562 => (laws_FnStonePairs.j0 k l0 l1 t562)))
theorem laws_FnStonePairs.mono_l : ∀ k, (∀ y0 y1 y2, LeO (laws_FnStonePairs.j0 k y0 y1 y2) (laws_FnStonePairs.j0 (k + 1) y0 y1 y2)) ∧ (∀ y0 y1 y2 y3 y4 y5 y6, LeO (laws_FnStonePairs.j1 k y0 y1 y2 y3 y4 y5 y6) (laws_FnStonePairs.j1 (k + 1) y0 y1 y2 y3 y4 y5 y6)) ∧ (∀ y0 y1 y2 y3 y4 y5 y6, LeO (laws_FnStonePairs.l0 k y0 y1 y2 y3 y4 y5 y6) (laws_FnStonePairs.l0 (k + 1) y0 y1 y2 y3 y4 y5 y6)) ∧ (∀ y0 y1 y2 y3 y4 y5 y6 y7, LeO (laws_FnStonePairs.j3 k y0 y1 y2 y3 y4 y5 y6 y7) (laws_FnStonePairs.j3 (k + 1) y0 y1 y2 y3 y4 y5 y6 y7)) ∧ (∀ y0 y1 y2, LeO (laws_FnStonePairs.j4 k y0 y1 y2) (laws_FnStonePairs.j4 (k + 1) y0 y1 y2))
 | 0 => ⟨fun _ _ _ r h => by simp [laws_FnStonePairs.j0] at h, fun _ _ _ _ _ _ _ r h => by simp [laws_FnStonePairs.j1] at h, fun _ _ _ _ _ _ _ r h => by simp [laws_FnStonePairs.l0] at h, fun _ _ _ _ _ _ _ _ r h => by simp [laws_FnStonePairs.j3] at h, fun _ _ _ r h => by simp [laws_FnStonePairs.j4] at h⟩
 | k + 1 => by
  obtain ⟨ih0, ih1, ih2, ih3, ih4⟩ := laws_FnStonePairs.mono_l k
  refine ⟨?_, ?_, ?_, ?_, ?_⟩ <;> intros
  all_goals first | unfold laws_FnStonePairs.j0 | unfold laws_FnStonePairs.j1 | unfold laws_FnStonePairs.l0 | unfold laws_FnStonePairs.j3 | unfold laws_FnStonePairs.j4
  all_goals repeat' first | (with_reducible first | exact ih0 _ _ _ | exact ih1 _ _ _ _ _ _ _ | exact ih2 _ _ _ _ _ _ _ | exact ih3 _ _ _ _ _ _ _ _ | exact ih4 _ _ _ | exact impl_AreaTwice.mono _ _ | exact impl_DoOverlap.mono _ _ _ | exact impl_DoTouch.mono _ _ _ | exact impl_FirstStone.mono _ _ | exact impl_JoinStones.mono _ _ _ | exact impl_SeamSquare.mono _ _ _ | exact impl_SplitStone.mono _ _ _ _ | exact impl_WhereIs.mono _ _ _ _ | exact spec_AreaTwice.mono _ _ | exact spec_DoOverlap.mono _ _ _ | exact spec_DoTouch.mono _ _ _ | exact spec_JoinStones.mono _ _ _ | exact spec_P6Stone.mono _ _ | exact spec_SameStone.mono _ _ _ | exact spec_SeamSquare.mono _ _ _ | exact spec_SplitStone.mono _ _ _ _ | exact LeO.refl _ | exact LeO.none _ | refine LeO.ite ?_ ?_ | refine LeO.bind ?_ (fun _ => ?_))
theorem laws_FnStonePairs.mono : ∀ a0 a1 k, LeO (laws_FnStonePairs.f k a0 a1) (laws_FnStonePairs.f (k + 1) a0 a1) := by
 intro a0 a1 k
 obtain ⟨ih0, ih1, ih2, ih3, ih4⟩ := laws_FnStonePairs.mono_l k
 unfold laws_FnStonePairs.f
 repeat' first | (with_reducible first | exact ih0 _ _ _ | exact ih1 _ _ _ _ _ _ _ | exact ih2 _ _ _ _ _ _ _ | exact ih3 _ _ _ _ _ _ _ _ | exact ih4 _ _ _ | exact impl_AreaTwice.mono _ _ | exact impl_DoOverlap.mono _ _ _ | exact impl_DoTouch.mono _ _ _ | exact impl_FirstStone.mono _ _ | exact impl_JoinStones.mono _ _ _ | exact impl_SeamSquare.mono _ _ _ | exact impl_SplitStone.mono _ _ _ _ | exact impl_WhereIs.mono _ _ _ _ | exact spec_AreaTwice.mono _ _ | exact spec_DoOverlap.mono _ _ _ | exact spec_DoTouch.mono _ _ _ | exact spec_JoinStones.mono _ _ _ | exact spec_P6Stone.mono _ _ | exact spec_SameStone.mono _ _ _ | exact spec_SeamSquare.mono _ _ _ | exact spec_SplitStone.mono _ _ _ _ | exact LeO.refl _ | exact LeO.none _ | refine LeO.ite ?_ ?_ | refine LeO.bind ?_ (fun _ => ?_))
def laws_FnStonePairs.T20 : Bool × List (List Nat × List Nat) := (true, [([], []), ([], []), ([], []), ([1, 2], [1, 2]), ([3], [3]), ([4], [4]), ([5], [5]), ([], []), ([], []), ([7, 8], [7, 8]), ([9], [9]), ([10], [10]), ([11], [11]), ([0, 6, 12], [0, 6, 12]), ([13], [13]), ([14], [14]), ([14], [14]), ([15, 13, 0, 1, 2, 3, 4, 5, 6, 7, 8, 9, 10, 11, 12, 13, 14, 15], [15]), ([16, 17, 0, 1, 2, 3, 4, 5, 6, 7, 8, 9, 10, 11, 12, 13, 14, 15, 16, 17], [16])])
def laws_FnStonePairs.B20 : List Nat := [0, 0, 0, 6, 14, 30, 62, 0, 0, 384, 896, 1920, 3968, 8191, 16383, 32767, 32767, 65535, 262143]
theorem laws_FnStonePairs.tab20 : rtab .any (opsOf Try.f3 20) = laws_FnStonePairs.T20 := by kernel_rfl
theorem laws_FnStonePairs.bits20 : waitsOk laws_FnStonePairs.T20.2 laws_FnStonePairs.B20 = true := by kernel_rfl
def laws_FnStonePairs.T37 : Bool × List (List Nat × List Nat) := (true, [([], []), ([], []), ([0, 1], [0, 1]), ([2], [2]), ([3], [3]), ([4], [4]), ([], []), ([], []), ([6, 7], [6, 7]), ([8], [8]), ([9], [9]), ([10], [10]), ([5, 11], [5, 11]), ([12, 0, 1, 2, 3, 4, 5, 6, 7, 8, 9, 10, 11, 12], [12])])
def laws_FnStonePairs.B37 : List Nat := [0, 0, 3, 7, 15, 31, 0, 0, 192, 448, 960, 1984, 4095, 8191]
theorem laws_FnStonePairs.tab37 : rtab .any (opsOf Try.f3 37) = laws_FnStonePairs.T37 := by kernel_rfl
theorem laws_FnStonePairs.bits37 : waitsOk laws_FnStonePairs.T37.2 laws_FnStonePairs.B37 = true := by kernel_rfl
def laws_FnStonePairs.T38 : Bool × List (List Nat × List Nat) := (true, [([], []), ([], []), ([0, 1], [0, 1]), ([2], [2]), ([3], [3]), ([4], [4]), ([], []), ([], []), ([6, 7], [6, 7]), ([8], [8]), ([9], [9]), ([10], [10]), ([5, 11], [5, 11]), ([12, 0, 1, 2, 3, 4, 5, 6, 7, 8, 9, 10, 11, 12], [12])])
def laws_FnStonePairs.B38 : List Nat := [0, 0, 3, 7, 15, 31, 0, 0, 192, 448, 960, 1984, 4095, 8191]
theorem laws_FnStonePairs.tab38 : rtab .any (opsOf Try.f3 38) = laws_FnStonePairs.T38 := by kernel_rfl
theorem laws_FnStonePairs.bits38 : waitsOk laws_FnStonePairs.T38.2 laws_FnStonePairs.B38 = true := by kernel_rfl
set_option maxHeartbeats 400000000 in
set_option maxRecDepth 100000 in
theorem laws_FnStonePairs.calls (k : Nat) (A0 : Option Addr) (c0 : Nat) (l0 : List Int) (A1 : Option Addr) (c1 : Nat) (l1 : List Int) (r : Bool) (w : World) (hr0 : Kd.C (Kd.int .u8) w A0 l0.length l0) (hc0 : l0.length ≤ c0) (hr1 : Kd.C (Kd.int .u8) w A1 l1.length l1) (hc1 : l1.length ≤ c1) (h : laws_FnStonePairs.f k l0 l1 = some r) :
  Calls Try.prog 3 #[.slice A0 l0.length c0, .slice A1 l1.length c1] w fun e w' => e = .returned (.bool r) ∧ Below w.heap.size w w' := by
 have HR0 := Aside0.mk hr0
 have HC0 := Aside0.mk hc0
 clear hr0 hc0
 have HR1 := Aside0.mk hr1
 have HC1 := Aside0.mk hc1
 clear hr1 hc1
 have HB := Aside0.mk (Below.refl w.heap.size w)
 have H : ((laws_f6big.f l0).bind fun t561 => (if t561 = true then (laws_FnStonePairs.j0 k l0 l1 true) else ((laws_f6big.f l1).bind fun t562 => (laws_FnStonePairs.j0 k l0 l1 t562)))) = some r := h
 clear h
 have HC3 := Aside0.mk H
 clear H
 go_enter Try.func3, Try.ntmps3
 go_upto_region 1 with (fail)
 go_cut [64] (fun v64 wc => ∃ (kq : Nat) (x64_2 : Bool), v64 = .bool x64_2 ∧ Aside0 (laws_FnStonePairs.j0 kq l0 l1 x64_2 = some r) ∧ Aside0 (kq ≤ k) ∧ Aside0 (Below w.heap.size w wc))
 case first => as_aux_lemma =>
  have H := HC3.out
  clear HC3
  obtain ⟨t561, A4, H⟩ := be_ H
  (try dsimp only at H)
  by_cases c5 : t561 = true
  ·
   subst c5
   replace H := gt_ H
   have H' := Aside0.mk H
   clear H
   as_aux_lemma =>
    go_wp2_with (first | ((with_reducible refine gate_callee (f := 4) rfl ?_); refine goM_ (some 60) Try.func4 #[.slice A0 l0.length c0] ?_; (with_reducible refine (laws_f6big.calls _ _ l0 true _ ?side1 ?side2 A4.out).mono ?_); (case side1 => exact kc_ (Kd.C_below HR0.out HB.out)); (case side2 => exact HC0.out); rintro e w' ⟨rfl, ⟨nd, rfl⟩⟩; refine ⟨_, rfl, ?_⟩))
    go_meet
    case rel => exact ⟨_, (true), (by first | rfl | (simp; done) | (simp [*]; done)), H', ⟨by first | omega | exact Nat.le_refl _⟩, ⟨bl_ HB⟩⟩
  replace c5 := Bool.eq_false_iff.mpr c5
  subst c5
  replace H := gf_ H
  obtain ⟨t562, A6, H⟩ := be_ H
  (try dsimp only at H)
  have H' := Aside0.mk H
  clear H
  go_wp2_with (first | ((with_reducible refine gate_callee (f := 4) rfl ?_); refine goM_ (some 60) Try.func4 #[.slice A0 l0.length c0] ?_; (with_reducible refine (laws_f6big.calls _ _ l0 false _ ?side1 ?side2 A4.out).mono ?_); (case side1 => exact kc_ (Kd.C_below HR0.out HB.out)); (case side2 => exact HC0.out); rintro e w' ⟨rfl, ⟨nd, rfl⟩⟩; refine ⟨_, rfl, ?_⟩) | (go_at_call 4; (with_reducible refine (laws_f6big.calls _ _ l1 t562 _ ?side1 ?side2 A6.out).mono ?_); (case side1 => repeat (first | exact (Kd.C_below HR1.out (kB_ HB)) | (with_reducible refine Kd.C_alloc ?_ _) | (with_reducible refine Kd.C_drewN ?_ _) | (with_reducible refine Kd.C_drew ?_))); (case side2 => exact HC1.out); rintro e w' ⟨rfl, ⟨nd, rfl⟩⟩))
  go_meet
  case rel => exact ⟨_, (t562), (by first | rfl | (simp; done) | (simp [*]; done)), H', ⟨by first | omega | exact Nat.le_refl _⟩, ⟨bl_ HB⟩⟩
 case rest => as_aux_lemma =>
  clear HC3
  obtain ⟨kq, x64_2, rfl, HA, HJ2, HB⟩ := hcut
  rcases kq with _ | kj2
  · exact absurd HA.out (by simp [laws_FnStonePairs.j0])
  have H := HA.out
  clear HA
  simp only [laws_FnStonePairs.j0] at H
  by_cases c7 : x64_2 = true
  ·
   subst c7
   replace H := gt_ H
   obtain rfl := Option.some.inj H
   as_aux_lemma =>
    go_wp2
    go_ret
    exact ⟨rt_, bl_ HB⟩
  replace c7 := Bool.eq_false_iff.mpr c7
  subst c7
  replace H := gf_ H
  obtain ⟨t563, A8, H⟩ := be_ H
  (try dsimp only at H)
  obtain ⟨t566, A9, H⟩ := be_ H
  (try dsimp only at H)
  obtain ⟨⟨t569, t570⟩, A10, H⟩ := be_ H
  (try dsimp only at H)
  obtain ⟨⟨t571, t572⟩, A11, H⟩ := be_ H
  (try dsimp only at H)
  obtain ⟨⟨t573, t574⟩, A12, H⟩ := be_ H
  (try dsimp only at H)
  obtain ⟨⟨t575, t576⟩, A13, H⟩ := be_ H
  (try dsimp only at H)
  obtain ⟨⟨t577, t578⟩, A14, H⟩ := be_ H
  (try dsimp only at H)
  obtain ⟨⟨t579, t580⟩, A15, H⟩ := be_ H
  (try dsimp only at H)
  obtain ⟨⟨t581, t582⟩, A16, H⟩ := be_ H
  (try dsimp only at H)
  obtain ⟨⟨t583, t584⟩, A17, H⟩ := be_ H
  (try dsimp only at H)
  obtain ⟨⟨t585, t586⟩, A18, H⟩ := be_ H
  (try dsimp only at H)
  obtain ⟨⟨t587, t588⟩, A19, H⟩ := be_ H
  (try dsimp only at H)
  have HC20 := Aside0.mk H
  clear H
  go_upto_region 15 with (first | ((with_reducible refine gate_callee (f := 5) rfl ?_); refine goM_ (some 66) Try.func5 #[.slice A0 l0.length c0] ?_; (with_reducible refine (spec_P6Stone.calls kj2 _ _ l0 t563 _ ?side1 ?side2 A8.out).mono ?_); (case side1 => exact kc_ (Kd.C_below HR0.out HB.out)); (case side2 => exact HC0.out); rintro e w21 ⟨v564, rfl, ho0, hb⟩; refine ⟨_, rfl, ?_⟩; have HO565 := Aside0.mk (Kd.R_lower ho0 (below_size (kB_ HB))); replace HB := bs_ HB hb; clear hb; (try clear ho0)) | ((with_reducible refine gate_callee (f := 5) rfl ?_); refine goM_ (some 68) Try.func5 #[.slice A1 l1.length c1] ?_; (with_reducible refine (spec_P6Stone.calls kj2 _ _ l1 t566 _ ?side1 ?side2 A9.out).mono ?_); (case side1 => exact kc_ (Kd.C_below HR1.out HB.out)); (case side2 => exact HC1.out); rintro e w22 ⟨v567, rfl, ho0, hb⟩; refine ⟨_, rfl, ?_⟩; have HO568 := Aside0.mk (Kd.R_lower (Kd.R_new' ho0 (Kd.R_lt (kp_ HO565))) (below_size (kB_ HB))); replace HO565 := Aside0.mk (Kd.R_elder' (kp_ HO565) (Kd.R_base ho0) hb); replace HB := bs_ HB hb; clear hb; (try clear ho0); obtain ⟨Ao23, co23, eo23⟩ := Kd.R_slice HO565.out; subst eo23; obtain ⟨Ao24, co24, eo24⟩ := Kd.R_slice HO568.out; subst eo24) | ((with_reducible refine gate_callee (f := 6) rfl ?_); refine goM_ (some 72) Try.func6 #[.slice Ao23 t563.length co23, .slice Ao24 t566.length co24] ?_; (with_reducible refine (impl_DoOverlap.calls kj2 _ _ t563 _ _ t566 t569 t570 _ ?side1 ?side2 ?side3 ?side4 A10.out).mono ?_); (case side1 => exact kc_ ((Kd.R_reads' HO565.out).2.2)); (case side2 => exact (Kd.R_reads' HO565.out).2.1); (case side3 => exact kc_ ((Kd.R_reads' HO568.out).2.2)); (case side4 => exact (Kd.R_reads' HO568.out).2.1); rintro e w25 ⟨rfl, hb⟩; refine ⟨_, rfl, ?_⟩; replace HO565 := Aside0.mk (Kd.R_below (kp_ HO565) hb); replace HO568 := Aside0.mk (Kd.R_below (kp_ HO568) hb); replace HB := bs_ HB hb; clear hb) | ((with_reducible refine gate_callee (f := 7) rfl ?_); refine goM_ (some 78) Try.func7 #[.slice Ao23 t563.length co23, .slice Ao24 t566.length co24] ?_; (with_reducible refine (spec_DoOverlap.calls kj2 _ _ t563 _ _ t566 t571 t572 _ ?side1 ?side2 ?side3 ?side4 A11.out).mono ?_); (case side1 => exact kc_ ((Kd.R_reads' HO565.out).2.2)); (case side2 => exact (Kd.R_reads' HO565.out).2.1); (case side3 => exact kc_ ((Kd.R_reads' HO568.out).2.2)); (case side4 => exact (Kd.R_reads' HO568.out).2.1); rintro e w26 ⟨rfl, hb⟩; refine ⟨_, rfl, ?_⟩; replace HO565 := Aside0.mk (Kd.R_below (kp_ HO565) hb); replace HO568 := Aside0.mk (Kd.R_below (kp_ HO568) hb); replace HB := bs_ HB hb; clear hb) | ((with_reducible refine gate_callee (f := 6) rfl ?_); refine goM_ (some 84) Try.func6 #[.slice Ao24 t566.length co24, .slice Ao23 t563.length co23] ?_; (with_reducible refine (impl_DoOverlap.calls kj2 _ _ t566 _ _ t563 t573 t574 _ ?side1 ?side2 ?side3 ?side4 A12.out).mono ?_); (case side1 => exact kc_ ((Kd.R_reads' HO568.out).2.2)); (case side2 => exact (Kd.R_reads' HO568.out).2.1); (case side3 => exact kc_ ((Kd.R_reads' HO565.out).2.2)); (case side4 => exact (Kd.R_reads' HO565.out).2.1); rintro e w27 ⟨rfl, hb⟩; refine ⟨_, rfl, ?_⟩; replace HO565 := Aside0.mk (Kd.R_below (kp_ HO565) hb); replace HO568 := Aside0.mk (Kd.R_below (kp_ HO568) hb); replace HB := bs_ HB hb; clear hb) | ((with_reducible refine gate_callee (f := 8) rfl ?_); refine goM_ (some 90) Try.func8 #[.slice Ao23 t563.length co23, .slice Ao24 t566.length co24] ?_; (with_reducible refine (impl_DoTouch.calls kj2 _ _ t563 _ _ t566 t575 t576 _ ?side1 ?side2 ?side3 ?side4 A13.out).mono ?_); (case side1 => exact kc_ ((Kd.R_reads' HO565.out).2.2)); (case side2 => exact (Kd.R_reads' HO565.out).2.1); (case side3 => exact kc_ ((Kd.R_reads' HO568.out).2.2)); (case side4 => exact (Kd.R_reads' HO568.out).2.1); rintro e w28 ⟨rfl, hb⟩; refine ⟨_, rfl, ?_⟩; replace HO565 := Aside0.mk (Kd.R_below (kp_ HO565) hb); replace HO568 := Aside0.mk (Kd.R_below (kp_ HO568) hb); replace HB := bs_ HB hb; clear hb) | ((with_reducible refine gate_callee (f := 9) rfl ?_); refine goM_ (some 96) Try.func9 #[.slice Ao23 t563.length co23, .slice Ao24 t566.length co24] ?_; (with_reducible refine (spec_DoTouch.calls kj2 _ _ t563 _ _ t566 t577 t578 _ ?side1 ?side2 ?side3 ?side4 A14.out).mono ?_); (case side1 => exact kc_ ((Kd.R_reads' HO565.out).2.2)); (case side2 => exact (Kd.R_reads' HO565.out).2.1); (case side3 => exact kc_ ((Kd.R_reads' HO568.out).2.2)); (case side4 => exact (Kd.R_reads' HO568.out).2.1); rintro e w29 ⟨rfl, hb⟩; refine ⟨_, rfl, ?_⟩; replace HO565 := Aside0.mk (Kd.R_below (kp_ HO565) hb); replace HO568 := Aside0.mk (Kd.R_below (kp_ HO568) hb); replace HB := bs_ HB hb; clear hb) | ((with_reducible refine gate_callee (f := 8) rfl ?_); refine goM_ (some 102) Try.func8 #[.slice Ao24 t566.length co24, .slice Ao23 t563.length co23] ?_; (with_reducible refine (impl_DoTouch.calls kj2 _ _ t566 _ _ t563 t579 t580 _ ?side1 ?side2 ?side3 ?side4 A15.out).mono ?_); (case side1 => exact kc_ ((Kd.R_reads' HO568.out).2.2)); (case side2 => exact (Kd.R_reads' HO568.out).2.1); (case side3 => exact kc_ ((Kd.R_reads' HO565.out).2.2)); (case side4 => exact (Kd.R_reads' HO565.out).2.1); rintro e w30 ⟨rfl, hb⟩; refine ⟨_, rfl, ?_⟩; replace HO565 := Aside0.mk (Kd.R_below (kp_ HO565) hb); replace HO568 := Aside0.mk (Kd.R_below (kp_ HO568) hb); replace HB := bs_ HB hb; clear hb) | ((with_reducible refine gate_callee (f := 10) rfl ?_); refine goM_ (some 108) Try.func10 #[.slice Ao23 t563.length co23, .slice Ao24 t566.length co24] ?_; (with_reducible refine (impl_SeamSquare.calls kj2 _ _ t563 _ _ t566 t581 t582 _ ?side1 ?side2 ?side3 ?side4 A16.out).mono ?_); (case side1 => exact kc_ ((Kd.R_reads' HO565.out).2.2)); (case side2 => exact (Kd.R_reads' HO565.out).2.1); (case side3 => exact kc_ ((Kd.R_reads' HO568.out).2.2)); (case side4 => exact (Kd.R_reads' HO568.out).2.1); rintro e w31 ⟨rfl, hb⟩; refine ⟨_, rfl, ?_⟩; replace HO565 := Aside0.mk (Kd.R_below (kp_ HO565) hb); replace HO568 := Aside0.mk (Kd.R_below (kp_ HO568) hb); replace HB := bs_ HB hb; clear hb) | ((with_reducible refine gate_callee (f := 11) rfl ?_); refine goM_ (some 114) Try.func11 #[.slice Ao23 t563.length co23, .slice Ao24 t566.length co24] ?_; (with_reducible refine (spec_SeamSquare.calls kj2 _ _ t563 _ _ t566 t583 t584 _ ?side1 ?side2 ?side3 ?side4 A17.out).mono ?_); (case side1 => exact kc_ ((Kd.R_reads' HO565.out).2.2)); (case side2 => exact (Kd.R_reads' HO565.out).2.1); (case side3 => exact kc_ ((Kd.R_reads' HO568.out).2.2)); (case side4 => exact (Kd.R_reads' HO568.out).2.1); rintro e w32 ⟨rfl, hb⟩; refine ⟨_, rfl, ?_⟩; replace HO565 := Aside0.mk (Kd.R_below (kp_ HO565) hb); replace HO568 := Aside0.mk (Kd.R_below (kp_ HO568) hb); replace HB := bs_ HB hb; clear hb) | ((with_reducible refine gate_callee (f := 10) rfl ?_); refine goM_ (some 120) Try.func10 #[.slice Ao24 t566.length co24, .slice Ao23 t563.length co23] ?_; (with_reducible refine (impl_SeamSquare.calls kj2 _ _ t566 _ _ t563 t585 t586 _ ?side1 ?side2 ?side3 ?side4 A18.out).mono ?_); (case side1 => exact kc_ ((Kd.R_reads' HO568.out).2.2)); (case side2 => exact (Kd.R_reads' HO568.out).2.1); (case side3 => exact kc_ ((Kd.R_reads' HO565.out).2.2)); (case side4 => exact (Kd.R_reads' HO565.out).2.1); rintro e w33 ⟨rfl, hb⟩; refine ⟨_, rfl, ?_⟩; replace HO565 := Aside0.mk (Kd.R_below (kp_ HO565) hb); replace HO568 := Aside0.mk (Kd.R_below (kp_ HO568) hb); replace HB := bs_ HB hb; clear hb) | ((with_reducible refine gate_callee (f := 6) rfl ?_); refine goM_ (some 126) Try.func6 #[.slice Ao23 t563.length co23, .slice Ao23 t563.length co23] ?_; (with_reducible refine (impl_DoOverlap.calls kj2 _ _ t563 _ _ t563 t587 t588 _ ?side1 ?side2 ?side3 ?side4 A19.out).mono ?_); (case side1 => exact kc_ ((Kd.R_reads' HO565.out).2.2)); (case side2 => exact (Kd.R_reads' HO565.out).2.1); (case side3 => exact kc_ ((Kd.R_reads' HO565.out).2.2)); (case side4 => exact (Kd.R_reads' HO565.out).2.1); rintro e w34 ⟨rfl, hb⟩; refine ⟨_, rfl, ?_⟩; replace HO565 := Aside0.mk (Kd.R_below (kp_ HO565) hb); replace HO568 := Aside0.mk (Kd.R_below (kp_ HO568) hb); replace HB := bs_ HB hb; clear hb))
  (try simp only [Act.put, List.setIfInBounds_toArray, List.set_cons_zero, List.set_cons_succ])
  go_cut [217] (fun v217 wc => ∃ (kq : Nat) (x217_19 : Bool), v217 = .bool x217_19 ∧ Aside0 (laws_FnStonePairs.j1 kq l0 l1 t563 t566 t571 t577 x217_19 = some r) ∧ Aside0 (kq ≤ kj2) ∧ Aside0 (Kd.R k34 34 wc w.heap.size (fun k_ => some k_ ≠ ((.slice Ao24 t566.length co24) : Value).ownBlock) (.slice Ao23 t563.length co23) t563) ∧ Aside0 (Kd.R k34 34 wc w.heap.size (fun k_ => some k_ ≠ ((.slice Ao23 t563.length co23) : Value).ownBlock) (.slice Ao24 t566.length co24) t566) ∧ Aside0 (Below w.heap.size w wc))
  case first => as_aux_lemma =>
   have H := HC20.out
   clear HC20
   obtain ⟨c35b0, c35b1, H⟩ := gy_ H
   (first | rw [c35b0] | (simp only [i64_w, i32_w]; rw [c35b0]) | skip)
   obtain ⟨c36b0, c36b1, H⟩ := gy_ H
   by_cases c37 : (t569 != t571) = true
   ·
    rw [if_pos c37] at H
    exact absurd H (by simp)
   rw [if_neg c37] at H
   have c37b0 : (t569 != t571) = false := by simpa using c37
   (try (have c37b1 : decide (t569 = t571) = true := by simpa using c37))
   (try (have c37b2 : (t569 == t571) = true := by simpa using c37))
   clear c37
   obtain ⟨c38b0, c38b1, H⟩ := gy_ H
   by_cases c39 : (t573 != t571) = true
   ·
    rw [if_pos c39] at H
    exact absurd H (by simp)
   rw [if_neg c39] at H
   have c39b0 : (t573 != t571) = false := by simpa using c39
   (try (have c39b1 : decide (t573 = t571) = true := by simpa using c39))
   (try (have c39b2 : (t573 == t571) = true := by simpa using c39))
   clear c39
   obtain ⟨c40b0, c40b1, H⟩ := gy_ H
   obtain ⟨c41b0, c41b1, H⟩ := gy_ H
   by_cases c42 : (t575 != t577) = true
   ·
    rw [if_pos c42] at H
    exact absurd H (by simp)
   rw [if_neg c42] at H
   have c42b0 : (t575 != t577) = false := by simpa using c42
   (try (have c42b1 : decide (t575 = t577) = true := by simpa using c42))
   (try (have c42b2 : (t575 == t577) = true := by simpa using c42))
   clear c42
   obtain ⟨c43b0, c43b1, H⟩ := gy_ H
   by_cases c44 : (t579 != t577) = true
   ·
    rw [if_pos c44] at H
    exact absurd H (by simp)
   rw [if_neg c44] at H
   have c44b0 : (t579 != t577) = false := by simpa using c44
   (try (have c44b1 : decide (t579 = t577) = true := by simpa using c44))
   (try (have c44b2 : (t579 == t577) = true := by simpa using c44))
   clear c44
   obtain ⟨c45b0, c45b1, H⟩ := gy_ H
   obtain ⟨c46b0, c46b1, H⟩ := gy_ H
   obtain ⟨c47b0, c47b1, H⟩ := gy_ H
   obtain ⟨c48b0, c48b1, H⟩ := gy_ H
   obtain ⟨c49b0, c49b1, H⟩ := gy_ H
   obtain ⟨c50b0, c50b1, H⟩ := gy_ H
   rcases (Decidable.em (t587 = true)).symm with c51 | c51
   ·
    replace c51 := Bool.eq_false_iff.mpr c51
    subst c51
    have H1 := gf_ H
    exact absurd H1 (by simp)
   subst c51
   replace H := gt_ H
   rcases (Decidable.em (t571 = true)).symm with c52 | c52
   ·
    replace c52 := Bool.eq_false_iff.mpr c52
    subst c52
    replace H := gf_ H
    by_cases c55 : t583 > 0
    ·
     rw [if_pos c55] at H
     have c55b0 : decide (0 < t583) = true := decide_eq_true c55
     clear c55
     have H' := Aside0.mk H
     clear H
     as_aux_lemma =>
      go_wp2
      go_meet
      case rel => exact ⟨_, (!t577), (by first | rfl | (simp; done) | (simp [*]; done)), H', ⟨by have := HJ2.out; first | omega | exact Nat.le_refl _⟩, ⟨by (with_reducible repeat (first | apply Kd.R_alloc | apply Kd.R_drewN | apply Kd.R_drew)); exact Kd.R_mono HO565.out (fun _ hk => hk.2)⟩, ⟨by (with_reducible repeat (first | apply Kd.R_alloc | apply Kd.R_drewN | apply Kd.R_drew)); exact Kd.R_mono HO568.out (fun _ hk => hk.2)⟩, ⟨bl_ HB⟩⟩
    ·
     rw [if_neg c55] at H
     have c55b0 : decide (0 < t583) = false := decide_eq_false c55
     clear c55
     have H' := Aside0.mk H
     clear H
     as_aux_lemma =>
      go_wp2
      go_meet
      case rel => exact ⟨_, (false), (by first | rfl | (simp; done) | (simp [*]; done)), H', ⟨by have := HJ2.out; first | omega | exact Nat.le_refl _⟩, ⟨by (with_reducible repeat (first | apply Kd.R_alloc | apply Kd.R_drewN | apply Kd.R_drew)); exact Kd.R_mono HO565.out (fun _ hk => hk.2)⟩, ⟨by (with_reducible repeat (first | apply Kd.R_alloc | apply Kd.R_drewN | apply Kd.R_drew)); exact Kd.R_mono HO568.out (fun _ hk => hk.2)⟩, ⟨bl_ HB⟩⟩
   subst c52
   replace H := gt_ H
   by_cases c53 : t577 = true
   ·
    subst c53
    have H1 := gt_ H
    exact absurd H1 (by simp)
   replace c53 := Bool.eq_false_iff.mpr c53
   subst c53
   replace H := gf_ H
   by_cases c54 : t583 > 0
   ·
    rw [if_pos c54] at H
    have c54b0 : decide (0 < t583) = true := decide_eq_true c54
    clear c54
    have H' := Aside0.mk H
    clear H
    as_aux_lemma =>
     go_wp2
     go_meet
     case rel => exact ⟨_, (!false), (by first | rfl | (simp; done) | (simp [*]; done)), H', ⟨by have := HJ2.out; first | omega | exact Nat.le_refl _⟩, ⟨by (with_reducible repeat (first | apply Kd.R_alloc | apply Kd.R_drewN | apply Kd.R_drew)); exact Kd.R_mono HO565.out (fun _ hk => hk.2)⟩, ⟨by (with_reducible repeat (first | apply Kd.R_alloc | apply Kd.R_drewN | apply Kd.R_drew)); exact Kd.R_mono HO568.out (fun _ hk => hk.2)⟩, ⟨bl_ HB⟩⟩
   ·
    rw [if_neg c54] at H
    have c54b0 : decide (0 < t583) = false := decide_eq_false c54
    clear c54
    have H' := Aside0.mk H
    clear H
    as_aux_lemma =>
     go_wp2
     go_meet
     case rel => exact ⟨_, (false), (by first | rfl | (simp; done) | (simp [*]; done)), H', ⟨by have := HJ2.out; first | omega | exact Nat.le_refl _⟩, ⟨by (with_reducible repeat (first | apply Kd.R_alloc | apply Kd.R_drewN | apply Kd.R_drew)); exact Kd.R_mono HO565.out (fun _ hk => hk.2)⟩, ⟨by (with_reducible repeat (first | apply Kd.R_alloc | apply Kd.R_drewN | apply Kd.R_drew)); exact Kd.R_mono HO568.out (fun _ hk => hk.2)⟩, ⟨bl_ HB⟩⟩
  case rest => as_aux_lemma =>
   clear HC20
   obtain ⟨kq, x217_19, rfl, HA, HJ19, HO_5, HO_6, HB⟩ := hcut
   rcases kq with _ | kj19
   · exact absurd HA.out (by simp [laws_FnStonePairs.j1])
   have H := HA.out
   clear HA
   simp only [laws_FnStonePairs.j1] at H
   by_cases c56 : x217_19 = true
   ·
    subst c56
    have H1 := gt_ H
    exact absurd H1 (by simp)
   replace c56 := Bool.eq_false_iff.mpr c56
   subst c56
   replace H := gf_ H
   have H' := Aside0.mk H
   clear H
   go_wp2
   go_loopg [27] kj19 (fun kq v27 w' => ∃ (x27_3 : Int), v27 = .int .i64 x27_3 ∧ Aside0 (laws_FnStonePairs.l0 kq l0 l1 t563 t566 t571 t577 x27_3 = some r) ∧ Aside0 (kq ≤ kj19) ∧ Aside0 (Kd.R k34 34 w' w.heap.size (fun k_ => some k_ ≠ ((.slice Ao24 t566.length co24) : Value).ownBlock) (.slice Ao23 t563.length co23) t563) ∧ Aside0 (Kd.R k34 34 w' w.heap.size (fun k_ => some k_ ≠ ((.slice Ao23 t563.length co23) : Value).ownBlock) (.slice Ao24 t566.length co24) t566) ∧ Aside0 (Below w.heap.size w w'))
   case atStart => exact ⟨(0), (by first | rfl | (simp; done) | (simp [*]; done)), H', ⟨Nat.le_refl _⟩, ⟨kp_ HO_5⟩, ⟨kp_ HO_6⟩, ⟨bl_ HB⟩⟩
   case round => as_aux_lemma =>
    clear H'
    obtain ⟨x27_3, rfl, HA, HK3, HO_5, HO_6, HB⟩ := hrel
    rcases gk with _ | k3
    · exact absurd HA.out (by simp [laws_FnStonePairs.l0])
    have H := HA.out
    clear HA
    simp only [laws_FnStonePairs.l0] at H
    rcases (Decidable.em (x27_3 < (t566.length : Int))).symm with c57 | c57
    ·
     rw [if_neg c57] at H
     have c57b0 : decide (x27_3 < (t566.length : Int)) = false := decide_eq_false c57
     clear c57
     obtain ⟨t593, A83, H⟩ := be_ H
     (try dsimp only at H)
     obtain ⟨t594, A84, H⟩ := be_ H
     (try dsimp only at H)
     obtain ⟨⟨t595, t596, t597⟩, A85, H⟩ := be_ H
     (try dsimp only at H)
     obtain ⟨⟨t602, t603, t604⟩, A86, H⟩ := be_ H
     (try dsimp only at H)
     have HC87 := Aside0.mk H
     clear H
     go_upto_region 28 with (first | ((with_reducible refine gate_callee (f := 13) rfl ?_); refine goM_ (some 267) Try.func13 #[.slice A1 l1.length c1, .int .i64 (t563.length : Int)] ?_; (with_reducible refine (spec_P6Pick.calls _ _ l1 (t563.length : Int) t593 _ ?side1 ?side2 A83.out).mono ?_); (case side1 => exact kc_ (Kd.C_below HR1.out HB.out)); (case side2 => exact HC1.out); rintro e w88 ⟨rfl, hb⟩; refine ⟨_, rfl, ?_⟩; replace HO_5 := Aside0.mk (Kd.R_below (kp_ HO_5) hb); replace HO_6 := Aside0.mk (Kd.R_below (kp_ HO_6) hb); replace HB := bs_ HB hb; clear hb) | ((with_reducible refine gate_callee (f := 13) rfl ?_); refine goM_ (some 270) Try.func13 #[.slice A0 l0.length c0, .int .i64 (t563.length : Int)] ?_; (with_reducible refine (spec_P6Pick.calls _ _ l0 (t563.length : Int) t594 _ ?side1 ?side2 A84.out).mono ?_); (case side1 => exact kc_ (Kd.C_below HR0.out HB.out)); (case side2 => exact HC0.out); rintro e w89 ⟨rfl, hb⟩; refine ⟨_, rfl, ?_⟩; replace HO_5 := Aside0.mk (Kd.R_below (kp_ HO_5) hb); replace HO_6 := Aside0.mk (Kd.R_below (kp_ HO_6) hb); replace HB := bs_ HB hb; clear hb) | ((with_reducible refine gate_callee (f := 14) rfl ?_); refine goM_ (some 275) Try.func14 #[.slice Ao23 t563.length co23, .int .i64 t593, .int .i64 t594] ?_; (with_reducible refine (impl_SplitStone.calls k3 _ _ t563 t593 t594 t595 t596 t597 _ ?side1 ?side2 A85.out).mono ?_); (case side1 => exact kc_ ((Kd.R_reads' HO_5.out).2.2)); (case side2 => exact (Kd.R_reads' HO_5.out).2.1); rintro e w90 ⟨v598, v600, rfl, ho0, ho1, hb⟩; refine ⟨_, rfl, ?_⟩; have HO599 := Aside0.mk (Kd.R_lower (Kd.R_new' (Kd.R_new' ho0 (Kd.R_lt (kp_ HO_5))) (Kd.R_lt (kp_ HO_6))) (below_size (kB_ HB))); have HO601 := Aside0.mk (Kd.R_lower (Kd.R_new' (Kd.R_new' ho1 (Kd.R_lt (kp_ HO_5))) (Kd.R_lt (kp_ HO_6))) (below_size (kB_ HB))); replace HO_5 := Aside0.mk (Kd.R_mono (Kd.R_told (Kd.R_told (Kd.R_old (kp_ HO_5) hb) (Kd.R_base ho0)) (Kd.R_base ho1)) (fun _ h_ => h_.1)); replace HO_6 := Aside0.mk (Kd.R_mono (Kd.R_told (Kd.R_told (Kd.R_old (kp_ HO_6) hb) (Kd.R_base ho0)) (Kd.R_base ho1)) (fun _ h_ => h_.1)); replace HB := bs_ HB hb; clear hb; (try clear ho0); (try clear ho1)) | ((with_reducible refine gate_callee (f := 15) rfl ?_); refine goM_ (some 283) Try.func15 #[.slice Ao23 t563.length co23, .int .i64 t593, .int .i64 t594] ?_; (with_reducible refine (spec_SplitStone.calls k3 _ _ t563 t593 t594 t602 t603 t604 _ ?side1 ?side2 A86.out).mono ?_); (case side1 => exact kc_ ((Kd.R_reads' HO_5.out).2.2)); (case side2 => exact (Kd.R_reads' HO_5.out).2.1); rintro e w91 ⟨v605, v607, rfl, ho0, ho1, hb⟩; refine ⟨_, rfl, ?_⟩; have HO606 := Aside0.mk (Kd.R_lower (Kd.R_new' (Kd.R_new' (Kd.R_new' (Kd.R_new' ho0 (Kd.R_lt (kp_ HO_5))) (Kd.R_lt (kp_ HO_6))) (Kd.R_lt (kp_ HO599))) (Kd.R_lt (kp_ HO601))) (below_size (kB_ HB))); have HO608 := Aside0.mk (Kd.R_lower (Kd.R_new' (Kd.R_new' (Kd.R_new' (Kd.R_new' ho1 (Kd.R_lt (kp_ HO_5))) (Kd.R_lt (kp_ HO_6))) (Kd.R_lt (kp_ HO599))) (Kd.R_lt (kp_ HO601))) (below_size (kB_ HB))); replace HO_5 := Aside0.mk (Kd.R_mono (Kd.R_told (Kd.R_told (Kd.R_old (kp_ HO_5) hb) (Kd.R_base ho0)) (Kd.R_base ho1)) (fun _ h_ => h_.1)); replace HO_6 := Aside0.mk (Kd.R_mono (Kd.R_told (Kd.R_told (Kd.R_old (kp_ HO_6) hb) (Kd.R_base ho0)) (Kd.R_base ho1)) (fun _ h_ => h_.1)); replace HO599 := Aside0.mk (Kd.R_mono (Kd.R_told (Kd.R_told (Kd.R_old (kp_ HO599) hb) (Kd.R_base ho0)) (Kd.R_base ho1)) (fun _ h_ => h_.1)); replace HO601 := Aside0.mk (Kd.R_mono (Kd.R_told (Kd.R_told (Kd.R_old (kp_ HO601) hb) (Kd.R_base ho0)) (Kd.R_base ho1)) (fun _ h_ => h_.1)); replace HB := bs_ HB hb; clear hb; (try clear ho0); (try clear ho1)))
     (try simp only [Act.put, List.setIfInBounds_toArray, List.set_cons_zero, List.set_cons_succ])
     go_cut [309] (fun v309 wc => ∃ (kq : Nat) (x309_86 : Bool), v309 = .bool x309_86 ∧ Aside0 (laws_FnStonePairs.j3 kq t563 (t563.length : Int) t593 t594 t597 t602 t603 x309_86 = some r) ∧ Aside0 (kq ≤ k3) ∧ Aside0 (Kd.R k34 34 wc w.heap.size (fun k_ => some k_ ≠ (v605 : Value).ownBlock ∧ some k_ ≠ (v607 : Value).ownBlock) (.slice Ao23 t563.length co23) t563) ∧ Aside0 (Kd.R k34 34 wc w.heap.size (fun k_ => some k_ ≠ ((.slice Ao23 t563.length co23) : Value).ownBlock ∧ some k_ ≠ (v607 : Value).ownBlock) v605 t602) ∧ Aside0 (Kd.R k34 34 wc w.heap.size (fun k_ => some k_ ≠ ((.slice Ao23 t563.length co23) : Value).ownBlock ∧ some k_ ≠ (v605 : Value).ownBlock) v607 t603) ∧ Aside0 (Below w.heap.size w wc))
     case first => as_aux_lemma =>
      have H := HC87.out
      clear HC87
      obtain ⟨c92b0, c92b1, H⟩ := gy_ H
      (first | rw [c92b0] | (simp only [i64_w, i32_w]; rw [c92b0]) | skip)
      obtain ⟨t609, A93, H⟩ := be_ H
      (try dsimp only at H)
      rcases (Decidable.em (t609 = true)).symm with c94 | c94
      ·
       replace c94 := Bool.eq_false_iff.mpr c94
       subst c94
       have H1 := gf_ H
       exact absurd H1 (by simp)
      subst c94
      replace H := gt_ H
      obtain ⟨t610, A95, H⟩ := be_ H
      (try dsimp only at H)
      rcases (Decidable.em (t610 = true)).symm with c96 | c96
      ·
       replace c96 := Bool.eq_false_iff.mpr c96
       subst c96
       have H1 := gf_ H
       exact absurd H1 (by simp)
      subst c96
      replace H := gt_ H
      rcases (Decidable.em (t597 = 0)).symm with c97 | c97
      ·
       rw [if_neg c97] at H
       have c97b0 : (t597 == 0) = false := beq_eq_false_iff_ne.mpr c97
       have c97b1 : (t597 != 0) = true := bne_iff_ne.mpr c97
       have H' := Aside0.mk H
       clear H
       obtain ⟨Ao102, co102, eo102⟩ := Kd.R_slice HO599.out
       subst eo102
       obtain ⟨Ao103, co103, eo103⟩ := Kd.R_slice HO606.out
       subst eo103
       as_aux_lemma =>
        go_wp2_with (first | (go_at_call 16; (with_reducible refine (spec_SameStone.calls k3 _ _ t595 _ _ t602 true _ ?side1 ?side2 ?side3 ?side4 A93.out).mono ?_); (case side1 => exact kc_ ((Kd.R_reads' HO599.out).2.2)); (case side2 => exact (Kd.R_reads' HO599.out).2.1); (case side3 => exact kc_ ((Kd.R_reads' HO606.out).2.2)); (case side4 => exact (Kd.R_reads' HO606.out).2.1); rintro e w' ⟨rfl, ⟨nd, rfl⟩⟩; obtain ⟨Ao104, co104, eo104⟩ := Kd.R_slice HO601.out; subst eo104; obtain ⟨Ao105, co105, eo105⟩ := Kd.R_slice HO608.out; subst eo105) | (go_at_call 16; (with_reducible refine (spec_SameStone.calls k3 _ _ t596 _ _ t603 true _ ?side1 ?side2 ?side3 ?side4 A95.out).mono ?_); (case side1 => exact kc_ ((Kd.R_reads' HO601.out).2.2)); (case side2 => exact (Kd.R_reads' HO601.out).2.1); (case side3 => exact kc_ ((Kd.R_reads' HO608.out).2.2)); (case side4 => exact (Kd.R_reads' HO608.out).2.1); rintro e w' ⟨rfl, ⟨nd, rfl⟩⟩))
        go_meet
        case rel => exact ⟨_, ((t597 != 4)), (by first | rfl | (simp; done) | (simp [*]; done)), H', ⟨by have := HJ2.out; have := HJ19.out; have := HK3.out; first | omega | exact Nat.le_refl _⟩, ⟨by (with_reducible repeat (first | apply Kd.R_alloc | apply Kd.R_drewN | apply Kd.R_drew)); exact Kd.R_mono HO_5.out (fun _ hk => ⟨hk.1.2, hk.2⟩)⟩, ⟨by (with_reducible repeat (first | apply Kd.R_alloc | apply Kd.R_drewN | apply Kd.R_drew)); exact Kd.R_mono HO606.out (fun _ hk => ⟨hk.1.1.1.2, hk.1.1.1.1⟩)⟩, ⟨by (with_reducible repeat (first | apply Kd.R_alloc | apply Kd.R_drewN | apply Kd.R_drew)); exact Kd.R_mono HO608.out (fun _ hk => ⟨hk.1.1.1.2, hk.1.1.1.1⟩)⟩, ⟨bl_ HB⟩⟩
      rw [if_pos c97] at H
      have c97b0 : (t597 == 0) = true := beq_iff_eq.mpr c97
      have c97b1 : (t597 != 0) = false := bne_eq_false_iff_eq.mpr c97
      clear c97
      have H' := Aside0.mk H
      clear H
      obtain ⟨Ao98, co98, eo98⟩ := Kd.R_slice HO599.out
      subst eo98
      obtain ⟨Ao99, co99, eo99⟩ := Kd.R_slice HO606.out
      subst eo99
      as_aux_lemma =>
       go_wp2_with (first | (go_at_call 16; (with_reducible refine (spec_SameStone.calls k3 _ _ t595 _ _ t602 true _ ?side1 ?side2 ?side3 ?side4 A93.out).mono ?_); (case side1 => exact kc_ ((Kd.R_reads' HO599.out).2.2)); (case side2 => exact (Kd.R_reads' HO599.out).2.1); (case side3 => exact kc_ ((Kd.R_reads' HO606.out).2.2)); (case side4 => exact (Kd.R_reads' HO606.out).2.1); rintro e w' ⟨rfl, ⟨nd, rfl⟩⟩; obtain ⟨Ao100, co100, eo100⟩ := Kd.R_slice HO601.out; subst eo100; obtain ⟨Ao101, co101, eo101⟩ := Kd.R_slice HO608.out; subst eo101) | (go_at_call 16; (with_reducible refine (spec_SameStone.calls k3 _ _ t596 _ _ t603 true _ ?side1 ?side2 ?side3 ?side4 A95.out).mono ?_); (case side1 => exact kc_ ((Kd.R_reads' HO601.out).2.2)); (case side2 => exact (Kd.R_reads' HO601.out).2.1); (case side3 => exact kc_ ((Kd.R_reads' HO608.out).2.2)); (case side4 => exact (Kd.R_reads' HO608.out).2.1); rintro e w' ⟨rfl, ⟨nd, rfl⟩⟩))
       go_meet
       case rel => exact ⟨_, (false), (by first | rfl | (simp; done) | (simp [*]; done)), H', ⟨by have := HJ2.out; have := HJ19.out; have := HK3.out; first | omega | exact Nat.le_refl _⟩, ⟨by (with_reducible repeat (first | apply Kd.R_alloc | apply Kd.R_drewN | apply Kd.R_drew)); exact Kd.R_mono HO_5.out (fun _ hk => ⟨hk.1.2, hk.2⟩)⟩, ⟨by (with_reducible repeat (first | apply Kd.R_alloc | apply Kd.R_drewN | apply Kd.R_drew)); exact Kd.R_mono HO606.out (fun _ hk => ⟨hk.1.1.1.2, hk.1.1.1.1⟩)⟩, ⟨by (with_reducible repeat (first | apply Kd.R_alloc | apply Kd.R_drewN | apply Kd.R_drew)); exact Kd.R_mono HO608.out (fun _ hk => ⟨hk.1.1.1.2, hk.1.1.1.1⟩)⟩, ⟨bl_ HB⟩⟩
     case rest => as_aux_lemma =>
      clear HC87
      obtain ⟨kq, x309_86, rfl, HA, HJ86, HO_5, HO_36, HO_37, HB⟩ := hcut
      rcases kq with _ | kj86
      · exact absurd HA.out (by simp [laws_FnStonePairs.j3])
      have H := HA.out
      clear HA
      simp only [laws_FnStonePairs.j3] at H
      by_cases c112 : x309_86 = true
      ·
       subst c112
       have H1 := gt_ H
       exact absurd H1 (by simp)
      replace c112 := Bool.eq_false_iff.mpr c112
      subst c112
      replace H := gf_ H
      rcases (Decidable.em (t597 = 0)).symm with c113 | c113
      ·
       rw [if_neg c113] at H
       have c113b0 : (t597 == 0) = false := beq_eq_false_iff_ne.mpr c113
       have c113b1 : (t597 != 0) = true := bne_iff_ne.mpr c113
       by_cases c167 : t593 = t594
       ·
        rw [if_pos c167] at H
        have c167b0 : (t593 == t594) = true := beq_iff_eq.mpr c167
        have c167b1 : (t593 != t594) = false := bne_eq_false_iff_eq.mpr c167
        clear c167
        obtain rfl := Option.some.inj H
        as_aux_lemma =>
         go_wp2
         go_ret
         exact ⟨rt_, bl_ HB⟩
       rw [if_neg c167] at H
       have c167b0 : (t593 == t594) = false := beq_eq_false_iff_ne.mpr c167
       have c167b1 : (t593 != t594) = true := bne_iff_ne.mpr c167
       by_cases c168 : (t563.length : Int) = 0
       ·
        rw [if_pos c168] at H
        exact absurd H (by simp)
       rw [if_neg c168] at H
       have c168b0 : ((t563.length : Int) == 0) = false := beq_eq_false_iff_ne.mpr c168
       have c168b1 : ((t563.length : Int) != 0) = true := bne_iff_ne.mpr c168
       have c168b2 : ¬ (t563 = []) := fun h_ => c168 (by rw [h_]; rfl)
       by_cases c169 : (Int.tmod (wrap64 (t593 + 1)) (t563.length : Int)) = t594
       ·
        rw [if_pos c169] at H
        have c169b0 : ((Int.tmod (wrap64 (t593 + 1)) (t563.length : Int)) == t594) = true := beq_iff_eq.mpr c169
        have c169b1 : ((Int.tmod (wrap64 (t593 + 1)) (t563.length : Int)) != t594) = false := bne_eq_false_iff_eq.mpr c169
        clear c169
        obtain rfl := Option.some.inj H
        as_aux_lemma =>
         go_wp2
         go_ret
         exact ⟨rt_, bl_ HB⟩
       ·
        rw [if_neg c169] at H
        have c169b0 : ((Int.tmod (wrap64 (t593 + 1)) (t563.length : Int)) == t594) = false := beq_eq_false_iff_ne.mpr c169
        have c169b1 : ((Int.tmod (wrap64 (t593 + 1)) (t563.length : Int)) != t594) = true := bne_iff_ne.mpr c169
        obtain rfl := Option.some.inj H
        as_aux_lemma =>
         go_wp2
         go_ret
         exact ⟨rt_, bl_ HB⟩

      rw [if_pos c113] at H
      have c113b0 : (t597 == 0) = true := beq_iff_eq.mpr c113
      have c113b1 : (t597 != 0) = false := bne_eq_false_iff_eq.mpr c113
      clear c113
      obtain ⟨⟨t611, t612⟩, A114, H⟩ := be_ H
      (try dsimp only at H)
      obtain ⟨⟨t613, t614⟩, A115, H⟩ := be_ H
      (try dsimp only at H)
      obtain ⟨⟨t615, t616⟩, A116, H⟩ := be_ H
      (try dsimp only at H)
      obtain ⟨⟨t617, t618⟩, A117, H⟩ := be_ H
      (try dsimp only at H)
      obtain ⟨⟨t619, t620⟩, A118, H⟩ := be_ H
      (try dsimp only at H)
      obtain ⟨c119b0, H⟩ := gx_ H
      obtain ⟨c120b0, H⟩ := gx_ H
      obtain ⟨c121b0, H⟩ := gx_ H
      obtain ⟨c122b0, H⟩ := gx_ H
      obtain ⟨⟨t625, t626⟩, A123, H⟩ := be_ H
      (try dsimp only at H)
      obtain ⟨⟨t629, t632⟩, A124, H⟩ := be_ H
      (try dsimp only at H)
      have HC125 := Aside0.mk H
      clear H
      obtain ⟨Ao126, co126, eo126⟩ := Kd.R_slice HO_36.out
      subst eo126
      try go_wp2_with (first | ((with_reducible refine gate_callee (f := 17) rfl ?_); refine goM_ (some 333) Try.func17 #[.slice Ao126 t602.length co126] ?_; (with_reducible refine (impl_AreaTwice.calls kj86 _ _ t602 t611 t612 _ ?side1 ?side2 A114.out).mono ?_); (case side1 => exact kc_ ((Kd.R_reads' HO_36.out).2.2)); (case side2 => exact (Kd.R_reads' HO_36.out).2.1); rintro e w127 ⟨rfl, hb⟩; refine ⟨_, rfl, ?_⟩; replace HO_5 := Aside0.mk (Kd.R_below (kp_ HO_5) hb); replace HO_36 := Aside0.mk (Kd.R_below (kp_ HO_36) hb); replace HO_37 := Aside0.mk (Kd.R_below (kp_ HO_37) hb); replace HB := bs_ HB hb; clear hb; obtain ⟨Ao128, co128, eo128⟩ := Kd.R_slice HO_37.out; subst eo128) | ((with_reducible refine gate_callee (f := 17) rfl ?_); refine goM_ (some 338) Try.func17 #[.slice Ao128 t603.length co128] ?_; (with_reducible refine (impl_AreaTwice.calls kj86 _ _ t603 t613 t614 _ ?side1 ?side2 A115.out).mono ?_); (case side1 => exact kc_ ((Kd.R_reads' HO_37.out).2.2)); (case side2 => exact (Kd.R_reads' HO_37.out).2.1); rintro e w129 ⟨rfl, hb⟩; refine ⟨_, rfl, ?_⟩; replace HO_5 := Aside0.mk (Kd.R_below (kp_ HO_5) hb); replace HO_36 := Aside0.mk (Kd.R_below (kp_ HO_36) hb); replace HO_37 := Aside0.mk (Kd.R_below (kp_ HO_37) hb); replace HB := bs_ HB hb; clear hb) | ((with_reducible refine gate_callee (f := 18) rfl ?_); refine goM_ (some 343) Try.func18 #[.slice Ao23 t563.length co23] ?_; (with_reducible refine (spec_AreaTwice.calls kj86 _ _ t563 t615 t616 _ ?side1 ?side2 A116.out).mono ?_); (case side1 => exact kc_ ((Kd.R_reads' HO_5.out).2.2)); (case side2 => exact (Kd.R_reads' HO_5.out).2.1); rintro e w130 ⟨rfl, hb⟩; refine ⟨_, rfl, ?_⟩; replace HO_5 := Aside0.mk (Kd.R_below (kp_ HO_5) hb); replace HO_36 := Aside0.mk (Kd.R_below (kp_ HO_36) hb); replace HO_37 := Aside0.mk (Kd.R_below (kp_ HO_37) hb); replace HB := bs_ HB hb; clear hb) | ((with_reducible refine gate_callee (f := 8) rfl ?_); refine goM_ (some 349) Try.func8 #[.slice Ao126 t602.length co126, .slice Ao128 t603.length co128] ?_; (with_reducible refine (impl_DoTouch.calls kj86 _ _ t602 _ _ t603 t617 t618 _ ?side1 ?side2 ?side3 ?side4 A117.out).mono ?_); (case side1 => exact kc_ ((Kd.R_reads' HO_36.out).2.2)); (case side2 => exact (Kd.R_reads' HO_36.out).2.1); (case side3 => exact kc_ ((Kd.R_reads' HO_37.out).2.2)); (case side4 => exact (Kd.R_reads' HO_37.out).2.1); rintro e w131 ⟨rfl, hb⟩; refine ⟨_, rfl, ?_⟩; replace HO_5 := Aside0.mk (Kd.R_below (kp_ HO_5) hb); replace HO_36 := Aside0.mk (Kd.R_below (kp_ HO_36) hb); replace HO_37 := Aside0.mk (Kd.R_below (kp_ HO_37) hb); replace HB := bs_ HB hb; clear hb) | ((with_reducible refine gate_callee (f := 10) rfl ?_); refine goM_ (some 355) Try.func10 #[.slice Ao126 t602.length co126, .slice Ao128 t603.length co128] ?_; (with_reducible refine (impl_SeamSquare.calls kj86 _ _ t602 _ _ t603 t619 t620 _ ?side1 ?side2 ?side3 ?side4 A118.out).mono ?_); (case side1 => exact kc_ ((Kd.R_reads' HO_36.out).2.2)); (case side2 => exact (Kd.R_reads' HO_36.out).2.1); (case side3 => exact kc_ ((Kd.R_reads' HO_37.out).2.2)); (case side4 => exact (Kd.R_reads' HO_37.out).2.1); rintro e w132 ⟨rfl, hb⟩; refine ⟨_, rfl, ?_⟩; replace HO_5 := Aside0.mk (Kd.R_below (kp_ HO_5) hb); replace HO_36 := Aside0.mk (Kd.R_below (kp_ HO_36) hb); replace HO_37 := Aside0.mk (Kd.R_below (kp_ HO_37) hb); replace HB := bs_ HB hb; clear hb))
      have n0_ := Aside0.mk (Kd.R_drew HO_5.out)
      have n1_ := Aside0.mk (Kd.R_drew HO_36.out)
      have n2_ := Aside0.mk (Kd.R_drew HO_37.out)
      have n3_ := Aside0.mk (below_drew1 HB.out)
      clear HO_5
      clear HO_36
      clear HO_37
      clear HB
      have HO_5 := n0_
      have HO_36 := n1_
      have HO_37 := n2_
      have HB := n3_
      clear n0_ n1_ n2_ n3_
      have p621 : 0 ≤ (t593 : Int) := od_
      have q621 : t593 < (t563.length : Int) := od_
      obtain ⟨ad621, e621, hx621_0, hx621_1⟩ := at_T34 (Kd.R_reads' HO_5.out).2.2 t593 p621 q621
      cases e621
      replace p621 := eq_true p621
      replace q621 := eq_true q621
      have p622 : 0 ≤ (t594 : Int) := od_
      have q622 : t594 < (t563.length : Int) := od_
      obtain ⟨ad622, e622, hx622_0, hx622_1⟩ := at_T34 (Kd.R_reads' HO_5.out).2.2 t594 p622 q622
      obtain rfl : ad621 = ad622 := (by injection e622)
      replace p622 := eq_true p622
      replace q622 := eq_true q622
      refine start_ (n := 14) (S := fun w' => w'.cell? (ad621.add ((t593).toNat * 2)) = some (.int .i16 ((rd_T34 t563 t593).f0)) ∧ w'.cell? ⟨(ad621.add ((t593).toNat * 2)).block, (ad621.add ((t593).toNat * 2)).off + 1, none⟩ = some (.int .i16 ((rd_T34 t563 t593).f1)) ∧ w'.cell? (ad621.add ((t594).toNat * 2)) = some (.int .i16 ((rd_T34 t563 t594).f0)) ∧ w'.cell? ⟨(ad621.add ((t594).toNat * 2)).block, (ad621.add ((t594).toNat * 2)).off + 1, none⟩ = some (.int .i16 ((rd_T34 t563 t594).f1))) (ds := []) #[false, false, false, false, false, false, false, false, false, false, false, false, false, false] (by kernel_rfl) rfl rfl ⟨hx621_0, hx621_1, hx622_0, hx622_1⟩ (fun hHeld => ?_); refine with_tabW laws_FnStonePairs.tab37 laws_FnStonePairs.bits37 (fun HT_ HW_ => ?_)
      generalize w132.drew = w133 at HO_5 HO_36 HO_37 HB hx621_0 hx621_1 hx622_0 hx622_1 hHeld ⊢
      refine pu_ 0 358 (lA 14 1) ?_ ?_ HT_ ?_
      refine pu_ 1 359 (lA 14 3) ?_ ?_ HT_ ?_
      refine pu_ 2 360 (lA 14 7) ?_ ?_ HT_ ?_
      refine pu_ 3 361 (lA 14 15) ?_ ?_ HT_ ?_
      refine pu_ 6 364 (lA 14 79) ?_ ?_ HT_ ?_
      refine pu_ 7 365 (lA 14 207) ?_ ?_ HT_ ?_
      refine pu_ 8 366 (lA 14 463) ?_ ?_ HT_ ?_
      refine pu_ 9 367 (lA 14 975) ?_ ?_ HT_ ?_
      refine tk_ 4 362 (lA 14 991) ?_ ?_ HT_ HW_ hHeld ?_
      refine pu_ 5 363 (lA 14 1023) ?_ ?_ HT_ ?_
      refine tk_ 10 368 (lA 14 2047) ?_ ?_ HT_ HW_ hHeld ?_
      refine pu_ 11 369 (lA 14 4095) ?_ ?_ HT_ ?_
      refine pu_ 12 370 (lA 14 8191) ?_ ?_ HT_ ?_
      refine pu_ 13 49 (lA 14 16383) ?_ ?_ HT_ ?_
      refine done_ (done_of HT_.out (by kernel_rfl)) ?_
      try go_wp2
      have n0_ := Aside0.mk (Kd.R_drew HO_5.out)
      have n1_ := Aside0.mk (Kd.R_drew HO_36.out)
      have n2_ := Aside0.mk (Kd.R_drew HO_37.out)
      have n3_ := Aside0.mk (below_drew1 HB.out)
      clear HO_5
      clear HO_36
      clear HO_37
      clear HB
      have HO_5 := n0_
      have HO_36 := n1_
      have HO_37 := n2_
      have HB := n3_
      clear n0_ n1_ n2_ n3_
      have p623 : 0 ≤ (t593 : Int) := od_
      have q623 : t593 < (t563.length : Int) := od_
      obtain ⟨ad623, e623, hx623_0, hx623_1⟩ := at_T34 (Kd.R_reads' HO_5.out).2.2 t593 p623 q623
      obtain rfl : ad621 = ad623 := (by injection e623)
      replace p623 := eq_true p623
      replace q623 := eq_true q623
      have p624 : 0 ≤ (t594 : Int) := od_
      have q624 : t594 < (t563.length : Int) := od_
      obtain ⟨ad624, e624, hx624_0, hx624_1⟩ := at_T34 (Kd.R_reads' HO_5.out).2.2 t594 p624 q624
      obtain rfl : ad621 = ad624 := (by injection e624)
      replace p624 := eq_true p624
      replace q624 := eq_true q624
      refine start_ (n := 14) (S := fun w' => w'.cell? (ad621.add ((t593).toNat * 2)) = some (.int .i16 ((rd_T34 t563 t593).f0)) ∧ w'.cell? ⟨(ad621.add ((t593).toNat * 2)).block, (ad621.add ((t593).toNat * 2)).off + 1, none⟩ = some (.int .i16 ((rd_T34 t563 t593).f1)) ∧ w'.cell? (ad621.add ((t594).toNat * 2)) = some (.int .i16 ((rd_T34 t563 t594).f0)) ∧ w'.cell? ⟨(ad621.add ((t594).toNat * 2)).block, (ad621.add ((t594).toNat * 2)).off + 1, none⟩ = some (.int .i16 ((rd_T34 t563 t594).f1))) (ds := []) #[false, false, false, false, false, false, false, false, false, false, false, false, false, false] (by kernel_rfl) rfl rfl ⟨hx623_0, hx623_1, hx624_0, hx624_1⟩ (fun hHeld => ?_); refine with_tabW laws_FnStonePairs.tab38 laws_FnStonePairs.bits38 (fun HT_ HW_ => ?_)
      generalize w133.drew = w134 at HO_5 HO_36 HO_37 HB hx623_0 hx623_1 hx624_0 hx624_1 hHeld ⊢
      refine pu_ 0 371 (lA 14 1) ?_ ?_ HT_ ?_
      refine pu_ 1 372 (lA 14 3) ?_ ?_ HT_ ?_
      refine pu_ 2 373 (lA 14 7) ?_ ?_ HT_ ?_
      refine pu_ 3 374 (lA 14 15) ?_ ?_ HT_ ?_
      refine pu_ 6 377 (lA 14 79) ?_ ?_ HT_ ?_
      refine pu_ 7 378 (lA 14 207) ?_ ?_ HT_ ?_
      refine pu_ 8 379 (lA 14 463) ?_ ?_ HT_ ?_
      refine pu_ 9 380 (lA 14 975) ?_ ?_ HT_ ?_
      refine tk_ 4 375 (lA 14 991) ?_ ?_ HT_ HW_ hHeld ?_
      refine pu_ 5 376 (lA 14 1023) ?_ ?_ HT_ ?_
      refine tk_ 10 381 (lA 14 2047) ?_ ?_ HT_ HW_ hHeld ?_
      refine pu_ 11 382 (lA 14 4095) ?_ ?_ HT_ ?_
      refine pu_ 12 383 (lA 14 8191) ?_ ?_ HT_ ?_
      refine pu_ 13 50 (lA 14 16383) ?_ ?_ HT_ ?_
      refine done_ (done_of HT_.out (by kernel_rfl)) ?_
      go_upto_region 41 with (first | ((with_reducible refine gate_callee (f := 19) rfl ?_); refine goM_ (some 387) Try.func19 #[.slice Ao126 t602.length co126, .slice Ao128 t603.length co128] ?_; (with_reducible refine (impl_JoinStones.calls kj86 _ _ t602 _ _ t603 t625 t626 _ ?side1 ?side2 ?side3 ?side4 A123.out).mono ?_); (case side1 => exact kc_ ((Kd.R_reads' HO_36.out).2.2)); (case side2 => exact (Kd.R_reads' HO_36.out).2.1); (case side3 => exact kc_ ((Kd.R_reads' HO_37.out).2.2)); (case side4 => exact (Kd.R_reads' HO_37.out).2.1); rintro e w135 ⟨v627, rfl, ho0, hb⟩; refine ⟨_, rfl, ?_⟩; have HO628 := Aside0.mk (Kd.R_lower (Kd.R_new' (Kd.R_new' (Kd.R_new' ho0 (Kd.R_lt (kp_ HO_5))) (Kd.R_lt (kp_ HO_36))) (Kd.R_lt (kp_ HO_37))) (below_size (kB_ HB))); replace HO_5 := Aside0.mk (Kd.R_elder' (kp_ HO_5) (Kd.R_base ho0) hb); replace HO_36 := Aside0.mk (Kd.R_elder' (kp_ HO_36) (Kd.R_base ho0) hb); replace HO_37 := Aside0.mk (Kd.R_elder' (kp_ HO_37) (Kd.R_base ho0) hb); replace HB := bs_ HB hb; clear hb; (try clear ho0)) | ((with_reducible refine gate_callee (f := 20) rfl ?_); refine goM_ (some 393) Try.func20 #[.slice Ao126 t602.length co126, .slice Ao128 t603.length co128] ?_; (with_reducible refine (spec_JoinStones.calls kj86 _ _ t602 _ _ t603 t629 t632 _ ?side1 ?side2 ?side3 ?side4 A124.out).mono ?_); (case side1 => exact kc_ ((Kd.R_reads' HO_36.out).2.2)); (case side2 => exact (Kd.R_reads' HO_36.out).2.1); (case side3 => exact kc_ ((Kd.R_reads' HO_37.out).2.2)); (case side4 => exact (Kd.R_reads' HO_37.out).2.1); rintro e w136 ⟨v630, rfl, ho0, hb⟩; refine ⟨_, rfl, ?_⟩; have HO631 := Aside0.mk (Kd.V_lower (Kd.V_mono (ok' := fun k_ => some k_ ≠ (.slice (some ad621) t563.length co23 : Value).ownBlock ∧ some k_ ≠ (.slice Ao126 t602.length co126 : Value).ownBlock ∧ some k_ ≠ (.slice Ao128 t603.length co128 : Value).ownBlock ∧ some k_ ≠ (v627 : Value).ownBlock) ho0 (fun k_ hk_ => ⟨(Kd.fresh' (Kd.R_lt (kp_ HO_5)) k_ hk_), (Kd.fresh' (Kd.R_lt (kp_ HO_36)) k_ hk_), (Kd.fresh' (Kd.R_lt (kp_ HO_37)) k_ hk_), (Kd.fresh' (Kd.R_lt (kp_ HO628)) k_ hk_)⟩)) (below_size (kB_ HB))); replace HO_5 := Aside0.mk (Kd.R_below (kp_ HO_5) hb); replace HO_36 := Aside0.mk (Kd.R_below (kp_ HO_36) hb); replace HO_37 := Aside0.mk (Kd.R_below (kp_ HO_37) hb); replace HO628 := Aside0.mk (Kd.R_below (kp_ HO628) hb); replace HB := bs_ HB hb; clear hb; (try clear ho0)))
      (try simp only [Act.put, List.setIfInBounds_toArray, List.set_cons_zero, List.set_cons_succ])
      go_cut [450] (fun v450 wc => ∃ (kq : Nat) (x450_124 : Bool), v450 = .bool x450_124 ∧ Aside0 (laws_FnStonePairs.j4 kq t563 t629 x450_124 = some r) ∧ Aside0 (kq ≤ kj86) ∧ Aside0 (Kd.R k34 34 wc w.heap.size (fun _ => True) (.slice (some ad621) t563.length co23) t563) ∧ Aside0 (Kd.V k34 34 wc w.heap.size (fun k_ => some k_ ≠ ((.slice (some ad621) t563.length co23) : Value).ownBlock) v630 t629) ∧ Aside0 (Below w.heap.size w wc))
      case first => as_aux_lemma =>
       have H := HC125.out
       clear HC125
       obtain ⟨c137b0, c137b1, H⟩ := gy_ H
       (first | rw [c137b0] | (simp only [i64_w, i32_w]; rw [c137b0]) | skip)
       obtain ⟨c138b0, c138b1, H⟩ := gy_ H
       obtain ⟨c139b0, c139b1, H⟩ := gy_ H
       obtain ⟨c140b0, c140b1, H⟩ := gy_ H
       obtain ⟨c141b0, c141b1, H⟩ := gy_ H
       rcases (Decidable.em (t617 = true)).symm with c142 | c142
       ·
        replace c142 := Bool.eq_false_iff.mpr c142
        subst c142
        have H1 := gf_ H
        exact absurd H1 (by simp)
       subst c142
       replace H := gt_ H
       obtain ⟨c143b0, c143b1, H⟩ := gy_ H
       obtain ⟨c144b0, c144b1, H⟩ := gy_ H
       obtain ⟨c145b0, c145b1, H⟩ := gy_ H
       obtain ⟨c146b0, c146b1, H⟩ := gy_ H
       obtain ⟨t633, A147, H⟩ := be_ H
       (try dsimp only at H)
       have H' := Aside0.mk H
       clear H
       obtain ⟨Ao148, co148, eo148⟩ := Kd.R_slice HO628.out
       subst eo148
       obtain ⟨Ao149, co149, eo149⟩ := Kd.V_slice HO631.out
       subst eo149
       as_aux_lemma =>
        go_wp2_with (first | (go_at_call 16; (with_reducible refine (spec_SameStone.calls kj86 _ _ t625 _ _ t629 t633 _ ?side1 ?side2 ?side3 ?side4 A147.out).mono ?_); (case side1 => exact kc_ ((Kd.R_reads' HO628.out).2.2)); (case side2 => exact (Kd.R_reads' HO628.out).2.1); (case side3 => repeat (first | exact (Kd.V_reads' HO631.out).2.2 | (with_reducible refine Kd.C_alloc ?_ _) | (with_reducible refine Kd.C_drewN ?_ _) | (with_reducible refine Kd.C_drew ?_))); (case side4 => exact (Kd.V_reads' HO631.out).2.1); rintro e w' ⟨rfl, ⟨nd, rfl⟩⟩))
        go_meet
        case rel => exact ⟨_, (!t633), (by first | rfl | (simp; done) | (simp [*]; done)), H', ⟨by have := HJ2.out; have := HJ19.out; have := HK3.out; have := HJ86.out; first | omega | exact Nat.le_refl _⟩, ⟨by (with_reducible repeat (first | apply Kd.R_alloc | apply Kd.R_drewN | apply Kd.R_drew)); exact Kd.R_mono HO_5.out (fun _ hk => trivial)⟩, ⟨by (with_reducible repeat (first | apply Kd.V_alloc | apply Kd.V_drewN | apply Kd.V_drew)); exact Kd.V_mono HO631.out (fun _ hk => hk.1)⟩, ⟨bl_ HB⟩⟩
      case rest => as_aux_lemma =>
       clear HC125
       obtain ⟨kq, x450_124, rfl, HA, HJ124, HO_5, HO_53, HB⟩ := hcut
       rcases kq with _ | kj124
       · exact absurd HA.out (by simp [laws_FnStonePairs.j4])
       have H := HA.out
       clear HA
       simp only [laws_FnStonePairs.j4] at H
       by_cases c150 : x450_124 = true
       ·
        subst c150
        have H1 := gt_ H
        exact absurd H1 (by simp)
       replace c150 := Bool.eq_false_iff.mpr c150
       subst c150
       replace H := gf_ H
       obtain ⟨⟨t634, t635⟩, A151, H⟩ := be_ H
       (try dsimp only at H)
       obtain ⟨⟨t638, t639⟩, A152, H⟩ := be_ H
       (try dsimp only at H)
       obtain ⟨c153b0, c153b1, H⟩ := gy_ H
       obtain ⟨c154b0, c154b1, H⟩ := gy_ H
       obtain ⟨t642, A155, H⟩ := be_ H
       (try dsimp only at H)
       obtain rfl := Option.some.inj H
       obtain ⟨Ao156, co156, eo156⟩ := Kd.V_slice HO_53.out
       subst eo156
       as_aux_lemma =>
        go_wp2_with (first | ((with_reducible refine gate_callee (f := 21) rfl ?_); refine goM_ (some 453) Try.func21 #[.slice Ao156 t629.length co156] ?_; (with_reducible refine (impl_FirstStone.calls kj124 _ _ t629 t634 t635 _ ?side1 ?side2 A151.out).mono ?_); (case side1 => repeat (first | exact (Kd.V_reads' HO_53.out).2.2 | (with_reducible refine Kd.C_alloc ?_ _) | (with_reducible refine Kd.C_drewN ?_ _) | (with_reducible refine Kd.C_drew ?_))); (case side2 => exact (Kd.V_reads' HO_53.out).2.1); rintro e w157 ⟨v636, rfl, ho0, hb⟩; refine ⟨_, rfl, ?_⟩; replace HO_53 := Aside0.mk (Kd.V_elder' (by (with_reducible repeat (first | apply Kd.V_alloc | apply Kd.V_drewN | apply Kd.V_drew)); exact HO_53.out) (Kd.R_base ho0) hb); have HO637 := Aside0.mk (Kd.R_lower (Kd.R_new' ho0 (Kd.R_lt (kp_ HO_5))) (below_size (kB_ HB))); replace HO_5 := Aside0.mk (Kd.R_elder' (kp_ HO_5) (Kd.R_base ho0) hb); replace HB := bs_ HB hb; clear hb; (try clear ho0)) | ((with_reducible refine gate_callee (f := 21) rfl ?_); refine goM_ (some 458) Try.func21 #[.slice (some ad621) t563.length co23] ?_; (with_reducible refine (impl_FirstStone.calls kj124 _ _ t563 t638 t639 _ ?side1 ?side2 A152.out).mono ?_); (case side1 => exact kc_ ((Kd.R_reads' HO_5.out).2.2)); (case side2 => exact (Kd.R_reads' HO_5.out).2.1); rintro e w158 ⟨v640, rfl, ho0, hb⟩; refine ⟨_, rfl, ?_⟩; replace HO_53 := Aside0.mk (Kd.V_elder' (by (with_reducible repeat (first | apply Kd.V_alloc | apply Kd.V_drewN | apply Kd.V_drew)); exact HO_53.out) (Kd.R_base ho0) hb); have HO641 := Aside0.mk (Kd.R_lower (Kd.R_new' (Kd.R_new' ho0 (Kd.R_lt (kp_ HO_5))) (Kd.R_lt (kp_ HO637))) (below_size (kB_ HB))); replace HO_5 := Aside0.mk (Kd.R_elder' (kp_ HO_5) (Kd.R_base ho0) hb); replace HO637 := Aside0.mk (Kd.R_elder' (kp_ HO637) (Kd.R_base ho0) hb); replace HB := bs_ HB hb; clear hb; (try clear ho0); obtain ⟨Ao159, co159, eo159⟩ := Kd.R_slice HO637.out; subst eo159; obtain ⟨Ao160, co160, eo160⟩ := Kd.R_slice HO641.out; subst eo160) | (go_at_call 16; (with_reducible refine (spec_SameStone.calls kj124 _ _ t634 _ _ t638 t642 _ ?side1 ?side2 ?side3 ?side4 A155.out).mono ?_); (case side1 => exact kc_ ((Kd.R_reads' HO637.out).2.2)); (case side2 => exact (Kd.R_reads' HO637.out).2.1); (case side3 => exact kc_ ((Kd.R_reads' HO641.out).2.2)); (case side4 => exact (Kd.R_reads' HO641.out).2.1); rintro e w' ⟨rfl, ⟨nd, rfl⟩⟩))
        go_ret
        exact ⟨rt_, bl_ HB⟩
    rw [if_pos c57] at H
    have c57b0 : decide (x27_3 < (t566.length : Int)) = true := decide_eq_true c57
    clear c57
    obtain ⟨c58b0, H⟩ := gx_ H
    obtain ⟨⟨t591, t592⟩, A59, H⟩ := be_ H
    (try dsimp only at H)
    obtain ⟨c60b0, c60b1, H⟩ := gy_ H
    by_cases c61 : t591 = 2
    ·
     rw [if_pos c61] at H
     have c61b0 : (t591 == 2) = true := beq_iff_eq.mpr c61
     have c61b1 : (t591 != 2) = false := bne_eq_false_iff_eq.mpr c61
     clear c61
     rcases (Decidable.em (t571 = true)).symm with c62 | c62
     ·
      replace c62 := Bool.eq_false_iff.mpr c62
      subst c62
      have H1 := gf_ H
      exact absurd H1 (by simp)
     subst c62
     replace H := gt_ H
     rcases (Decidable.em (t591 = 1)).symm with c63 | c63
     ·
      rw [if_neg c63] at H
      have c63b0 : (t591 == 1) = false := beq_eq_false_iff_ne.mpr c63
      have c63b1 : (t591 != 1) = true := bne_iff_ne.mpr c63
      have H' := Aside0.mk H
      clear H
      try go_wp2
      have n0_ := Aside0.mk (Kd.R_drew HO_5.out)
      have n1_ := Aside0.mk (Kd.R_drew HO_6.out)
      have n2_ := Aside0.mk (below_drew1 HB.out)
      clear HO_5
      clear HO_6
      clear HB
      have HO_5 := n0_
      have HO_6 := n1_
      have HB := n2_
      clear n0_ n1_ n2_
      have p589 : 0 ≤ (x27_3 : Int) := od_
      have q589 : x27_3 < (t566.length : Int) := od_
      obtain ⟨ad589, e589, hx589_0, hx589_1⟩ := at_T34 (Kd.R_reads' HO_6.out).2.2 x27_3 p589 q589
      cases e589
      replace p589 := eq_true p589
      replace q589 := eq_true q589
      have p590 : 0 ≤ (x27_3 : Int) := od_
      have q590 : x27_3 < (t566.length : Int) := od_
      obtain ⟨ad590, e590, hx590_0, hx590_1⟩ := at_T34 (Kd.R_reads' HO_6.out).2.2 x27_3 p590 q590
      obtain rfl : ad589 = ad590 := (by injection e590)
      replace p590 := eq_true p590
      replace q590 := eq_true q590
      refine start_ (n := 19) (S := fun w' => w'.cell? (ad589.add ((x27_3).toNat * 2)) = some (.int .i16 ((rd_T34 t566 x27_3).f0)) ∧ w'.cell? ⟨(ad589.add ((x27_3).toNat * 2)).block, (ad589.add ((x27_3).toNat * 2)).off + 1, none⟩ = some (.int .i16 ((rd_T34 t566 x27_3).f1)) ∧ w'.cell? (ad589.add ((x27_3).toNat * 2)) = some (.int .i16 ((rd_T34 t566 x27_3).f0)) ∧ w'.cell? ⟨(ad589.add ((x27_3).toNat * 2)).block, (ad589.add ((x27_3).toNat * 2)).off + 1, none⟩ = some (.int .i16 ((rd_T34 t566 x27_3).f1))) (ds := []) #[false, false, false, false, false, false, false, false, false, false, false, false, false, false, false, false, false, false, false] (by kernel_rfl) rfl rfl ⟨hx589_0, hx589_1, hx590_0, hx590_1⟩ (fun hHeld => ?_); refine with_tabW laws_FnStonePairs.tab20 laws_FnStonePairs.bits20 (fun HT_ HW_ => ?_)
      generalize wr.drew = w66 at HO_5 HO_6 HB hx589_0 hx589_1 hx590_0 hx590_1 hHeld ⊢
      refine pu_ 0 225 (lA 19 1) ?_ ?_ HT_ ?_
      refine pu_ 1 226 (lA 19 3) ?_ ?_ HT_ ?_
      refine pu_ 2 227 (lA 19 7) ?_ ?_ HT_ ?_
      refine pu_ 3 228 (lA 19 15) ?_ ?_ HT_ ?_
      refine pu_ 4 229 (lA 19 31) ?_ ?_ HT_ ?_
      refine pu_ 7 232 (lA 19 159) ?_ ?_ HT_ ?_
      refine pu_ 8 233 (lA 19 415) ?_ ?_ HT_ ?_
      refine pu_ 9 234 (lA 19 927) ?_ ?_ HT_ ?_
      refine pu_ 10 235 (lA 19 1951) ?_ ?_ HT_ ?_
      refine tk_ 5 230 (lA 19 1983) ?_ ?_ HT_ HW_ hHeld ?_
      refine pu_ 6 231 (lA 19 2047) ?_ ?_ HT_ ?_
      refine tk_ 11 236 (lA 19 4095) ?_ ?_ HT_ HW_ hHeld ?_
      refine pu_ 12 237 (lA 19 8191) ?_ ?_ HT_ ?_
      refine one_ (i := 13) (N := some 238) #[true, true, true, true, true, true, true, true, true, true, true, true, true, true, false, false, false, false, false] rfl rfl (one_of HT_.out (by kernel_rfl)) (by decide) (fun K hK => ?_)
      refine goes_ Try.func12 (by kernel_rfl) rfl #[.slice Ao23 t563.length co23, .int .i64 (wrap64 ((rd_T34 t566 x27_3).f0)), .int .i64 (wrap64 ((rd_T34 t566 x27_3).f1))] (by rfl) rfl rfl (by (try simp only [List.map_toArray, List.map_cons, List.map_nil]); first | done | rfl | (simp only [List.length_drop, List.length_take]; rfl)) ?_
      with_reducible refine (impl_WhereIs.calls k3 _ _ t563 (wrap64 ((rd_T34 t566 x27_3).f0)) (wrap64 ((rd_T34 t566 x27_3).f1)) t591 t592 _ ?side1 ?side2 A59.out).mono ?_
      (case side1 => exact kc_ ((Kd.R_reads' HO_5.out).2.2))
      (case side2 => exact (Kd.R_reads' HO_5.out).2.1)
      rintro e w67 ⟨rfl, hb⟩
      have HS0_ := (hb.cell (World.block_lt_of_cell? _ _ (hHeld.1))).trans (hHeld.1)
      have HS1_ := (hb.cell (World.block_lt_of_cell? _ _ (hHeld.2.1))).trans (hHeld.2.1)
      have HS2_ := (hb.cell (World.block_lt_of_cell? _ _ (hHeld.2.2.1))).trans (hHeld.2.2.1)
      have HS3_ := (hb.cell (World.block_lt_of_cell? _ _ (hHeld.2.2.2))).trans (hHeld.2.2.2)
      refine ⟨_, rfl, ?_⟩
      have n0_ := Aside0.mk (Kd.R_below (kp_ HO_5) hb)
      have n1_ := Aside0.mk (Kd.R_below (kp_ HO_6) hb)
      have n2_ := bs_ HB hb
      clear HO_5
      clear HO_6
      clear HB
      have HO_5 := n0_
      have HO_6 := n1_
      have HB := n2_
      clear n0_ n1_ n2_
      refine hK.out _ _ ⟨HS0_, HS1_, HS2_, HS3_⟩ (fun hHeld => ?_)
      clear hK K
      refine norm_ (a' := ?_) ?_ ?_
      rotate_left
      ·
       show Act.put _ (some 238) _ = _
       simp only [Act.put, List.setIfInBounds_toArray, List.set_cons_zero, List.set_cons_succ, i64_w, i32_w]
       rfl
      refine pu_ 14 224 (lA 19 32767) ?_ ?_ HT_ ?_
      refine pu_ 15 239 (lA 19 65535) ?_ ?_ HT_ ?_
      refine pu_ 16 240 (lA 19 131071) ?_ ?_ HT_ ?_
      refine pu_ 17 28 (lA 19 262143) ?_ ?_ HT_ ?_
      refine pu_ 18 29 (lA 19 524287) ?_ ?_ HT_ ?_
      refine done_ (done_of HT_.out (by kernel_rfl)) ?_
      try go_wp2
      go_roundg k3
      case measure => have := HJ2.out; have := HJ19.out; have := HK3.out; omega
      case rel => exact ⟨(wrap64 (x27_3 + 1)), (by first | rfl | (simp; done) | (simp [*]; done)), H', ⟨by have := HJ2.out; have := HJ19.out; have := HK3.out; omega⟩, ⟨kp_ HO_5⟩, ⟨kp_ HO_6⟩, ⟨bl_ HB⟩⟩
     rw [if_pos c63] at H
     have c63b0 : (t591 == 1) = true := beq_iff_eq.mpr c63
     have c63b1 : (t591 != 1) = false := bne_eq_false_iff_eq.mpr c63
     clear c63
     have H' := Aside0.mk H
     clear H
     try go_wp2
     have n0_ := Aside0.mk (Kd.R_drew HO_5.out)
     have n1_ := Aside0.mk (Kd.R_drew HO_6.out)
     have n2_ := Aside0.mk (below_drew1 HB.out)
     clear HO_5
     clear HO_6
     clear HB
     have HO_5 := n0_
     have HO_6 := n1_
     have HB := n2_
     clear n0_ n1_ n2_
     have p589 : 0 ≤ (x27_3 : Int) := od_
     have q589 : x27_3 < (t566.length : Int) := od_
     obtain ⟨ad589, e589, hx589_0, hx589_1⟩ := at_T34 (Kd.R_reads' HO_6.out).2.2 x27_3 p589 q589
     cases e589
     replace p589 := eq_true p589
     replace q589 := eq_true q589
     have p590 : 0 ≤ (x27_3 : Int) := od_
     have q590 : x27_3 < (t566.length : Int) := od_
     obtain ⟨ad590, e590, hx590_0, hx590_1⟩ := at_T34 (Kd.R_reads' HO_6.out).2.2 x27_3 p590 q590
     obtain rfl : ad589 = ad590 := (by injection e590)
     replace p590 := eq_true p590
     replace q590 := eq_true q590
     refine start_ (n := 19) (S := fun w' => w'.cell? (ad589.add ((x27_3).toNat * 2)) = some (.int .i16 ((rd_T34 t566 x27_3).f0)) ∧ w'.cell? ⟨(ad589.add ((x27_3).toNat * 2)).block, (ad589.add ((x27_3).toNat * 2)).off + 1, none⟩ = some (.int .i16 ((rd_T34 t566 x27_3).f1)) ∧ w'.cell? (ad589.add ((x27_3).toNat * 2)) = some (.int .i16 ((rd_T34 t566 x27_3).f0)) ∧ w'.cell? ⟨(ad589.add ((x27_3).toNat * 2)).block, (ad589.add ((x27_3).toNat * 2)).off + 1, none⟩ = some (.int .i16 ((rd_T34 t566 x27_3).f1))) (ds := []) #[false, false, false, false, false, false, false, false, false, false, false, false, false, false, false, false, false, false, false] (by kernel_rfl) rfl rfl ⟨hx589_0, hx589_1, hx590_0, hx590_1⟩ (fun hHeld => ?_); refine with_tabW laws_FnStonePairs.tab20 laws_FnStonePairs.bits20 (fun HT_ HW_ => ?_)
     generalize wr.drew = w64 at HO_5 HO_6 HB hx589_0 hx589_1 hx590_0 hx590_1 hHeld ⊢
     refine pu_ 0 225 (lA 19 1) ?_ ?_ HT_ ?_
     refine pu_ 1 226 (lA 19 3) ?_ ?_ HT_ ?_
     refine pu_ 2 227 (lA 19 7) ?_ ?_ HT_ ?_
     refine pu_ 3 228 (lA 19 15) ?_ ?_ HT_ ?_
     refine pu_ 4 229 (lA 19 31) ?_ ?_ HT_ ?_
     refine pu_ 7 232 (lA 19 159) ?_ ?_ HT_ ?_
     refine pu_ 8 233 (lA 19 415) ?_ ?_ HT_ ?_
     refine pu_ 9 234 (lA 19 927) ?_ ?_ HT_ ?_
     refine pu_ 10 235 (lA 19 1951) ?_ ?_ HT_ ?_
     refine tk_ 5 230 (lA 19 1983) ?_ ?_ HT_ HW_ hHeld ?_
     refine pu_ 6 231 (lA 19 2047) ?_ ?_ HT_ ?_
     refine tk_ 11 236 (lA 19 4095) ?_ ?_ HT_ HW_ hHeld ?_
     refine pu_ 12 237 (lA 19 8191) ?_ ?_ HT_ ?_
     refine one_ (i := 13) (N := some 238) #[true, true, true, true, true, true, true, true, true, true, true, true, true, true, false, false, false, false, false] rfl rfl (one_of HT_.out (by kernel_rfl)) (by decide) (fun K hK => ?_)
     refine goes_ Try.func12 (by kernel_rfl) rfl #[.slice Ao23 t563.length co23, .int .i64 (wrap64 ((rd_T34 t566 x27_3).f0)), .int .i64 (wrap64 ((rd_T34 t566 x27_3).f1))] (by rfl) rfl rfl (by (try simp only [List.map_toArray, List.map_cons, List.map_nil]); first | done | rfl | (simp only [List.length_drop, List.length_take]; rfl)) ?_
     with_reducible refine (impl_WhereIs.calls k3 _ _ t563 (wrap64 ((rd_T34 t566 x27_3).f0)) (wrap64 ((rd_T34 t566 x27_3).f1)) t591 t592 _ ?side1 ?side2 A59.out).mono ?_
     (case side1 => exact kc_ ((Kd.R_reads' HO_5.out).2.2))
     (case side2 => exact (Kd.R_reads' HO_5.out).2.1)
     rintro e w65 ⟨rfl, hb⟩
     have HS0_ := (hb.cell (World.block_lt_of_cell? _ _ (hHeld.1))).trans (hHeld.1)
     have HS1_ := (hb.cell (World.block_lt_of_cell? _ _ (hHeld.2.1))).trans (hHeld.2.1)
     have HS2_ := (hb.cell (World.block_lt_of_cell? _ _ (hHeld.2.2.1))).trans (hHeld.2.2.1)
     have HS3_ := (hb.cell (World.block_lt_of_cell? _ _ (hHeld.2.2.2))).trans (hHeld.2.2.2)
     refine ⟨_, rfl, ?_⟩
     have n0_ := Aside0.mk (Kd.R_below (kp_ HO_5) hb)
     have n1_ := Aside0.mk (Kd.R_below (kp_ HO_6) hb)
     have n2_ := bs_ HB hb
     clear HO_5
     clear HO_6
     clear HB
     have HO_5 := n0_
     have HO_6 := n1_
     have HB := n2_
     clear n0_ n1_ n2_
     refine hK.out _ _ ⟨HS0_, HS1_, HS2_, HS3_⟩ (fun hHeld => ?_)
     clear hK K
     refine norm_ (a' := ?_) ?_ ?_
     rotate_left
     ·
      show Act.put _ (some 238) _ = _
      simp only [Act.put, List.setIfInBounds_toArray, List.set_cons_zero, List.set_cons_succ, i64_w, i32_w]
      rfl
     refine pu_ 14 224 (lA 19 32767) ?_ ?_ HT_ ?_
     refine pu_ 15 239 (lA 19 65535) ?_ ?_ HT_ ?_
     refine pu_ 16 240 (lA 19 131071) ?_ ?_ HT_ ?_
     refine pu_ 17 28 (lA 19 262143) ?_ ?_ HT_ ?_
     refine pu_ 18 29 (lA 19 524287) ?_ ?_ HT_ ?_
     refine done_ (done_of HT_.out (by kernel_rfl)) ?_
     try go_wp2
     go_roundg k3
     case measure => have := HJ2.out; have := HJ19.out; have := HK3.out; omega
     case rel => exact ⟨(wrap64 (x27_3 + 1)), (by first | rfl | (simp; done) | (simp [*]; done)), H', ⟨by have := HJ2.out; have := HJ19.out; have := HK3.out; omega⟩, ⟨kp_ HO_5⟩, ⟨kp_ HO_6⟩, ⟨bl_ HB⟩⟩
    rw [if_neg c61] at H
    have c61b0 : (t591 == 2) = false := beq_eq_false_iff_ne.mpr c61
    have c61b1 : (t591 != 2) = true := bne_iff_ne.mpr c61
    rcases (Decidable.em (t591 = 1)).symm with c70 | c70
    ·
     rw [if_neg c70] at H
     have c70b0 : (t591 == 1) = false := beq_eq_false_iff_ne.mpr c70
     have c70b1 : (t591 != 1) = true := bne_iff_ne.mpr c70
     have H' := Aside0.mk H
     clear H
     try go_wp2
     have n0_ := Aside0.mk (Kd.R_drew HO_5.out)
     have n1_ := Aside0.mk (Kd.R_drew HO_6.out)
     have n2_ := Aside0.mk (below_drew1 HB.out)
     clear HO_5
     clear HO_6
     clear HB
     have HO_5 := n0_
     have HO_6 := n1_
     have HB := n2_
     clear n0_ n1_ n2_
     have p589 : 0 ≤ (x27_3 : Int) := od_
     have q589 : x27_3 < (t566.length : Int) := od_
     obtain ⟨ad589, e589, hx589_0, hx589_1⟩ := at_T34 (Kd.R_reads' HO_6.out).2.2 x27_3 p589 q589
     cases e589
     replace p589 := eq_true p589
     replace q589 := eq_true q589
     have p590 : 0 ≤ (x27_3 : Int) := od_
     have q590 : x27_3 < (t566.length : Int) := od_
     obtain ⟨ad590, e590, hx590_0, hx590_1⟩ := at_T34 (Kd.R_reads' HO_6.out).2.2 x27_3 p590 q590
     obtain rfl : ad589 = ad590 := (by injection e590)
     replace p590 := eq_true p590
     replace q590 := eq_true q590
     refine start_ (n := 19) (S := fun w' => w'.cell? (ad589.add ((x27_3).toNat * 2)) = some (.int .i16 ((rd_T34 t566 x27_3).f0)) ∧ w'.cell? ⟨(ad589.add ((x27_3).toNat * 2)).block, (ad589.add ((x27_3).toNat * 2)).off + 1, none⟩ = some (.int .i16 ((rd_T34 t566 x27_3).f1)) ∧ w'.cell? (ad589.add ((x27_3).toNat * 2)) = some (.int .i16 ((rd_T34 t566 x27_3).f0)) ∧ w'.cell? ⟨(ad589.add ((x27_3).toNat * 2)).block, (ad589.add ((x27_3).toNat * 2)).off + 1, none⟩ = some (.int .i16 ((rd_T34 t566 x27_3).f1))) (ds := []) #[false, false, false, false, false, false, false, false, false, false, false, false, false, false, false, false, false, false, false] (by kernel_rfl) rfl rfl ⟨hx589_0, hx589_1, hx590_0, hx590_1⟩ (fun hHeld => ?_); refine with_tabW laws_FnStonePairs.tab20 laws_FnStonePairs.bits20 (fun HT_ HW_ => ?_)
     generalize wr.drew = w79 at HO_5 HO_6 HB hx589_0 hx589_1 hx590_0 hx590_1 hHeld ⊢
     refine pu_ 0 225 (lA 19 1) ?_ ?_ HT_ ?_
     refine pu_ 1 226 (lA 19 3) ?_ ?_ HT_ ?_
     refine pu_ 2 227 (lA 19 7) ?_ ?_ HT_ ?_
     refine pu_ 3 228 (lA 19 15) ?_ ?_ HT_ ?_
     refine pu_ 4 229 (lA 19 31) ?_ ?_ HT_ ?_
     refine pu_ 7 232 (lA 19 159) ?_ ?_ HT_ ?_
     refine pu_ 8 233 (lA 19 415) ?_ ?_ HT_ ?_
     refine pu_ 9 234 (lA 19 927) ?_ ?_ HT_ ?_
     refine pu_ 10 235 (lA 19 1951) ?_ ?_ HT_ ?_
     refine tk_ 5 230 (lA 19 1983) ?_ ?_ HT_ HW_ hHeld ?_
     refine pu_ 6 231 (lA 19 2047) ?_ ?_ HT_ ?_
     refine tk_ 11 236 (lA 19 4095) ?_ ?_ HT_ HW_ hHeld ?_
     refine pu_ 12 237 (lA 19 8191) ?_ ?_ HT_ ?_
     refine one_ (i := 13) (N := some 238) #[true, true, true, true, true, true, true, true, true, true, true, true, true, true, false, false, false, false, false] rfl rfl (one_of HT_.out (by kernel_rfl)) (by decide) (fun K hK => ?_)
     refine goes_ Try.func12 (by kernel_rfl) rfl #[.slice Ao23 t563.length co23, .int .i64 (wrap64 ((rd_T34 t566 x27_3).f0)), .int .i64 (wrap64 ((rd_T34 t566 x27_3).f1))] (by rfl) rfl rfl (by (try simp only [List.map_toArray, List.map_cons, List.map_nil]); first | done | rfl | (simp only [List.length_drop, List.length_take]; rfl)) ?_
     with_reducible refine (impl_WhereIs.calls k3 _ _ t563 (wrap64 ((rd_T34 t566 x27_3).f0)) (wrap64 ((rd_T34 t566 x27_3).f1)) t591 t592 _ ?side1 ?side2 A59.out).mono ?_
     (case side1 => exact kc_ ((Kd.R_reads' HO_5.out).2.2))
     (case side2 => exact (Kd.R_reads' HO_5.out).2.1)
     rintro e w80 ⟨rfl, hb⟩
     have HS0_ := (hb.cell (World.block_lt_of_cell? _ _ (hHeld.1))).trans (hHeld.1)
     have HS1_ := (hb.cell (World.block_lt_of_cell? _ _ (hHeld.2.1))).trans (hHeld.2.1)
     have HS2_ := (hb.cell (World.block_lt_of_cell? _ _ (hHeld.2.2.1))).trans (hHeld.2.2.1)
     have HS3_ := (hb.cell (World.block_lt_of_cell? _ _ (hHeld.2.2.2))).trans (hHeld.2.2.2)
     refine ⟨_, rfl, ?_⟩
     have n0_ := Aside0.mk (Kd.R_below (kp_ HO_5) hb)
     have n1_ := Aside0.mk (Kd.R_below (kp_ HO_6) hb)
     have n2_ := bs_ HB hb
     clear HO_5
     clear HO_6
     clear HB
     have HO_5 := n0_
     have HO_6 := n1_
     have HB := n2_
     clear n0_ n1_ n2_
     refine hK.out _ _ ⟨HS0_, HS1_, HS2_, HS3_⟩ (fun hHeld => ?_)
     clear hK K
     refine norm_ (a' := ?_) ?_ ?_
     rotate_left
     ·
      show Act.put _ (some 238) _ = _
      simp only [Act.put, List.setIfInBounds_toArray, List.set_cons_zero, List.set_cons_succ, i64_w, i32_w]
      rfl
     refine pu_ 14 224 (lA 19 32767) ?_ ?_ HT_ ?_
     refine pu_ 15 239 (lA 19 65535) ?_ ?_ HT_ ?_
     refine pu_ 16 240 (lA 19 131071) ?_ ?_ HT_ ?_
     refine pu_ 17 28 (lA 19 262143) ?_ ?_ HT_ ?_
     refine pu_ 18 29 (lA 19 524287) ?_ ?_ HT_ ?_
     refine done_ (done_of HT_.out (by kernel_rfl)) ?_
     try go_wp2
     go_roundg k3
     case measure => have := HJ2.out; have := HJ19.out; have := HK3.out; omega
     case rel => exact ⟨(wrap64 (x27_3 + 1)), (by first | rfl | (simp; done) | (simp [*]; done)), H', ⟨by have := HJ2.out; have := HJ19.out; have := HK3.out; omega⟩, ⟨kp_ HO_5⟩, ⟨kp_ HO_6⟩, ⟨bl_ HB⟩⟩
    rw [if_pos c70] at H
    have c70b0 : (t591 == 1) = true := beq_iff_eq.mpr c70
    have c70b1 : (t591 != 1) = false := bne_eq_false_iff_eq.mpr c70
    clear c70
    by_cases c71 : t571 = true
    ·
     subst c71
     replace H := gt_ H
     have H' := Aside0.mk H
     clear H
     try go_wp2
     have n0_ := Aside0.mk (Kd.R_drew HO_5.out)
     have n1_ := Aside0.mk (Kd.R_drew HO_6.out)
     have n2_ := Aside0.mk (below_drew1 HB.out)
     clear HO_5
     clear HO_6
     clear HB
     have HO_5 := n0_
     have HO_6 := n1_
     have HB := n2_
     clear n0_ n1_ n2_
     have p589 : 0 ≤ (x27_3 : Int) := od_
     have q589 : x27_3 < (t566.length : Int) := od_
     obtain ⟨ad589, e589, hx589_0, hx589_1⟩ := at_T34 (Kd.R_reads' HO_6.out).2.2 x27_3 p589 q589
     cases e589
     replace p589 := eq_true p589
     replace q589 := eq_true q589
     have p590 : 0 ≤ (x27_3 : Int) := od_
     have q590 : x27_3 < (t566.length : Int) := od_
     obtain ⟨ad590, e590, hx590_0, hx590_1⟩ := at_T34 (Kd.R_reads' HO_6.out).2.2 x27_3 p590 q590
     obtain rfl : ad589 = ad590 := (by injection e590)
     replace p590 := eq_true p590
     replace q590 := eq_true q590
     refine start_ (n := 19) (S := fun w' => w'.cell? (ad589.add ((x27_3).toNat * 2)) = some (.int .i16 ((rd_T34 t566 x27_3).f0)) ∧ w'.cell? ⟨(ad589.add ((x27_3).toNat * 2)).block, (ad589.add ((x27_3).toNat * 2)).off + 1, none⟩ = some (.int .i16 ((rd_T34 t566 x27_3).f1)) ∧ w'.cell? (ad589.add ((x27_3).toNat * 2)) = some (.int .i16 ((rd_T34 t566 x27_3).f0)) ∧ w'.cell? ⟨(ad589.add ((x27_3).toNat * 2)).block, (ad589.add ((x27_3).toNat * 2)).off + 1, none⟩ = some (.int .i16 ((rd_T34 t566 x27_3).f1))) (ds := []) #[false, false, false, false, false, false, false, false, false, false, false, false, false, false, false, false, false, false, false] (by kernel_rfl) rfl rfl ⟨hx589_0, hx589_1, hx590_0, hx590_1⟩ (fun hHeld => ?_); refine with_tabW laws_FnStonePairs.tab20 laws_FnStonePairs.bits20 (fun HT_ HW_ => ?_)
     generalize wr.drew = w72 at HO_5 HO_6 HB hx589_0 hx589_1 hx590_0 hx590_1 hHeld ⊢
     refine pu_ 0 225 (lA 19 1) ?_ ?_ HT_ ?_
     refine pu_ 1 226 (lA 19 3) ?_ ?_ HT_ ?_
     refine pu_ 2 227 (lA 19 7) ?_ ?_ HT_ ?_
     refine pu_ 3 228 (lA 19 15) ?_ ?_ HT_ ?_
     refine pu_ 4 229 (lA 19 31) ?_ ?_ HT_ ?_
     refine pu_ 7 232 (lA 19 159) ?_ ?_ HT_ ?_
     refine pu_ 8 233 (lA 19 415) ?_ ?_ HT_ ?_
     refine pu_ 9 234 (lA 19 927) ?_ ?_ HT_ ?_
     refine pu_ 10 235 (lA 19 1951) ?_ ?_ HT_ ?_
     refine tk_ 5 230 (lA 19 1983) ?_ ?_ HT_ HW_ hHeld ?_
     refine pu_ 6 231 (lA 19 2047) ?_ ?_ HT_ ?_
     refine tk_ 11 236 (lA 19 4095) ?_ ?_ HT_ HW_ hHeld ?_
     refine pu_ 12 237 (lA 19 8191) ?_ ?_ HT_ ?_
     refine one_ (i := 13) (N := some 238) #[true, true, true, true, true, true, true, true, true, true, true, true, true, true, false, false, false, false, false] rfl rfl (one_of HT_.out (by kernel_rfl)) (by decide) (fun K hK => ?_)
     refine goes_ Try.func12 (by kernel_rfl) rfl #[.slice Ao23 t563.length co23, .int .i64 (wrap64 ((rd_T34 t566 x27_3).f0)), .int .i64 (wrap64 ((rd_T34 t566 x27_3).f1))] (by rfl) rfl rfl (by (try simp only [List.map_toArray, List.map_cons, List.map_nil]); first | done | rfl | (simp only [List.length_drop, List.length_take]; rfl)) ?_
     with_reducible refine (impl_WhereIs.calls k3 _ _ t563 (wrap64 ((rd_T34 t566 x27_3).f0)) (wrap64 ((rd_T34 t566 x27_3).f1)) t591 t592 _ ?side1 ?side2 A59.out).mono ?_
     (case side1 => exact kc_ ((Kd.R_reads' HO_5.out).2.2))
     (case side2 => exact (Kd.R_reads' HO_5.out).2.1)
     rintro e w73 ⟨rfl, hb⟩
     have HS0_ := (hb.cell (World.block_lt_of_cell? _ _ (hHeld.1))).trans (hHeld.1)
     have HS1_ := (hb.cell (World.block_lt_of_cell? _ _ (hHeld.2.1))).trans (hHeld.2.1)
     have HS2_ := (hb.cell (World.block_lt_of_cell? _ _ (hHeld.2.2.1))).trans (hHeld.2.2.1)
     have HS3_ := (hb.cell (World.block_lt_of_cell? _ _ (hHeld.2.2.2))).trans (hHeld.2.2.2)
     refine ⟨_, rfl, ?_⟩
     have n0_ := Aside0.mk (Kd.R_below (kp_ HO_5) hb)
     have n1_ := Aside0.mk (Kd.R_below (kp_ HO_6) hb)
     have n2_ := bs_ HB hb
     clear HO_5
     clear HO_6
     clear HB
     have HO_5 := n0_
     have HO_6 := n1_
     have HB := n2_
     clear n0_ n1_ n2_
     refine hK.out _ _ ⟨HS0_, HS1_, HS2_, HS3_⟩ (fun hHeld => ?_)
     clear hK K
     refine norm_ (a' := ?_) ?_ ?_
     rotate_left
     ·
      show Act.put _ (some 238) _ = _
      simp only [Act.put, List.setIfInBounds_toArray, List.set_cons_zero, List.set_cons_succ, i64_w, i32_w]
      rfl
     refine pu_ 14 224 (lA 19 32767) ?_ ?_ HT_ ?_
     refine pu_ 15 239 (lA 19 65535) ?_ ?_ HT_ ?_
     refine pu_ 16 240 (lA 19 131071) ?_ ?_ HT_ ?_
     refine pu_ 17 28 (lA 19 262143) ?_ ?_ HT_ ?_
     refine pu_ 18 29 (lA 19 524287) ?_ ?_ HT_ ?_
     refine done_ (done_of HT_.out (by kernel_rfl)) ?_
     try go_wp2
     go_roundg k3
     case measure => have := HJ2.out; have := HJ19.out; have := HK3.out; omega
     case rel => exact ⟨(wrap64 (x27_3 + 1)), (by first | rfl | (simp; done) | (simp [*]; done)), H', ⟨by have := HJ2.out; have := HJ19.out; have := HK3.out; omega⟩, ⟨kp_ HO_5⟩, ⟨kp_ HO_6⟩, ⟨bl_ HB⟩⟩
    replace c71 := Bool.eq_false_iff.mpr c71
    subst c71
    replace H := gf_ H
    rcases (Decidable.em (t577 = true)).symm with c74 | c74
    ·
     replace c74 := Bool.eq_false_iff.mpr c74
     subst c74
     have H1 := gf_ H
     exact absurd H1 (by simp)
    subst c74
    replace H := gt_ H
    have H' := Aside0.mk H
    clear H
    try go_wp2
    have n0_ := Aside0.mk (Kd.R_drew HO_5.out)
    have n1_ := Aside0.mk (Kd.R_drew HO_6.out)
    have n2_ := Aside0.mk (below_drew1 HB.out)
    clear HO_5
    clear HO_6
    clear HB
    have HO_5 := n0_
    have HO_6 := n1_
    have HB := n2_
    clear n0_ n1_ n2_
    have p589 : 0 ≤ (x27_3 : Int) := od_
    have q589 : x27_3 < (t566.length : Int) := od_
    obtain ⟨ad589, e589, hx589_0, hx589_1⟩ := at_T34 (Kd.R_reads' HO_6.out).2.2 x27_3 p589 q589
    cases e589
    replace p589 := eq_true p589
    replace q589 := eq_true q589
    have p590 : 0 ≤ (x27_3 : Int) := od_
    have q590 : x27_3 < (t566.length : Int) := od_
    obtain ⟨ad590, e590, hx590_0, hx590_1⟩ := at_T34 (Kd.R_reads' HO_6.out).2.2 x27_3 p590 q590
    obtain rfl : ad589 = ad590 := (by injection e590)
    replace p590 := eq_true p590
    replace q590 := eq_true q590
    refine start_ (n := 19) (S := fun w' => w'.cell? (ad589.add ((x27_3).toNat * 2)) = some (.int .i16 ((rd_T34 t566 x27_3).f0)) ∧ w'.cell? ⟨(ad589.add ((x27_3).toNat * 2)).block, (ad589.add ((x27_3).toNat * 2)).off + 1, none⟩ = some (.int .i16 ((rd_T34 t566 x27_3).f1)) ∧ w'.cell? (ad589.add ((x27_3).toNat * 2)) = some (.int .i16 ((rd_T34 t566 x27_3).f0)) ∧ w'.cell? ⟨(ad589.add ((x27_3).toNat * 2)).block, (ad589.add ((x27_3).toNat * 2)).off + 1, none⟩ = some (.int .i16 ((rd_T34 t566 x27_3).f1))) (ds := []) #[false, false, false, false, false, false, false, false, false, false, false, false, false, false, false, false, false, false, false] (by kernel_rfl) rfl rfl ⟨hx589_0, hx589_1, hx590_0, hx590_1⟩ (fun hHeld => ?_); refine with_tabW laws_FnStonePairs.tab20 laws_FnStonePairs.bits20 (fun HT_ HW_ => ?_)
    generalize wr.drew = w75 at HO_5 HO_6 HB hx589_0 hx589_1 hx590_0 hx590_1 hHeld ⊢
    refine pu_ 0 225 (lA 19 1) ?_ ?_ HT_ ?_
    refine pu_ 1 226 (lA 19 3) ?_ ?_ HT_ ?_
    refine pu_ 2 227 (lA 19 7) ?_ ?_ HT_ ?_
    refine pu_ 3 228 (lA 19 15) ?_ ?_ HT_ ?_
    refine pu_ 4 229 (lA 19 31) ?_ ?_ HT_ ?_
    refine pu_ 7 232 (lA 19 159) ?_ ?_ HT_ ?_
    refine pu_ 8 233 (lA 19 415) ?_ ?_ HT_ ?_
    refine pu_ 9 234 (lA 19 927) ?_ ?_ HT_ ?_
    refine pu_ 10 235 (lA 19 1951) ?_ ?_ HT_ ?_
    refine tk_ 5 230 (lA 19 1983) ?_ ?_ HT_ HW_ hHeld ?_
    refine pu_ 6 231 (lA 19 2047) ?_ ?_ HT_ ?_
    refine tk_ 11 236 (lA 19 4095) ?_ ?_ HT_ HW_ hHeld ?_
    refine pu_ 12 237 (lA 19 8191) ?_ ?_ HT_ ?_
    refine one_ (i := 13) (N := some 238) #[true, true, true, true, true, true, true, true, true, true, true, true, true, true, false, false, false, false, false] rfl rfl (one_of HT_.out (by kernel_rfl)) (by decide) (fun K hK => ?_)
    refine goes_ Try.func12 (by kernel_rfl) rfl #[.slice Ao23 t563.length co23, .int .i64 (wrap64 ((rd_T34 t566 x27_3).f0)), .int .i64 (wrap64 ((rd_T34 t566 x27_3).f1))] (by rfl) rfl rfl (by (try simp only [List.map_toArray, List.map_cons, List.map_nil]); first | done | rfl | (simp only [List.length_drop, List.length_take]; rfl)) ?_
    with_reducible refine (impl_WhereIs.calls k3 _ _ t563 (wrap64 ((rd_T34 t566 x27_3).f0)) (wrap64 ((rd_T34 t566 x27_3).f1)) t591 t592 _ ?side1 ?side2 A59.out).mono ?_
    (case side1 => exact kc_ ((Kd.R_reads' HO_5.out).2.2))
    (case side2 => exact (Kd.R_reads' HO_5.out).2.1)
    rintro e w76 ⟨rfl, hb⟩
    have HS0_ := (hb.cell (World.block_lt_of_cell? _ _ (hHeld.1))).trans (hHeld.1)
    have HS1_ := (hb.cell (World.block_lt_of_cell? _ _ (hHeld.2.1))).trans (hHeld.2.1)
    have HS2_ := (hb.cell (World.block_lt_of_cell? _ _ (hHeld.2.2.1))).trans (hHeld.2.2.1)
    have HS3_ := (hb.cell (World.block_lt_of_cell? _ _ (hHeld.2.2.2))).trans (hHeld.2.2.2)
    refine ⟨_, rfl, ?_⟩
    have n0_ := Aside0.mk (Kd.R_below (kp_ HO_5) hb)
    have n1_ := Aside0.mk (Kd.R_below (kp_ HO_6) hb)
    have n2_ := bs_ HB hb
    clear HO_5
    clear HO_6
    clear HB
    have HO_5 := n0_
    have HO_6 := n1_
    have HB := n2_
    clear n0_ n1_ n2_
    refine hK.out _ _ ⟨HS0_, HS1_, HS2_, HS3_⟩ (fun hHeld => ?_)
    clear hK K
    refine norm_ (a' := ?_) ?_ ?_
    rotate_left
    ·
     show Act.put _ (some 238) _ = _
     simp only [Act.put, List.setIfInBounds_toArray, List.set_cons_zero, List.set_cons_succ, i64_w, i32_w]
     rfl
    refine pu_ 14 224 (lA 19 32767) ?_ ?_ HT_ ?_
    refine pu_ 15 239 (lA 19 65535) ?_ ?_ HT_ ?_
    refine pu_ 16 240 (lA 19 131071) ?_ ?_ HT_ ?_
    refine pu_ 17 28 (lA 19 262143) ?_ ?_ HT_ ?_
    refine pu_ 18 29 (lA 19 524287) ?_ ?_ HT_ ?_
    refine done_ (done_of HT_.out (by kernel_rfl)) ?_
    try go_wp2
    go_roundg k3
    case measure => have := HJ2.out; have := HJ19.out; have := HK3.out; omega
    case rel => exact ⟨(wrap64 (x27_3 + 1)), (by first | rfl | (simp; done) | (simp [*]; done)), H', ⟨by have := HJ2.out; have := HJ19.out; have := HK3.out; omega⟩, ⟨kp_ HO_5⟩, ⟨kp_ HO_6⟩, ⟨bl_ HB⟩⟩
/-- THE ONE PURE STATEMENT of laws_FnStonePairs: yours. -/
def laws_FnStonePairs.Pure : Prop := ∀ (l0 : List Int) (l1 : List Int), l0.length ≤ maxLen → l0.length * 1 ≤ 140737488351232 → (∀ x ∈ l0, (Lit.int .u8 x).wf = true) → l1.length ≤ maxLen → l1.length * 1 ≤ 140737488351232 → (∀ x ∈ l1, (Lit.int .u8 x).wf = true) → ∃ k, laws_FnStonePairs.f k l0 l1 = some true
theorem laws_FnStonePairs.walk (P : laws_FnStonePairs.Pure) (a0 : Option Addr) (len0 cap0 : Nat) (z0 : List Int) (a1 : Option Addr) (len1 cap1 : Nat) (z1 : List Int) (w : World) (w0 : (a0 = none ∧ len0 = 0 ∧ cap0 = 0 ∧ z0 = []) ∨ ∃ x, a0 = some x ∧ len0 ≤ cap0 ∧ cap0 ≤ maxLen ∧ z0.length = cap0 ∧ (∀ i, i < z0.length → w.cell? (x.add i) = some (.int .u8 (z0.getD i 0))) ∧ ∀ n ∈ z0, (Lit.int .u8 n).wf = true) (y0 : len0 * 1 ≤ 140737488351232) (w1 : (a1 = none ∧ len1 = 0 ∧ cap1 = 0 ∧ z1 = []) ∨ ∃ x, a1 = some x ∧ len1 ≤ cap1 ∧ cap1 ≤ maxLen ∧ z1.length = cap1 ∧ (∀ i, i < z1.length → w.cell? (x.add i) = some (.int .u8 (z1.getD i 0))) ∧ ∀ n ∈ z1, (Lit.int .u8 n).wf = true) (y1 : len1 * 1 ≤ 140737488351232) :
  Calls Try.prog 3 #[.slice a0 len0 cap0, .slice a1 len1 cap1] w fun e w' => e = .returned (.bool true) ∧ Below w.heap.size w w' := by
 obtain ⟨l0, rfl, hr0, hm0, hw0, hc0⟩ := ReadsInt.ofRowC w0
 obtain ⟨l1, rfl, hr1, hm1, hw1, hc1⟩ := ReadsInt.ofRowC w1
 obtain ⟨k, h⟩ := P l0 l1 hm0 y0 hw0 hm1 y1 hw1
 refine (laws_FnStonePairs.calls k _ _ l0 _ _ l1 true w (Kd.C_of_reads (d := (0 : Int)) (h1 := fun _ => rfl) hr0) hc0 (Kd.C_of_reads (d := (0 : Int)) (h1 := fun _ => rfl) hr1) hc1 h).mono ?_
 rintro e w' ⟨rfl, hd⟩
 exact ⟨rfl, hd⟩

end Go.Proofs.Ytmglnofmmgokkaa.PA
