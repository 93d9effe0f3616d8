/- Pure functions, and that Go's functions come to them. -/
import Derived.Test.YthbogbaaikjhbaaGreatDoorPAx0
import Derived.Test.YthbogbaaikjhbaaGreatDoorPAxm24
import Derived.Test.YthbogbaaikjhbaaGreatDoorPAxm26
import Derived.Test.YthbogbaaikjhbaaGreatDoorPAxm28
import Derived.Test.YthbogbaaikjhbaaGreatDoorPAxm22
import Derived.Test.YthbogbaaikjhbaaGreatDoorPAxm25
import Derived.Test.YthbogbaaikjhbaaGreatDoorPAxf18
import Derived.Test.YthbogbaaikjhbaaGreatDoorPAxf19
import Derived.Test.YthbogbaaikjhbaaGreatDoorPAxf20
import Derived.Test.YthbogbaaikjhbaaGreatDoorPAxm21
import Derived.Test.YthbogbaaikjhbaaGreatDoorPAxm23
import Derived.Test.YthbogbaaikjhbaaGreatDoorPAxf24
import Derived.Test.YthbogbaaikjhbaaGreatDoorPAxf25
import Derived.Test.YthbogbaaikjhbaaGreatDoorPAxm29
import Derived.Test.YthbogbaaikjhbaaGreatDoorPAxf6
import Derived.Test.YthbogbaaikjhbaaGreatDoorPAxm27
import Derived.Test.YthbogbaaikjhbaaGreatDoorPAxgImpl
namespace Go.Proofs.YthbogbaaikjhbaaGreatDoor.PA
open Go.RowKit Go.Proofs.YthbogbaaikjhbaaGreatDoorW.PrintWords Go.Proofs.YthbogbaaikjhbaaGreatDoorW.PrintLast Go.Proofs.YthbogbaaikjhbaaGreatDoorW.PrintMore
set_option linter.unusedVariables false
set_option linter.unusedSimpArgs false

/-! ### laws_FnStones: function 3 -/
mutual
def laws_FnStones.j0 : Nat → List Int → List Int → Bool → Option (Bool)
 | 0, _, _, _ => none
 | k + 1, x0, x1, x57 => if x57 = true then (some true) else ((spec_P6Stone.f k x0).bind fun t549 => ((impl_StoneText.f k t549).bind fun t552 => ((impl_ReadStone.f k t552).bind fun bt553 => ((impl_AreaTwice.f k t549).bind fun bt557 => ((spec_AreaTwice.f k t549).bind fun bt559 => ((impl_MirrorStone.f k t549).bind fun bt561 => ((spec_MirrorStone.f k t549).bind fun bt565 => ((impl_MirrorStone.f k bt565.1).bind fun bt569 => ((impl_AreaTwice.f k bt565.1).bind fun bt573 => (if bt553.2 = 0 then ((spec_SameStone.f k bt553.1 t549).bind fun t575 => (if t575 = true then ((impl_SameStone.f k bt553.1 t549).bind fun t576 => (if t576 = true then ((impl_ValidStone.f k t549).bind fun t577 => (if t577 = true then (if bt557.2 = bt559.2 then (if bt557.2 = 0 then (if bt557.1 = bt559.1 then (if bt559.1 < 1 then (none) else (if bt561.2 = bt565.2 then (if bt561.2 = 0 then ((spec_SameStone.f k bt561.1 bt565.1).bind fun t578 => (if t578 = true then (if bt569.2 = 0 then ((spec_SameStone.f k bt569.1 t549).bind fun t579 => (if t579 = true then (if bt573.2 = 0 then (laws_FnStones.j1 k x1 t549 bt559.1 (bt573.1 != bt559.1)) else (none)) else (none))) else (none)) else (none))) else (none)) else (none))) else (none)) else (none)) else (none)) else (none))) else (none))) else (none))) else (none)))))))))))
def laws_FnStones.j1 : Nat → List Int → List (S43) → Int → Bool → Option (Bool)
 | 0, _, _, _, _ => none
 | k + 1, x1, x5, x10, x166 => if x166 = true then (none) else (laws_FnStones.l0 k x1 x5 x10 x5 0)
def laws_FnStones.l0 : Nat → List Int → List (S43) → Int → List (S43) → Int → Option (Bool)
 | 0, _, _, _, _, _ => none
 | k + 1, x1, x5, x10, x20, x21 => if x21 < 4 then ((impl_TurnStone.f k x20).bind fun bt580 => ((spec_TurnStone.f k x20).bind fun bt584 => ((impl_AreaTwice.f k bt584.1).bind fun bt588 => (if bt580.2 = bt584.2 then (if bt580.2 = 0 then ((spec_SameStone.f k bt580.1 bt584.1).bind fun t590 => (if t590 = true then (if bt588.2 = 0 then (if bt588.1 = x10 then (laws_FnStones.l0 k x1 x5 x10 bt584.1 (wrap64 (x21 + 1))) else (none)) else (none)) else (none))) else (none)) else (none))))) else ((spec_SameStone.f k x20 x5).bind fun t591 => (if t591 = true then ((spec_P6Pick.f x1 40).bind fun t592 => ((impl_MoveStone.f k x5 (wrap64 (t592 - 20)) (wrap64 (-(wrap64 (t592 - 20))))).bind fun bt593 => ((impl_MoveStone.f k bt593.1 (wrap64 (-(wrap64 (t592 - 20)))) (wrap64 (t592 - 20))).bind fun bt597 => ((impl_BoxOf.f k x5).bind fun bt601 => ((impl_FirstStone.f k x5).bind fun bt607 => ((spec_FirstStone.f k x5).bind fun bt611 => (if bt593.2 = 0 then (if bt597.2 = 0 then ((spec_SameStone.f k bt597.1 x5).bind fun t615 => (if t615 = true then (if bt601.2.2.2.2 = 0 then (if bt607.2 = bt611.2 then (if bt607.2 = 0 then ((spec_SameStone.f k bt607.1 bt611.1).bind fun t616 => (laws_FnStones.j3 k x1 x5 (!t616) bt601.1 bt601.2.1 bt601.2.2.1 bt601.2.2.2.1)) else (none)) else (none)) else (none)) else (none))) else (none)) else (none)))))))) else (none)))
def laws_FnStones.j3 : Nat → List Int → List (S43) → Bool → Int → Int → Int → Int → Option (Bool)
 | 0, _, _, _, _, _, _, _ => none
 | k + 1, x1, x5, x278, x607000, x607001, x607002, x607003 => if x278 = true then (none) else (laws_FnStones.l1 k x1 x5 0 x607000 x607001 x607002 x607003)
def laws_FnStones.l1 : Nat → List Int → List (S43) → Int → Int → Int → Int → Int → Option (Bool)
 | 0, _, _, _, _, _, _, _ => none
 | k + 1, x1, x5, x39, x607000, x607001, x607002, x607003 => if x39 < (x5.length : Int) then (if 0 ≤ x39 then ((impl_WhereIs.f k x5 (wrap64 ((rd_T43 x5 x39).f0)) (wrap64 ((rd_T43 x5 x39).f1))).bind fun bt619 => (if bt619.2 = 0 then (if bt619.1 = 1 then (if (wrap64 ((rd_T43 x5 x39).f0)) < x607000 then (none) else (if (wrap64 ((rd_T43 x5 x39).f1)) < x607001 then (none) else (if (wrap64 ((rd_T43 x5 x39).f0)) > x607002 then (none) else (if (wrap64 ((rd_T43 x5 x39).f1)) > x607003 then (none) else (laws_FnStones.l1 k x1 x5 (wrap64 (x39 + 1)) x607000 x607001 x607002 x607003))))) else (none)) else (none))) else (none)) else ((spec_P6Corners.f k x1).bind fun t625 => ((impl_HullOf.f k t625).bind fun bt628 => ((spec_HullOf.f k t625).bind fun bt632 => (if bt628.2 = bt632.2 then ((spec_SameStone.f k bt628.1 bt632.1).bind fun t636 => (if t636 = true then (if bt628.2 = 0 then (laws_FnStones.j5 k t625 bt628.2 bt632.1 false) else (if bt628.2 = 4 then (laws_FnStones.j5 k t625 bt628.2 bt632.1 false) else (laws_FnStones.j5 k t625 bt628.2 bt632.1 (bt628.2 != 3)))) else (none))) else (none)))))
def laws_FnStones.j5 : Nat → List (S43) → Int → List (S43) → Bool → Option (Bool)
 | 0, _, _, _, _ => none
 | k + 1, x42, x44, x45, x384 => if x384 = true then (none) else (if x44 = 0 then (laws_FnStones.l2 k x42 x45 0) else (if x44 = 3 then (some true) else (some ((x45.length : Int) == 0))))
def laws_FnStones.l2 : Nat → List (S43) → List (S43) → Int → Option (Bool)
 | 0, _, _, _ => none
 | k + 1, x42, x45, x47 => if x47 < (x42.length : Int) then (if 0 ≤ x47 then ((impl_WhereIs.f k x45 (wrap64 ((rd_T43 x42 x47).f0)) (wrap64 ((rd_T43 x42 x47).f1))).bind fun bt639 => (if bt639.2 = 0 then (if bt639.1 = 0 then (none) else (laws_FnStones.l2 k x42 x45 (wrap64 (x47 + 1)))) else (none))) else (none)) else ((impl_FirstStone.f k x45).bind fun bt641 => (if bt641.2 = 0 then ((spec_SameStone.f k bt641.1 x45).bind fun t645 => (if t645 = true then ((impl_ValidStone.f k x45).bind fun t646 => (some t646)) else (none))) else (none)))
end
def laws_FnStones.f (k : Nat) (l0 : List Int) (l1 : List Int) : Option (Bool) := (laws_f6big.f l0).bind fun t547 => (if t547 = true then (laws_FnStones.j0 k l0 l1 true) else ((laws_f6big.f l1).bind fun t548 => (laws_FnStones.j0 k l0 l1 t548)))
theorem laws_FnStones.mono_l : ∀ k, (∀ y0 y1 y2, LeO (laws_FnStones.j0 k y0 y1 y2) (laws_FnStones.j0 (k + 1) y0 y1 y2)) ∧ (∀ y0 y1 y2 y3, LeO (laws_FnStones.j1 k y0 y1 y2 y3) (laws_FnStones.j1 (k + 1) y0 y1 y2 y3)) ∧ (∀ y0 y1 y2 y3 y4, LeO (laws_FnStones.l0 k y0 y1 y2 y3 y4) (laws_FnStones.l0 (k + 1) y0 y1 y2 y3 y4)) ∧ (∀ y0 y1 y2 y3 y4 y5 y6, LeO (laws_FnStones.j3 k y0 y1 y2 y3 y4 y5 y6) (laws_FnStones.j3 (k + 1) y0 y1 y2 y3 y4 y5 y6)) ∧ (∀ y0 y1 y2 y3 y4 y5 y6, LeO (laws_FnStones.l1 k y0 y1 y2 y3 y4 y5 y6) (laws_FnStones.l1 (k + 1) y0 y1 y2 y3 y4 y5 y6)) ∧ (∀ y0 y1 y2 y3, LeO (laws_FnStones.j5 k y0 y1 y2 y3) (laws_FnStones.j5 (k + 1) y0 y1 y2 y3)) ∧ (∀ y0 y1 y2, LeO (laws_FnStones.l2 k y0 y1 y2) (laws_FnStones.l2 (k + 1) y0 y1 y2))
 | 0 => ⟨fun _ _ _ r h => by simp [laws_FnStones.j0] at h, fun _ _ _ _ r h => by simp [laws_FnStones.j1] at h, fun _ _ _ _ _ r h => by simp [laws_FnStones.l0] at h, fun _ _ _ _ _ _ _ r h => by simp [laws_FnStones.j3] at h, fun _ _ _ _ _ _ _ r h => by simp [laws_FnStones.l1] at h, fun _ _ _ _ r h => by simp [laws_FnStones.j5] at h, fun _ _ _ r h => by simp [laws_FnStones.l2] at h⟩
 | k + 1 => by
  obtain ⟨ih0, ih1, ih2, ih3, ih4, ih5, ih6⟩ := laws_FnStones.mono_l k
  refine ⟨?_, ?_, ?_, ?_, ?_, ?_, ?_⟩ <;> intros
  all_goals first | unfold laws_FnStones.j0 | unfold laws_FnStones.j1 | unfold laws_FnStones.l0 | unfold laws_FnStones.j3 | unfold laws_FnStones.l1 | unfold laws_FnStones.j5 | unfold laws_FnStones.l2
  all_goals repeat' first | (with_reducible first | exact ih0 _ _ _ | exact ih1 _ _ _ _ | exact ih2 _ _ _ _ _ | exact ih3 _ _ _ _ _ _ _ | exact ih4 _ _ _ _ _ _ _ | exact ih5 _ _ _ _ | exact ih6 _ _ _ | exact impl_AreaTwice.mono _ _ | exact impl_BoxOf.mono _ _ | exact impl_FirstStone.mono _ _ | exact impl_HullOf.mono _ _ | exact impl_MirrorStone.mono _ _ | exact impl_MoveStone.mono _ _ _ _ | exact impl_ReadStone.mono _ _ | exact impl_SameStone.mono _ _ _ | exact impl_StoneText.mono _ _ | exact impl_TurnStone.mono _ _ | exact impl_ValidStone.mono _ _ | exact impl_WhereIs.mono _ _ _ _ | exact spec_AreaTwice.mono _ _ | exact spec_FirstStone.mono _ _ | exact spec_HullOf.mono _ _ | exact spec_MirrorStone.mono _ _ | exact spec_P6Corners.mono _ _ | exact spec_P6Stone.mono _ _ | exact spec_SameStone.mono _ _ _ | exact spec_TurnStone.mono _ _ | exact LeO.refl _ | exact LeO.none _ | refine LeO.ite ?_ ?_ | refine LeO.bind ?_ (fun _ => ?_))
theorem laws_FnStones.mono : ∀ a0 a1 k, LeO (laws_FnStones.f k a0 a1) (laws_FnStones.f (k + 1) a0 a1) := by
 intro a0 a1 k
 obtain ⟨ih0, ih1, ih2, ih3, ih4, ih5, ih6⟩ := laws_FnStones.mono_l k
 unfold laws_FnStones.f
 repeat' first | (with_reducible first | exact ih0 _ _ _ | exact ih1 _ _ _ _ | exact ih2 _ _ _ _ _ | exact ih3 _ _ _ _ _ _ _ | exact ih4 _ _ _ _ _ _ _ | exact ih5 _ _ _ _ | exact ih6 _ _ _ | exact impl_AreaTwice.mono _ _ | exact impl_BoxOf.mono _ _ | exact impl_FirstStone.mono _ _ | exact impl_HullOf.mono _ _ | exact impl_MirrorStone.mono _ _ | exact impl_MoveStone.mono _ _ _ _ | exact impl_ReadStone.mono _ _ | exact impl_SameStone.mono _ _ _ | exact impl_StoneText.mono _ _ | exact impl_TurnStone.mono _ _ | exact impl_ValidStone.mono _ _ | exact impl_WhereIs.mono _ _ _ _ | exact spec_AreaTwice.mono _ _ | exact spec_FirstStone.mono _ _ | exact spec_HullOf.mono _ _ | exact spec_MirrorStone.mono _ _ | exact spec_P6Corners.mono _ _ | exact spec_P6Stone.mono _ _ | exact spec_SameStone.mono _ _ _ | exact spec_TurnStone.mono _ _ | exact LeO.refl _ | exact LeO.none _ | refine LeO.ite ?_ ?_ | refine LeO.bind ?_ (fun _ => ?_))
def laws_FnStones.T36 : Bool × List (List Nat × List Nat) := (true, [([], []), ([], []), ([], []), ([1, 2], [1, 2]), ([3], [3]), ([4], [4]), ([5], [5]), ([], []), ([], []), ([7, 8], [7, 8]), ([9], [9]), ([10], [10]), ([11], [11]), ([0, 6, 12], [0, 6, 12]), ([13], [13]), ([14], [14]), ([14], [14]), ([15, 13, 0, 1, 2, 3, 4, 5, 6, 7, 8, 9, 10, 11, 12, 13, 14, 15], [15]), ([16, 17, 0, 1, 2, 3, 4, 5, 6, 7, 8, 9, 10, 11, 12, 13, 14, 15, 16, 17], [16])])
def laws_FnStones.B36 : List Nat := [0, 0, 0, 6, 14, 30, 62, 0, 0, 384, 896, 1920, 3968, 8191, 16383, 32767, 32767, 65535, 262143]
theorem laws_FnStones.tab36 : rtab .any (opsOf Tryz.f3 36) = laws_FnStones.T36 := by kernel_rfl
theorem laws_FnStones.bits36 : waitsOk laws_FnStones.T36.2 laws_FnStones.B36 = true := by kernel_rfl
def laws_FnStones.T37 : Bool × List (List Nat × List Nat) := (true, [([], []), ([0], [0]), ([1], [1]), ([2], [2]), ([3, 2], [2, 3]), ([2, 4], [2, 4]), ([5, 2], [5]), ([6], [6]), ([6], [6]), ([7, 8, 6], [6, 7, 8]), ([9, 6], [6, 9]), ([10, 6], [6, 10]), ([11, 6], [6, 11]), ([6], [6]), ([13, 6], [6, 13]), ([12, 14, 6], [6, 12, 14]), ([6, 15], [6, 15]), ([16, 6], [16]), ([17], [17]), ([17], [17]), ([18, 19, 17], [17, 18, 19]), ([20, 17], [17, 20]), ([21, 17], [17, 21]), ([22, 17], [17, 22]), ([17], [17]), ([24, 17], [17, 24]), ([23, 25, 17], [17, 23, 25]), ([17, 26], [17, 26]), ([27, 17], [27]), ([28], [28]), ([28], [28]), ([29, 30, 28], [28, 29, 30]), ([31, 28], [28, 31]), ([32, 28], [28, 32]), ([33, 28], [28, 33]), ([28], [28]), ([35, 28], [28, 35]), ([34, 36, 28], [28, 34, 36]), ([28, 37], [28, 37]), ([38, 28], [38]), ([39], [39]), ([39], [39]), ([40, 41, 39], [39, 40, 41]), ([42, 39], [39, 42]), ([43, 39], [39, 43]), ([44, 39], [39, 44]), ([39], [39]), ([46, 39], [39, 46]), ([45, 47, 39], [39, 45, 47]), ([39, 48], [39, 48])])
def laws_FnStones.B37 : List Nat := [0, 1, 3, 7, 15, 31, 63, 127, 127, 511, 1023, 2047, 4095, 127, 8319, 32767, 65535, 131071, 262143, 262143, 1048575, 2097151, 4194303, 8388607, 262143, 17039359, 67108863, 134217727, 268435455, 536870911, 536870911, 2147483647, 4294967295, 8589934591, 17179869183, 536870911, 34896609279, 137438953471, 274877906943, 549755813887, 1099511627775, 1099511627775, 4398046511103, 8796093022207, 17592186044415, 35184372088831, 1099511627775, 71468255805439, 281474976710655, 562949953421311]
theorem laws_FnStones.tab37 : rtab .any (opsOf Tryz.f3 37) = laws_FnStones.T37 := by kernel_rfl
theorem laws_FnStones.bits37 : waitsOk laws_FnStones.T37.2 laws_FnStones.B37 = true := by kernel_rfl
def laws_FnStones.T49 : Bool × List (List Nat × List Nat) := (true, [([], []), ([], []), ([], []), ([1, 2], [1, 2]), ([3], [3]), ([4], [4]), ([5], [5]), ([], []), ([], []), ([7, 8], [7, 8]), ([9], [9]), ([10], [10]), ([11], [11]), ([0, 6, 12], [0, 6, 12]), ([13], [13]), ([14], [14]), ([14], [14]), ([15, 13, 0, 1, 2, 3, 4, 5, 6, 7, 8, 9, 10, 11, 12, 13, 14, 15], [15]), ([16, 17, 0, 1, 2, 3, 4, 5, 6, 7, 8, 9, 10, 11, 12, 13, 14, 15, 16, 17], [16])])
def laws_FnStones.B49 : List Nat := [0, 0, 0, 6, 14, 30, 62, 0, 0, 384, 896, 1920, 3968, 8191, 16383, 32767, 32767, 65535, 262143]
theorem laws_FnStones.tab49 : rtab .any (opsOf Tryz.f3 49) = laws_FnStones.T49 := by kernel_rfl
theorem laws_FnStones.bits49 : waitsOk laws_FnStones.T49.2 laws_FnStones.B49 = true := by kernel_rfl
set_option maxHeartbeats 8000000 in
set_option maxRecDepth 100000 in
theorem laws_FnStones.calls (k : Nat) (A0 : Option Addr) (c0 : Nat) (l0 : List Int) (A1 : Option Addr) (c1 : Nat) (l1 : List Int) (r : Bool) (w : World) (hT : Tables.TabT w) (hr0 : Kd.C (Kd.int .u8) w A0 l0.length l0) (hc0 : l0.length ≤ c0) (hr1 : Kd.C (Kd.int .u8) w A1 l1.length l1) (hc1 : l1.length ≤ c1) (h : laws_FnStones.f k l0 l1 = some r) :
  Calls Tryz.prog 3 #[.slice A0 l0.length c0, .slice A1 l1.length c1] w fun e w' => e = .returned (.bool r) ∧ Below w.heap.size w w' := by
 have hu37 := Tryz.underlying37
 have HR0 := Aside0.mk hr0
 have HC0 := Aside0.mk hc0
 clear hr0 hc0
 have HR1 := Aside0.mk hr1
 have HC1 := Aside0.mk hc1
 clear hr1 hc1
 have HT := Aside0.mk hT
 clear hT
 have HB := Aside0.mk (Below.refl w.heap.size w)
 have H : ((laws_f6big.f l0).bind fun t547 => (if t547 = true then (laws_FnStones.j0 k l0 l1 true) else ((laws_f6big.f l1).bind fun t548 => (laws_FnStones.j0 k l0 l1 t548)))) = some r := h
 clear h
 have HC3 := Aside0.mk H
 clear H
 go_enter Tryz.func3, Tryz.ntmps3
 as_aux_lemma =>
  go_upto_region 1 with (fail)
  as_aux_lemma =>
   go_cut [57] (fun v57 wc => ∃ (kq : Nat) (x57_2 : Bool), v57 = .bool x57_2 ∧ Aside0 (laws_FnStones.j0 kq l0 l1 x57_2 = some r) ∧ Aside0 (kq ≤ k) ∧ Aside0 (Below w.heap.size w wc))
   case first => as_aux_lemma =>
    have H := HC3.out
    clear HC3
    obtain ⟨t547, A4, H⟩ := be_ H
    (try dsimp only at H)
    by_cases c5 : t547 = true
    ·
     subst c5
     replace H := gt_ H
     have H' := Aside0.mk H
     clear H
     as_aux_lemma =>
      go_wp2_with (first | ((with_reducible refine gate_callee (f := 4) rfl ?_); refine goM_ (some 53) Tryz.func4 #[.slice A0 l0.length c0] ?_; (with_reducible refine (laws_f6big.calls _ _ l0 true _ ?side1 ?side2 A4.out).mono ?_); (case side1 => exact kc_ (Kd.C_below HR0.out HB.out)); (case side2 => exact HC0.out); rintro e w' ⟨rfl, ⟨nd, rfl⟩⟩; refine ⟨_, rfl, ?_⟩))
      go_meet
      case rel => exact ⟨_, (true), (by first | rfl | (simp; done) | (simp [*]; done)), H', ⟨by first | omega | exact Nat.le_refl _⟩, ⟨kB_ HB⟩⟩
    replace c5 := Bool.eq_false_iff.mpr c5
    subst c5
    replace H := gf_ H
    obtain ⟨t548, A6, H⟩ := be_ H
    (try dsimp only at H)
    have H' := Aside0.mk H
    clear H
    as_aux_lemma =>
     go_wp2_with (first | ((with_reducible refine gate_callee (f := 4) rfl ?_); refine goM_ (some 53) Tryz.func4 #[.slice A0 l0.length c0] ?_; (with_reducible refine (laws_f6big.calls _ _ l0 false _ ?side1 ?side2 A4.out).mono ?_); (case side1 => exact kc_ (Kd.C_below HR0.out HB.out)); (case side2 => exact HC0.out); rintro e w' ⟨rfl, ⟨nd, rfl⟩⟩; refine ⟨_, rfl, ?_⟩) | (go_at_call 4; (with_reducible refine (laws_f6big.calls _ _ l1 t548 _ ?side1 ?side2 A6.out).mono ?_); (case side1 => repeat (first | exact (Kd.C_below HR1.out (kB_ HB)) | (with_reducible refine Kd.C_alloc ?_ _) | (with_reducible refine Kd.C_drewN ?_ _) | (with_reducible refine Kd.C_drew ?_))); (case side2 => exact HC1.out); rintro e w' ⟨rfl, ⟨nd, rfl⟩⟩))
     go_meet
     case rel => exact ⟨_, (t548), (by first | rfl | (simp; done) | (simp [*]; done)), H', ⟨by first | omega | exact Nat.le_refl _⟩, ⟨kB_ HB⟩⟩
   case rest => as_aux_lemma =>
    clear HC3
    obtain ⟨kq, x57_2, rfl, HA, HJ2, HB⟩ := hcut
    rcases kq with _ | kj2
    · exact absurd HA.out (by simp [laws_FnStones.j0])
    have H := HA.out
    clear HA
    simp only [laws_FnStones.j0] at H
    by_cases c7 : x57_2 = true
    ·
     subst c7
     replace H := gt_ H
     obtain rfl := Option.some.inj H
     go_wp2
     go_ret
     exact ⟨rt_, kB_ HB⟩
    replace c7 := Bool.eq_false_iff.mpr c7
    subst c7
    replace H := gf_ H
    obtain ⟨t549, A8, H⟩ := be_ H
    (try dsimp only at H)
    obtain ⟨t552, A9, H⟩ := be_ H
    (try dsimp only at H)
    obtain ⟨⟨t553, t554⟩, A10, H⟩ := be_ H
    (try dsimp only at H)
    obtain ⟨⟨t557, t558⟩, A11, H⟩ := be_ H
    (try dsimp only at H)
    obtain ⟨⟨t559, t560⟩, A12, H⟩ := be_ H
    (try dsimp only at H)
    obtain ⟨⟨t561, t562⟩, A13, H⟩ := be_ H
    (try dsimp only at H)
    obtain ⟨⟨t565, t566⟩, A14, H⟩ := be_ H
    (try dsimp only at H)
    obtain ⟨⟨t569, t570⟩, A15, H⟩ := be_ H
    (try dsimp only at H)
    obtain ⟨⟨t573, t574⟩, A16, H⟩ := be_ H
    (try dsimp only at H)
    have HC17 := Aside0.mk H
    clear H
    as_aux_lemma =>
     go_upto_region 11 with (first | ((with_reducible refine gate_callee (f := 5) rfl ?_); refine goM_ (some 59) Tryz.func5 #[.slice A0 l0.length c0] ?_; (with_reducible refine (spec_P6Stone.calls kj2 _ _ l0 t549 _ ?side1 ?side2 A8.out).mono ?_); (case side1 => exact kc_ (Kd.C_below HR0.out HB.out)); (case side2 => exact HC0.out); rintro e w18 ⟨v550, rfl, ho0, hb⟩; refine ⟨_, rfl, ?_⟩; have HO551 := Aside0.mk (Kd.R_lower ho0 (below_size (kB_ HB))); replace HB := Aside0.mk (below_step (kB_ HB) hb); clear hb; (try clear ho0); obtain ⟨Ao19, co19, eo19⟩ := Kd.R_slice HO551.out; subst eo19) | ((with_reducible refine gate_callee (f := 7) rfl ?_); refine goM_ (some 62) Tryz.func7 #[.slice Ao19 t549.length co19] ?_; (with_reducible refine (impl_StoneText.calls kj2 _ _ t549 t552 _ (Tables.tabT_below HT.out (kB_ HB)) ?side1 ?side2 A9.out).mono ?_); (case side1 => exact kc_ ((Kd.R_reads' HO551.out).2.2)); (case side2 => exact (Kd.R_reads' HO551.out).2.1); rintro e w20 ⟨rfl, hb⟩; refine ⟨_, rfl, ?_⟩; replace HO551 := Aside0.mk (Kd.R_below (kp_ HO551) hb); replace HB := Aside0.mk (below_step (kB_ HB) hb); clear hb) | ((with_reducible refine gate_callee (f := 6) rfl ?_); refine goM_ (some 63) Tryz.func6 #[.string t552] ?_; (with_reducible refine (impl_ReadStone.calls kj2 t552 t553 t554 _ (Tables.tabT_below HT.out (kB_ HB)) A10.out).mono ?_); rintro e w21 ⟨v555, rfl, ho0, hb⟩; refine ⟨_, rfl, ?_⟩; have HO556 := Aside0.mk (Kd.R_lower (Kd.R_new' ho0 (Kd.R_lt (kp_ HO551))) (below_size (kB_ HB))); replace HO551 := Aside0.mk (Kd.R_elder' (kp_ HO551) (Kd.R_base ho0) hb); replace HB := Aside0.mk (below_step (kB_ HB) hb); clear hb; (try clear ho0)) | ((with_reducible refine gate_callee (f := 8) rfl ?_); refine goM_ (some 68) Tryz.func8 #[.slice Ao19 t549.length co19] ?_; (with_reducible refine (impl_AreaTwice.calls kj2 _ _ t549 t557 t558 _ ?side1 ?side2 A11.out).mono ?_); (case side1 => exact kc_ ((Kd.R_reads' HO551.out).2.2)); (case side2 => exact (Kd.R_reads' HO551.out).2.1); rintro e w22 ⟨rfl, hb⟩; refine ⟨_, rfl, ?_⟩; replace HO551 := Aside0.mk (Kd.R_below (kp_ HO551) hb); replace HO556 := Aside0.mk (Kd.R_below (kp_ HO556) hb); replace HB := Aside0.mk (below_step (kB_ HB) hb); clear hb) | ((with_reducible refine gate_callee (f := 9) rfl ?_); refine goM_ (some 73) Tryz.func9 #[.slice Ao19 t549.length co19] ?_; (with_reducible refine (spec_AreaTwice.calls kj2 _ _ t549 t559 t560 _ ?side1 ?side2 A12.out).mono ?_); (case side1 => exact kc_ ((Kd.R_reads' HO551.out).2.2)); (case side2 => exact (Kd.R_reads' HO551.out).2.1); rintro e w23 ⟨rfl, hb⟩; refine ⟨_, rfl, ?_⟩; replace HO551 := Aside0.mk (Kd.R_below (kp_ HO551) hb); replace HO556 := Aside0.mk (Kd.R_below (kp_ HO556) hb); replace HB := Aside0.mk (below_step (kB_ HB) hb); clear hb) | ((with_reducible refine gate_callee (f := 10) rfl ?_); refine goM_ (some 78) Tryz.func10 #[.slice Ao19 t549.length co19] ?_; (with_reducible refine (impl_MirrorStone.calls kj2 _ _ t549 t561 t562 _ ?side1 ?side2 A13.out).mono ?_); (case side1 => exact kc_ ((Kd.R_reads' HO551.out).2.2)); (case side2 => exact (Kd.R_reads' HO551.out).2.1); rintro e w24 ⟨v563, rfl, ho0, hb⟩; refine ⟨_, rfl, ?_⟩; have HO564 := Aside0.mk (Kd.R_lower (Kd.R_new' (Kd.R_new' ho0 (Kd.R_lt (kp_ HO551))) (Kd.R_lt (kp_ HO556))) (below_size (kB_ HB))); replace HO551 := Aside0.mk (Kd.R_elder' (kp_ HO551) (Kd.R_base ho0) hb); replace HO556 := Aside0.mk (Kd.R_elder' (kp_ HO556) (Kd.R_base ho0) hb); replace HB := Aside0.mk (below_step (kB_ HB) hb); clear hb; (try clear ho0)) | ((with_reducible refine gate_callee (f := 11) rfl ?_); refine goM_ (some 83) Tryz.func11 #[.slice Ao19 t549.length co19] ?_; (with_reducible refine (spec_MirrorStone.calls kj2 _ _ t549 t565 t566 _ ?side1 ?side2 A14.out).mono ?_); (case side1 => exact kc_ ((Kd.R_reads' HO551.out).2.2)); (case side2 => exact (Kd.R_reads' HO551.out).2.1); rintro e w25 ⟨v567, rfl, ho0, hb⟩; refine ⟨_, rfl, ?_⟩; have HO568 := Aside0.mk (Kd.R_lower (Kd.R_new' (Kd.R_new' (Kd.R_new' ho0 (Kd.R_lt (kp_ HO551))) (Kd.R_lt (kp_ HO556))) (Kd.R_lt (kp_ HO564))) (below_size (kB_ HB))); replace HO551 := Aside0.mk (Kd.R_elder' (kp_ HO551) (Kd.R_base ho0) hb); replace HO556 := Aside0.mk (Kd.R_elder' (kp_ HO556) (Kd.R_base ho0) hb); replace HO564 := Aside0.mk (Kd.R_elder' (kp_ HO564) (Kd.R_base ho0) hb); replace HB := Aside0.mk (below_step (kB_ HB) hb); clear hb; (try clear ho0); obtain ⟨Ao26, co26, eo26⟩ := Kd.R_slice HO568.out; subst eo26) | ((with_reducible refine gate_callee (f := 10) rfl ?_); refine goM_ (some 88) Tryz.func10 #[.slice Ao26 t565.length co26] ?_; (with_reducible refine (impl_MirrorStone.calls kj2 _ _ t565 t569 t570 _ ?side1 ?side2 A15.out).mono ?_); (case side1 => exact kc_ ((Kd.R_reads' HO568.out).2.2)); (case side2 => exact (Kd.R_reads' HO568.out).2.1); rintro e w27 ⟨v571, rfl, ho0, hb⟩; refine ⟨_, rfl, ?_⟩; have HO572 := Aside0.mk (Kd.R_lower (Kd.R_new' (Kd.R_new' (Kd.R_new' (Kd.R_new' ho0 (Kd.R_lt (kp_ HO551))) (Kd.R_lt (kp_ HO556))) (Kd.R_lt (kp_ HO564))) (Kd.R_lt (kp_ HO568))) (below_size (kB_ HB))); replace HO551 := Aside0.mk (Kd.R_elder' (kp_ HO551) (Kd.R_base ho0) hb); replace HO556 := Aside0.mk (Kd.R_elder' (kp_ HO556) (Kd.R_base ho0) hb); replace HO564 := Aside0.mk (Kd.R_elder' (kp_ HO564) (Kd.R_base ho0) hb); replace HO568 := Aside0.mk (Kd.R_elder' (kp_ HO568) (Kd.R_base ho0) hb); replace HB := Aside0.mk (below_step (kB_ HB) hb); clear hb; (try clear ho0)) | ((with_reducible refine gate_callee (f := 8) rfl ?_); refine goM_ (some 93) Tryz.func8 #[.slice Ao26 t565.length co26] ?_; (with_reducible refine (impl_AreaTwice.calls kj2 _ _ t565 t573 t574 _ ?side1 ?side2 A16.out).mono ?_); (case side1 => exact kc_ ((Kd.R_reads' HO568.out).2.2)); (case side2 => exact (Kd.R_reads' HO568.out).2.1); rintro e w28 ⟨rfl, hb⟩; refine ⟨_, rfl, ?_⟩; replace HO551 := Aside0.mk (Kd.R_below (kp_ HO551) hb); replace HO556 := Aside0.mk (Kd.R_below (kp_ HO556) hb); replace HO564 := Aside0.mk (Kd.R_below (kp_ HO564) hb); replace HO568 := Aside0.mk (Kd.R_below (kp_ HO568) hb); replace HO572 := Aside0.mk (Kd.R_below (kp_ HO572) hb); replace HB := Aside0.mk (below_step (kB_ HB) hb); clear hb))
     as_aux_lemma =>
      (try simp only [Act.put, List.setIfInBounds_toArray, List.set_cons_zero, List.set_cons_succ])
      go_cut [166] (fun v166 wc => ∃ (kq : Nat) (x166_16 : Bool), v166 = .bool x166_16 ∧ Aside0 (laws_FnStones.j1 kq l1 t549 t559 x166_16 = some r) ∧ Aside0 (kq ≤ kj2) ∧ Aside0 (Kd.R k43 43 wc w.heap.size (fun _ => True) (.slice Ao19 t549.length co19) t549) ∧ Aside0 (Below w.heap.size w wc))
      case first => as_aux_lemma =>
       have H := HC17.out
       clear HC17
       obtain ⟨c29b0, c29b1, H⟩ := gy_ H
       (first | rw [c29b0] | (simp only [i64_w, i32_w]; rw [c29b0]) | skip)
       obtain ⟨t575, A30, H⟩ := be_ H
       (try dsimp only at H)
       rcases (Decidable.em (t575 = true)).symm with c31 | c31
       ·
        replace c31 := Bool.eq_false_iff.mpr c31
        subst c31
        have H1 := gf_ H
        exact absurd H1 (by simp)
       subst c31
       replace H := gt_ H
       obtain ⟨t576, A32, H⟩ := be_ H
       (try dsimp only at H)
       rcases (Decidable.em (t576 = true)).symm with c33 | c33
       ·
        replace c33 := Bool.eq_false_iff.mpr c33
        subst c33
        have H1 := gf_ H
        exact absurd H1 (by simp)
       subst c33
       replace H := gt_ H
       obtain ⟨t577, A34, H⟩ := be_ H
       (try dsimp only at H)
       rcases (Decidable.em (t577 = true)).symm with c35 | c35
       ·
        replace c35 := Bool.eq_false_iff.mpr c35
        subst c35
        have H1 := gf_ H
        exact absurd H1 (by simp)
       subst c35
       replace H := gt_ H
       obtain ⟨c36b0, c36b1, H⟩ := gy_ H
       obtain ⟨c37b0, c37b1, H⟩ := gy_ H
       obtain ⟨c38b0, c38b1, H⟩ := gy_ H
       by_cases c39 : t559 < 1
       ·
        rw [if_pos c39] at H
        exact absurd H (by simp)
       rw [if_neg c39] at H
       have c39b0 : decide (t559 < 1) = false := decide_eq_false c39
       clear c39
       obtain ⟨c42b0, c42b1, H⟩ := gy_ H
       obtain ⟨c43b0, c43b1, H⟩ := gy_ H
       obtain ⟨t578, A44, H⟩ := be_ H
       (try dsimp only at H)
       rcases (Decidable.em (t578 = true)).symm with c45 | c45
       ·
        replace c45 := Bool.eq_false_iff.mpr c45
        subst c45
        have H1 := gf_ H
        exact absurd H1 (by simp)
       subst c45
       replace H := gt_ H
       obtain ⟨c46b0, c46b1, H⟩ := gy_ H
       obtain ⟨t579, A47, H⟩ := be_ H
       (try dsimp only at H)
       rcases (Decidable.em (t579 = true)).symm with c48 | c48
       ·
        replace c48 := Bool.eq_false_iff.mpr c48
        subst c48
        have H1 := gf_ H
        exact absurd H1 (by simp)
       subst c48
       replace H := gt_ H
       obtain ⟨c49b0, c49b1, H⟩ := gy_ H
       have H' := Aside0.mk H
       clear H
       obtain ⟨Ao50, co50, eo50⟩ := Kd.R_slice HO556.out
       subst eo50
       as_aux_lemma =>
        go_wp2_with (first | (go_at_call 12; (with_reducible refine (spec_SameStone.calls kj2 _ _ t553 _ _ t549 true _ ?side1 ?side2 ?side3 ?side4 A30.out).mono ?_); (case side1 => exact kc_ ((Kd.R_reads' HO556.out).2.2)); (case side2 => exact (Kd.R_reads' HO556.out).2.1); (case side3 => exact kc_ ((Kd.R_reads' HO551.out).2.2)); (case side4 => exact (Kd.R_reads' HO551.out).2.1); rintro e w' ⟨rfl, ⟨nd, rfl⟩⟩) | (go_at_call 13; (with_reducible refine (impl_SameStone.calls kj2 _ _ t553 _ _ t549 true _ ?side1 ?side2 ?side3 ?side4 A32.out).mono ?_); (case side1 => exact kc_ ((Kd.R_reads' HO556.out).2.2)); (case side2 => exact (Kd.R_reads' HO556.out).2.1); (case side3 => exact kc_ ((Kd.R_reads' HO551.out).2.2)); (case side4 => exact (Kd.R_reads' HO551.out).2.1); rintro e w' ⟨rfl, ⟨nd, rfl⟩⟩) | (go_at_call 14; (with_reducible refine (impl_ValidStone.calls kj2 _ _ t549 true _ ?side1 ?side2 A34.out).mono ?_); (case side1 => exact kc_ ((Kd.R_reads' HO551.out).2.2)); (case side2 => exact (Kd.R_reads' HO551.out).2.1); rintro e w51 ⟨rfl, hb⟩; replace HO551 := Aside0.mk (Kd.R_below (kp_ HO551) hb); replace HO556 := Aside0.mk (Kd.R_below (kp_ HO556) hb); replace HO564 := Aside0.mk (Kd.R_below (kp_ HO564) hb); replace HO568 := Aside0.mk (Kd.R_below (kp_ HO568) hb); replace HO572 := Aside0.mk (Kd.R_below (kp_ HO572) hb); replace HB := Aside0.mk (below_step (kB_ HB) hb); clear hb; obtain ⟨Ao52, co52, eo52⟩ := Kd.R_slice HO564.out; subst eo52) | (go_at_call 12; (with_reducible refine (spec_SameStone.calls kj2 _ _ t561 _ _ t565 true _ ?side1 ?side2 ?side3 ?side4 A44.out).mono ?_); (case side1 => exact kc_ ((Kd.R_reads' HO564.out).2.2)); (case side2 => exact (Kd.R_reads' HO564.out).2.1); (case side3 => exact kc_ ((Kd.R_reads' HO568.out).2.2)); (case side4 => exact (Kd.R_reads' HO568.out).2.1); rintro e w' ⟨rfl, ⟨nd, rfl⟩⟩; obtain ⟨Ao53, co53, eo53⟩ := Kd.R_slice HO572.out; subst eo53) | (go_at_call 12; (with_reducible refine (spec_SameStone.calls kj2 _ _ t569 _ _ t549 true _ ?side1 ?side2 ?side3 ?side4 A47.out).mono ?_); (case side1 => exact kc_ ((Kd.R_reads' HO572.out).2.2)); (case side2 => exact (Kd.R_reads' HO572.out).2.1); (case side3 => exact kc_ ((Kd.R_reads' HO551.out).2.2)); (case side4 => exact (Kd.R_reads' HO551.out).2.1); rintro e w' ⟨rfl, ⟨nd, rfl⟩⟩))
        go_meet
        case rel => exact ⟨_, ((t573 != t559)), (by first | rfl | (simp; done) | (simp [*]; done)), H', ⟨by have := HJ2.out; first | omega | exact Nat.le_refl _⟩, ⟨by (with_reducible repeat (first | apply Kd.R_alloc | apply Kd.R_drewN | apply Kd.R_drew)); exact Kd.R_mono HO551.out (fun _ hk => trivial)⟩, ⟨kB_ HB⟩⟩
      case rest => as_aux_lemma =>
       clear HC17
       obtain ⟨kq, x166_16, rfl, HA, HJ16, HO_5, HB⟩ := hcut
       rcases kq with _ | kj16
       · exact absurd HA.out (by simp [laws_FnStones.j1])
       have H := HA.out
       clear HA
       simp only [laws_FnStones.j1] at H
       by_cases c82 : x166_16 = true
       ·
        subst c82
        have H1 := gt_ H
        exact absurd H1 (by simp)
       replace c82 := Bool.eq_false_iff.mpr c82
       subst c82
       replace H := gf_ H
       have H' := Aside0.mk H
       clear H
       go_wp2
       go_loopg [20, 21] kj16 (fun kq v20 v21 w' => ∃ (x20_3 : List (S43)) (x21_3 : Int), v21 = .int .i64 x21_3 ∧ Aside0 (laws_FnStones.l0 kq l1 t549 t559 x20_3 x21_3 = some r) ∧ Aside0 (kq ≤ kj16) ∧ Aside0 (Kd.R k43 43 w' w.heap.size (fun _ => True) (.slice Ao19 t549.length co19) t549) ∧ Aside0 (Kd.R k43 43 w' w.heap.size (fun _ => True) v20 x20_3) ∧ Aside0 (Below w.heap.size w w'))
       case atStart => exact ⟨(t549), (0), (by first | rfl | (simp; done) | (simp [*]; done)), H', ⟨Nat.le_refl _⟩, ⟨kp_ HO_5⟩, ⟨kp_ HO_5⟩, ⟨kB_ HB⟩⟩
       case round => as_aux_lemma =>
        clear H'
        obtain ⟨x20_3, x21_3, rfl, HA, HK3, HO_5, HO_20, HB⟩ := hrel
        rcases gk with _ | k3
        · exact absurd HA.out (by simp [laws_FnStones.l0])
        have H := HA.out
        clear HA
        simp only [laws_FnStones.l0] at H
        by_cases c83 : x21_3 < 4
        ·
         rw [if_pos c83] at H
         have c83b0 : decide (x21_3 < 4) = true := decide_eq_true c83
         clear c83
         obtain ⟨⟨t580, t581⟩, A84, H⟩ := be_ H
         (try dsimp only at H)
         obtain ⟨⟨t584, t585⟩, A85, H⟩ := be_ H
         (try dsimp only at H)
         obtain ⟨⟨t588, t589⟩, A86, H⟩ := be_ H
         (try dsimp only at H)
         obtain ⟨c87b0, c87b1, H⟩ := gy_ H
         obtain ⟨c88b0, c88b1, H⟩ := gy_ H
         obtain ⟨t590, A89, H⟩ := be_ H
         (try dsimp only at H)
         rcases (Decidable.em (t590 = true)).symm with c90 | c90
         ·
          replace c90 := Bool.eq_false_iff.mpr c90
          subst c90
          have H1 := gf_ H
          exact absurd H1 (by simp)
         subst c90
         replace H := gt_ H
         obtain ⟨c91b0, c91b1, H⟩ := gy_ H
         obtain ⟨c92b0, c92b1, H⟩ := gy_ H
         have H' := Aside0.mk H
         clear H
         obtain ⟨Ao93, co93, eo93⟩ := Kd.R_slice HO_20.out
         subst eo93
         as_aux_lemma =>
          go_wp2_with (first | ((with_reducible refine gate_callee (f := 15) rfl ?_); refine goM_ (some 174) Tryz.func15 #[.slice Ao93 x20_3.length co93] ?_; (with_reducible refine (impl_TurnStone.calls k3 _ _ x20_3 t580 t581 _ ?side1 ?side2 A84.out).mono ?_); (case side1 => exact kc_ ((Kd.R_reads' HO_20.out).2.2)); (case side2 => exact (Kd.R_reads' HO_20.out).2.1); rintro e w94 ⟨v582, rfl, ho0, hb⟩; refine ⟨_, rfl, ?_⟩; have HO583 := Aside0.mk (Kd.R_lower (Kd.R_new' (Kd.R_new' ho0 (Kd.R_lt (kp_ HO_5))) (Kd.R_lt (kp_ HO_20))) (below_size (kB_ HB))); replace HO_5 := Aside0.mk (Kd.R_elder' (kp_ HO_5) (Kd.R_base ho0) hb); replace HO_20 := Aside0.mk (Kd.R_elder' (kp_ HO_20) (Kd.R_base ho0) hb); replace HB := Aside0.mk (below_step (kB_ HB) hb); clear hb; (try clear ho0)) | ((with_reducible refine gate_callee (f := 16) rfl ?_); refine goM_ (some 179) Tryz.func16 #[.slice Ao93 x20_3.length co93] ?_; (with_reducible refine (spec_TurnStone.calls k3 _ _ x20_3 t584 t585 _ ?side1 ?side2 A85.out).mono ?_); (case side1 => exact kc_ ((Kd.R_reads' HO_20.out).2.2)); (case side2 => exact (Kd.R_reads' HO_20.out).2.1); rintro e w95 ⟨v586, rfl, ho0, hb⟩; refine ⟨_, rfl, ?_⟩; have HO587 := Aside0.mk (Kd.R_lower (Kd.R_new' (Kd.R_new' (Kd.R_new' ho0 (Kd.R_lt (kp_ HO_5))) (Kd.R_lt (kp_ HO_20))) (Kd.R_lt (kp_ HO583))) (below_size (kB_ HB))); replace HO_5 := Aside0.mk (Kd.R_elder' (kp_ HO_5) (Kd.R_base ho0) hb); replace HO_20 := Aside0.mk (Kd.R_elder' (kp_ HO_20) (Kd.R_base ho0) hb); replace HO583 := Aside0.mk (Kd.R_elder' (kp_ HO583) (Kd.R_base ho0) hb); replace HB := Aside0.mk (below_step (kB_ HB) hb); clear hb; (try clear ho0); obtain ⟨Ao96, co96, eo96⟩ := Kd.R_slice HO587.out; subst eo96) | ((with_reducible refine gate_callee (f := 8) rfl ?_); refine goM_ (some 184) Tryz.func8 #[.slice Ao96 t584.length co96] ?_; (with_reducible refine (impl_AreaTwice.calls k3 _ _ t584 t588 t589 _ ?side1 ?side2 A86.out).mono ?_); (case side1 => exact kc_ ((Kd.R_reads' HO587.out).2.2)); (case side2 => exact (Kd.R_reads' HO587.out).2.1); rintro e w97 ⟨rfl, hb⟩; refine ⟨_, rfl, ?_⟩; replace HO_5 := Aside0.mk (Kd.R_below (kp_ HO_5) hb); replace HO_20 := Aside0.mk (Kd.R_below (kp_ HO_20) hb); replace HO583 := Aside0.mk (Kd.R_below (kp_ HO583) hb); replace HO587 := Aside0.mk (Kd.R_below (kp_ HO587) hb); replace HB := Aside0.mk (below_step (kB_ HB) hb); clear hb; obtain ⟨Ao98, co98, eo98⟩ := Kd.R_slice HO583.out; subst eo98) | (go_at_call 12; (with_reducible refine (spec_SameStone.calls k3 _ _ t580 _ _ t584 true _ ?side1 ?side2 ?side3 ?side4 A89.out).mono ?_); (case side1 => exact kc_ ((Kd.R_reads' HO583.out).2.2)); (case side2 => exact (Kd.R_reads' HO583.out).2.1); (case side3 => exact kc_ ((Kd.R_reads' HO587.out).2.2)); (case side4 => exact (Kd.R_reads' HO587.out).2.1); rintro e w' ⟨rfl, ⟨nd, rfl⟩⟩))
          go_roundg k3
          case measure => have := HJ2.out; have := HJ16.out; have := HK3.out; omega
          case rel => exact ⟨(t584), (wrap64 (x21_3 + 1)), (by first | rfl | (simp; done) | (simp [*]; done)), H', ⟨by have := HJ2.out; have := HJ16.out; have := HK3.out; omega⟩, ⟨by (with_reducible repeat (first | apply Kd.R_alloc | apply Kd.R_drewN | apply Kd.R_drew)); exact Kd.R_mono HO_5.out (fun _ hk => trivial)⟩, ⟨by (with_reducible repeat (first | apply Kd.R_alloc | apply Kd.R_drewN | apply Kd.R_drew)); exact Kd.R_mono HO587.out (fun _ hk => trivial)⟩, ⟨kB_ HB⟩⟩
        rw [if_neg c83] at H
        have c83b0 : decide (x21_3 < 4) = false := decide_eq_false c83
        clear c83
        obtain ⟨t591, A127, H⟩ := be_ H
        (try dsimp only at H)
        rcases (Decidable.em (t591 = true)).symm with c128 | c128
        ·
         replace c128 := Bool.eq_false_iff.mpr c128
         subst c128
         have H1 := gf_ H
         exact absurd H1 (by simp)
        subst c128
        replace H := gt_ H
        obtain ⟨t592, A129, H⟩ := be_ H
        (try dsimp only at H)
        obtain ⟨⟨t593, t594⟩, A130, H⟩ := be_ H
        (try dsimp only at H)
        obtain ⟨⟨t597, t598⟩, A131, H⟩ := be_ H
        (try dsimp only at H)
        obtain ⟨⟨t601, t602, t603, t604, t605⟩, A132, H⟩ := be_ H
        (try dsimp only at H)
        obtain ⟨⟨t607, t608⟩, A133, H⟩ := be_ H
        (try dsimp only at H)
        obtain ⟨⟨t611, t612⟩, A134, H⟩ := be_ H
        (try dsimp only at H)
        have HC135 := Aside0.mk H
        clear H
        obtain ⟨Ao136, co136, eo136⟩ := Kd.R_slice HO_20.out
        subst eo136
        as_aux_lemma =>
         go_upto_region 31 with (first | ((with_reducible refine gate_callee (f := 12) rfl ?_); refine goM_ (some 212) Tryz.func12 #[.slice Ao136 x20_3.length co136, .slice Ao19 t549.length co19] ?_; (with_reducible refine (spec_SameStone.calls k3 _ _ x20_3 _ _ t549 true _ ?side1 ?side2 ?side3 ?side4 A127.out).mono ?_); (case side1 => exact kc_ ((Kd.R_reads' HO_20.out).2.2)); (case side2 => exact (Kd.R_reads' HO_20.out).2.1); (case side3 => exact kc_ ((Kd.R_reads' HO_5.out).2.2)); (case side4 => exact (Kd.R_reads' HO_5.out).2.1); rintro e w' ⟨rfl, ⟨nd, rfl⟩⟩; refine ⟨_, rfl, ?_⟩; (try (rw [drewN_self wr]; generalize hq_ : World.drewN wr _ = wr; have n0_ : Aside0 (Kd.R k43 43 wr w.heap.size (fun _ => True) (.slice Ao136 x20_3.length co136) x20_3) := ⟨by rw [← hq_]; exact (kp_ HO_20)⟩; have n1_ : Aside0 (Kd.R k43 43 wr w.heap.size (fun _ => True) (.slice Ao19 t549.length co19) t549) := ⟨by rw [← hq_]; exact (kp_ HO_5)⟩; have n2_ : Aside0 (Below w.heap.size w wr) := ⟨by rw [← hq_]; exact (kB_ HB)⟩; clear HO_20 HO_5 HB hq_; have HO_20 := n0_; have HO_5 := n1_; have HB := n2_; clear n0_ n1_ n2_))) | ((with_reducible refine gate_callee (f := 17) rfl ?_); refine goM_ (some 215) Tryz.func17 #[.slice A1 l1.length c1, .int .i64 40] ?_; (with_reducible refine (spec_P6Pick.calls _ _ l1 40 t592 _ ?side1 ?side2 A129.out).mono ?_); (case side1 => exact kc_ (Kd.C_below HR1.out HB.out)); (case side2 => exact HC1.out); rintro e w137 ⟨rfl, hb⟩; refine ⟨_, rfl, ?_⟩; replace HO_5 := Aside0.mk (Kd.R_below (kp_ HO_5) hb); replace HO_20 := Aside0.mk (Kd.R_below (kp_ HO_20) hb); replace HB := Aside0.mk (below_step (kB_ HB) hb); clear hb) | ((with_reducible refine gate_callee (f := 18) rfl ?_); refine goM_ (some 222) Tryz.func18 #[.slice Ao19 t549.length co19, .int .i64 (wrap64 (t592 - 20)), .int .i64 (wrap64 (-(wrap64 (t592 - 20))))] ?_; (with_reducible refine (impl_MoveStone.calls k3 _ _ t549 (wrap64 (t592 - 20)) (wrap64 (-(wrap64 (t592 - 20)))) t593 t594 _ ?side1 ?side2 A130.out).mono ?_); (case side1 => exact kc_ ((Kd.R_reads' HO_5.out).2.2)); (case side2 => exact (Kd.R_reads' HO_5.out).2.1); rintro e w138 ⟨v595, rfl, ho0, hb⟩; refine ⟨_, rfl, ?_⟩; have HO596 := Aside0.mk (Kd.R_lower (Kd.R_new' (Kd.R_new' ho0 (Kd.R_lt (kp_ HO_5))) (Kd.R_lt (kp_ HO_20))) (below_size (kB_ HB))); replace HO_5 := Aside0.mk (Kd.R_elder' (kp_ HO_5) (Kd.R_base ho0) hb); replace HO_20 := Aside0.mk (Kd.R_elder' (kp_ HO_20) (Kd.R_base ho0) hb); replace HB := Aside0.mk (below_step (kB_ HB) hb); clear hb; (try clear ho0); obtain ⟨Ao139, co139, eo139⟩ := Kd.R_slice HO596.out; subst eo139) | ((with_reducible refine gate_callee (f := 18) rfl ?_); refine goM_ (some 230) Tryz.func18 #[.slice Ao139 t593.length co139, .int .i64 (wrap64 (-(wrap64 (t592 - 20)))), .int .i64 (wrap64 (t592 - 20))] ?_; (with_reducible refine (impl_MoveStone.calls k3 _ _ t593 (wrap64 (-(wrap64 (t592 - 20)))) (wrap64 (t592 - 20)) t597 t598 _ ?side1 ?side2 A131.out).mono ?_); (case side1 => exact kc_ ((Kd.R_reads' HO596.out).2.2)); (case side2 => exact (Kd.R_reads' HO596.out).2.1); rintro e w140 ⟨v599, rfl, ho0, hb⟩; refine ⟨_, rfl, ?_⟩; have HO600 := Aside0.mk (Kd.R_lower (Kd.R_new' (Kd.R_new' (Kd.R_new' ho0 (Kd.R_lt (kp_ HO_5))) (Kd.R_lt (kp_ HO_20))) (Kd.R_lt (kp_ HO596))) (below_size (kB_ HB))); replace HO_5 := Aside0.mk (Kd.R_elder' (kp_ HO_5) (Kd.R_base ho0) hb); replace HO_20 := Aside0.mk (Kd.R_elder' (kp_ HO_20) (Kd.R_base ho0) hb); replace HO596 := Aside0.mk (Kd.R_elder' (kp_ HO596) (Kd.R_base ho0) hb); replace HB := Aside0.mk (below_step (kB_ HB) hb); clear hb; (try clear ho0)) | ((with_reducible refine gate_callee (f := 19) rfl ?_); refine goM_ (some 235) Tryz.func19 #[.slice Ao19 t549.length co19] ?_; (with_reducible refine (impl_BoxOf.calls k3 _ _ t549 t601 t602 t603 t604 t605 _ ?side1 ?side2 A132.out).mono ?_); (case side1 => exact kc_ ((Kd.R_reads' HO_5.out).2.2)); (case side2 => exact (Kd.R_reads' HO_5.out).2.1); rintro e w141 ⟨rfl, hb⟩; refine ⟨_, rfl, ?_⟩; replace HO_5 := Aside0.mk (Kd.R_below (kp_ HO_5) hb); replace HO_20 := Aside0.mk (Kd.R_below (kp_ HO_20) hb); replace HO596 := Aside0.mk (Kd.R_below (kp_ HO596) hb); replace HO600 := Aside0.mk (Kd.R_below (kp_ HO600) hb); replace HB := Aside0.mk (below_step (kB_ HB) hb); clear hb) | ((with_reducible refine gate_dst (N := 33) rfl ?_); (try (refine gate_guard (by rfl) ?_; dsimp only)); refine boxM_ 33 #[.int .i64 0, .int .i64 0, .int .i64 0, .int .i64 0] 37 ?_; intro gb606 hg w142 hbox hb; replace HO_5 := Aside0.mk (Kd.R_below (kp_ HO_5) hb); replace HO_20 := Aside0.mk (Kd.R_below (kp_ HO_20) hb); replace HO596 := Aside0.mk (Kd.R_below (kp_ HO596) hb); replace HO600 := Aside0.mk (Kd.R_below (kp_ HO600) hb); have BK606 := Aside0.mk (hbox); have GW606 := Aside0.mk ((by rw [hg]; exact (below_size (kB_ HB)) : w.heap.size ≤ gb606)); have GE606 := Aside0.mk ((by rw [hg]; exact (below_size (kB_ HB)) : w.heap.size ≤ gb606)); replace HB := Aside0.mk (below_step (kB_ HB) hb); clear hb hbox hg; have hcz143_0 : w142.cell? ⟨gb606, 0, none⟩ = some (.int .i64 0) := (blk_cell BK606.out 0).trans rfl; have hcz143_1 : w142.cell? ⟨gb606, 1, none⟩ = some (.int .i64 0) := (blk_cell BK606.out 1).trans rfl; have hcz143_2 : w142.cell? ⟨gb606, 2, none⟩ = some (.int .i64 0) := (blk_cell BK606.out 2).trans rfl; have hcz143_3 : w142.cell? ⟨gb606, 3, none⟩ = some (.int .i64 0) := (blk_cell BK606.out 3).trans rfl; have hfz143_0 := blk_frozen BK606.out 0; have hfz143_1 := blk_frozen BK606.out 1; have hfz143_2 := blk_frozen BK606.out 2; have hfz143_3 := blk_frozen BK606.out 3) | ((with_reducible refine gate_callee (f := 20) rfl ?_); refine goM_ (some 240) Tryz.func20 #[.slice Ao19 t549.length co19] ?_; (with_reducible refine (impl_FirstStone.calls k3 _ _ t549 t607 t608 _ ?side1 ?side2 A133.out).mono ?_); (case side1 => refine (Kd.R_reads' (e := 43) (base := w.heap.size) (ok := fun k_ => ((True ∧ some k_ ≠ (.slice Ao139 t593.length co139 : Value).ownBlock) ∧ some k_ ≠ (v599 : Value).ownBlock)) (n := t549.length) (c := co19) ?_).2.2; exact (by (with_reducible repeat (first | apply Kd.R_alloc | apply Kd.R_drewN | apply Kd.R_drew)); exact (Kd.R_mono (Kd.R_far (p := ⟨gb606, 3, none⟩) (Kd.R_far (p := ⟨gb606, 2, none⟩) (Kd.R_far (p := ⟨gb606, 1, none⟩) (Kd.R_far (p := ⟨gb606, 0, none⟩) (Kd.R_types HO_5.out BK606.out (by decide)) (fun _ hk => hk.2) (.int .i64 t601)) (fun _ hk => hk.2) (.int .i64 t602)) (fun _ hk => hk.2) (.int .i64 t603)) (fun _ hk => hk.2) (.int .i64 t604)) (fun _ h_ => h_.1)))); (case side2 => exact (Kd.R_reads' HO_5.out).2.1); rintro e w144 ⟨v609, rfl, ho0, hb⟩; refine ⟨_, rfl, ?_⟩; have HO610 := Aside0.mk (Kd.R_lower (Kd.R_new' (Kd.R_new' (Kd.R_new' (Kd.R_new' ho0 (Kd.R_lt (by (with_reducible repeat (first | apply Kd.R_alloc | apply Kd.R_drewN | apply Kd.R_drew)); exact (Kd.R_mono (Kd.R_far (p := ⟨gb606, 3, none⟩) (Kd.R_far (p := ⟨gb606, 2, none⟩) (Kd.R_far (p := ⟨gb606, 1, none⟩) (Kd.R_far (p := ⟨gb606, 0, none⟩) (Kd.R_types HO_5.out BK606.out (by decide)) (fun _ hk => hk.2) (.int .i64 t601)) (fun _ hk => hk.2) (.int .i64 t602)) (fun _ hk => hk.2) (.int .i64 t603)) (fun _ hk => hk.2) (.int .i64 t604)) (fun _ h_ => h_.1))))) (Kd.R_lt (by (with_reducible repeat (first | apply Kd.R_alloc | apply Kd.R_drewN | apply Kd.R_drew)); exact (Kd.R_mono (Kd.R_far (p := ⟨gb606, 3, none⟩) (Kd.R_far (p := ⟨gb606, 2, none⟩) (Kd.R_far (p := ⟨gb606, 1, none⟩) (Kd.R_far (p := ⟨gb606, 0, none⟩) (Kd.R_types HO_20.out BK606.out (by decide)) (fun _ hk => hk.2) (.int .i64 t601)) (fun _ hk => hk.2) (.int .i64 t602)) (fun _ hk => hk.2) (.int .i64 t603)) (fun _ hk => hk.2) (.int .i64 t604)) (fun _ h_ => h_.1))))) (Kd.R_lt (by (with_reducible repeat (first | apply Kd.R_alloc | apply Kd.R_drewN | apply Kd.R_drew)); exact (Kd.R_mono (Kd.R_far (p := ⟨gb606, 3, none⟩) (Kd.R_far (p := ⟨gb606, 2, none⟩) (Kd.R_far (p := ⟨gb606, 1, none⟩) (Kd.R_far (p := ⟨gb606, 0, none⟩) (Kd.R_types HO596.out BK606.out (by decide)) (fun _ hk => hk.2) (.int .i64 t601)) (fun _ hk => hk.2) (.int .i64 t602)) (fun _ hk => hk.2) (.int .i64 t603)) (fun _ hk => hk.2) (.int .i64 t604)) (fun _ h_ => h_.1))))) (Kd.R_lt (by (with_reducible repeat (first | apply Kd.R_alloc | apply Kd.R_drewN | apply Kd.R_drew)); exact (Kd.R_mono (Kd.R_far (p := ⟨gb606, 3, none⟩) (Kd.R_far (p := ⟨gb606, 2, none⟩) (Kd.R_far (p := ⟨gb606, 1, none⟩) (Kd.R_far (p := ⟨gb606, 0, none⟩) (Kd.R_types HO600.out BK606.out (by decide)) (fun _ hk => hk.2) (.int .i64 t601)) (fun _ hk => hk.2) (.int .i64 t602)) (fun _ hk => hk.2) (.int .i64 t603)) (fun _ hk => hk.2) (.int .i64 t604)) (fun _ h_ => h_.1))))) (below_size (k1_ HB GE606))); replace HO_5 := Aside0.mk (Kd.R_elder' (by (with_reducible repeat (first | apply Kd.R_alloc | apply Kd.R_drewN | apply Kd.R_drew)); exact (Kd.R_mono (Kd.R_far (p := ⟨gb606, 3, none⟩) (Kd.R_far (p := ⟨gb606, 2, none⟩) (Kd.R_far (p := ⟨gb606, 1, none⟩) (Kd.R_far (p := ⟨gb606, 0, none⟩) (Kd.R_types HO_5.out BK606.out (by decide)) (fun _ hk => hk.2) (.int .i64 t601)) (fun _ hk => hk.2) (.int .i64 t602)) (fun _ hk => hk.2) (.int .i64 t603)) (fun _ hk => hk.2) (.int .i64 t604)) (fun _ h_ => h_.1))) (Kd.R_base ho0) hb); replace HO_20 := Aside0.mk (Kd.R_elder' (by (with_reducible repeat (first | apply Kd.R_alloc | apply Kd.R_drewN | apply Kd.R_drew)); exact (Kd.R_mono (Kd.R_far (p := ⟨gb606, 3, none⟩) (Kd.R_far (p := ⟨gb606, 2, none⟩) (Kd.R_far (p := ⟨gb606, 1, none⟩) (Kd.R_far (p := ⟨gb606, 0, none⟩) (Kd.R_types HO_20.out BK606.out (by decide)) (fun _ hk => hk.2) (.int .i64 t601)) (fun _ hk => hk.2) (.int .i64 t602)) (fun _ hk => hk.2) (.int .i64 t603)) (fun _ hk => hk.2) (.int .i64 t604)) (fun _ h_ => h_.1))) (Kd.R_base ho0) hb); replace HO596 := Aside0.mk (Kd.R_elder' (by (with_reducible repeat (first | apply Kd.R_alloc | apply Kd.R_drewN | apply Kd.R_drew)); exact (Kd.R_mono (Kd.R_far (p := ⟨gb606, 3, none⟩) (Kd.R_far (p := ⟨gb606, 2, none⟩) (Kd.R_far (p := ⟨gb606, 1, none⟩) (Kd.R_far (p := ⟨gb606, 0, none⟩) (Kd.R_types HO596.out BK606.out (by decide)) (fun _ hk => hk.2) (.int .i64 t601)) (fun _ hk => hk.2) (.int .i64 t602)) (fun _ hk => hk.2) (.int .i64 t603)) (fun _ hk => hk.2) (.int .i64 t604)) (fun _ h_ => h_.1))) (Kd.R_base ho0) hb); replace HO600 := Aside0.mk (Kd.R_elder' (by (with_reducible repeat (first | apply Kd.R_alloc | apply Kd.R_drewN | apply Kd.R_drew)); exact (Kd.R_mono (Kd.R_far (p := ⟨gb606, 3, none⟩) (Kd.R_far (p := ⟨gb606, 2, none⟩) (Kd.R_far (p := ⟨gb606, 1, none⟩) (Kd.R_far (p := ⟨gb606, 0, none⟩) (Kd.R_types HO600.out BK606.out (by decide)) (fun _ hk => hk.2) (.int .i64 t601)) (fun _ hk => hk.2) (.int .i64 t602)) (fun _ hk => hk.2) (.int .i64 t603)) (fun _ hk => hk.2) (.int .i64 t604)) (fun _ h_ => h_.1))) (Kd.R_base ho0) hb); replace BK606 := Aside0.mk (blk_below (g := gb606) (o := .cells #[.int .i64 t601, .int .i64 t602, .int .i64 t603, .int .i64 t604] 37 (0, 0)) (by (with_reducible repeat (first | refine blk_drewN ?_ _ | refine blk_drew ?_ | refine blk_alloc ?_ _)); refine blk_put (cs := #[.int .i64 t601, .int .i64 t602, .int .i64 t603, .int .i64 0]) ?_ 3 _ rfl; (with_reducible repeat (first | refine blk_drewN ?_ _ | refine blk_drew ?_ | refine blk_alloc ?_ _)); refine blk_put (cs := #[.int .i64 t601, .int .i64 t602, .int .i64 0, .int .i64 0]) ?_ 2 _ rfl; (with_reducible repeat (first | refine blk_drewN ?_ _ | refine blk_drew ?_ | refine blk_alloc ?_ _)); refine blk_put (cs := #[.int .i64 t601, .int .i64 0, .int .i64 0, .int .i64 0]) ?_ 1 _ rfl; (with_reducible repeat (first | refine blk_drewN ?_ _ | refine blk_drew ?_ | refine blk_alloc ?_ _)); refine blk_put (cs := #[.int .i64 0, .int .i64 0, .int .i64 0, .int .i64 0]) ?_ 0 _ rfl; (with_reducible repeat (first | refine blk_drewN ?_ _ | refine blk_drew ?_ | refine blk_alloc ?_ _)); exact BK606.out) hb); replace HB := Aside0.mk (below_step (k1_ HB GE606) hb); clear hb; (try clear ho0)) | ((with_reducible refine gate_callee (f := 21) rfl ?_); refine goM_ (some 245) Tryz.func21 #[.slice Ao19 t549.length co19] ?_; (with_reducible refine (spec_FirstStone.calls k3 _ _ t549 t611 t612 _ ?side1 ?side2 A134.out).mono ?_); (case side1 => exact kc_ ((Kd.R_reads' HO_5.out).2.2)); (case side2 => exact (Kd.R_reads' HO_5.out).2.1); rintro e w145 ⟨v613, rfl, ho0, hb⟩; refine ⟨_, rfl, ?_⟩; have HO614 := Aside0.mk (Kd.R_lower (Kd.R_new' (Kd.R_new' (Kd.R_new' (Kd.R_new' (Kd.R_new' ho0 (Kd.R_lt (kp_ HO_5))) (Kd.R_lt (kp_ HO_20))) (Kd.R_lt (kp_ HO596))) (Kd.R_lt (kp_ HO600))) (Kd.R_lt (kp_ HO610))) (below_size (k1_ HB GE606))); replace HO_5 := Aside0.mk (Kd.R_elder' (kp_ HO_5) (Kd.R_base ho0) hb); replace HO_20 := Aside0.mk (Kd.R_elder' (kp_ HO_20) (Kd.R_base ho0) hb); replace HO596 := Aside0.mk (Kd.R_elder' (kp_ HO596) (Kd.R_base ho0) hb); replace HO600 := Aside0.mk (Kd.R_elder' (kp_ HO600) (Kd.R_base ho0) hb); replace HO610 := Aside0.mk (Kd.R_elder' (kp_ HO610) (Kd.R_base ho0) hb); replace BK606 := bd_ BK606 hb; replace HB := Aside0.mk (below_step (k1_ HB GE606) hb); clear hb; (try clear ho0)))
         as_aux_lemma =>
          (try simp only [Act.put, List.setIfInBounds_toArray, List.set_cons_zero, List.set_cons_succ])
          go_cut [278] (fun v278 wc => ∃ (kq : Nat) (x278_134 : Bool), v278 = .bool x278_134 ∧ Aside0 (laws_FnStones.j3 kq l1 t549 x278_134 t601 t602 t603 t604 = some r) ∧ Aside0 (kq ≤ k3) ∧ Aside0 (Kd.R k43 43 wc w.heap.size (fun _ => True) (.slice Ao19 t549.length co19) t549) ∧ Aside0 (wc.heap[gb606]? = some (.cells #[.int .i64 t601, .int .i64 t602, .int .i64 t603, .int .i64 t604] 37 (0, 0))) ∧ Aside0 (Below w.heap.size w wc))
          case first => as_aux_lemma =>
           have H := HC135.out
           clear HC135
           obtain ⟨c146b0, c146b1, H⟩ := gy_ H
           (first | rw [c146b0] | (simp only [i64_w, i32_w]; rw [c146b0]) | skip)
           obtain ⟨c147b0, c147b1, H⟩ := gy_ H
           obtain ⟨t615, A148, H⟩ := be_ H
           (try dsimp only at H)
           rcases (Decidable.em (t615 = true)).symm with c149 | c149
           ·
            replace c149 := Bool.eq_false_iff.mpr c149
            subst c149
            have H1 := gf_ H
            exact absurd H1 (by simp)
           subst c149
           replace H := gt_ H
           obtain ⟨c150b0, c150b1, H⟩ := gy_ H
           obtain ⟨c151b0, c151b1, H⟩ := gy_ H
           obtain ⟨c152b0, c152b1, H⟩ := gy_ H
           obtain ⟨t616, A153, H⟩ := be_ H
           (try dsimp only at H)
           have H' := Aside0.mk H
           clear H
           obtain ⟨Ao154, co154, eo154⟩ := Kd.R_slice HO600.out
           subst eo154
           as_aux_lemma =>
            go_wp2_with (first | (go_at_call 12; (with_reducible refine (spec_SameStone.calls k3 _ _ t597 _ _ t549 true _ ?side1 ?side2 ?side3 ?side4 A148.out).mono ?_); (case side1 => exact kc_ ((Kd.R_reads' HO600.out).2.2)); (case side2 => exact (Kd.R_reads' HO600.out).2.1); (case side3 => exact kc_ ((Kd.R_reads' HO_5.out).2.2)); (case side4 => exact (Kd.R_reads' HO_5.out).2.1); rintro e w' ⟨rfl, ⟨nd, rfl⟩⟩; obtain ⟨Ao155, co155, eo155⟩ := Kd.R_slice HO610.out; subst eo155; obtain ⟨Ao156, co156, eo156⟩ := Kd.R_slice HO614.out; subst eo156) | (go_at_call 12; (with_reducible refine (spec_SameStone.calls k3 _ _ t607 _ _ t611 t616 _ ?side1 ?side2 ?side3 ?side4 A153.out).mono ?_); (case side1 => exact kc_ ((Kd.R_reads' HO610.out).2.2)); (case side2 => exact (Kd.R_reads' HO610.out).2.1); (case side3 => exact kc_ ((Kd.R_reads' HO614.out).2.2)); (case side4 => exact (Kd.R_reads' HO614.out).2.1); rintro e w' ⟨rfl, ⟨nd, rfl⟩⟩))
            go_meet
            case rel => exact ⟨_, (!t616), (by first | rfl | (simp; done) | (simp [*]; done)), H', ⟨by have := HJ2.out; have := HJ16.out; have := HK3.out; first | omega | exact Nat.le_refl _⟩, ⟨by (with_reducible repeat (first | apply Kd.R_alloc | apply Kd.R_drewN | apply Kd.R_drew)); exact Kd.R_mono HO_5.out (fun _ hk => trivial)⟩, ⟨bk_ BK606⟩, ⟨k1_ HB GE606⟩⟩
          case rest => as_aux_lemma =>
           clear HC135
           obtain ⟨kq, x278_134, rfl, HA, HJ134, HO_5, BK606, HB⟩ := hcut
           rcases kq with _ | kj134
           · exact absurd HA.out (by simp [laws_FnStones.j3])
           have H := HA.out
           clear HA
           simp only [laws_FnStones.j3] at H
           by_cases c161 : x278_134 = true
           ·
            subst c161
            have H1 := gt_ H
            exact absurd H1 (by simp)
           replace c161 := Bool.eq_false_iff.mpr c161
           subst c161
           replace H := gf_ H
           have H' := Aside0.mk H
           clear H
           go_wp2
           go_loopg [39] kj134 (fun kq v39 w' => ∃ (x39_5 : Int), v39 = .int .i64 x39_5 ∧ Aside0 (laws_FnStones.l1 kq l1 t549 x39_5 t601 t602 t603 t604 = some r) ∧ Aside0 (kq ≤ kj134) ∧ Aside0 (Kd.R k43 43 w' w.heap.size (fun _ => True) (.slice Ao19 t549.length co19) t549) ∧ Aside0 (w'.heap[gb606]? = some (.cells #[.int .i64 t601, .int .i64 t602, .int .i64 t603, .int .i64 t604] 37 (0, 0))) ∧ Aside0 (Below w.heap.size w w'))
           case atStart => exact ⟨(0), (by first | rfl | (simp; done) | (simp [*]; done)), H', ⟨Nat.le_refl _⟩, ⟨kp_ HO_5⟩, ⟨bk_ BK606⟩, ⟨k1_ HB GE606⟩⟩
           case round => as_aux_lemma =>
            clear H'
            obtain ⟨x39_5, rfl, HA, HK5, HO_5, BK606, HB⟩ := hrel
            rcases gk with _ | k5
            · exact absurd HA.out (by simp [laws_FnStones.l1])
            have H := HA.out
            clear HA
            simp only [laws_FnStones.l1] at H
            by_cases c162 : x39_5 < (t549.length : Int)
            ·
             rw [if_pos c162] at H
             have c162b0 : decide (x39_5 < (t549.length : Int)) = true := decide_eq_true c162
             clear c162
             obtain ⟨c163b0, H⟩ := gx_ H
             obtain ⟨⟨t619, t620⟩, A164, H⟩ := be_ H
             (try dsimp only at H)
             obtain ⟨c165b0, c165b1, H⟩ := gy_ H
             obtain ⟨c166b0, c166b1, H⟩ := gy_ H
             by_cases c167 : (wrap64 ((rd_T43 t549 x39_5).f0)) < t601
             ·
              rw [if_pos c167] at H
              exact absurd H (by simp)
             rw [if_neg c167] at H
             have c167b0 : decide ((wrap64 ((rd_T43 t549 x39_5).f0)) < t601) = false := decide_eq_false c167
             clear c167
             by_cases c171 : (wrap64 ((rd_T43 t549 x39_5).f1)) < t602
             ·
              rw [if_pos c171] at H
              exact absurd H (by simp)
             rw [if_neg c171] at H
             have c171b0 : decide ((wrap64 ((rd_T43 t549 x39_5).f1)) < t602) = false := decide_eq_false c171
             clear c171
             by_cases c175 : (wrap64 ((rd_T43 t549 x39_5).f0)) > t603
             ·
              rw [if_pos c175] at H
              exact absurd H (by simp)
             rw [if_neg c175] at H
             have c175b0 : decide (t603 < (wrap64 ((rd_T43 t549 x39_5).f0))) = false := decide_eq_false c175
             clear c175
             by_cases c179 : (wrap64 ((rd_T43 t549 x39_5).f1)) > t604
             ·
              rw [if_pos c179] at H
              exact absurd H (by simp)
             rw [if_neg c179] at H
             have c179b0 : decide (t604 < (wrap64 ((rd_T43 t549 x39_5).f1))) = false := decide_eq_false c179
             clear c179
             have H' := Aside0.mk H
             clear H
             try go_wp2
             have n0_ := Aside0.mk (Kd.R_drew HO_5.out)
             have n1_ := Aside0.mk (blk_drew BK606.out)
             have n2_ := Aside0.mk (below_drew1 HB.out)
             clear HO_5
             clear BK606
             clear HB
             have HO_5 := n0_
             have BK606 := n1_
             have HB := n2_
             clear n0_ n1_ n2_
             have p617 : 0 ≤ (x39_5 : Int) := od_
             have q617 : x39_5 < (t549.length : Int) := od_
             obtain ⟨ad617, e617, hx617_0, hx617_1⟩ := at_T43 (Kd.R_reads' HO_5.out).2.2 x39_5 p617 q617
             cases e617
             replace p617 := eq_true p617
             replace q617 := eq_true q617
             have p618 : 0 ≤ (x39_5 : Int) := od_
             have q618 : x39_5 < (t549.length : Int) := od_
             obtain ⟨ad618, e618, hx618_0, hx618_1⟩ := at_T43 (Kd.R_reads' HO_5.out).2.2 x39_5 p618 q618
             obtain rfl : ad617 = ad618 := (by injection e618)
             replace p618 := eq_true p618
             replace q618 := eq_true q618
             as_aux_lemma =>
              refine start_ (n := 19) (S := fun w' => w'.cell? (ad617.add ((x39_5).toNat * 2)) = some (.int .i16 ((rd_T43 t549 x39_5).f0)) ∧ w'.cell? ⟨(ad617.add ((x39_5).toNat * 2)).block, (ad617.add ((x39_5).toNat * 2)).off + 1, none⟩ = some (.int .i16 ((rd_T43 t549 x39_5).f1)) ∧ w'.cell? (ad617.add ((x39_5).toNat * 2)) = some (.int .i16 ((rd_T43 t549 x39_5).f0)) ∧ w'.cell? ⟨(ad617.add ((x39_5).toNat * 2)).block, (ad617.add ((x39_5).toNat * 2)).off + 1, none⟩ = some (.int .i16 ((rd_T43 t549 x39_5).f1))) (ds := []) #[false, false, false, false, false, false, false, false, false, false, false, false, false, false, false, false, false, false, false] (by kernel_rfl) rfl rfl ⟨hx617_0, hx617_1, hx618_0, hx618_1⟩ (fun hHeld => ?_); refine with_tabW laws_FnStones.tab36 laws_FnStones.bits36 (fun HT_ HW_ => ?_)
              generalize wr.drew = w183 at HO_5 BK606 HB hx617_0 hx617_1 hx618_0 hx618_1 hHeld ⊢
              refine pu_ 0 286 (lA 19 1) ?_ ?_ HT_ ?_
              refine pu_ 1 287 (lA 19 3) ?_ ?_ HT_ ?_
              refine pu_ 2 288 (lA 19 7) ?_ ?_ HT_ ?_
              refine pu_ 3 289 (lA 19 15) ?_ ?_ HT_ ?_
              refine pu_ 4 290 (lA 19 31) ?_ ?_ HT_ ?_
              refine pu_ 7 293 (lA 19 159) ?_ ?_ HT_ ?_
              refine pu_ 8 294 (lA 19 415) ?_ ?_ HT_ ?_
              refine pu_ 9 295 (lA 19 927) ?_ ?_ HT_ ?_
              refine pu_ 10 296 (lA 19 1951) ?_ ?_ HT_ ?_
              as_aux_lemma =>
               refine tk_ 5 291 (lA 19 1983) ?_ ?_ HT_ HW_ hHeld ?_
               refine pu_ 6 292 (lA 19 2047) ?_ ?_ HT_ ?_
               refine tk_ 11 297 (lA 19 4095) ?_ ?_ HT_ HW_ hHeld ?_
               refine pu_ 12 298 (lA 19 8191) ?_ ?_ HT_ ?_
               refine one_ (i := 13) (N := some 299) #[true, true, true, true, true, true, true, true, true, true, true, true, true, true, false, false, false, false, false] rfl rfl (one_of HT_.out (by kernel_rfl)) (by decide) (fun K hK => ?_)
               refine goes_ Tryz.func22 (by kernel_rfl) rfl #[.slice (some ad617) t549.length co19, .int .i64 (wrap64 ((rd_T43 t549 x39_5).f0)), .int .i64 (wrap64 ((rd_T43 t549 x39_5).f1))] (by rfl) rfl rfl (by (try simp only [List.map_toArray, List.map_cons, List.map_nil]); first | done | rfl | (simp only [List.length_drop, List.length_take]; rfl)) ?_
               with_reducible refine (impl_WhereIs.calls k5 _ _ t549 (wrap64 ((rd_T43 t549 x39_5).f0)) (wrap64 ((rd_T43 t549 x39_5).f1)) t619 t620 _ ?side1 ?side2 A164.out).mono ?_
               (case side1 => exact kc_ ((Kd.R_reads' HO_5.out).2.2))
               (case side2 => exact (Kd.R_reads' HO_5.out).2.1)
               rintro e w184 ⟨rfl, hb⟩
               have HS0_ := (hb.cell (World.block_lt_of_cell? _ _ (hHeld.1))).trans (hHeld.1)
               have HS1_ := (hb.cell (World.block_lt_of_cell? _ _ (hHeld.2.1))).trans (hHeld.2.1)
               have HS2_ := (hb.cell (World.block_lt_of_cell? _ _ (hHeld.2.2.1))).trans (hHeld.2.2.1)
               have HS3_ := (hb.cell (World.block_lt_of_cell? _ _ (hHeld.2.2.2))).trans (hHeld.2.2.2)
               refine ⟨_, rfl, ?_⟩
               have n0_ := Aside0.mk (Kd.R_below (kp_ HO_5) hb)
               have n1_ := bd_ BK606 hb
               have n2_ := Aside0.mk (below_step (k1_ HB GE606) hb)
               clear HO_5
               clear BK606
               clear HB
               have HO_5 := n0_
               have BK606 := n1_
               have HB := n2_
               clear n0_ n1_ n2_
               refine hK.out _ _ ⟨HS0_, HS1_, HS2_, HS3_⟩ (fun hHeld => ?_)
               clear hK K
               refine norm_ (a' := ?_) ?_ ?_
               rotate_left
               ·
                show Act.put _ (some 299) _ = _
                simp only [Act.put, List.setIfInBounds_toArray, List.set_cons_zero, List.set_cons_succ, i64_w, i32_w]
                rfl
               refine pu_ 14 285 (lA 19 32767) ?_ ?_ HT_ ?_
               refine pu_ 15 300 (lA 19 65535) ?_ ?_ HT_ ?_
               refine pu_ 16 301 (lA 19 131071) ?_ ?_ HT_ ?_
               refine pu_ 17 40 (lA 19 262143) ?_ ?_ HT_ ?_
               refine pu_ 18 41 (lA 19 524287) ?_ ?_ HT_ ?_
               refine done_ (done_of HT_.out (by kernel_rfl)) ?_
               try go_wp2
               have n0_ := Aside0.mk (Kd.R_drew HO_5.out)
               have n1_ := Aside0.mk (blk_drew BK606.out)
               have n2_ := Aside0.mk (below_drew1 HB.out)
               clear HO_5
               clear BK606
               clear HB
               have HO_5 := n0_
               have BK606 := n1_
               have HB := n2_
               clear n0_ n1_ n2_
               have p621 : 0 ≤ (x39_5 : Int) := od_
               have q621 : x39_5 < (t549.length : Int) := od_
               obtain ⟨ad621, e621, hx621_0, hx621_1⟩ := at_T43 (Kd.R_reads' HO_5.out).2.2 x39_5 p621 q621
               obtain rfl : ad617 = ad621 := (by injection e621)
               replace p621 := eq_true p621
               replace q621 := eq_true q621
               have p622 : 0 ≤ (x39_5 : Int) := od_
               have q622 : x39_5 < (t549.length : Int) := od_
               obtain ⟨ad622, e622, hx622_0, hx622_1⟩ := at_T43 (Kd.R_reads' HO_5.out).2.2 x39_5 p622 q622
               obtain rfl : ad617 = ad622 := (by injection e622)
               replace p622 := eq_true p622
               replace q622 := eq_true q622
               have p623 : 0 ≤ (x39_5 : Int) := od_
               have q623 : x39_5 < (t549.length : Int) := od_
               obtain ⟨ad623, e623, hx623_0, hx623_1⟩ := at_T43 (Kd.R_reads' HO_5.out).2.2 x39_5 p623 q623
               obtain rfl : ad617 = ad623 := (by injection e623)
               replace p623 := eq_true p623
               replace q623 := eq_true q623
               have p624 : 0 ≤ (x39_5 : Int) := od_
               have q624 : x39_5 < (t549.length : Int) := od_
               obtain ⟨ad624, e624, hx624_0, hx624_1⟩ := at_T43 (Kd.R_reads' HO_5.out).2.2 x39_5 p624 q624
               obtain rfl : ad617 = ad624 := (by injection e624)
               replace p624 := eq_true p624
               replace q624 := eq_true q624
               as_aux_lemma =>
                refine start_ (n := 50) (S := fun w' => w'.cell? ⟨gb606, 0, none⟩ = some (.int .i64 t601) ∧ w'.cell? ⟨gb606, 1, none⟩ = some (.int .i64 t602) ∧ w'.cell? ⟨gb606, 2, none⟩ = some (.int .i64 t603) ∧ w'.cell? ⟨gb606, 3, none⟩ = some (.int .i64 t604) ∧ w'.cell? (ad617.add ((x39_5).toNat * 2)) = some (.int .i16 ((rd_T43 t549 x39_5).f0)) ∧ w'.cell? ⟨(ad617.add ((x39_5).toNat * 2)).block, (ad617.add ((x39_5).toNat * 2)).off + 1, none⟩ = some (.int .i16 ((rd_T43 t549 x39_5).f1)) ∧ w'.cell? (ad617.add ((x39_5).toNat * 2)) = some (.int .i16 ((rd_T43 t549 x39_5).f0)) ∧ w'.cell? ⟨(ad617.add ((x39_5).toNat * 2)).block, (ad617.add ((x39_5).toNat * 2)).off + 1, none⟩ = some (.int .i16 ((rd_T43 t549 x39_5).f1)) ∧ w'.cell? (ad617.add ((x39_5).toNat * 2)) = some (.int .i16 ((rd_T43 t549 x39_5).f0)) ∧ w'.cell? ⟨(ad617.add ((x39_5).toNat * 2)).block, (ad617.add ((x39_5).toNat * 2)).off + 1, none⟩ = some (.int .i16 ((rd_T43 t549 x39_5).f1)) ∧ w'.cell? (ad617.add ((x39_5).toNat * 2)) = some (.int .i16 ((rd_T43 t549 x39_5).f0)) ∧ w'.cell? ⟨(ad617.add ((x39_5).toNat * 2)).block, (ad617.add ((x39_5).toNat * 2)).off + 1, none⟩ = some (.int .i16 ((rd_T43 t549 x39_5).f1))) (ds := []) #[false, false, false, false, false, false, false, false, false, false, false, false, false, false, false, false, false, false, false, false, false, false, false, false, false, false, false, false, false, false, false, false, false, false, false, false, false, false, false, false, false, false, false, false, false, false, false, false, false, false] (by kernel_rfl) rfl rfl ⟨(blk_cell BK606.out 0).trans rfl, (blk_cell BK606.out 1).trans rfl, (blk_cell BK606.out 2).trans rfl, (blk_cell BK606.out 3).trans rfl, hx621_0, hx621_1, hx622_0, hx622_1, hx623_0, hx623_1, hx624_0, hx624_1⟩ (fun hHeld => ?_); refine with_tabW laws_FnStones.tab37 laws_FnStones.bits37 (fun HT_ HW_ => ?_)
                generalize w184.drew = w185 at HO_5 BK606 HB hx621_0 hx621_1 hx622_0 hx622_1 hx623_0 hx623_1 hx624_0 hx624_1 hHeld ⊢
                refine pu_ 0 302 (lA 50 1) ?_ ?_ HT_ ?_
                refine pu_ 1 303 (lA 50 3) ?_ ?_ HT_ ?_
                refine pu_ 2 304 (lA 50 7) ?_ ?_ HT_ ?_
                refine pu_ 3 305 (lA 50 15) ?_ ?_ HT_ ?_
                refine pu_ 4 306 (lA 50 31) ?_ ?_ HT_ ?_
                refine pu_ 5 307 (lA 50 63) ?_ ?_ HT_ ?_
                refine pu_ 6 308 (lA 50 127) ?_ ?_ HT_ ?_
                refine pu_ 7 309 (lA 50 255) ?_ ?_ HT_ ?_
                refine pu_ 8 310 (lA 50 511) ?_ ?_ HT_ ?_
                as_aux_lemma =>
                 refine pu_ 9 311 (lA 50 1023) ?_ ?_ HT_ ?_
                 refine pu_ 10 312 (lA 50 2047) ?_ ?_ HT_ ?_
                 refine pu_ 13 315 (lA 50 10239) ?_ ?_ HT_ ?_
                 refine tk_ 11 313 (lA 50 12287) ?_ ?_ HT_ HW_ hHeld ?_
                 refine pu_ 12 314 (lA 50 16383) ?_ ?_ HT_ ?_
                 refine tk_ 14 316 (lA 50 32767) ?_ ?_ HT_ HW_ hHeld ?_
                 refine pu_ 15 317 (lA 50 65535) ?_ ?_ HT_ ?_
                 refine pu_ 16 318 (lA 50 131071) ?_ ?_ HT_ ?_
                 refine pu_ 17 319 (lA 50 262143) ?_ ?_ HT_ ?_
                 as_aux_lemma =>
                  refine pu_ 18 320 (lA 50 524287) ?_ ?_ HT_ ?_
                  refine pu_ 19 321 (lA 50 1048575) ?_ ?_ HT_ ?_
                  refine pu_ 20 322 (lA 50 2097151) ?_ ?_ HT_ ?_
                  refine pu_ 21 323 (lA 50 4194303) ?_ ?_ HT_ ?_
                  refine pu_ 24 326 (lA 50 20971519) ?_ ?_ HT_ ?_
                  refine tk_ 22 324 (lA 50 25165823) ?_ ?_ HT_ HW_ hHeld ?_
                  refine pu_ 23 325 (lA 50 33554431) ?_ ?_ HT_ ?_
                  refine tk_ 25 327 (lA 50 67108863) ?_ ?_ HT_ HW_ hHeld ?_
                  refine pu_ 26 328 (lA 50 134217727) ?_ ?_ HT_ ?_
                  as_aux_lemma =>
                   refine pu_ 27 329 (lA 50 268435455) ?_ ?_ HT_ ?_
                   refine pu_ 28 330 (lA 50 536870911) ?_ ?_ HT_ ?_
                   refine pu_ 29 331 (lA 50 1073741823) ?_ ?_ HT_ ?_
                   refine pu_ 30 332 (lA 50 2147483647) ?_ ?_ HT_ ?_
                   refine pu_ 31 333 (lA 50 4294967295) ?_ ?_ HT_ ?_
                   refine pu_ 32 334 (lA 50 8589934591) ?_ ?_ HT_ ?_
                   refine pu_ 35 337 (lA 50 42949672959) ?_ ?_ HT_ ?_
                   refine tk_ 33 335 (lA 50 51539607551) ?_ ?_ HT_ HW_ hHeld ?_
                   refine pu_ 34 336 (lA 50 68719476735) ?_ ?_ HT_ ?_
                   as_aux_lemma =>
                    refine tk_ 36 338 (lA 50 137438953471) ?_ ?_ HT_ HW_ hHeld ?_
                    refine pu_ 37 339 (lA 50 274877906943) ?_ ?_ HT_ ?_
                    refine pu_ 38 340 (lA 50 549755813887) ?_ ?_ HT_ ?_
                    refine pu_ 39 341 (lA 50 1099511627775) ?_ ?_ HT_ ?_
                    refine pu_ 40 342 (lA 50 2199023255551) ?_ ?_ HT_ ?_
                    refine pu_ 41 343 (lA 50 4398046511103) ?_ ?_ HT_ ?_
                    refine pu_ 42 344 (lA 50 8796093022207) ?_ ?_ HT_ ?_
                    refine pu_ 43 345 (lA 50 17592186044415) ?_ ?_ HT_ ?_
                    refine pu_ 46 348 (lA 50 87960930222079) ?_ ?_ HT_ ?_
                    as_aux_lemma =>
                     refine tk_ 44 346 (lA 50 105553116266495) ?_ ?_ HT_ HW_ hHeld ?_
                     refine pu_ 45 347 (lA 50 140737488355327) ?_ ?_ HT_ ?_
                     refine tk_ 47 349 (lA 50 281474976710655) ?_ ?_ HT_ HW_ hHeld ?_
                     refine pu_ 48 350 (lA 50 562949953421311) ?_ ?_ HT_ ?_
                     refine pu_ 49 351 (lA 50 1125899906842623) ?_ ?_ HT_ ?_
                     refine done_ (done_of HT_.out (by kernel_rfl)) ?_
                     try go_wp2
                     go_roundg k5
                     case measure => have := HJ2.out; have := HJ16.out; have := HK3.out; have := HJ134.out; have := HK5.out; omega
                     case rel => exact ⟨(wrap64 (x39_5 + 1)), (by first | rfl | (simp; done) | (simp [*]; done)), H', ⟨by have := HJ2.out; have := HJ16.out; have := HK3.out; have := HJ134.out; have := HK5.out; omega⟩, ⟨kp_ HO_5⟩, ⟨bk_ BK606⟩, ⟨k1_ HB GE606⟩⟩
            rw [if_neg c162] at H
            have c162b0 : decide (x39_5 < (t549.length : Int)) = false := decide_eq_false c162
            clear c162
            obtain ⟨t625, A192, H⟩ := be_ H
            (try dsimp only at H)
            obtain ⟨⟨t628, t629⟩, A193, H⟩ := be_ H
            (try dsimp only at H)
            obtain ⟨⟨t632, t633⟩, A194, H⟩ := be_ H
            (try dsimp only at H)
            have HC195 := Aside0.mk H
            clear H
            as_aux_lemma =>
             go_upto_region 42 with (first | ((with_reducible refine gate_callee (f := 23) rfl ?_); refine goM_ (some 353) Tryz.func23 #[.slice A1 l1.length c1] ?_; (with_reducible refine (spec_P6Corners.calls k5 _ _ l1 t625 _ ?side1 ?side2 A192.out).mono ?_); (case side1 => exact kc_ (Kd.C_below HR1.out HB.out)); (case side2 => exact HC1.out); rintro e w196 ⟨v626, rfl, ho0, hb⟩; refine ⟨_, rfl, ?_⟩; have HO627 := Aside0.mk (Kd.R_lower (Kd.R_new' ho0 (Kd.R_lt (kp_ HO_5))) (below_size (k1_ HB GE606))); replace HO_5 := Aside0.mk (Kd.R_elder' (kp_ HO_5) (Kd.R_base ho0) hb); replace BK606 := bd_ BK606 hb; replace HB := Aside0.mk (below_step (k1_ HB GE606) hb); clear hb; (try clear ho0); obtain ⟨Ao197, co197, eo197⟩ := Kd.R_slice HO627.out; subst eo197) | ((with_reducible refine gate_callee (f := 24) rfl ?_); refine goM_ (some 356) Tryz.func24 #[.slice Ao197 t625.length co197] ?_; (with_reducible refine (impl_HullOf.calls k5 _ _ t625 t628 t629 _ ?side1 ?side2 A193.out).mono ?_); (case side1 => exact kc_ ((Kd.R_reads' HO627.out).2.2)); (case side2 => exact (Kd.R_reads' HO627.out).2.1); rintro e w198 ⟨v630, rfl, ho0, hb⟩; refine ⟨_, rfl, ?_⟩; have HO631 := Aside0.mk (Kd.R_lower (Kd.R_new' (Kd.R_new' ho0 (Kd.R_lt (kp_ HO_5))) (Kd.R_lt (kp_ HO627))) (below_size (k1_ HB GE606))); replace HO_5 := Aside0.mk (Kd.R_elder' (kp_ HO_5) (Kd.R_base ho0) hb); replace HO627 := Aside0.mk (Kd.R_elder' (kp_ HO627) (Kd.R_base ho0) hb); replace BK606 := bd_ BK606 hb; replace HB := Aside0.mk (below_step (k1_ HB GE606) hb); clear hb; (try clear ho0)) | ((with_reducible refine gate_callee (f := 25) rfl ?_); refine goM_ (some 361) Tryz.func25 #[.slice Ao197 t625.length co197] ?_; (with_reducible refine (spec_HullOf.calls k5 _ _ t625 t632 t633 _ ?side1 ?side2 A194.out).mono ?_); (case side1 => exact kc_ ((Kd.R_reads' HO627.out).2.2)); (case side2 => exact (Kd.R_reads' HO627.out).2.1); rintro e w199 ⟨v634, rfl, ho0, hb⟩; refine ⟨_, rfl, ?_⟩; have HO635 := Aside0.mk (Kd.R_lower (Kd.R_new' (Kd.R_new' (Kd.R_new' ho0 (Kd.R_lt (kp_ HO_5))) (Kd.R_lt (kp_ HO627))) (Kd.R_lt (kp_ HO631))) (below_size (k1_ HB GE606))); replace HO_5 := Aside0.mk (Kd.R_elder' (kp_ HO_5) (Kd.R_base ho0) hb); replace HO627 := Aside0.mk (Kd.R_elder' (kp_ HO627) (Kd.R_base ho0) hb); replace HO631 := Aside0.mk (Kd.R_elder' (kp_ HO631) (Kd.R_base ho0) hb); replace BK606 := bd_ BK606 hb; replace HB := Aside0.mk (below_step (k1_ HB GE606) hb); clear hb; (try clear ho0)))
             as_aux_lemma =>
              (try simp only [Act.put, List.setIfInBounds_toArray, List.set_cons_zero, List.set_cons_succ])
              go_cut [384] (fun v384 wc => ∃ (kq : Nat) (x384_194 : Bool), v384 = .bool x384_194 ∧ Aside0 (laws_FnStones.j5 kq t625 t629 t632 x384_194 = some r) ∧ Aside0 (kq ≤ k5) ∧ Aside0 (Kd.R k43 43 wc w.heap.size (fun k_ => some k_ ≠ (v634 : Value).ownBlock) (.slice Ao197 t625.length co197) t625) ∧ Aside0 (Kd.R k43 43 wc w.heap.size (fun k_ => some k_ ≠ ((.slice Ao197 t625.length co197) : Value).ownBlock) v634 t632) ∧ Aside0 (wc.heap[gb606]? = some (.cells #[.int .i64 t601, .int .i64 t602, .int .i64 t603, .int .i64 t604] 37 (0, 0))) ∧ Aside0 (Below w.heap.size w wc))
              case first => as_aux_lemma =>
               have H := HC195.out
               clear HC195
               obtain ⟨c200b0, c200b1, H⟩ := gy_ H
               (first | rw [c200b0] | (simp only [i64_w, i32_w]; rw [c200b0]) | skip)
               obtain ⟨t636, A201, H⟩ := be_ H
               (try dsimp only at H)
               rcases (Decidable.em (t636 = true)).symm with c202 | c202
               ·
                replace c202 := Bool.eq_false_iff.mpr c202
                subst c202
                have H1 := gf_ H
                exact absurd H1 (by simp)
               subst c202
               replace H := gt_ H
               by_cases c203 : t629 = 0
               ·
                rw [if_pos c203] at H
                have c203b0 : (t629 == 0) = true := beq_iff_eq.mpr c203
                have c203b1 : (t629 != 0) = false := bne_eq_false_iff_eq.mpr c203
                clear c203
                have H' := Aside0.mk H
                clear H
                obtain ⟨Ao204, co204, eo204⟩ := Kd.R_slice HO631.out
                subst eo204
                obtain ⟨Ao205, co205, eo205⟩ := Kd.R_slice HO635.out
                subst eo205
                as_aux_lemma =>
                 go_wp2_with (first | (go_at_call 12; (with_reducible refine (spec_SameStone.calls k5 _ _ t628 _ _ t632 true _ ?side1 ?side2 ?side3 ?side4 A201.out).mono ?_); (case side1 => exact kc_ ((Kd.R_reads' HO631.out).2.2)); (case side2 => exact (Kd.R_reads' HO631.out).2.1); (case side3 => exact kc_ ((Kd.R_reads' HO635.out).2.2)); (case side4 => exact (Kd.R_reads' HO635.out).2.1); rintro e w' ⟨rfl, ⟨nd, rfl⟩⟩))
                 go_meet
                 case rel => exact ⟨_, (false), (by first | rfl | (simp; done) | (simp [*]; done)), H', ⟨by have := HJ2.out; have := HJ16.out; have := HK3.out; have := HJ134.out; have := HK5.out; first | omega | exact Nat.le_refl _⟩, ⟨by (with_reducible repeat (first | apply Kd.R_alloc | apply Kd.R_drewN | apply Kd.R_drew)); exact Kd.R_mono HO627.out (fun _ hk => hk.2)⟩, ⟨by (with_reducible repeat (first | apply Kd.R_alloc | apply Kd.R_drewN | apply Kd.R_drew)); exact Kd.R_mono HO635.out (fun _ hk => hk.1.2)⟩, ⟨bk_ BK606⟩, ⟨k1_ HB GE606⟩⟩
               rw [if_neg c203] at H
               have c203b0 : (t629 == 0) = false := beq_eq_false_iff_ne.mpr c203
               have c203b1 : (t629 != 0) = true := bne_iff_ne.mpr c203
               rcases (Decidable.em (t629 = 4)).symm with c206 | c206
               ·
                rw [if_neg c206] at H
                have c206b0 : (t629 == 4) = false := beq_eq_false_iff_ne.mpr c206
                have c206b1 : (t629 != 4) = true := bne_iff_ne.mpr c206
                have H' := Aside0.mk H
                clear H
                obtain ⟨Ao209, co209, eo209⟩ := Kd.R_slice HO631.out
                subst eo209
                obtain ⟨Ao210, co210, eo210⟩ := Kd.R_slice HO635.out
                subst eo210
                as_aux_lemma =>
                 go_wp2_with (first | (go_at_call 12; (with_reducible refine (spec_SameStone.calls k5 _ _ t628 _ _ t632 true _ ?side1 ?side2 ?side3 ?side4 A201.out).mono ?_); (case side1 => exact kc_ ((Kd.R_reads' HO631.out).2.2)); (case side2 => exact (Kd.R_reads' HO631.out).2.1); (case side3 => exact kc_ ((Kd.R_reads' HO635.out).2.2)); (case side4 => exact (Kd.R_reads' HO635.out).2.1); rintro e w' ⟨rfl, ⟨nd, rfl⟩⟩))
                 go_meet
                 case rel => exact ⟨_, ((t629 != 3)), (by first | rfl | (simp; done) | (simp [*]; done)), H', ⟨by have := HJ2.out; have := HJ16.out; have := HK3.out; have := HJ134.out; have := HK5.out; first | omega | exact Nat.le_refl _⟩, ⟨by (with_reducible repeat (first | apply Kd.R_alloc | apply Kd.R_drewN | apply Kd.R_drew)); exact Kd.R_mono HO627.out (fun _ hk => hk.2)⟩, ⟨by (with_reducible repeat (first | apply Kd.R_alloc | apply Kd.R_drewN | apply Kd.R_drew)); exact Kd.R_mono HO635.out (fun _ hk => hk.1.2)⟩, ⟨bk_ BK606⟩, ⟨k1_ HB GE606⟩⟩
               rw [if_pos c206] at H
               have c206b0 : (t629 == 4) = true := beq_iff_eq.mpr c206
               have c206b1 : (t629 != 4) = false := bne_eq_false_iff_eq.mpr c206
               clear c206
               have H' := Aside0.mk H
               clear H
               obtain ⟨Ao207, co207, eo207⟩ := Kd.R_slice HO631.out
               subst eo207
               obtain ⟨Ao208, co208, eo208⟩ := Kd.R_slice HO635.out
               subst eo208
               as_aux_lemma =>
                go_wp2_with (first | (go_at_call 12; (with_reducible refine (spec_SameStone.calls k5 _ _ t628 _ _ t632 true _ ?side1 ?side2 ?side3 ?side4 A201.out).mono ?_); (case side1 => exact kc_ ((Kd.R_reads' HO631.out).2.2)); (case side2 => exact (Kd.R_reads' HO631.out).2.1); (case side3 => exact kc_ ((Kd.R_reads' HO635.out).2.2)); (case side4 => exact (Kd.R_reads' HO635.out).2.1); rintro e w' ⟨rfl, ⟨nd, rfl⟩⟩))
                go_meet
                case rel => exact ⟨_, (false), (by first | rfl | (simp; done) | (simp [*]; done)), H', ⟨by have := HJ2.out; have := HJ16.out; have := HK3.out; have := HJ134.out; have := HK5.out; first | omega | exact Nat.le_refl _⟩, ⟨by (with_reducible repeat (first | apply Kd.R_alloc | apply Kd.R_drewN | apply Kd.R_drew)); exact Kd.R_mono HO627.out (fun _ hk => hk.2)⟩, ⟨by (with_reducible repeat (first | apply Kd.R_alloc | apply Kd.R_drewN | apply Kd.R_drew)); exact Kd.R_mono HO635.out (fun _ hk => hk.1.2)⟩, ⟨bk_ BK606⟩, ⟨k1_ HB GE606⟩⟩
              case rest => as_aux_lemma =>
               clear HC195
               obtain ⟨kq, x384_194, rfl, HA, HJ194, HO_42, HO_45, BK606, HB⟩ := hcut
               rcases kq with _ | kj194
               · exact absurd HA.out (by simp [laws_FnStones.j5])
               have H := HA.out
               clear HA
               simp only [laws_FnStones.j5] at H
               by_cases c213 : x384_194 = true
               ·
                subst c213
                have H1 := gt_ H
                exact absurd H1 (by simp)
               replace c213 := Bool.eq_false_iff.mpr c213
               subst c213
               replace H := gf_ H
               rcases (Decidable.em (t629 = 0)).symm with c214 | c214
               ·
                rw [if_neg c214] at H
                have c214b0 : (t629 == 0) = false := beq_eq_false_iff_ne.mpr c214
                have c214b1 : (t629 != 0) = true := bne_iff_ne.mpr c214
                by_cases c243 : t629 = 3
                ·
                 rw [if_pos c243] at H
                 have c243b0 : (t629 == 3) = true := beq_iff_eq.mpr c243
                 have c243b1 : (t629 != 3) = false := bne_eq_false_iff_eq.mpr c243
                 clear c243
                 obtain rfl := Option.some.inj H
                 go_wp2
                 go_ret
                 exact ⟨rt_, k1_ HB GE606⟩
                rw [if_neg c243] at H
                have c243b0 : (t629 == 3) = false := beq_eq_false_iff_ne.mpr c243
                have c243b1 : (t629 != 3) = true := bne_iff_ne.mpr c243
                obtain rfl := Option.some.inj H
                obtain ⟨Ao244, co244, eo244⟩ := Kd.R_slice HO_45.out
                subst eo244
                go_wp2
                go_ret
                exact ⟨rt_, k1_ HB GE606⟩
               rw [if_pos c214] at H
               have c214b0 : (t629 == 0) = true := beq_iff_eq.mpr c214
               have c214b1 : (t629 != 0) = false := bne_eq_false_iff_eq.mpr c214
               clear c214
               have H' := Aside0.mk H
               clear H
               go_wp2
               go_loopg [47] kj194 (fun kq v47 w' => ∃ (x47_7 : Int), v47 = .int .i64 x47_7 ∧ Aside0 (laws_FnStones.l2 kq t625 t632 x47_7 = some r) ∧ Aside0 (kq ≤ kj194) ∧ Aside0 (Kd.R k43 43 w' w.heap.size (fun k_ => some k_ ≠ (v634 : Value).ownBlock) (.slice Ao197 t625.length co197) t625) ∧ Aside0 (Kd.R k43 43 w' w.heap.size (fun k_ => some k_ ≠ ((.slice Ao197 t625.length co197) : Value).ownBlock) v634 t632) ∧ Aside0 (w'.heap[gb606]? = some (.cells #[.int .i64 t601, .int .i64 t602, .int .i64 t603, .int .i64 t604] 37 (0, 0))) ∧ Aside0 (Below w.heap.size w w'))
               case atStart => exact ⟨(0), (by first | rfl | (simp; done) | (simp [*]; done)), H', ⟨Nat.le_refl _⟩, ⟨kp_ HO_42⟩, ⟨kp_ HO_45⟩, ⟨bk_ BK606⟩, ⟨k1_ HB GE606⟩⟩
               case round => as_aux_lemma =>
                clear H'
                obtain ⟨x47_7, rfl, HA, HK7, HO_42, HO_45, BK606, HB⟩ := hrel
                rcases gk with _ | k7
                · exact absurd HA.out (by simp [laws_FnStones.l2])
                have H := HA.out
                clear HA
                simp only [laws_FnStones.l2] at H
                rcases (Decidable.em (x47_7 < (t625.length : Int))).symm with c215 | c215
                ·
                 rw [if_neg c215] at H
                 have c215b0 : decide (x47_7 < (t625.length : Int)) = false := decide_eq_false c215
                 clear c215
                 obtain ⟨⟨t641, t642⟩, A229, H⟩ := be_ H
                 (try dsimp only at H)
                 obtain ⟨c230b0, c230b1, H⟩ := gy_ H
                 obtain ⟨t645, A231, H⟩ := be_ H
                 (try dsimp only at H)
                 rcases (Decidable.em (t645 = true)).symm with c232 | c232
                 ·
                  replace c232 := Bool.eq_false_iff.mpr c232
                  subst c232
                  have H1 := gf_ H
                  exact absurd H1 (by simp)
                 subst c232
                 replace H := gt_ H
                 obtain ⟨t646, A233, H⟩ := be_ H
                 (try dsimp only at H)
                 obtain rfl := Option.some.inj H
                 obtain ⟨Ao234, co234, eo234⟩ := Kd.R_slice HO_45.out
                 subst eo234
                 as_aux_lemma =>
                  go_wp2_with (first | ((with_reducible refine gate_callee (f := 20) rfl ?_); refine goM_ (some 425) Tryz.func20 #[.slice Ao234 t632.length co234] ?_; (with_reducible refine (impl_FirstStone.calls k7 _ _ t632 t641 t642 _ ?side1 ?side2 A229.out).mono ?_); (case side1 => exact kc_ ((Kd.R_reads' HO_45.out).2.2)); (case side2 => exact (Kd.R_reads' HO_45.out).2.1); rintro e w235 ⟨v643, rfl, ho0, hb⟩; refine ⟨_, rfl, ?_⟩; have HO644 := Aside0.mk (Kd.R_lower (Kd.R_new' (Kd.R_new' ho0 (Kd.R_lt (kp_ HO_42))) (Kd.R_lt (kp_ HO_45))) (below_size (k1_ HB GE606))); replace HO_42 := Aside0.mk (Kd.R_elder' (kp_ HO_42) (Kd.R_base ho0) hb); replace HO_45 := Aside0.mk (Kd.R_elder' (kp_ HO_45) (Kd.R_base ho0) hb); replace BK606 := bd_ BK606 hb; replace HB := Aside0.mk (below_step (k1_ HB GE606) hb); clear hb; (try clear ho0); obtain ⟨Ao236, co236, eo236⟩ := Kd.R_slice HO644.out; subst eo236) | (go_at_call 12; (with_reducible refine (spec_SameStone.calls k7 _ _ t641 _ _ t632 true _ ?side1 ?side2 ?side3 ?side4 A231.out).mono ?_); (case side1 => exact kc_ ((Kd.R_reads' HO644.out).2.2)); (case side2 => exact (Kd.R_reads' HO644.out).2.1); (case side3 => exact kc_ ((Kd.R_reads' HO_45.out).2.2)); (case side4 => exact (Kd.R_reads' HO_45.out).2.1); rintro e w' ⟨rfl, ⟨nd, rfl⟩⟩) | (go_at_call 14; (with_reducible refine (impl_ValidStone.calls k7 _ _ t632 t646 _ ?side1 ?side2 A233.out).mono ?_); (case side1 => exact kc_ ((Kd.R_reads' HO_45.out).2.2)); (case side2 => exact (Kd.R_reads' HO_45.out).2.1); rintro e w237 ⟨rfl, hb⟩; replace HO_42 := Aside0.mk (Kd.R_below (kp_ HO_42) hb); replace HO_45 := Aside0.mk (Kd.R_below (kp_ HO_45) hb); replace HO644 := Aside0.mk (Kd.R_below (kp_ HO644) hb); replace BK606 := bd_ BK606 hb; replace HB := Aside0.mk (below_step (k1_ HB GE606) hb); clear hb))
                  go_ret
                  exact ⟨rt_, k1_ HB GE606⟩
                rw [if_pos c215] at H
                have c215b0 : decide (x47_7 < (t625.length : Int)) = true := decide_eq_true c215
                clear c215
                obtain ⟨c216b0, H⟩ := gx_ H
                obtain ⟨⟨t639, t640⟩, A217, H⟩ := be_ H
                (try dsimp only at H)
                obtain ⟨c218b0, c218b1, H⟩ := gy_ H
                by_cases c219 : t639 = 0
                ·
                 rw [if_pos c219] at H
                 exact absurd H (by simp)
                rw [if_neg c219] at H
                have c219b0 : (t639 == 0) = false := beq_eq_false_iff_ne.mpr c219
                have c219b1 : (t639 != 0) = true := bne_iff_ne.mpr c219
                have H' := Aside0.mk H
                clear H
                try go_wp2
                have n0_ := Aside0.mk (Kd.R_drew HO_42.out)
                have n1_ := Aside0.mk (Kd.R_drew HO_45.out)
                have n2_ := Aside0.mk (blk_drew BK606.out)
                have n3_ := Aside0.mk (below_drew1 HB.out)
                clear HO_42
                clear HO_45
                clear BK606
                clear HB
                have HO_42 := n0_
                have HO_45 := n1_
                have BK606 := n2_
                have HB := n3_
                clear n0_ n1_ n2_ n3_
                have p637 : 0 ≤ (x47_7 : Int) := od_
                have q637 : x47_7 < (t625.length : Int) := od_
                obtain ⟨ad637, e637, hx637_0, hx637_1⟩ := at_T43 (Kd.R_reads' HO_42.out).2.2 x47_7 p637 q637
                cases e637
                replace p637 := eq_true p637
                replace q637 := eq_true q637
                have p638 : 0 ≤ (x47_7 : Int) := od_
                have q638 : x47_7 < (t625.length : Int) := od_
                obtain ⟨ad638, e638, hx638_0, hx638_1⟩ := at_T43 (Kd.R_reads' HO_42.out).2.2 x47_7 p638 q638
                obtain rfl : ad637 = ad638 := (by injection e638)
                replace p638 := eq_true p638
                replace q638 := eq_true q638
                obtain ⟨Ao224, co224, eo224⟩ := Kd.R_slice HO_45.out
                (first | subst eo224 | (injection eo224 with f1_ f2_ f3_; have f4_ := f1_.symm; have f5_ := f3_.symm; clear f1_ f2_ f3_; subst f4_; subst f5_))
                as_aux_lemma =>
                 refine start_ (n := 19) (S := fun w' => w'.cell? (ad637.add ((x47_7).toNat * 2)) = some (.int .i16 ((rd_T43 t625 x47_7).f0)) ∧ w'.cell? ⟨(ad637.add ((x47_7).toNat * 2)).block, (ad637.add ((x47_7).toNat * 2)).off + 1, none⟩ = some (.int .i16 ((rd_T43 t625 x47_7).f1)) ∧ w'.cell? (ad637.add ((x47_7).toNat * 2)) = some (.int .i16 ((rd_T43 t625 x47_7).f0)) ∧ w'.cell? ⟨(ad637.add ((x47_7).toNat * 2)).block, (ad637.add ((x47_7).toNat * 2)).off + 1, none⟩ = some (.int .i16 ((rd_T43 t625 x47_7).f1))) (ds := []) #[false, false, false, false, false, false, false, false, false, false, false, false, false, false, false, false, false, false, false] (by kernel_rfl) rfl rfl ⟨hx637_0, hx637_1, hx638_0, hx638_1⟩ (fun hHeld => ?_); refine with_tabW laws_FnStones.tab49 laws_FnStones.bits49 (fun HT_ HW_ => ?_)
                 generalize wr.drew = w223 at HO_42 HO_45 BK606 HB hx637_0 hx637_1 hx638_0 hx638_1 hHeld ⊢
                 refine pu_ 0 401 (lA 19 1) ?_ ?_ HT_ ?_
                 refine pu_ 1 402 (lA 19 3) ?_ ?_ HT_ ?_
                 refine pu_ 2 403 (lA 19 7) ?_ ?_ HT_ ?_
                 refine pu_ 3 404 (lA 19 15) ?_ ?_ HT_ ?_
                 refine pu_ 4 405 (lA 19 31) ?_ ?_ HT_ ?_
                 refine pu_ 7 408 (lA 19 159) ?_ ?_ HT_ ?_
                 refine pu_ 8 409 (lA 19 415) ?_ ?_ HT_ ?_
                 refine pu_ 9 410 (lA 19 927) ?_ ?_ HT_ ?_
                 refine pu_ 10 411 (lA 19 1951) ?_ ?_ HT_ ?_
                 as_aux_lemma =>
                  refine tk_ 5 406 (lA 19 1983) ?_ ?_ HT_ HW_ hHeld ?_
                  refine pu_ 6 407 (lA 19 2047) ?_ ?_ HT_ ?_
                  refine tk_ 11 412 (lA 19 4095) ?_ ?_ HT_ HW_ hHeld ?_
                  refine pu_ 12 413 (lA 19 8191) ?_ ?_ HT_ ?_
                  refine one_ (i := 13) (N := some 414) #[true, true, true, true, true, true, true, true, true, true, true, true, true, true, false, false, false, false, false] rfl rfl (one_of HT_.out (by kernel_rfl)) (by decide) (fun K hK => ?_)
                  refine goes_ Tryz.func22 (by kernel_rfl) rfl #[.slice Ao224 t632.length co224, .int .i64 (wrap64 ((rd_T43 t625 x47_7).f0)), .int .i64 (wrap64 ((rd_T43 t625 x47_7).f1))] (by rfl) rfl rfl (by (try simp only [List.map_toArray, List.map_cons, List.map_nil]); first | done | rfl | (simp only [List.length_drop, List.length_take]; rfl)) ?_
                  with_reducible refine (impl_WhereIs.calls k7 _ _ t632 (wrap64 ((rd_T43 t625 x47_7).f0)) (wrap64 ((rd_T43 t625 x47_7).f1)) t639 t640 _ ?side1 ?side2 A217.out).mono ?_
                  (case side1 => exact kc_ ((Kd.R_reads' HO_45.out).2.2))
                  (case side2 => exact (Kd.R_reads' HO_45.out).2.1)
                  rintro e w225 ⟨rfl, hb⟩
                  have HS0_ := (hb.cell (World.block_lt_of_cell? _ _ (hHeld.1))).trans (hHeld.1)
                  have HS1_ := (hb.cell (World.block_lt_of_cell? _ _ (hHeld.2.1))).trans (hHeld.2.1)
                  have HS2_ := (hb.cell (World.block_lt_of_cell? _ _ (hHeld.2.2.1))).trans (hHeld.2.2.1)
                  have HS3_ := (hb.cell (World.block_lt_of_cell? _ _ (hHeld.2.2.2))).trans (hHeld.2.2.2)
                  refine ⟨_, rfl, ?_⟩
                  have n0_ := Aside0.mk (Kd.R_below (kp_ HO_42) hb)
                  have n1_ := Aside0.mk (Kd.R_below (kp_ HO_45) hb)
                  have n2_ := bd_ BK606 hb
                  have n3_ := Aside0.mk (below_step (k1_ HB GE606) hb)
                  clear HO_42
                  clear HO_45
                  clear BK606
                  clear HB
                  have HO_42 := n0_
                  have HO_45 := n1_
                  have BK606 := n2_
                  have HB := n3_
                  clear n0_ n1_ n2_ n3_
                  refine hK.out _ _ ⟨HS0_, HS1_, HS2_, HS3_⟩ (fun hHeld => ?_)
                  clear hK K
                  refine norm_ (a' := ?_) ?_ ?_
                  rotate_left
                  ·
                   show Act.put _ (some 414) _ = _
                   simp only [Act.put, List.setIfInBounds_toArray, List.set_cons_zero, List.set_cons_succ, i64_w, i32_w]
                   rfl
                  refine pu_ 14 400 (lA 19 32767) ?_ ?_ HT_ ?_
                  refine pu_ 15 415 (lA 19 65535) ?_ ?_ HT_ ?_
                  refine pu_ 16 416 (lA 19 131071) ?_ ?_ HT_ ?_
                  refine pu_ 17 48 (lA 19 262143) ?_ ?_ HT_ ?_
                  refine pu_ 18 49 (lA 19 524287) ?_ ?_ HT_ ?_
                  refine done_ (done_of HT_.out (by kernel_rfl)) ?_
                  try go_wp2
                  go_roundg k7
                  case measure => have := HJ2.out; have := HJ16.out; have := HK3.out; have := HJ134.out; have := HK5.out; have := HJ194.out; have := HK7.out; omega
                  case rel => exact ⟨(wrap64 (x47_7 + 1)), (by first | rfl | (simp; done) | (simp [*]; done)), H', ⟨by have := HJ2.out; have := HJ16.out; have := HK3.out; have := HJ134.out; have := HK5.out; have := HJ194.out; have := HK7.out; omega⟩, ⟨kp_ HO_42⟩, ⟨kp_ HO_45⟩, ⟨bk_ BK606⟩, ⟨k1_ HB GE606⟩⟩
/-- THE ONE PURE STATEMENT of laws_FnStones: yours. -/
def laws_FnStones.Pure : Prop := ∀ (l0 : List Int) (l1 : List Int), l0.length ≤ maxLen → l0.length * 1 ≤ 140737488351232 → (∀ x ∈ l0, (Lit.int .u8 x).wf = true) → l1.length ≤ maxLen → l1.length * 1 ≤ 140737488351232 → (∀ x ∈ l1, (Lit.int .u8 x).wf = true) → ∃ k, laws_FnStones.f k l0 l1 = some true
theorem laws_FnStones.walk (P : laws_FnStones.Pure) (a0 : Option Addr) (len0 cap0 : Nat) (z0 : List Int) (a1 : Option Addr) (len1 cap1 : Nat) (z1 : List Int) (w : World) (hT : Tables.TabT w) (w0 : (a0 = none ∧ len0 = 0 ∧ cap0 = 0 ∧ z0 = []) ∨ ∃ x, a0 = some x ∧ len0 ≤ cap0 ∧ cap0 ≤ maxLen ∧ z0.length = cap0 ∧ (∀ i, i < z0.length → w.cell? (x.add i) = some (.int .u8 (z0.getD i 0))) ∧ ∀ n ∈ z0, (Lit.int .u8 n).wf = true) (y0 : len0 * 1 ≤ 140737488351232) (w1 : (a1 = none ∧ len1 = 0 ∧ cap1 = 0 ∧ z1 = []) ∨ ∃ x, a1 = some x ∧ len1 ≤ cap1 ∧ cap1 ≤ maxLen ∧ z1.length = cap1 ∧ (∀ i, i < z1.length → w.cell? (x.add i) = some (.int .u8 (z1.getD i 0))) ∧ ∀ n ∈ z1, (Lit.int .u8 n).wf = true) (y1 : len1 * 1 ≤ 140737488351232) :
  Calls Tryz.prog 3 #[.slice a0 len0 cap0, .slice a1 len1 cap1] w fun e w' => e = .returned (.bool true) ∧ Below w.heap.size w w' := by
 obtain ⟨l0, rfl, hr0, hm0, hw0, hc0⟩ := ReadsInt.ofRowC w0
 obtain ⟨l1, rfl, hr1, hm1, hw1, hc1⟩ := ReadsInt.ofRowC w1
 obtain ⟨k, h⟩ := P l0 l1 hm0 y0 hw0 hm1 y1 hw1
 refine (laws_FnStones.calls k _ _ l0 _ _ l1 true w hT (Kd.C_of_reads (d := (0 : Int)) (h1 := fun _ => rfl) hr0) hc0 (Kd.C_of_reads (d := (0 : Int)) (h1 := fun _ => rfl) hr1) hc1 h).mono ?_
 rintro e w' ⟨rfl, hd⟩
 exact ⟨rfl, hd⟩

end Go.Proofs.YthbogbaaikjhbaaGreatDoor.PA
