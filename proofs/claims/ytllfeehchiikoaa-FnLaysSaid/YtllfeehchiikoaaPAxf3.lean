/- Pure functions, and that Go's functions come to them. -/
import Derived.Test.YtllfeehchiikoaaPAx0
import Derived.Test.YtllfeehchiikoaaTwiceKit
import Derived.Test.YtllfeehchiikoaaPAxmE
import Derived.Test.YtllfeehchiikoaaPAxmF
import Derived.Test.YtllfeehchiikoaaPAxf14
import Derived.Test.YtllfeehchiikoaaPAxmH
import Derived.Test.YtllfeehchiikoaaPAxf16
import Derived.Test.YtllfeehchiikoaaPAxmI
import Derived.Test.YtllfeehchiikoaaPAxmJ
import Derived.Test.YtllfeehchiikoaaPAxmA
import Derived.Test.YtllfeehchiikoaaPAxf5
import Derived.Test.YtllfeehchiikoaaPAxf6
namespace Go.Proofs.Ytllfeehchiikoaa.PA
open Go.RowKit Go.Proofs.YtllfeehchiikoaaW.PrintWords Go.Proofs.YtllfeehchiikoaaW.PrintLast Go.Proofs.YtllfeehchiikoaaW.PrintMore
set_option linter.unusedVariables false
set_option linter.unusedSimpArgs false

/-! ### laws_FnLays: function 3 -/
mutual
def laws_FnLays.j0 : Nat → List Int → Bool → Option (Bool)
 | 0, _, _ => none
 | k + 1, x0, x47 => if x47 = true then (some true) else ((spec_P6Lay.f k x0).bind fun bt509 => ((spec_ValidLay.f k bt509.1 bt509.2.1 bt509.2.2).bind fun t515 => ((impl_ValidLay.f k bt509.1 bt509.2.1 bt509.2.2).bind fun t516 => (if (t515 != t516) = true then (none) else ((impl_FirstFault.f k bt509.1 bt509.2.1 bt509.2.2).bind fun bt517 => ((spec_FirstFault.f k bt509.1 bt509.2.1 bt509.2.2).bind fun bt520 => (if bt517.2.2 = bt520.2.2 then (if bt517.1 = bt520.1 then (if bt517.2.1 = bt520.2.1 then ((spec_ValidLay.f k bt509.1 bt509.2.1 bt509.2.2).bind fun t523 => (laws_FnLays.j1 k bt509.2.2 bt517.2.2 bt520.1 bt520.2.1 ((bt517.2.2 == 6) != t523) bt509.1 bt509.2.1)) else (none)) else (none)) else (none))))))))
def laws_FnLays.j1 : Nat → List (List (S43)) → Int → Int → Int → Bool → Int → Int → Option (Bool)
 | 0, _, _, _, _, _, _, _ => none
 | k + 1, x6, x9, x10, x11, x94, x515000, x515001 => if x94 = true then (none) else (if x9 = 0 then (if x10 < 0 then (none) else (if x10 ≥ (x6.length : Int) then (none) else (laws_FnLays.j2 k x6 x10 x11 (decide (x11 ≥ (x6.length : Int))) x515000 x515001))) else ((impl_BareTwice.f k x515000 x515001 x6).bind fun bt531 => (laws_FnLays.l0 k x6 bt531.1 bt531.2 bt531.1 0 x515000 x515001)))
def laws_FnLays.j2 : Nat → List (List (S43)) → Int → Int → Bool → Int → Int → Option (Bool)
 | 0, _, _, _, _, _, _ => none
 | k + 1, x6, x10, x11, x110, x515000, x515001 => if x110 = true then (none) else (if x11 < 0 then (if 0 ≤ x10 then (if x10 < (x6.length : Int) then ((impl_InFrame.f k x515000 x515001 (rd_L3 x6 x10)).bind fun bt525 => (if x11 = (-1) then (if bt525.2 = 0 then (some (!bt525.1)) else (none)) else (none))) else (none)) else (none)) else (if 0 ≤ x10 then (if x10 < (x6.length : Int) then (if 0 ≤ x11 then (if x11 < (x6.length : Int) then ((impl_DoOverlap.f k (rd_L3 x6 x10) (rd_L3 x6 x11)).bind fun bt529 => (if bt529.2 = 0 then (if bt529.1 = true then (some (decide (x10 < x11))) else (none)) else (none))) else (none)) else (none)) else (none)) else (none)))
def laws_FnLays.l0 : Nat → List (List (S43)) → Int → Int → Int → Int → Int → Int → Option (Bool)
 | 0, _, _, _, _, _, _, _ => none
 | k + 1, x6, x17, x18, x19, x20, x515000, x515001 => if x20 < (x6.length : Int) then (if 0 ≤ x20 then ((impl_AreaTwice.f k (rd_L3 x6 x20)).bind fun bt534 => ((impl_InFrame.f k x515000 x515001 (rd_L3 x6 x20)).bind fun bt537 => (if 0 < ((rd_L3 x6 x20).length : Int) then ((impl_StoneAt.f k x515000 x515001 x6 (wrap64 ((rd_T43 (rd_L3 x6 x20) 0).f0)) (wrap64 ((rd_T43 (rd_L3 x6 x20) 0).f1))).bind fun bt543 => (if bt534.2 = 0 then (if bt537.2 = 0 then (if bt537.1 = true then (if bt543.2 = 0 then (if bt543.1 > x20 then (none) else (laws_FnLays.j4 k x6 x17 x18 x19 x20 bt534.1 bt543.1 (decide (bt543.1 < 0)) x515000 x515001)) else (none)) else (none)) else (none)) else (none))) else (none)))) else (none)) else (if x18 = 0 then (if x17 < 0 then (none) else (laws_FnLays.j5 k x6 (x19 != (wrap64 ((wrap64 (2 * (wrap64 (x515000)))) * (wrap64 (x515001))))) x515000 x515001)) else (none))
def laws_FnLays.j4 : Nat → List (List (S43)) → Int → Int → Int → Int → Int → Int → Bool → Int → Int → Option (Bool)
 | 0, _, _, _, _, _, _, _, _, _, _ => none
 | k + 1, x6, x17, x18, x19, x20, x21, x25, x228, x515000, x515001 => if x228 = true then (none) else (if 0 ≤ x25 then (if x25 < (x6.length : Int) then (if 0 ≤ x20 then (if x20 < (x6.length : Int) then (if 0 < ((rd_L3 x6 x20).length : Int) then ((impl_WhereIs.f k (rd_L3 x6 x25) (wrap64 ((rd_T43 (rd_L3 x6 x20) 0).f0)) (wrap64 ((rd_T43 (rd_L3 x6 x20) 0).f1))).bind fun bt550 => (if bt550.2 = 0 then (if bt550.1 = 0 then (none) else (laws_FnLays.l0 k x6 x17 x18 (wrap64 (x19 + x21)) (wrap64 (x20 + 1)) x515000 x515001)) else (none))) else (none)) else (none)) else (none)) else (none)) else (none))
def laws_FnLays.j5 : Nat → List (List (S43)) → Bool → Int → Int → Option (Bool)
 | 0, _, _, _, _ => none
 | k + 1, x6, x279, x515000, x515001 => if x279 = true then (none) else ((impl_SeamsIn.f k x515000 x515001 x6).bind fun bt552 => ((spec_SeamsIn.f k x515000 x515001 x6).bind fun bt556 => (if bt552.2 = bt556.2 then (if bt552.2 = 0 then ((spec_SamePairs.f k bt552.1 bt556.1).bind fun t560 => (laws_FnLays.j6 k x6 bt556.1 (!t560) x515000 x515001)) else (none)) else (none))))
def laws_FnLays.j6 : Nat → List (List (S43)) → List (S49) → Bool → Int → Int → Option (Bool)
 | 0, _, _, _, _, _ => none
 | k + 1, x6, x31, x304, x515000, x515001 => if x304 = true then (none) else (laws_FnLays.l1 k x6 x31 0 x515000 x515001)
def laws_FnLays.l1 : Nat → List (List (S43)) → List (S49) → Int → Int → Int → Option (Bool)
 | 0, _, _, _, _, _ => none
 | k + 1, x6, x31, x33, x515000, x515001 => if x33 < (x31.length : Int) then (if 0 ≤ x33 then (if ((rd_T49 x31 x33).f0) < 0 then (none) else (if ((rd_T49 x31 x33).f1) ≤ ((rd_T49 x31 x33).f0) then (none) else (laws_FnLays.j8 k x6 x31 x33 ((rd_T49 x31 x33).f0) ((rd_T49 x31 x33).f1) (decide (((rd_T49 x31 x33).f1) ≥ (x6.length : Int))) x515000 x515001))) else (none)) else (if (x6.length : Int) = 0 then (some true) else (if x6.length < 5864062014805 then ((impl_FirstFault.f k x515000 x515001 (x6 ++ [x6.getD 0 []] : List (List (S43)))).bind fun bt567 => (if bt567.2.2 = 0 then (if bt567.1 = 0 then (if bt567.2.1 = (x6.length : Int) then ((impl_ValidLay.f k x515000 x515001 (x6 ++ [x6.getD 0 []] : List (List (S43)))).bind fun t570 => (some (!t570))) else (none)) else (none)) else (none))) else (none)))
def laws_FnLays.j8 : Nat → List (List (S43)) → List (S49) → Int → Int → Int → Bool → Int → Int → Option (Bool)
 | 0, _, _, _, _, _, _, _, _ => none
 | k + 1, x6, x31, x33, x34, x35, x333, x515000, x515001 => if x333 = true then (none) else (if 0 ≤ x34 then (if x34 < (x6.length : Int) then (if 0 ≤ x35 then (if x35 < (x6.length : Int) then ((impl_DoTouch.f k (rd_L3 x6 x34) (rd_L3 x6 x35)).bind fun bt565 => (if bt565.2 = 0 then (if bt565.1 = true then (laws_FnLays.l1 k x6 x31 (wrap64 (x33 + 1)) x515000 x515001) else (none)) else (none))) else (none)) else (none)) else (none)) else (none))
end
def laws_FnLays.f (k : Nat) (l0 : List Int) (l1 : List Int) : Option (Bool) := (laws_f6big.f l0).bind fun t507 => (if t507 = true then (laws_FnLays.j0 k l0 true) else ((laws_f6big.f l1).bind fun t508 => (laws_FnLays.j0 k l0 t508)))
theorem laws_FnLays.mono_l : ∀ k, (∀ y0 y1, LeO (laws_FnLays.j0 k y0 y1) (laws_FnLays.j0 (k + 1) y0 y1)) ∧ (∀ y0 y1 y2 y3 y4 y5 y6, LeO (laws_FnLays.j1 k y0 y1 y2 y3 y4 y5 y6) (laws_FnLays.j1 (k + 1) y0 y1 y2 y3 y4 y5 y6)) ∧ (∀ y0 y1 y2 y3 y4 y5, LeO (laws_FnLays.j2 k y0 y1 y2 y3 y4 y5) (laws_FnLays.j2 (k + 1) y0 y1 y2 y3 y4 y5)) ∧ (∀ y0 y1 y2 y3 y4 y5 y6, LeO (laws_FnLays.l0 k y0 y1 y2 y3 y4 y5 y6) (laws_FnLays.l0 (k + 1) y0 y1 y2 y3 y4 y5 y6)) ∧ (∀ y0 y1 y2 y3 y4 y5 y6 y7 y8 y9, LeO (laws_FnLays.j4 k y0 y1 y2 y3 y4 y5 y6 y7 y8 y9) (laws_FnLays.j4 (k + 1) y0 y1 y2 y3 y4 y5 y6 y7 y8 y9)) ∧ (∀ y0 y1 y2 y3, LeO (laws_FnLays.j5 k y0 y1 y2 y3) (laws_FnLays.j5 (k + 1) y0 y1 y2 y3)) ∧ (∀ y0 y1 y2 y3 y4, LeO (laws_FnLays.j6 k y0 y1 y2 y3 y4) (laws_FnLays.j6 (k + 1) y0 y1 y2 y3 y4)) ∧ (∀ y0 y1 y2 y3 y4, LeO (laws_FnLays.l1 k y0 y1 y2 y3 y4) (laws_FnLays.l1 (k + 1) y0 y1 y2 y3 y4)) ∧ (∀ y0 y1 y2 y3 y4 y5 y6 y7, LeO (laws_FnLays.j8 k y0 y1 y2 y3 y4 y5 y6 y7) (laws_FnLays.j8 (k + 1) y0 y1 y2 y3 y4 y5 y6 y7))
 | 0 => ⟨fun _ _ r h => by simp [laws_FnLays.j0] at h, fun _ _ _ _ _ _ _ r h => by simp [laws_FnLays.j1] at h, fun _ _ _ _ _ _ r h => by simp [laws_FnLays.j2] at h, fun _ _ _ _ _ _ _ r h => by simp [laws_FnLays.l0] at h, fun _ _ _ _ _ _ _ _ _ _ r h => by simp [laws_FnLays.j4] at h, fun _ _ _ _ r h => by simp [laws_FnLays.j5] at h, fun _ _ _ _ _ r h => by simp [laws_FnLays.j6] at h, fun _ _ _ _ _ r h => by simp [laws_FnLays.l1] at h, fun _ _ _ _ _ _ _ _ r h => by simp [laws_FnLays.j8] at h⟩
 | k + 1 => by
  obtain ⟨ih0, ih1, ih2, ih3, ih4, ih5, ih6, ih7, ih8⟩ := laws_FnLays.mono_l k
  refine ⟨?_, ?_, ?_, ?_, ?_, ?_, ?_, ?_, ?_⟩ <;> intros
  all_goals first | unfold laws_FnLays.j0 | unfold laws_FnLays.j1 | unfold laws_FnLays.j2 | unfold laws_FnLays.l0 | unfold laws_FnLays.j4 | unfold laws_FnLays.j5 | unfold laws_FnLays.j6 | unfold laws_FnLays.l1 | unfold laws_FnLays.j8
  all_goals repeat' first
  | (with_reducible exact ih0 _ _)
  | (with_reducible exact ih1 _ _ _ _ _ _ _)
  | (with_reducible exact ih2 _ _ _ _ _ _)
  | (with_reducible exact ih3 _ _ _ _ _ _ _)
  | (with_reducible exact ih4 _ _ _ _ _ _ _ _ _ _)
  | (with_reducible exact ih5 _ _ _ _)
  | (with_reducible exact ih6 _ _ _ _ _)
  | (with_reducible exact ih7 _ _ _ _ _)
  | (with_reducible exact ih8 _ _ _ _ _ _ _ _)
  | (with_reducible exact impl_AreaTwice.mono _ _)
  | (with_reducible exact impl_BareTwice.mono _ _ _ _)
  | (with_reducible exact impl_DoOverlap.mono _ _ _)
  | (with_reducible exact impl_DoTouch.mono _ _ _)
  | (with_reducible exact impl_FirstFault.mono _ _ _ _)
  | (with_reducible exact impl_InFrame.mono _ _ _ _)
  | (with_reducible exact impl_SeamsIn.mono _ _ _ _)
  | (with_reducible exact impl_StoneAt.mono _ _ _ _ _ _)
  | (with_reducible exact impl_ValidLay.mono _ _ _ _)
  | (with_reducible exact impl_WhereIs.mono _ _ _ _)
  | (with_reducible exact spec_FirstFault.mono _ _ _ _)
  | (with_reducible exact spec_P6Lay.mono _ _)
  | (with_reducible exact spec_SamePairs.mono _ _ _)
  | (with_reducible exact spec_SeamsIn.mono _ _ _ _)
  | (with_reducible exact spec_ValidLay.mono _ _ _ _)
  | (with_reducible exact LeO.refl _)
  | (with_reducible exact LeO.none _)
  | (with_reducible refine LeO.ite ?_ ?_)
  | (with_reducible refine LeO.bind ?_ (fun _ => ?_))
theorem laws_FnLays.mono : ∀ a0 a1 k, LeO (laws_FnLays.f k a0 a1) (laws_FnLays.f (k + 1) a0 a1) := by
 intro a0 a1 k
 obtain ⟨ih0, ih1, ih2, ih3, ih4, ih5, ih6, ih7, ih8⟩ := laws_FnLays.mono_l k
 unfold laws_FnLays.f
 repeat' first
   | (with_reducible exact ih0 _ _)
   | (with_reducible exact ih1 _ _ _ _ _ _ _)
   | (with_reducible exact ih2 _ _ _ _ _ _)
   | (with_reducible exact ih3 _ _ _ _ _ _ _)
   | (with_reducible exact ih4 _ _ _ _ _ _ _ _ _ _)
   | (with_reducible exact ih5 _ _ _ _)
   | (with_reducible exact ih6 _ _ _ _ _)
   | (with_reducible exact ih7 _ _ _ _ _)
   | (with_reducible exact ih8 _ _ _ _ _ _ _ _)
   | (with_reducible exact impl_AreaTwice.mono _ _)
   | (with_reducible exact impl_BareTwice.mono _ _ _ _)
   | (with_reducible exact impl_DoOverlap.mono _ _ _)
   | (with_reducible exact impl_DoTouch.mono _ _ _)
   | (with_reducible exact impl_FirstFault.mono _ _ _ _)
   | (with_reducible exact impl_InFrame.mono _ _ _ _)
   | (with_reducible exact impl_SeamsIn.mono _ _ _ _)
   | (with_reducible exact impl_StoneAt.mono _ _ _ _ _ _)
   | (with_reducible exact impl_ValidLay.mono _ _ _ _)
   | (with_reducible exact impl_WhereIs.mono _ _ _ _)
   | (with_reducible exact spec_FirstFault.mono _ _ _ _)
   | (with_reducible exact spec_P6Lay.mono _ _)
   | (with_reducible exact spec_SamePairs.mono _ _ _)
   | (with_reducible exact spec_SeamsIn.mono _ _ _ _)
   | (with_reducible exact spec_ValidLay.mono _ _ _ _)
   | (with_reducible exact LeO.refl _)
   | (with_reducible exact LeO.none _)
   | (with_reducible refine LeO.ite ?_ ?_)
   | (with_reducible refine LeO.bind ?_ (fun _ => ?_))
def laws_FnLays.T14 : Bool × List (List Nat × List Nat) := (true, [([], []), ([], []), ([], []), ([1, 2], [1, 2]), ([3], [3]), ([0, 4], [0, 4]), ([5], [5]), ([6], [6]), ([6], [6]), ([7, 5, 0, 1, 2, 3, 4, 5, 6, 7], [7]), ([8, 9, 0, 1, 2, 3, 4, 5, 6, 7, 8, 9], [8])])
def laws_FnLays.B14 : List Nat := [0, 0, 0, 6, 14, 31, 63, 127, 127, 255, 1023]
theorem laws_FnLays.tab14 : rtab .any (opsOf Try.f3 14) = laws_FnLays.T14 := by kernel_rfl
theorem laws_FnLays.bits14 : waitsOk laws_FnLays.T14.2 laws_FnLays.B14 = true := by kernel_rfl
def laws_FnLays.T16 : Bool × List (List Nat × List Nat) := (true, [([], []), ([], []), ([0, 1], [0, 1]), ([2], [2]), ([], []), ([], []), ([4, 5], [4, 5]), ([6], [6]), ([3, 7], [3, 7]), ([8], [8]), ([9], [9]), ([9], [9]), ([10, 8, 0, 1, 2, 3, 4, 5, 6, 7, 8, 9, 10], [10]), ([11, 12, 0, 1, 2, 3, 4, 5, 6, 7, 8, 9, 10, 11, 12], [11])])
def laws_FnLays.B16 : List Nat := [0, 0, 3, 7, 0, 0, 48, 112, 255, 511, 1023, 1023, 2047, 8191]
theorem laws_FnLays.tab16 : rtab .any (opsOf Try.f3 16) = laws_FnLays.T16 := by kernel_rfl
theorem laws_FnLays.bits16 : waitsOk laws_FnLays.T16.2 laws_FnLays.B16 = true := by kernel_rfl
def laws_FnLays.T24 : Bool × List (List Nat × List Nat) := (true, [([], []), ([], []), ([], []), ([1, 2], [1, 2]), ([3], [3]), ([0, 4], [0, 4]), ([5], [5]), ([6], [6]), ([6], [6]), ([7, 5, 0, 1, 2, 3, 4, 5, 6, 7], [7]), ([8, 9, 0, 1, 2, 3, 4, 5, 6, 7, 8, 9], [8])])
def laws_FnLays.B24 : List Nat := [0, 0, 0, 6, 14, 31, 63, 127, 127, 255, 1023]
theorem laws_FnLays.tab24 : rtab .any (opsOf Try.f3 24) = laws_FnLays.T24 := by kernel_rfl
theorem laws_FnLays.bits24 : waitsOk laws_FnLays.T24.2 laws_FnLays.B24 = true := by kernel_rfl
def laws_FnLays.T25 : Bool × List (List Nat × List Nat) := (true, [([], []), ([], []), ([], []), ([], []), ([2, 3], [2, 3]), ([4], [4]), ([5], [5]), ([6], [6]), ([7], [7]), ([8], [8]), ([], []), ([], []), ([10, 11], [10, 11]), ([12], [12]), ([13], [13]), ([14], [14]), ([15], [15]), ([16], [16]), ([0, 1, 9, 17], [0, 1, 9, 17]), ([18], [18]), ([19], [19]), ([19], [19]), ([20, 18, 0, 1, 2, 3, 4, 5, 6, 7, 8, 9, 10, 11, 12, 13, 14, 15, 16, 17, 18, 19, 20], [20]), ([21, 22, 0, 1, 2, 3, 4, 5, 6, 7, 8, 9, 10, 11, 12, 13, 14, 15, 16, 17, 18, 19, 20, 21, 22], [21])])
def laws_FnLays.B25 : List Nat := [0, 0, 0, 0, 12, 28, 60, 124, 252, 508, 0, 0, 3072, 7168, 15360, 31744, 64512, 130048, 262143, 524287, 1048575, 1048575, 2097151, 8388607]
theorem laws_FnLays.tab25 : rtab .any (opsOf Try.f3 25) = laws_FnLays.T25 := by kernel_rfl
theorem laws_FnLays.bits25 : waitsOk laws_FnLays.T25.2 laws_FnLays.B25 = true := by kernel_rfl
def laws_FnLays.T28 : Bool × List (List Nat × List Nat) := (true, [([], []), ([], []), ([0, 1], [0, 1]), ([2], [2]), ([], []), ([], []), ([4, 5], [4, 5]), ([6], [6]), ([7], [7]), ([8], [8]), ([9], [9]), ([10], [10]), ([], []), ([], []), ([12, 13], [12, 13]), ([14], [14]), ([15], [15]), ([16], [16]), ([17], [17]), ([18], [18]), ([3, 11, 19], [3, 11, 19]), ([20], [20]), ([21], [21]), ([21], [21]), ([22, 20, 0, 1, 2, 3, 4, 5, 6, 7, 8, 9, 10, 11, 12, 13, 14, 15, 16, 17, 18, 19, 20, 21, 22], [22]), ([23, 24, 0, 1, 2, 3, 4, 5, 6, 7, 8, 9, 10, 11, 12, 13, 14, 15, 16, 17, 18, 19, 20, 21, 22, 23, 24], [23])])
def laws_FnLays.B28 : List Nat := [0, 0, 3, 7, 0, 0, 48, 112, 240, 496, 1008, 2032, 0, 0, 12288, 28672, 61440, 126976, 258048, 520192, 1048575, 2097151, 4194303, 4194303, 8388607, 33554431]
theorem laws_FnLays.tab28 : rtab .any (opsOf Try.f3 28) = laws_FnLays.T28 := by kernel_rfl
theorem laws_FnLays.bits28 : waitsOk laws_FnLays.T28.2 laws_FnLays.B28 = true := by kernel_rfl
def laws_FnLays.T45 : Bool × List (List Nat × List Nat) := (true, [([], []), ([], []), ([0, 1], [0, 1]), ([2], [2]), ([], []), ([], []), ([4, 5], [4, 5]), ([6], [6]), ([3, 7], [3, 7]), ([8], [8]), ([9], [9]), ([9], [9]), ([10, 8, 0, 1, 2, 3, 4, 5, 6, 7, 8, 9, 10], [10]), ([11, 12, 0, 1, 2, 3, 4, 5, 6, 7, 8, 9, 10, 11, 12], [11])])
def laws_FnLays.B45 : List Nat := [0, 0, 3, 7, 0, 0, 48, 112, 255, 511, 1023, 1023, 2047, 8191]
theorem laws_FnLays.tab45 : rtab .any (opsOf Try.f3 45) = laws_FnLays.T45 := by kernel_rfl
theorem laws_FnLays.bits45 : waitsOk laws_FnLays.T45.2 laws_FnLays.B45 = true := by kernel_rfl
theorem laws_FnLays.tab50 : rtab .any (opsOf Try.f3 50) = T50 := by kernel_rfl
set_option maxHeartbeats 8000000 in
set_option maxRecDepth 100000 in
theorem laws_FnLays.calls (k : Nat) (A0 : Option Addr) (c0 : Nat) (l0 : List Int) (A1 : Option Addr) (c1 : Nat) (l1 : List Int) (r : Bool) (w : World) (hr0 : Kd.C (Kd.int .u8) w A0 l0.length l0) (hc0 : l0.length ≤ c0) (hr1 : Kd.C (Kd.int .u8) w A1 l1.length l1) (hc1 : l1.length ≤ c1) (h : laws_FnLays.f k l0 l1 = some r) :
  Calls Try.prog 3 #[.slice A0 l0.length c0, .slice A1 l1.length c1] w fun e w' => e = .returned (.bool r) ∧ Below w.heap.size w w' := by
 have hu26 := Try.underlying26
 have HR0 := Aside0.mk hr0
 have HC0 := Aside0.mk hc0
 clear hr0 hc0
 have HR1 := Aside0.mk hr1
 have HC1 := Aside0.mk hc1
 clear hr1 hc1
 have HB := Aside0.mk (Below.refl w.heap.size w)
 have H : ((laws_f6big.f l0).bind fun t507 => (if t507 = true then (laws_FnLays.j0 k l0 true) else ((laws_f6big.f l1).bind fun t508 => (laws_FnLays.j0 k l0 t508)))) = some r := h
 clear h
 have HC3 := Aside0.mk H
 clear H
 go_enter Try.func3, Try.ntmps3
 go_upto_region 1 with (fail)
 go_cut [47] (fun v47 wc => ∃ (kq : Nat) (x47_2 : Bool), v47 = .bool x47_2 ∧ Aside0 (laws_FnLays.j0 kq l0 x47_2 = some r) ∧ Aside0 (kq ≤ k) ∧ Aside0 (Below w.heap.size w wc))
 case first => as_aux_lemma =>
  have H := HC3.out
  clear HC3
  replace H := Option.bind_eq_some_iff.mp H
  obtain ⟨t507, A40, H⟩ := H
  (try dsimp only at H)
  have A4 := Aside0.mk A40
  clear A40
  by_cases c5 : t507 = true
  ·
   subst c5
   replace H := gt_ H
   have H' := Aside0.mk H
   clear H
   go_wp2_with (first | ((with_reducible refine gate_callee (f := 4) rfl ?_); refine goM_ (some 43) Try.func4 #[.slice A0 l0.length c0] ?_; (with_reducible refine (laws_f6big.calls _ _ l0 true _ ?side1 ?side2 A4.out).mono ?_); (case side1 => exact kc_ (Kd.C_below HR0.out HB.out)); (case side2 => exact HC0.out); rintro e w' ⟨rfl, ⟨nd, rfl⟩⟩; refine ⟨_, rfl, ?_⟩))
   go_meet
   case rel => exact ⟨_, (true), (by first | rfl | (simp; done) | (simp [*]; done)), H', ⟨by first | omega | exact Nat.le_refl _⟩, ⟨kB_ HB⟩⟩
  replace c5 := Bool.eq_false_iff.mpr c5
  subst c5
  replace H := gf_ H
  replace H := Option.bind_eq_some_iff.mp H
  obtain ⟨t508, A60, H⟩ := H
  (try dsimp only at H)
  have A6 := Aside0.mk A60
  clear A60
  have H' := Aside0.mk H
  clear H
  go_wp2_with (first | ((with_reducible refine gate_callee (f := 4) rfl ?_); refine goM_ (some 43) Try.func4 #[.slice A0 l0.length c0] ?_; (with_reducible refine (laws_f6big.calls _ _ l0 false _ ?side1 ?side2 A4.out).mono ?_); (case side1 => exact kc_ (Kd.C_below HR0.out HB.out)); (case side2 => exact HC0.out); rintro e w' ⟨rfl, ⟨nd, rfl⟩⟩; refine ⟨_, rfl, ?_⟩) | (go_at_call 4; (with_reducible refine (laws_f6big.calls _ _ l1 t508 _ ?side1 ?side2 A6.out).mono ?_); (case side1 => repeat (first | exact (Kd.C_below HR1.out (kB_ HB)) | (with_reducible refine Kd.C_alloc ?_ _) | (with_reducible refine Kd.C_drewN ?_ _) | (with_reducible refine Kd.C_drew ?_))); (case side2 => exact HC1.out); rintro e w' ⟨rfl, ⟨nd, rfl⟩⟩))
  go_meet
  case rel => exact ⟨_, (t508), (by first | rfl | (simp; done) | (simp [*]; done)), H', ⟨by first | omega | exact Nat.le_refl _⟩, ⟨kB_ HB⟩⟩
 case rest => as_aux_lemma =>
  clear HC3
  obtain ⟨kq, x47_2, rfl, HA, HJ2, HB⟩ := hcut
  rcases kq with _ | kj2
  · exact absurd HA.out (by simp [laws_FnLays.j0])
  have H := HA.out
  clear HA
  simp only [laws_FnLays.j0] at H
  by_cases c7 : x47_2 = true
  ·
   subst c7
   replace H := gt_ H
   obtain rfl := Option.some.inj H
   go_wp2
   go_ret
   exact ⟨rt_, kB_ HB⟩
  replace c7 := Bool.eq_false_iff.mpr c7
  subst c7
  replace H := gf_ H
  replace H := Option.bind_eq_some_iff.mp H
  obtain ⟨⟨t509, t510, t511⟩, A80, H⟩ := H
  (try dsimp only at H)
  have A8 := Aside0.mk A80
  clear A80
  replace H := Option.bind_eq_some_iff.mp H
  obtain ⟨t515, A90, H⟩ := H
  (try dsimp only at H)
  have A9 := Aside0.mk A90
  clear A90
  replace H := Option.bind_eq_some_iff.mp H
  obtain ⟨t516, A100, H⟩ := H
  (try dsimp only at H)
  have A10 := Aside0.mk A100
  clear A100
  by_cases c11 : (t515 != t516) = true
  ·
   rw [if_pos c11] at H
   exact absurd H (by simp)
  rw [if_neg c11] at H
  have c11b0 : (t515 != t516) = false := by simpa using c11
  (try (have c11b1 : decide (t515 = t516) = true := by simpa using c11))
  (try (have c11b2 : (t515 == t516) = true := by simpa using c11))
  clear c11
  replace H := Option.bind_eq_some_iff.mp H
  obtain ⟨⟨t517, t518, t519⟩, A200, H⟩ := H
  (try dsimp only at H)
  have A20 := Aside0.mk A200
  clear A200
  replace H := Option.bind_eq_some_iff.mp H
  obtain ⟨⟨t520, t521, t522⟩, A210, H⟩ := H
  (try dsimp only at H)
  have A21 := Aside0.mk A210
  clear A210
  have HC22 := Aside0.mk H
  clear H
  try go_wp2_with (first | ((with_reducible refine gate_callee (f := 5) rfl ?_); refine goM_ (some 50) Try.func5 #[.slice A0 l0.length c0] ?_; (with_reducible refine (spec_P6Lay.calls kj2 _ _ l0 t509 t510 t511 _ ?side1 ?side2 A8.out).mono ?_); (case side1 => exact kc_ (Kd.C_below HR0.out HB.out)); (case side2 => exact HC0.out); rintro e w23 ⟨v512, rfl, ho0, hb⟩; refine ⟨_, rfl, ?_⟩; have HO513 := Aside0.mk (Kd.S_lower ho0 (below_size (kB_ HB))); replace HB := Aside0.mk (below_step (kB_ HB) hb); clear hb; (try clear ho0)) | ((with_reducible refine gate_dst (N := 5) rfl ?_); (try (refine gate_guard (by rfl) ?_; dsimp only)); refine boxM_ 5 #[.int .i16 0, .int .i16 0] 26 ?_; intro gb514 hg w24 hbox hb; replace HO513 := Aside0.mk (Kd.S_below (ks_ HO513) hb); have BK514 := Aside0.mk (hbox); have GW514 := Aside0.mk ((by rw [hg]; exact (below_size (kB_ HB)) : w.heap.size ≤ gb514)); have GE514 := Aside0.mk ((by rw [hg]; exact (below_size (kB_ HB)) : w.heap.size ≤ gb514)); replace HB := Aside0.mk (below_step (kB_ HB) hb); clear hb hbox hg; obtain ⟨⟨hcz25_0, hcz25_1⟩, hfz25_0, hfz25_1⟩ := bq_ BK514))
  have n0_ : Aside0 (Kd.S (Kd.slice 43 k43) 36 ((w24.setCell ⟨gb514, 0, none⟩ (.int .i16 t509)).setCell ⟨gb514, 1, none⟩ (.int .i16 t510)) w.heap.size (fun _ => True) v512 t511) := ⟨by (with_reducible repeat (first | apply Kd.S_alloc | apply Kd.S_drewN | apply Kd.S_drew)); exact Kd.S_mono (Kd.S_far (p := ⟨gb514, 1, none⟩) (Kd.S_far (p := ⟨gb514, 0, none⟩) (Kd.S_types HO513.out BK514.out (by decide)) (fun _ hk => hk.2) (.int .i16 t509)) (fun _ hk => hk.2) (.int .i16 t510)) (fun _ hk => trivial)⟩
  have n1_ : Aside0 (((w24.setCell ⟨gb514, 0, none⟩ (.int .i16 t509)).setCell ⟨gb514, 1, none⟩ (.int .i16 t510)).heap[gb514]? = some (.cells #[.int .i16 t509, .int .i16 t510] 26 (0, 0))) := ⟨by (with_reducible repeat (first | refine blk_drewN ?_ _ | refine blk_drew ?_ | refine blk_alloc ?_ _)); refine blk_put (cs := #[.int .i16 t509, .int .i16 0]) ?_ 1 _ rfl; (with_reducible repeat (first | refine blk_drewN ?_ _ | refine blk_drew ?_ | refine blk_alloc ?_ _)); refine blk_put (cs := #[.int .i16 0, .int .i16 0]) ?_ 0 _ rfl; (with_reducible repeat (first | refine blk_drewN ?_ _ | refine blk_drew ?_ | refine blk_alloc ?_ _)); exact BK514.out⟩
  have n2_ : Aside0 (Below w.heap.size w ((w24.setCell ⟨gb514, 0, none⟩ (.int .i16 t509)).setCell ⟨gb514, 1, none⟩ (.int .i16 t510))) := ⟨k1_ HB GE514⟩
  generalize ((w24.setCell ⟨gb514, 0, none⟩ (.int .i16 t509)).setCell ⟨gb514, 1, none⟩ (.int .i16 t510)) = w26 at n0_ n1_ n2_ ⊢
  have HO513 := n0_
  have BK514 := n1_
  have HB := n2_
  clear n0_ n1_ n2_
  have n0_ := Aside0.mk (Kd.S_drew HO513.out)
  have n1_ := Aside0.mk (blk_drew BK514.out)
  have n2_ := Aside0.mk (below_drew1 HB.out)
  clear HO513
  clear BK514
  clear HB
  have HO513 := n0_
  have BK514 := n1_
  have HB := n2_
  clear n0_ n1_ n2_
  obtain ⟨Ao28, co28, eo28⟩ := Kd.S_slice HO513.out
  (first | subst eo28 | (injection eo28 with f1_ f2_ f3_; have f4_ := f1_.symm; have f5_ := f3_.symm; clear f1_ f2_ f3_; subst f4_; subst f5_))
  refine start_ (n := 7) (S := fun w' => w'.cell? ⟨gb514, 0, none⟩ = some (.int .i16 t509) ∧ w'.cell? ⟨gb514, 1, none⟩ = some (.int .i16 t510)) (ds := []) #[false, false, false, false, false, false, false] (by kernel_rfl) rfl rfl ⟨(blk_cell BK514.out 0).trans rfl, (blk_cell BK514.out 1).trans rfl⟩ (fun hHeld => ?_)
  generalize w26.drew = w27 at HO513 BK514 HB hHeld ⊢
  refine pure_ (i := 1) (N := some 54) (v := ?_) (a' := ?_) #[false, true, false, false, false, false, false] rfl rfl (by kernel_rfl) (fun _ _ _ h => h) (Or.inl ⟨by rfl, ?_⟩) ?_ ?_
  rotate_left
  ·
   intro w'
   go_simp
   with_reducible rfl
  rotate_left
  ·
   simp only [Act.put, List.setIfInBounds_toArray, List.set_cons_zero, List.set_cons_succ, i64_w, i32_w]
   rfl
  refine pure_ (i := 4) (N := some 57) (v := ?_) (a' := ?_) #[false, true, false, false, true, false, false] rfl rfl (by kernel_rfl) (fun _ _ _ h => h) (Or.inl ⟨by rfl, ?_⟩) ?_ ?_
  rotate_left
  ·
   intro w'
   go_simp
   with_reducible rfl
  rotate_left
  ·
   simp only [Act.put, List.setIfInBounds_toArray, List.set_cons_zero, List.set_cons_succ, i64_w, i32_w]
   rfl
  refine take_ (i := 0) (N := some 53) (v := ?_) (a' := ?_) #[true, true, false, false, true, false, false] rfl rfl (by kernel_rfl) (fun _ _ _ h => h) (Or.inl ⟨by rfl, ?_⟩) hHeld ?_ ?_
  rotate_left
  ·
   rintro w' ⟨s0, s1⟩
   go_simp
   with_reducible rfl
  rotate_left
  ·
   simp only [Act.put, List.setIfInBounds_toArray, List.set_cons_zero, List.set_cons_succ, i64_w, i32_w]
   rfl
  refine take_ (i := 3) (N := some 56) (v := ?_) (a' := ?_) #[true, true, false, true, true, false, false] rfl rfl (by kernel_rfl) (fun _ _ _ h => h) (Or.inl ⟨by rfl, ?_⟩) hHeld ?_ ?_
  rotate_left
  ·
   rintro w' ⟨s0, s1⟩
   go_simp
   with_reducible rfl
  rotate_left
  ·
   simp only [Act.put, List.setIfInBounds_toArray, List.set_cons_zero, List.set_cons_succ, i64_w, i32_w]
   rfl
  refine one_ (i := 2) (N := some 55) #[true, true, true, true, true, false, false] rfl rfl (by kernel_rfl) (by decide) (fun K hK => ?_)
  refine goes_ Try.func6 (by kernel_rfl) rfl #[.agg #[.int .i16 t509, .int .i16 t510], .slice Ao28 t511.length co28] (by rfl) rfl rfl (by (try simp only [List.map_toArray, List.map_cons, List.map_nil]); first | done | rfl | (simp only [List.length_drop, List.length_take]; rfl)) ?_
  with_reducible refine (spec_ValidLay.calls kj2 t509 t510 _ _ t511 t515 _ ?side1 ?side2 A9.out).mono ?_
  (case side1 => exact kc_ ((Kd.S_reads' HO513.out).2.2))
  (case side2 => exact (Kd.S_reads' HO513.out).2.1)
  rintro e w29 ⟨rfl, hb⟩
  refine ⟨_, rfl, ?_⟩
  have n0_ := Aside0.mk (Kd.S_below (ks_ HO513) hb)
  have n1_ := bd_ BK514 hb
  have n2_ := Aside0.mk (below_step (k1_ HB GE514) hb)
  clear HO513
  clear BK514
  clear HB
  have HO513 := n0_
  have BK514 := n1_
  have HB := n2_
  clear n0_ n1_ n2_
  refine hK.out _ _ ⟨(blk_cell BK514.out 0).trans rfl, (blk_cell BK514.out 1).trans rfl⟩ (fun hHeld => ?_)
  clear hK K
  refine norm_ (a' := ?_) ?_ ?_
  rotate_left
  ·
   show Act.put _ (some 55) _ = _
   simp only [Act.put, List.setIfInBounds_toArray, List.set_cons_zero, List.set_cons_succ, i64_w, i32_w]
   rfl
  refine one_ (i := 5) (N := some 58) #[true, true, true, true, true, true, false] rfl rfl (by kernel_rfl) (by decide) (fun K hK => ?_)
  refine goes_ Try.func7 (by kernel_rfl) rfl #[.agg #[.int .i16 t509, .int .i16 t510], .slice Ao28 t511.length co28] (by rfl) rfl rfl (by (try simp only [List.map_toArray, List.map_cons, List.map_nil]); first | done | rfl | (simp only [List.length_drop, List.length_take]; rfl)) ?_
  with_reducible refine (impl_ValidLay.calls kj2 t509 t510 _ _ t511 t516 _ ?side1 ?side2 A10.out).mono ?_
  (case side1 => exact kc_ ((Kd.S_reads' HO513.out).2.2))
  (case side2 => exact (Kd.S_reads' HO513.out).2.1)
  rintro e w30 ⟨rfl, hb⟩
  refine ⟨_, rfl, ?_⟩
  have n0_ := Aside0.mk (Kd.S_below (ks_ HO513) hb)
  have n1_ := bd_ BK514 hb
  have n2_ := Aside0.mk (below_step (k1_ HB GE514) hb)
  clear HO513
  clear BK514
  clear HB
  have HO513 := n0_
  have BK514 := n1_
  have HB := n2_
  clear n0_ n1_ n2_
  refine hK.out _ _ ⟨(blk_cell BK514.out 0).trans rfl, (blk_cell BK514.out 1).trans rfl⟩ (fun hHeld => ?_)
  clear hK K
  refine norm_ (a' := ?_) ?_ ?_
  rotate_left
  ·
   show Act.put _ (some 58) _ = _
   simp only [Act.put, List.setIfInBounds_toArray, List.set_cons_zero, List.set_cons_succ, i64_w, i32_w]
   rfl
  refine pure_ (i := 6) (N := some 59) (v := ?_) (a' := ?_) #[true, true, true, true, true, true, true] rfl rfl (by kernel_rfl) (fun _ _ _ h => h) (Or.inl ⟨by rfl, ?_⟩) ?_ ?_
  rotate_left
  ·
   intro w'
   go_simp
   with_reducible rfl
  rotate_left
  ·
   simp only [Act.put, List.setIfInBounds_toArray, List.set_cons_zero, List.set_cons_succ, i64_w, i32_w]
   rfl
  refine done_ (by kernel_rfl) ?_
  obtain ⟨⟨hcz31_0, hcz31_1⟩, hfz31_0, hfz31_1⟩ := bq_ BK514
  go_upto_region 8 with (first | ((with_reducible refine gate_callee (f := 8) rfl ?_); refine goM_ (some 63) Try.func8 #[.agg #[.int .i16 t509, .int .i16 t510], .slice Ao28 t511.length co28] ?_; (with_reducible refine (impl_FirstFault.calls kj2 t509 t510 _ _ t511 t517 t518 t519 _ ?side1 ?side2 A20.out).mono ?_); (case side1 => exact kc_ ((Kd.S_reads' HO513.out).2.2)); (case side2 => exact (Kd.S_reads' HO513.out).2.1); rintro e w32 ⟨rfl, hb⟩; refine ⟨_, rfl, ?_⟩; replace HO513 := Aside0.mk (Kd.S_below (ks_ HO513) hb); replace BK514 := bd_ BK514 hb; replace HB := Aside0.mk (below_step (k1_ HB GE514) hb); clear hb; obtain ⟨⟨hcz33_0, hcz33_1⟩, hfz33_0, hfz33_1⟩ := bq_ BK514) | ((with_reducible refine gate_callee (f := 9) rfl ?_); refine goM_ (some 70) Try.func9 #[.agg #[.int .i16 t509, .int .i16 t510], .slice Ao28 t511.length co28] ?_; (with_reducible refine (spec_FirstFault.calls kj2 t509 t510 _ _ t511 t520 t521 t522 _ ?side1 ?side2 A21.out).mono ?_); (case side1 => exact kc_ ((Kd.S_reads' HO513.out).2.2)); (case side2 => exact (Kd.S_reads' HO513.out).2.1); rintro e w34 ⟨rfl, hb⟩; refine ⟨_, rfl, ?_⟩; replace HO513 := Aside0.mk (Kd.S_below (ks_ HO513) hb); replace BK514 := bd_ BK514 hb; replace HB := Aside0.mk (below_step (k1_ HB GE514) hb); clear hb))
  (try simp only [Act.put, List.setIfInBounds_toArray, List.set_cons_zero, List.set_cons_succ])
  go_cut [94] (fun v94 wc => ∃ (kq : Nat) (x94_21 : Bool), v94 = .bool x94_21 ∧ Aside0 (laws_FnLays.j1 kq t511 t519 t520 t521 x94_21 t509 t510 = some r) ∧ Aside0 (kq ≤ kj2) ∧ Aside0 (Kd.S (Kd.slice 43 k43) 36 wc w.heap.size (fun _ => True) (.slice Ao28 t511.length co28) t511) ∧ Aside0 (wc.heap[gb514]? = some (.cells #[.int .i16 t509, .int .i16 t510] 26 (0, 0))) ∧ Aside0 (Below w.heap.size w wc))
  case first => as_aux_lemma =>
   have H := HC22.out
   clear HC22
   obtain ⟨(c35 : t519 = t522), H⟩ := gd_ H
   have c35b0 : (t519 == t522) = true := beq_iff_eq.mpr c35
   have c35b1 : (t519 != t522) = false := bne_eq_false_iff_eq.mpr c35
   clear c35
   (first | rw [c35b0] | (simp only [i64_w, i32_w]; rw [c35b0]) | skip)
   obtain ⟨(c36 : t517 = t520), H⟩ := gd_ H
   have c36b0 : (t517 == t520) = true := beq_iff_eq.mpr c36
   have c36b1 : (t517 != t520) = false := bne_eq_false_iff_eq.mpr c36
   clear c36
   obtain ⟨(c37 : t518 = t521), H⟩ := gd_ H
   have c37b0 : (t518 == t521) = true := beq_iff_eq.mpr c37
   have c37b1 : (t518 != t521) = false := bne_eq_false_iff_eq.mpr c37
   clear c37
   replace H := Option.bind_eq_some_iff.mp H
   obtain ⟨t523, A380, H⟩ := H
   (try dsimp only at H)
   have A38 := Aside0.mk A380
   clear A380
   have H' := Aside0.mk H
   clear H
   obtain ⟨⟨hcz39_0, hcz39_1⟩, hfz39_0, hfz39_1⟩ := bq_ BK514
   go_wp2_with (first | (go_at_call 6; (with_reducible refine (spec_ValidLay.calls kj2 t509 t510 _ _ t511 t523 _ ?side1 ?side2 A38.out).mono ?_); (case side1 => exact kc_ ((Kd.S_reads' HO513.out).2.2)); (case side2 => exact (Kd.S_reads' HO513.out).2.1); rintro e w40 ⟨rfl, hb⟩; replace HO513 := Aside0.mk (Kd.S_below (ks_ HO513) hb); replace BK514 := bd_ BK514 hb; replace HB := Aside0.mk (below_step (k1_ HB GE514) hb); clear hb))
   go_meet
   case rel => exact ⟨_, (((t519 == 6) != t523)), (by first | rfl | (simp; done) | (simp [*]; done)), H', ⟨by have := HJ2.out; first | omega | exact Nat.le_refl _⟩, ⟨ks_ HO513⟩, ⟨bk_ BK514⟩, ⟨k1_ HB GE514⟩⟩
  case rest => as_aux_lemma =>
   clear HC22
   obtain ⟨kq, x94_21, rfl, HA, HJ21, HO_6, BK514, HB⟩ := hcut
   rcases kq with _ | kj21
   · exact absurd HA.out (by simp [laws_FnLays.j1])
   have H := HA.out
   clear HA
   simp only [laws_FnLays.j1] at H
   by_cases c41 : x94_21 = true
   ·
    subst c41
    have H1 := gt_ H
    exact absurd H1 (by simp)
   replace c41 := Bool.eq_false_iff.mpr c41
   subst c41
   replace H := gf_ H
   by_cases c42 : t519 = 0
   ·
    rw [if_pos c42] at H
    have c42b0 : (t519 == 0) = true := beq_iff_eq.mpr c42
    have c42b1 : (t519 != 0) = false := bne_eq_false_iff_eq.mpr c42
    clear c42
    have HC43 := Aside0.mk H
    clear H
    go_upto_region 11 with (fail)
    go_cut [110] (fun v110 wc => ∃ (kq : Nat) (x110_42 : Bool), v110 = .bool x110_42 ∧ Aside0 (laws_FnLays.j2 kq t511 t520 t521 x110_42 t509 t510 = some r) ∧ Aside0 (kq ≤ kj21) ∧ Aside0 (Kd.S (Kd.slice 43 k43) 36 wc w.heap.size (fun _ => True) (.slice Ao28 t511.length co28) t511) ∧ Aside0 (wc.heap[gb514]? = some (.cells #[.int .i16 t509, .int .i16 t510] 26 (0, 0))) ∧ Aside0 (Below w.heap.size w wc))
    case first => as_aux_lemma =>
     have H := HC43.out
     clear HC43
     by_cases c44 : t520 < 0
     ·
      rw [if_pos c44] at H
      exact absurd H (by simp)
     rw [if_neg c44] at H
     have c44b0 : decide (t520 < 0) = false := decide_eq_false c44
     clear c44
     (first | rw [c44b0] | (simp only [i64_w, i32_w]; rw [c44b0]) | skip)
     by_cases c45 : t520 ≥ (t511.length : Int)
     ·
      rw [if_pos c45] at H
      exact absurd H (by simp)
     rw [if_neg c45] at H
     have c45b0 : decide ((t511.length : Int) ≤ t520) = false := decide_eq_false c45
     clear c45
     have H' := Aside0.mk H
     clear H
     go_wp2
     go_meet
     case rel => exact ⟨_, (decide (t521 ≥ (t511.length : Int))), (by first | rfl | (simp; done) | (simp [*]; done)), H', ⟨by have := HJ2.out; have := HJ21.out; first | omega | exact Nat.le_refl _⟩, ⟨ks_ HO_6⟩, ⟨bk_ BK514⟩, ⟨k1_ HB GE514⟩⟩
    case rest => as_aux_lemma =>
     clear HC43
     obtain ⟨kq, x110_42, rfl, HA, HJ42, HO_6, BK514, HB⟩ := hcut
     rcases kq with _ | kj42
     · exact absurd HA.out (by simp [laws_FnLays.j2])
     have H := HA.out
     clear HA
     simp only [laws_FnLays.j2] at H
     by_cases c46 : x110_42 = true
     ·
      subst c46
      have H1 := gt_ H
      exact absurd H1 (by simp)
     replace c46 := Bool.eq_false_iff.mpr c46
     subst c46
     replace H := gf_ H
     by_cases c47 : t521 < 0
     ·
      rw [if_pos c47] at H
      have c47b0 : decide (t521 < 0) = true := decide_eq_true c47
      clear c47
      obtain ⟨(c48 : 0 ≤ t520), H⟩ := gd_ H
      have c48b0 : decide (0 ≤ t520) = true := decide_eq_true c48
      clear c48
      obtain ⟨(c49 : t520 < (t511.length : Int)), H⟩ := gd_ H
      have c49b0 : decide (t520 < (t511.length : Int)) = true := decide_eq_true c49
      clear c49
      replace H := Option.bind_eq_some_iff.mp H
      obtain ⟨⟨t525, t526⟩, A500, H⟩ := H
      (try dsimp only at H)
      have A50 := Aside0.mk A500
      clear A500
      obtain ⟨(c51 : t521 = (-1)), H⟩ := gd_ H
      have c51b0 : (t521 == (-1)) = true := beq_iff_eq.mpr c51
      have c51b1 : (t521 != (-1)) = false := bne_eq_false_iff_eq.mpr c51
      clear c51
      obtain ⟨(c52 : t526 = 0), H⟩ := gd_ H
      have c52b0 : (t526 == 0) = true := beq_iff_eq.mpr c52
      have c52b1 : (t526 != 0) = false := bne_eq_false_iff_eq.mpr c52
      clear c52
      obtain rfl := Option.some.inj H
      try go_wp2
      have n0_ := Aside0.mk (Kd.S_drew HO_6.out)
      have n1_ := Aside0.mk (blk_drew BK514.out)
      have n2_ := Aside0.mk (below_drew1 HB.out)
      clear HO_6
      clear BK514
      clear HB
      have HO_6 := n0_
      have BK514 := n1_
      have HB := n2_
      clear n0_ n1_ n2_
      have p524 : 0 ≤ (t520 : Int) := od_
      have q524 : t520 < (t511.length : Int) := od_
      obtain ⟨ad524, A524_0, c524_0, e524, hx524_0, hl524_0, hi524_0⟩ := at_L3 (Kd.S_reads' HO_6.out).2.2 t520 p524 q524
      cases e524
      obtain ⟨ce524, hce524, hMe524, hcc524⟩ := Kd.S_get HO_6.out [] t520 p524 (by first | exact q524 | exact od_ | (have e_ := (Kd.S_reads' HO_6.out).1; omega))
      obtain ⟨ve524_0, rfl, ge524_0⟩ := hMe524
      have hv524_0 := hcc524 0 _ rfl
      rw [Nat.add_zero, show ((Kd.slice 43 k43)).sz = 1 from rfl, Nat.mul_one] at hv524_0
      replace hv524_0 := Option.some.inj (hv524_0.symm.trans hx524_0)
      rw [hv524_0] at ge524_0
      have HL524_0 := Aside0.mk (show Kd.R k43 43 _ _ _ _ (rd_L3 t511 t520) from ge524_0)
      clear hv524_0 ge524_0
      clear hcc524 hce524
      have HR524_0 := Aside0.mk hi524_0
      have HC524_0 := Aside0.mk hl524_0
      clear hi524_0 hl524_0
      replace p524 := eq_true p524
      replace q524 := eq_true q524
      refine start_ (n := 11) (S := fun w' => w'.cell? ⟨gb514, 0, none⟩ = some (.int .i16 t509) ∧ w'.cell? ⟨gb514, 1, none⟩ = some (.int .i16 t510) ∧ w'.cell? (ad524.add (t520).toNat) = some (.slice A524_0 (rd_L3 t511 t520).length c524_0)) (ds := []) #[false, false, false, false, false, false, false, false, false, false, false] (by kernel_rfl) rfl rfl ⟨(blk_cell BK514.out 0).trans rfl, (blk_cell BK514.out 1).trans rfl, hx524_0⟩ (fun hHeld => ?_); refine with_tabW laws_FnLays.tab14 laws_FnLays.bits14 (fun HT_ HW_ => ?_)
      generalize wc.drew = w53 at HO_6 BK514 HB HL524_0 HR524_0 hx524_0 hHeld ⊢
      refine pu_ 1 115 (lA 11 2) ?_ ?_ HT_ ?_
      refine pu_ 2 116 (lA 11 6) ?_ ?_ HT_ ?_
      refine pu_ 3 117 (lA 11 14) ?_ ?_ HT_ ?_
      refine tk_ 0 114 (lA 11 15) ?_ ?_ HT_ HW_ hHeld ?_
      refine tk_ 4 118 (lA 11 31) ?_ ?_ HT_ HW_ hHeld ?_
      refine one_ (i := 5) (N := some 119) #[true, true, true, true, true, true, false, false, false, false, false] rfl rfl (one_of HT_.out (by kernel_rfl)) (by decide) (fun K hK => ?_)
      refine goes_ Try.func10 (by kernel_rfl) rfl #[.agg #[.int .i16 t509, .int .i16 t510], .slice A524_0 (rd_L3 t511 t520).length c524_0] (by rfl) rfl rfl (by (try simp only [List.map_toArray, List.map_cons, List.map_nil]); first | done | rfl | (simp only [List.length_drop, List.length_take]; rfl)) ?_
      with_reducible refine (impl_InFrame.calls kj42 t509 t510 _ _ (rd_L3 t511 t520) t525 t526 _ ?side1 ?side2 A50.out).mono ?_
      (case side1 => repeat (first | exact (kc_ HR524_0.out) | (with_reducible refine Kd.C_alloc ?_ _) | (with_reducible refine Kd.C_drewN ?_ _) | (with_reducible refine Kd.C_drew ?_)))
      (case side2 => exact HC524_0.out)
      rintro e w54 ⟨rfl, hb⟩
      have HS2_ := (hb.cell (World.block_lt_of_cell? _ _ (hHeld.2.2))).trans (hHeld.2.2)
      refine ⟨_, rfl, ?_⟩
      have n0_ := Aside0.mk (Kd.S_below (ks_ HO_6) hb)
      have n1_ := Aside0.mk (Kd.R_below (kp_ HL524_0) hb)
      have n2_ := bd_ BK514 hb
      have n3_ := Aside0.mk (Kd.C_below (kc_ HR524_0.out) hb)
      have n4_ := Aside0.mk (below_step (k1_ HB GE514) hb)
      clear HO_6
      clear HL524_0
      clear BK514
      clear HR524_0
      clear HB
      have HO_6 := n0_
      have HL524_0 := n1_
      have BK514 := n2_
      have HR524_0 := n3_
      have HB := n4_
      clear n0_ n1_ n2_ n3_ n4_
      refine hK.out _ _ ⟨(blk_cell BK514.out 0).trans rfl, (blk_cell BK514.out 1).trans rfl, HS2_⟩ (fun hHeld => ?_)
      clear hK K
      refine norm_ (a' := ?_) ?_ ?_
      rotate_left
      ·
       show Act.put _ (some 119) _ = _
       simp only [Act.put, List.setIfInBounds_toArray, List.set_cons_zero, List.set_cons_succ, i64_w, i32_w]
       rfl
      refine pu_ 6 113 (lA 11 127) ?_ ?_ HT_ ?_
      refine pu_ 7 120 (lA 11 255) ?_ ?_ HT_ ?_
      refine pu_ 8 121 (lA 11 511) ?_ ?_ HT_ ?_
      refine pu_ 9 13 (lA 11 1023) ?_ ?_ HT_ ?_
      refine pu_ 10 14 (lA 11 2047) ?_ ?_ HT_ ?_
      refine done_ (done_of HT_.out (by kernel_rfl)) ?_
      try go_wp2
      go_ret
      exact ⟨rt_, k1_ HB GE514⟩
     rw [if_neg c47] at H
     have c47b0 : decide (t521 < 0) = false := decide_eq_false c47
     clear c47
     obtain ⟨(c59 : 0 ≤ t520), H⟩ := gd_ H
     have c59b0 : decide (0 ≤ t520) = true := decide_eq_true c59
     clear c59
     obtain ⟨(c60 : t520 < (t511.length : Int)), H⟩ := gd_ H
     have c60b0 : decide (t520 < (t511.length : Int)) = true := decide_eq_true c60
     clear c60
     obtain ⟨(c61 : 0 ≤ t521), H⟩ := gd_ H
     have c61b0 : decide (0 ≤ t521) = true := decide_eq_true c61
     clear c61
     obtain ⟨(c62 : t521 < (t511.length : Int)), H⟩ := gd_ H
     have c62b0 : decide (t521 < (t511.length : Int)) = true := decide_eq_true c62
     clear c62
     replace H := Option.bind_eq_some_iff.mp H
     obtain ⟨⟨t529, t530⟩, A630, H⟩ := H
     (try dsimp only at H)
     have A63 := Aside0.mk A630
     clear A630
     obtain ⟨(c64 : t530 = 0), H⟩ := gd_ H
     have c64b0 : (t530 == 0) = true := beq_iff_eq.mpr c64
     have c64b1 : (t530 != 0) = false := bne_eq_false_iff_eq.mpr c64
     clear c64
     rcases (Decidable.em (t529 = true)).symm with c65 | c65
     ·
      replace c65 := Bool.eq_false_iff.mpr c65
      subst c65
      have H1 := gf_ H
      exact absurd H1 (by simp)
     subst c65
     replace H := gt_ H
     obtain rfl := Option.some.inj H
     try go_wp2
     have n0_ := Aside0.mk (Kd.S_drew HO_6.out)
     have n1_ := Aside0.mk (blk_drew BK514.out)
     have n2_ := Aside0.mk (below_drew1 HB.out)
     clear HO_6
     clear BK514
     clear HB
     have HO_6 := n0_
     have BK514 := n1_
     have HB := n2_
     clear n0_ n1_ n2_
     have p527 : 0 ≤ (t520 : Int) := od_
     have q527 : t520 < (t511.length : Int) := od_
     obtain ⟨ad527, A527_0, c527_0, e527, hx527_0, hl527_0, hi527_0⟩ := at_L3 (Kd.S_reads' HO_6.out).2.2 t520 p527 q527
     cases e527
     obtain ⟨ce527, hce527, hMe527, hcc527⟩ := Kd.S_get HO_6.out [] t520 p527 (by first | exact q527 | exact od_ | (have e_ := (Kd.S_reads' HO_6.out).1; omega))
     obtain ⟨ve527_0, rfl, ge527_0⟩ := hMe527
     have hv527_0 := hcc527 0 _ rfl
     rw [Nat.add_zero, show ((Kd.slice 43 k43)).sz = 1 from rfl, Nat.mul_one] at hv527_0
     replace hv527_0 := Option.some.inj (hv527_0.symm.trans hx527_0)
     rw [hv527_0] at ge527_0
     have HL527_0 := Aside0.mk (show Kd.R k43 43 _ _ _ _ (rd_L3 t511 t520) from ge527_0)
     clear hv527_0 ge527_0
     clear hcc527 hce527
     have HR527_0 := Aside0.mk hi527_0
     have HC527_0 := Aside0.mk hl527_0
     clear hi527_0 hl527_0
     replace p527 := eq_true p527
     replace q527 := eq_true q527
     have p528 : 0 ≤ (t521 : Int) := od_
     have q528 : t521 < (t511.length : Int) := od_
     obtain ⟨ad528, A528_0, c528_0, e528, hx528_0, hl528_0, hi528_0⟩ := at_L3 (Kd.S_reads' HO_6.out).2.2 t521 p528 q528
     obtain rfl : ad527 = ad528 := (by injection e528)
     obtain ⟨ce528, hce528, hMe528, hcc528⟩ := Kd.S_get HO_6.out [] t521 p528 (by first | exact q528 | exact od_ | (have e_ := (Kd.S_reads' HO_6.out).1; omega))
     obtain ⟨ve528_0, rfl, ge528_0⟩ := hMe528
     have hv528_0 := hcc528 0 _ rfl
     rw [Nat.add_zero, show ((Kd.slice 43 k43)).sz = 1 from rfl, Nat.mul_one] at hv528_0
     replace hv528_0 := Option.some.inj (hv528_0.symm.trans hx528_0)
     rw [hv528_0] at ge528_0
     have HL528_0 := Aside0.mk (show Kd.R k43 43 _ _ _ _ (rd_L3 t511 t521) from ge528_0)
     clear hv528_0 ge528_0
     clear hcc528 hce528
     have HR528_0 := Aside0.mk hi528_0
     have HC528_0 := Aside0.mk hl528_0
     clear hi528_0 hl528_0
     replace p528 := eq_true p528
     replace q528 := eq_true q528
     refine start_ (n := 14) (S := fun w' => w'.cell? (ad527.add (t520).toNat) = some (.slice A527_0 (rd_L3 t511 t520).length c527_0) ∧ w'.cell? (ad527.add (t521).toNat) = some (.slice A528_0 (rd_L3 t511 t521).length c528_0)) (ds := []) #[false, false, false, false, false, false, false, false, false, false, false, false, false, false] (by kernel_rfl) rfl rfl ⟨hx527_0, hx528_0⟩ (fun hHeld => ?_); refine with_tabW laws_FnLays.tab16 laws_FnLays.bits16 (fun HT_ HW_ => ?_)
     generalize wc.drew = w66 at HO_6 BK514 HB HL527_0 HL528_0 HR527_0 HR528_0 hx527_0 hx528_0 hHeld ⊢
     refine pu_ 0 133 (lA 14 1) ?_ ?_ HT_ ?_
     refine pu_ 1 134 (lA 14 3) ?_ ?_ HT_ ?_
     refine pu_ 2 135 (lA 14 7) ?_ ?_ HT_ ?_
     refine pu_ 4 137 (lA 14 23) ?_ ?_ HT_ ?_
     refine pu_ 5 138 (lA 14 55) ?_ ?_ HT_ ?_
     refine pu_ 6 139 (lA 14 119) ?_ ?_ HT_ ?_
     refine tk_ 3 136 (lA 14 127) ?_ ?_ HT_ HW_ hHeld ?_
     refine tk_ 7 140 (lA 14 255) ?_ ?_ HT_ HW_ hHeld ?_
     refine one_ (i := 8) (N := some 141) #[true, true, true, true, true, true, true, true, true, false, false, false, false, false] rfl rfl (one_of HT_.out (by kernel_rfl)) (by decide) (fun K hK => ?_)
     refine goes_ Try.func11 (by kernel_rfl) rfl #[.slice A527_0 (rd_L3 t511 t520).length c527_0, .slice A528_0 (rd_L3 t511 t521).length c528_0] (by rfl) rfl rfl (by (try simp only [List.map_toArray, List.map_cons, List.map_nil]); first | done | rfl | (simp only [List.length_drop, List.length_take]; rfl)) ?_
     with_reducible refine (impl_DoOverlap.calls kj42 _ _ (rd_L3 t511 t520) _ _ (rd_L3 t511 t521) true t530 _ ?side1 ?side2 ?side3 ?side4 A63.out).mono ?_
     (case side1 => repeat (first | exact (kc_ HR527_0.out) | (with_reducible refine Kd.C_alloc ?_ _) | (with_reducible refine Kd.C_drewN ?_ _) | (with_reducible refine Kd.C_drew ?_)))
     (case side2 => exact HC527_0.out)
     (case side3 => repeat (first | exact (kc_ HR528_0.out) | (with_reducible refine Kd.C_alloc ?_ _) | (with_reducible refine Kd.C_drewN ?_ _) | (with_reducible refine Kd.C_drew ?_)))
     (case side4 => exact HC528_0.out)
     rintro e w67 ⟨rfl, hb⟩
     have HS0_ := (hb.cell (World.block_lt_of_cell? _ _ (hHeld.1))).trans (hHeld.1)
     have HS1_ := (hb.cell (World.block_lt_of_cell? _ _ (hHeld.2))).trans (hHeld.2)
     refine ⟨_, rfl, ?_⟩
     have n0_ := Aside0.mk (Kd.S_below (ks_ HO_6) hb)
     have n1_ := Aside0.mk (Kd.R_below (kp_ HL527_0) hb)
     have n2_ := Aside0.mk (Kd.R_below (kp_ HL528_0) hb)
     have n3_ := bd_ BK514 hb
     have n4_ := Aside0.mk (Kd.C_below (kc_ HR527_0.out) hb)
     have n5_ := Aside0.mk (Kd.C_below (kc_ HR528_0.out) hb)
     have n6_ := Aside0.mk (below_step (k1_ HB GE514) hb)
     clear HO_6
     clear HL527_0
     clear HL528_0
     clear BK514
     clear HR527_0
     clear HR528_0
     clear HB
     have HO_6 := n0_
     have HL527_0 := n1_
     have HL528_0 := n2_
     have BK514 := n3_
     have HR527_0 := n4_
     have HR528_0 := n5_
     have HB := n6_
     clear n0_ n1_ n2_ n3_ n4_ n5_ n6_
     refine hK.out _ _ ⟨HS0_, HS1_⟩ (fun hHeld => ?_)
     clear hK K
     refine norm_ (a' := ?_) ?_ ?_
     rotate_left
     ·
      show Act.put _ (some 141) _ = _
      simp only [Act.put, List.setIfInBounds_toArray, List.set_cons_zero, List.set_cons_succ, i64_w, i32_w]
      rfl
     refine pu_ 9 132 (lA 14 1023) ?_ ?_ HT_ ?_
     refine pu_ 10 142 (lA 14 2047) ?_ ?_ HT_ ?_
     refine pu_ 11 143 (lA 14 4095) ?_ ?_ HT_ ?_
     refine pu_ 12 15 (lA 14 8191) ?_ ?_ HT_ ?_
     refine pu_ 13 16 (lA 14 16383) ?_ ?_ HT_ ?_
     refine done_ (done_of HT_.out (by kernel_rfl)) ?_
     try go_wp2
     go_ret
     exact ⟨rt_, k1_ HB GE514⟩
   rw [if_neg c42] at H
   have c42b0 : (t519 == 0) = false := beq_eq_false_iff_ne.mpr c42
   have c42b1 : (t519 != 0) = true := bne_iff_ne.mpr c42
   replace H := Option.bind_eq_some_iff.mp H
   obtain ⟨⟨t531, t532⟩, A720, H⟩ := H
   (try dsimp only at H)
   have A72 := Aside0.mk A720
   clear A720
   have H' := Aside0.mk H
   clear H
   obtain ⟨⟨hcz73_0, hcz73_1⟩, hfz73_0, hfz73_1⟩ := bq_ BK514
   go_wp2_with (first | ((with_reducible refine gate_callee (f := 12) rfl ?_); refine goM_ (some 157) Try.func12 #[.agg #[.int .i16 t509, .int .i16 t510], .slice Ao28 t511.length co28] ?_; (with_reducible refine (impl_BareTwice.calls kj21 t509 t510 _ _ t511 t531 t532 _ ?side1 ?side2 A72.out).mono ?_); (case side1 => exact kc_ ((Kd.S_reads' HO_6.out).2.2)); (case side2 => exact (Kd.S_reads' HO_6.out).2.1); rintro e w74 ⟨rfl, hb⟩; refine ⟨_, rfl, ?_⟩; replace HO_6 := Aside0.mk (Kd.S_below (ks_ HO_6) hb); replace BK514 := bd_ BK514 hb; replace HB := Aside0.mk (below_step (k1_ HB GE514) hb); clear hb))
   go_loopg [19, 20] kj21 (fun kq v19 v20 w' => ∃ (x19_3 : Int) (x20_3 : Int), v19 = .int .i64 x19_3 ∧ v20 = .int .i64 x20_3 ∧ Aside0 (laws_FnLays.l0 kq t511 t531 t532 x19_3 x20_3 t509 t510 = some r) ∧ Aside0 (kq ≤ kj21) ∧ Aside0 (Kd.S (Kd.slice 43 k43) 36 w' w.heap.size (fun _ => True) (.slice Ao28 t511.length co28) t511) ∧ Aside0 (w'.heap[gb514]? = some (.cells #[.int .i16 t509, .int .i16 t510] 26 (0, 0))) ∧ Aside0 (Below w.heap.size w w'))
   case atStart => exact ⟨(t531), (0), (by first | rfl | (simp; done) | (simp [*]; done)), (by first | rfl | (simp; done) | (simp [*]; done)), H', ⟨Nat.le_refl _⟩, ⟨ks_ HO_6⟩, ⟨bk_ BK514⟩, ⟨k1_ HB GE514⟩⟩
   case round => as_aux_lemma =>
    clear H'
    obtain ⟨x19_3, x20_3, rfl, rfl, HA, HK3, HO_6, BK514, HB⟩ := hrel
    rcases gk with _ | k3
    · exact absurd HA.out (by simp [laws_FnLays.l0])
    have H := HA.out
    clear HA
    simp only [laws_FnLays.l0] at H
    rcases (Decidable.em (x20_3 < (t511.length : Int))).symm with c75 | c75
    ·
     rw [if_neg c75] at H
     have c75b0 : decide (x20_3 < (t511.length : Int)) = false := decide_eq_false c75
     clear c75
     have HC107 := Aside0.mk H
     clear H
     go_upto_region 32 with (fail)
     go_cut [279] (fun v279 wc => ∃ (kq : Nat) (x279_106 : Bool), v279 = .bool x279_106 ∧ Aside0 (laws_FnLays.j5 kq t511 x279_106 t509 t510 = some r) ∧ Aside0 (kq ≤ k3) ∧ Aside0 (Kd.S (Kd.slice 43 k43) 36 wc w.heap.size (fun _ => True) (.slice Ao28 t511.length co28) t511) ∧ Aside0 (wc.heap[gb514]? = some (.cells #[.int .i16 t509, .int .i16 t510] 26 (0, 0))) ∧ Aside0 (Below w.heap.size w wc))
     case first => as_aux_lemma =>
      have H := HC107.out
      clear HC107
      obtain ⟨(c108 : t532 = 0), H⟩ := gd_ H
      have c108b0 : (t532 == 0) = true := beq_iff_eq.mpr c108
      have c108b1 : (t532 != 0) = false := bne_eq_false_iff_eq.mpr c108
      clear c108
      (first | rw [c108b0] | (simp only [i64_w, i32_w]; rw [c108b0]) | skip)
      by_cases c109 : t531 < 0
      ·
       rw [if_pos c109] at H
       exact absurd H (by simp)
      rw [if_neg c109] at H
      have c109b0 : decide (t531 < 0) = false := decide_eq_false c109
      clear c109
      have H' := Aside0.mk H
      clear H
      obtain ⟨⟨hcz110_0, hcz110_1⟩, hfz110_0, hfz110_1⟩ := bq_ BK514
      go_wp2
      go_meet
      case rel => exact ⟨_, ((x19_3 != (wrap64 ((wrap64 (2 * (wrap64 (t509)))) * (wrap64 (t510)))))), (by first | rfl | (simp; done) | (simp [*]; done)), H', ⟨by have := HJ2.out; have := HJ21.out; have := HK3.out; first | omega | exact Nat.le_refl _⟩, ⟨ks_ HO_6⟩, ⟨bk_ BK514⟩, ⟨k1_ HB GE514⟩⟩
     case rest => as_aux_lemma =>
      clear HC107
      obtain ⟨kq, x279_106, rfl, HA, HJ106, HO_6, BK514, HB⟩ := hcut
      rcases kq with _ | kj106
      · exact absurd HA.out (by simp [laws_FnLays.j5])
      have H := HA.out
      clear HA
      simp only [laws_FnLays.j5] at H
      by_cases c111 : x279_106 = true
      ·
       subst c111
       have H1 := gt_ H
       exact absurd H1 (by simp)
      replace c111 := Bool.eq_false_iff.mpr c111
      subst c111
      replace H := gf_ H
      replace H := Option.bind_eq_some_iff.mp H
      obtain ⟨⟨t552, t555⟩, A1120, H⟩ := H
      (try dsimp only at H)
      have A112 := Aside0.mk A1120
      clear A1120
      replace H := Option.bind_eq_some_iff.mp H
      obtain ⟨⟨t556, t559⟩, A1130, H⟩ := H
      (try dsimp only at H)
      have A113 := Aside0.mk A1130
      clear A1130
      have HC114 := Aside0.mk H
      clear H
      obtain ⟨⟨hcz115_0, hcz115_1⟩, hfz115_0, hfz115_1⟩ := bq_ BK514
      go_upto_region 36 with (first | ((with_reducible refine gate_callee (f := 16) rfl ?_); refine goM_ (some 283) Try.func16 #[.agg #[.int .i16 t509, .int .i16 t510], .slice Ao28 t511.length co28] ?_; (with_reducible refine (impl_SeamsIn.calls kj106 t509 t510 _ _ t511 t552 t555 _ ?side1 ?side2 A112.out).mono ?_); (case side1 => exact kc_ ((Kd.S_reads' HO_6.out).2.2)); (case side2 => exact (Kd.S_reads' HO_6.out).2.1); rintro e w116 ⟨v553, rfl, ho0, hb⟩; refine ⟨_, rfl, ?_⟩; replace HO_6 := Aside0.mk (Kd.S_below (ks_ HO_6) hb); have HO554 := Aside0.mk (Kd.R_lower ho0 (below_size (k1_ HB GE514))); replace BK514 := bd_ BK514 hb; replace HB := Aside0.mk (below_step (k1_ HB GE514) hb); clear hb; (try clear ho0); obtain ⟨⟨hcz117_0, hcz117_1⟩, hfz117_0, hfz117_1⟩ := bq_ BK514) | ((with_reducible refine gate_callee (f := 17) rfl ?_); refine goM_ (some 289) Try.func17 #[.agg #[.int .i16 t509, .int .i16 t510], .slice Ao28 t511.length co28] ?_; (with_reducible refine (spec_SeamsIn.calls kj106 t509 t510 _ _ t511 t556 t559 _ ?side1 ?side2 A113.out).mono ?_); (case side1 => exact kc_ ((Kd.S_reads' HO_6.out).2.2)); (case side2 => exact (Kd.S_reads' HO_6.out).2.1); rintro e w118 ⟨v557, rfl, ho0, hb⟩; refine ⟨_, rfl, ?_⟩; replace HO_6 := Aside0.mk (Kd.S_below (ks_ HO_6) hb); have HO558 := Aside0.mk (Kd.R_lower (Kd.R_new' ho0 (Kd.R_lt (kp_ HO554))) (below_size (k1_ HB GE514))); replace HO554 := Aside0.mk (Kd.R_elder' (kp_ HO554) (Kd.R_base ho0) hb); replace BK514 := bd_ BK514 hb; replace HB := Aside0.mk (below_step (k1_ HB GE514) hb); clear hb; (try clear ho0)))
      (try simp only [Act.put, List.setIfInBounds_toArray, List.set_cons_zero, List.set_cons_succ])
      go_cut [304] (fun v304 wc => ∃ (kq : Nat) (x304_113 : Bool), v304 = .bool x304_113 ∧ Aside0 (laws_FnLays.j6 kq t511 t556 x304_113 t509 t510 = some r) ∧ Aside0 (kq ≤ kj106) ∧ Aside0 (Kd.S (Kd.slice 43 k43) 36 wc w.heap.size (fun _ => True) (.slice Ao28 t511.length co28) t511) ∧ Aside0 (Kd.R k49 49 wc w.heap.size (fun _ => True) v557 t556) ∧ Aside0 (wc.heap[gb514]? = some (.cells #[.int .i16 t509, .int .i16 t510] 26 (0, 0))) ∧ Aside0 (Below w.heap.size w wc))
      case first => as_aux_lemma =>
       have H := HC114.out
       clear HC114
       obtain ⟨(c119 : t555 = t559), H⟩ := gd_ H
       have c119b0 : (t555 == t559) = true := beq_iff_eq.mpr c119
       have c119b1 : (t555 != t559) = false := bne_eq_false_iff_eq.mpr c119
       clear c119
       (first | rw [c119b0] | (simp only [i64_w, i32_w]; rw [c119b0]) | skip)
       obtain ⟨(c120 : t555 = 0), H⟩ := gd_ H
       have c120b0 : (t555 == 0) = true := beq_iff_eq.mpr c120
       have c120b1 : (t555 != 0) = false := bne_eq_false_iff_eq.mpr c120
       clear c120
       replace H := Option.bind_eq_some_iff.mp H
       obtain ⟨t560, A1210, H⟩ := H
       (try dsimp only at H)
       have A121 := Aside0.mk A1210
       clear A1210
       have H' := Aside0.mk H
       clear H
       obtain ⟨Ao122, co122, eo122⟩ := Kd.R_slice HO554.out
       subst eo122
       obtain ⟨Ao123, co123, eo123⟩ := Kd.R_slice HO558.out
       subst eo123
       go_wp2_with (first | (go_at_call 18; (with_reducible refine (spec_SamePairs.calls kj106 _ _ t552 _ _ t556 t560 _ ?side1 ?side2 ?side3 ?side4 A121.out).mono ?_); (case side1 => exact kc_ ((Kd.R_reads' HO554.out).2.2)); (case side2 => exact (Kd.R_reads' HO554.out).2.1); (case side3 => exact kc_ ((Kd.R_reads' HO558.out).2.2)); (case side4 => exact (Kd.R_reads' HO558.out).2.1); rintro e w' ⟨rfl, ⟨nd, rfl⟩⟩))
       go_meet
       case rel => exact ⟨_, (!t560), (by first | rfl | (simp; done) | (simp [*]; done)), H', ⟨by have := HJ2.out; have := HJ21.out; have := HK3.out; have := HJ106.out; first | omega | exact Nat.le_refl _⟩, ⟨ks_ HO_6⟩, ⟨by (with_reducible repeat (first | apply Kd.R_alloc | apply Kd.R_drewN | apply Kd.R_drew)); exact Kd.R_mono HO558.out (fun _ hk => trivial)⟩, ⟨bk_ BK514⟩, ⟨k1_ HB GE514⟩⟩
      case rest => as_aux_lemma =>
       clear HC114
       obtain ⟨kq, x304_113, rfl, HA, HJ113, HO_6, HO_31, BK514, HB⟩ := hcut
       rcases kq with _ | kj113
       · exact absurd HA.out (by simp [laws_FnLays.j6])
       have H := HA.out
       clear HA
       simp only [laws_FnLays.j6] at H
       by_cases c124 : x304_113 = true
       ·
        subst c124
        have H1 := gt_ H
        exact absurd H1 (by simp)
       replace c124 := Bool.eq_false_iff.mpr c124
       subst c124
       replace H := gf_ H
       have H' := Aside0.mk H
       clear H
       go_wp2
       go_loopg [33] kj113 (fun kq v33 w' => ∃ (x33_6 : Int), v33 = .int .i64 x33_6 ∧ Aside0 (laws_FnLays.l1 kq t511 t556 x33_6 t509 t510 = some r) ∧ Aside0 (kq ≤ kj113) ∧ Aside0 (Kd.S (Kd.slice 43 k43) 36 w' w.heap.size (fun _ => True) (.slice Ao28 t511.length co28) t511) ∧ Aside0 (Kd.R k49 49 w' w.heap.size (fun _ => True) v557 t556) ∧ Aside0 (w'.heap[gb514]? = some (.cells #[.int .i16 t509, .int .i16 t510] 26 (0, 0))) ∧ Aside0 (Below w.heap.size w w'))
       case atStart => exact ⟨(0), (by first | rfl | (simp; done) | (simp [*]; done)), H', ⟨Nat.le_refl _⟩, ⟨ks_ HO_6⟩, ⟨kp_ HO_31⟩, ⟨bk_ BK514⟩, ⟨k1_ HB GE514⟩⟩
       case round => as_aux_lemma =>
        clear H'
        obtain ⟨x33_6, rfl, HA, HK6, HO_6, HO_31, BK514, HB⟩ := hrel
        rcases gk with _ | k6
        · exact absurd HA.out (by simp [laws_FnLays.l1])
        have H := HA.out
        clear HA
        simp only [laws_FnLays.l1] at H
        rcases (Decidable.em (x33_6 < (t556.length : Int))).symm with c125 | c125
        ·
         rw [if_neg c125] at H
         have c125b0 : decide (x33_6 < (t556.length : Int)) = false := decide_eq_false c125
         clear c125
         by_cases c145 : (t511.length : Int) = 0
         ·
          rw [if_pos c145] at H
          have c145b0 : ((t511.length : Int) == 0) = true := beq_iff_eq.mpr c145
          have c145b1 : ((t511.length : Int) != 0) = false := bne_eq_false_iff_eq.mpr c145
          clear c145
          obtain rfl := Option.some.inj H
          obtain ⟨Ao146, co146, eo146⟩ := Kd.R_slice HO_31.out
          subst eo146
          go_wp2
          go_ret
          exact ⟨rt_, k1_ HB GE514⟩
         rw [if_neg c145] at H
         have c145b0 : ((t511.length : Int) == 0) = false := beq_eq_false_iff_ne.mpr c145
         have c145b1 : ((t511.length : Int) != 0) = true := bne_iff_ne.mpr c145
         have c145b2 : ¬ (t511 = []) := fun h_ => c145 (by rw [h_]; rfl)
         obtain ⟨(c146 : t511.length < 5864062014805), H⟩ := gd_ H
         obtain ⟨y50, hy50⟩ : ∃ y_ : List (List (S43)), y_ = t511 ++ [t511.getD 0 []] := ⟨_, rfl⟩
         rw [← hy50] at H
         replace H := Option.bind_eq_some_iff.mp H
         obtain ⟨⟨t567, t568, t569⟩, A1470, H⟩ := H
         (try dsimp only at H)
         have A147 := Aside0.mk A1470
         clear A1470
         obtain ⟨(c148 : t569 = 0), H⟩ := gd_ H
         have c148b0 : (t569 == 0) = true := beq_iff_eq.mpr c148
         have c148b1 : (t569 != 0) = false := bne_eq_false_iff_eq.mpr c148
         clear c148
         obtain ⟨(c149 : t567 = 0), H⟩ := gd_ H
         have c149b0 : (t567 == 0) = true := beq_iff_eq.mpr c149
         have c149b1 : (t567 != 0) = false := bne_eq_false_iff_eq.mpr c149
         clear c149
         obtain ⟨(c150 : t568 = (t511.length : Int)), H⟩ := gd_ H
         have c150b0 : (t568 == (t511.length : Int)) = true := beq_iff_eq.mpr c150
         have c150b1 : (t568 != (t511.length : Int)) = false := bne_eq_false_iff_eq.mpr c150
         clear c150
         replace H := Option.bind_eq_some_iff.mp H
         obtain ⟨t570, A1510, H⟩ := H
         (try dsimp only at H)
         have A151 := Aside0.mk A1510
         clear A1510
         obtain rfl := Option.some.inj H
         obtain ⟨Ao152, co152, eo152⟩ := Kd.R_slice HO_31.out
         subst eo152
         go_upto_region 50 with (fail)
         refine twice_is rfl laws_FnLays.tab50 (kc_ ((Kd.S_reads' HO_6.out).2.2)) c146 (List.length_pos_iff.mpr c145b2) hy50 (fun v0_ v1_ v2_ v3_ v4_ v5_ v6_ A50 c50 w50 a50 HC50 HL50 hb ha_ => ?_) (hc := (Kd.S_reads' HO_6.out).2.1)
         clear hy50
         replace HC50 := Aside0.mk HC50
         replace HL50 := Aside0.mk HL50
         replace HO_6 := Aside0.mk (Kd.S_below (ks_ HO_6) hb)
         replace HO_31 := Aside0.mk (Kd.R_below (kp_ HO_31) hb)
         replace BK514 := bd_ BK514 hb
         replace HB := Aside0.mk (below_step (k1_ HB GE514) hb)
         clear hb
         simp only [Act.put, List.setIfInBounds_toArray, List.set_cons_zero, List.set_cons_succ] at ha_
         subst ha_
         obtain ⟨⟨hcz153_0, hcz153_1⟩, hfz153_0, hfz153_1⟩ := bq_ BK514
         go_wp2_with (first | ((with_reducible refine gate_callee (f := 8) rfl ?_); refine goM_ (some 366) Try.func8 #[.agg #[.int .i16 t509, .int .i16 t510], .slice A50 y50.length c50] ?_; (with_reducible refine (impl_FirstFault.calls k6 t509 t510 _ _ y50 t567 t568 t569 _ ?side1 ?side2 A147.out).mono ?_); (case side1 => exact kc_ HC50.out); (case side2 => exact HL50.out); rintro e w154 ⟨rfl, hb⟩; refine ⟨_, rfl, ?_⟩; replace HO_6 := Aside0.mk (Kd.S_below (ks_ HO_6) hb); replace HC50 := Aside0.mk (Kd.C_below (kc_ HC50.out) hb); replace HO_31 := Aside0.mk (Kd.R_below (kp_ HO_31) hb); replace BK514 := bd_ BK514 hb; replace HB := Aside0.mk (below_step (k1_ HB GE514) hb); clear hb; obtain ⟨⟨hcz155_0, hcz155_1⟩, hfz155_0, hfz155_1⟩ := bq_ BK514) | (go_at_call 7; (with_reducible refine (impl_ValidLay.calls k6 t509 t510 _ _ y50 t570 _ ?side1 ?side2 A151.out).mono ?_); (case side1 => exact kc_ HC50.out); (case side2 => exact HL50.out); rintro e w156 ⟨rfl, hb⟩; replace HO_6 := Aside0.mk (Kd.S_below (ks_ HO_6) hb); replace HC50 := Aside0.mk (Kd.C_below (kc_ HC50.out) hb); replace HO_31 := Aside0.mk (Kd.R_below (kp_ HO_31) hb); replace BK514 := bd_ BK514 hb; replace HB := Aside0.mk (below_step (k1_ HB GE514) hb); clear hb))
         go_ret
         exact ⟨rt_, k1_ HB GE514⟩
        rw [if_pos c125] at H
        have c125b0 : decide (x33_6 < (t556.length : Int)) = true := decide_eq_true c125
        clear c125
        obtain ⟨(c126 : 0 ≤ x33_6), H⟩ := gd_ H
        have c126b0 : decide (0 ≤ x33_6) = true := decide_eq_true c126
        clear c126
        have HC127 := Aside0.mk H
        clear H
        obtain ⟨Ao128, co128, eo128⟩ := Kd.R_slice HO_31.out
        subst eo128
        have p561 : 0 ≤ (x33_6 : Int) := od_
        have q561 : x33_6 < (t556.length : Int) := od_
        obtain ⟨ad561, e561, hx561_0, hx561_1⟩ := at_T49 (Kd.R_reads' HO_31.out).2.2 x33_6 p561 q561
        cases e561
        replace p561 := eq_true p561
        replace q561 := eq_true q561
        have p562 : 0 ≤ (x33_6 : Int) := od_
        have q562 : x33_6 < (t556.length : Int) := od_
        obtain ⟨ad562, e562, hx562_0, hx562_1⟩ := at_T49 (Kd.R_reads' HO_31.out).2.2 x33_6 p562 q562
        obtain rfl : ad561 = ad562 := (by injection e562)
        replace p562 := eq_true p562
        replace q562 := eq_true q562
        go_upto_region 43 with (fail)
        go_cut [333] (fun v333 wc => ∃ (kq : Nat) (x333_126 : Bool), v333 = .bool x333_126 ∧ Aside0 (laws_FnLays.j8 kq t511 t556 x33_6 ((rd_T49 t556 x33_6).f0) ((rd_T49 t556 x33_6).f1) x333_126 t509 t510 = some r) ∧ Aside0 (kq ≤ k6) ∧ Aside0 (Kd.S (Kd.slice 43 k43) 36 wc w.heap.size (fun _ => True) (.slice Ao28 t511.length co28) t511) ∧ Aside0 (Kd.R k49 49 wc w.heap.size (fun _ => True) (.slice (some ad561) t556.length co128) t556) ∧ Aside0 (wc.heap[gb514]? = some (.cells #[.int .i16 t509, .int .i16 t510] 26 (0, 0))) ∧ Aside0 (Below w.heap.size w wc))
        case first => as_aux_lemma =>
         have H := HC127.out
         clear HC127
         by_cases c129 : ((rd_T49 t556 x33_6).f0) < 0
         ·
          rw [if_pos c129] at H
          exact absurd H (by simp)
         rw [if_neg c129] at H
         have c129b0 : decide (((rd_T49 t556 x33_6).f0) < 0) = false := decide_eq_false c129
         clear c129
         (first | rw [c129b0] | (simp only [i64_w, i32_w]; rw [c129b0]) | skip)
         by_cases c130 : ((rd_T49 t556 x33_6).f1) ≤ ((rd_T49 t556 x33_6).f0)
         ·
          rw [if_pos c130] at H
          exact absurd H (by simp)
         rw [if_neg c130] at H
         have c130b0 : decide (((rd_T49 t556 x33_6).f1) ≤ ((rd_T49 t556 x33_6).f0)) = false := decide_eq_false c130
         clear c130
         have H' := Aside0.mk H
         clear H
         go_wp2
         go_meet
         case rel => exact ⟨_, (decide (((rd_T49 t556 x33_6).f1) ≥ (t511.length : Int))), (by first | rfl | (simp; done) | (simp [*]; done)), H', ⟨by have := HJ2.out; have := HJ21.out; have := HK3.out; have := HJ106.out; have := HJ113.out; have := HK6.out; first | omega | exact Nat.le_refl _⟩, ⟨ks_ HO_6⟩, ⟨kp_ HO_31⟩, ⟨bk_ BK514⟩, ⟨k1_ HB GE514⟩⟩
        case rest => as_aux_lemma =>
         clear HC127
         obtain ⟨kq, x333_126, rfl, HA, HJ126, HO_6, HO_31, BK514, HB⟩ := hcut
         rcases kq with _ | kj126
         · exact absurd HA.out (by simp [laws_FnLays.j8])
         have H := HA.out
         clear HA
         simp only [laws_FnLays.j8] at H
         by_cases c131 : x333_126 = true
         ·
          subst c131
          have H1 := gt_ H
          exact absurd H1 (by simp)
         replace c131 := Bool.eq_false_iff.mpr c131
         subst c131
         replace H := gf_ H
         obtain ⟨(c132 : 0 ≤ ((rd_T49 t556 x33_6).f0)), H⟩ := gd_ H
         have c132b0 : decide (0 ≤ ((rd_T49 t556 x33_6).f0)) = true := decide_eq_true c132
         clear c132
         obtain ⟨(c133 : ((rd_T49 t556 x33_6).f0) < (t511.length : Int)), H⟩ := gd_ H
         have c133b0 : decide (((rd_T49 t556 x33_6).f0) < (t511.length : Int)) = true := decide_eq_true c133
         clear c133
         obtain ⟨(c134 : 0 ≤ ((rd_T49 t556 x33_6).f1)), H⟩ := gd_ H
         have c134b0 : decide (0 ≤ ((rd_T49 t556 x33_6).f1)) = true := decide_eq_true c134
         clear c134
         obtain ⟨(c135 : ((rd_T49 t556 x33_6).f1) < (t511.length : Int)), H⟩ := gd_ H
         have c135b0 : decide (((rd_T49 t556 x33_6).f1) < (t511.length : Int)) = true := decide_eq_true c135
         clear c135
         replace H := Option.bind_eq_some_iff.mp H
         obtain ⟨⟨t565, t566⟩, A1360, H⟩ := H
         (try dsimp only at H)
         have A136 := Aside0.mk A1360
         clear A1360
         obtain ⟨(c137 : t566 = 0), H⟩ := gd_ H
         have c137b0 : (t566 == 0) = true := beq_iff_eq.mpr c137
         have c137b1 : (t566 != 0) = false := bne_eq_false_iff_eq.mpr c137
         clear c137
         rcases (Decidable.em (t565 = true)).symm with c138 | c138
         ·
          replace c138 := Bool.eq_false_iff.mpr c138
          subst c138
          have H1 := gf_ H
          exact absurd H1 (by simp)
         subst c138
         replace H := gt_ H
         have H' := Aside0.mk H
         clear H
         try go_wp2
         have n0_ := Aside0.mk (Kd.S_drew HO_6.out)
         have n1_ := Aside0.mk (Kd.R_drew HO_31.out)
         have n2_ := Aside0.mk (blk_drew BK514.out)
         have n3_ := Aside0.mk (below_drew1 HB.out)
         clear HO_6
         clear HO_31
         clear BK514
         clear HB
         have HO_6 := n0_
         have HO_31 := n1_
         have BK514 := n2_
         have HB := n3_
         clear n0_ n1_ n2_ n3_
         have p563 : 0 ≤ (((rd_T49 t556 x33_6).f0) : Int) := od_
         have q563 : ((rd_T49 t556 x33_6).f0) < (t511.length : Int) := od_
         obtain ⟨ad563, A563_0, c563_0, e563, hx563_0, hl563_0, hi563_0⟩ := at_L3 (Kd.S_reads' HO_6.out).2.2 ((rd_T49 t556 x33_6).f0) p563 q563
         cases e563
         obtain ⟨ce563, hce563, hMe563, hcc563⟩ := Kd.S_get HO_6.out [] ((rd_T49 t556 x33_6).f0) p563 (by first | exact q563 | exact od_ | (have e_ := (Kd.S_reads' HO_6.out).1; omega))
         obtain ⟨ve563_0, rfl, ge563_0⟩ := hMe563
         have hv563_0 := hcc563 0 _ rfl
         rw [Nat.add_zero, show ((Kd.slice 43 k43)).sz = 1 from rfl, Nat.mul_one] at hv563_0
         replace hv563_0 := Option.some.inj (hv563_0.symm.trans hx563_0)
         rw [hv563_0] at ge563_0
         have HL563_0 := Aside0.mk (show Kd.R k43 43 _ _ _ _ (rd_L3 t511 ((rd_T49 t556 x33_6).f0)) from ge563_0)
         clear hv563_0 ge563_0
         clear hcc563 hce563
         have HR563_0 := Aside0.mk hi563_0
         have HC563_0 := Aside0.mk hl563_0
         clear hi563_0 hl563_0
         replace p563 := eq_true p563
         replace q563 := eq_true q563
         have p564 : 0 ≤ (((rd_T49 t556 x33_6).f1) : Int) := od_
         have q564 : ((rd_T49 t556 x33_6).f1) < (t511.length : Int) := od_
         obtain ⟨ad564, A564_0, c564_0, e564, hx564_0, hl564_0, hi564_0⟩ := at_L3 (Kd.S_reads' HO_6.out).2.2 ((rd_T49 t556 x33_6).f1) p564 q564
         obtain rfl : ad563 = ad564 := (by injection e564)
         obtain ⟨ce564, hce564, hMe564, hcc564⟩ := Kd.S_get HO_6.out [] ((rd_T49 t556 x33_6).f1) p564 (by first | exact q564 | exact od_ | (have e_ := (Kd.S_reads' HO_6.out).1; omega))
         obtain ⟨ve564_0, rfl, ge564_0⟩ := hMe564
         have hv564_0 := hcc564 0 _ rfl
         rw [Nat.add_zero, show ((Kd.slice 43 k43)).sz = 1 from rfl, Nat.mul_one] at hv564_0
         replace hv564_0 := Option.some.inj (hv564_0.symm.trans hx564_0)
         rw [hv564_0] at ge564_0
         have HL564_0 := Aside0.mk (show Kd.R k43 43 _ _ _ _ (rd_L3 t511 ((rd_T49 t556 x33_6).f1)) from ge564_0)
         clear hv564_0 ge564_0
         clear hcc564 hce564
         have HR564_0 := Aside0.mk hi564_0
         have HC564_0 := Aside0.mk hl564_0
         clear hi564_0 hl564_0
         replace p564 := eq_true p564
         replace q564 := eq_true q564
         refine start_ (n := 14) (S := fun w' => w'.cell? (ad563.add (((rd_T49 t556 x33_6).f0)).toNat) = some (.slice A563_0 (rd_L3 t511 ((rd_T49 t556 x33_6).f0)).length c563_0) ∧ w'.cell? (ad563.add (((rd_T49 t556 x33_6).f1)).toNat) = some (.slice A564_0 (rd_L3 t511 ((rd_T49 t556 x33_6).f1)).length c564_0)) (ds := []) #[false, false, false, false, false, false, false, false, false, false, false, false, false, false] (by kernel_rfl) rfl rfl ⟨hx563_0, hx564_0⟩ (fun hHeld => ?_); refine with_tabW laws_FnLays.tab45 laws_FnLays.bits45 (fun HT_ HW_ => ?_)
         generalize wc.drew = w139 at HO_6 HO_31 BK514 HB HL563_0 HL564_0 HR563_0 HR564_0 hx563_0 hx564_0 hHeld ⊢
         refine pu_ 0 335 (lA 14 1) ?_ ?_ HT_ ?_
         refine pu_ 1 336 (lA 14 3) ?_ ?_ HT_ ?_
         refine pu_ 2 337 (lA 14 7) ?_ ?_ HT_ ?_
         refine pu_ 4 339 (lA 14 23) ?_ ?_ HT_ ?_
         refine pu_ 5 340 (lA 14 55) ?_ ?_ HT_ ?_
         refine pu_ 6 341 (lA 14 119) ?_ ?_ HT_ ?_
         refine tk_ 3 338 (lA 14 127) ?_ ?_ HT_ HW_ hHeld ?_
         refine tk_ 7 342 (lA 14 255) ?_ ?_ HT_ HW_ hHeld ?_
         refine one_ (i := 8) (N := some 343) #[true, true, true, true, true, true, true, true, true, false, false, false, false, false] rfl rfl (one_of HT_.out (by kernel_rfl)) (by decide) (fun K hK => ?_)
         refine goes_ Try.func19 (by kernel_rfl) rfl #[.slice A563_0 (rd_L3 t511 ((rd_T49 t556 x33_6).f0)).length c563_0, .slice A564_0 (rd_L3 t511 ((rd_T49 t556 x33_6).f1)).length c564_0] (by rfl) rfl rfl (by (try simp only [List.map_toArray, List.map_cons, List.map_nil]); first | done | rfl | (simp only [List.length_drop, List.length_take]; rfl)) ?_
         with_reducible refine (impl_DoTouch.calls kj126 _ _ (rd_L3 t511 ((rd_T49 t556 x33_6).f0)) _ _ (rd_L3 t511 ((rd_T49 t556 x33_6).f1)) true t566 _ ?side1 ?side2 ?side3 ?side4 A136.out).mono ?_
         (case side1 => repeat (first | exact (kc_ HR563_0.out) | (with_reducible refine Kd.C_alloc ?_ _) | (with_reducible refine Kd.C_drewN ?_ _) | (with_reducible refine Kd.C_drew ?_)))
         (case side2 => exact HC563_0.out)
         (case side3 => repeat (first | exact (kc_ HR564_0.out) | (with_reducible refine Kd.C_alloc ?_ _) | (with_reducible refine Kd.C_drewN ?_ _) | (with_reducible refine Kd.C_drew ?_)))
         (case side4 => exact HC564_0.out)
         rintro e w140 ⟨rfl, hb⟩
         have HS0_ := (hb.cell (World.block_lt_of_cell? _ _ (hHeld.1))).trans (hHeld.1)
         have HS1_ := (hb.cell (World.block_lt_of_cell? _ _ (hHeld.2))).trans (hHeld.2)
         refine ⟨_, rfl, ?_⟩
         have n0_ := Aside0.mk (Kd.S_below (ks_ HO_6) hb)
         have n1_ := Aside0.mk (Kd.R_below (kp_ HO_31) hb)
         have n2_ := Aside0.mk (Kd.R_below (kp_ HL563_0) hb)
         have n3_ := Aside0.mk (Kd.R_below (kp_ HL564_0) hb)
         have n4_ := bd_ BK514 hb
         have n5_ := Aside0.mk (Kd.C_below (kc_ HR563_0.out) hb)
         have n6_ := Aside0.mk (Kd.C_below (kc_ HR564_0.out) hb)
         have n7_ := Aside0.mk (below_step (k1_ HB GE514) hb)
         clear HO_6
         clear HO_31
         clear HL563_0
         clear HL564_0
         clear BK514
         clear HR563_0
         clear HR564_0
         clear HB
         have HO_6 := n0_
         have HO_31 := n1_
         have HL563_0 := n2_
         have HL564_0 := n3_
         have BK514 := n4_
         have HR563_0 := n5_
         have HR564_0 := n6_
         have HB := n7_
         clear n0_ n1_ n2_ n3_ n4_ n5_ n6_ n7_
         refine hK.out _ _ ⟨HS0_, HS1_⟩ (fun hHeld => ?_)
         clear hK K
         refine norm_ (a' := ?_) ?_ ?_
         rotate_left
         ·
          show Act.put _ (some 343) _ = _
          simp only [Act.put, List.setIfInBounds_toArray, List.set_cons_zero, List.set_cons_succ, i64_w, i32_w]
          rfl
         refine pu_ 9 334 (lA 14 1023) ?_ ?_ HT_ ?_
         refine pu_ 10 344 (lA 14 2047) ?_ ?_ HT_ ?_
         refine pu_ 11 345 (lA 14 4095) ?_ ?_ HT_ ?_
         refine pu_ 12 36 (lA 14 8191) ?_ ?_ HT_ ?_
         refine pu_ 13 37 (lA 14 16383) ?_ ?_ HT_ ?_
         refine done_ (done_of HT_.out (by kernel_rfl)) ?_
         try go_wp2
         go_roundg kj126
         case measure => have := HJ2.out; have := HJ21.out; have := HK3.out; have := HJ106.out; have := HJ113.out; have := HK6.out; have := HJ126.out; omega
         case rel => exact ⟨(wrap64 (x33_6 + 1)), (by first | rfl | (simp; done) | (simp [*]; done)), H', ⟨by have := HJ2.out; have := HJ21.out; have := HK3.out; have := HJ106.out; have := HJ113.out; have := HK6.out; have := HJ126.out; omega⟩, ⟨ks_ HO_6⟩, ⟨kp_ HO_31⟩, ⟨bk_ BK514⟩, ⟨k1_ HB GE514⟩⟩
    rw [if_pos c75] at H
    have c75b0 : decide (x20_3 < (t511.length : Int)) = true := decide_eq_true c75
    clear c75
    obtain ⟨(c76 : 0 ≤ x20_3), H⟩ := gd_ H
    have c76b0 : decide (0 ≤ x20_3) = true := decide_eq_true c76
    clear c76
    replace H := Option.bind_eq_some_iff.mp H
    obtain ⟨⟨t534, t535⟩, A770, H⟩ := H
    (try dsimp only at H)
    have A77 := Aside0.mk A770
    clear A770
    replace H := Option.bind_eq_some_iff.mp H
    obtain ⟨⟨t537, t538⟩, A780, H⟩ := H
    (try dsimp only at H)
    have A78 := Aside0.mk A780
    clear A780
    obtain ⟨(c79 : 0 < ((rd_L3 t511 x20_3).length : Int)), H⟩ := gd_ H
    have c79b0 : decide (0 < ((rd_L3 t511 x20_3).length : Int)) = true := decide_eq_true c79
    have c79b1 : decide (0 < (rd_L3 t511 x20_3).length) = true := decide_eq_true (by omega)
    clear c79
    replace H := Option.bind_eq_some_iff.mp H
    obtain ⟨⟨t543, t544⟩, A800, H⟩ := H
    (try dsimp only at H)
    have A80 := Aside0.mk A800
    clear A800
    have HC81 := Aside0.mk H
    clear H
    have p533 : 0 ≤ (x20_3 : Int) := od_
    have q533 : x20_3 < (t511.length : Int) := od_
    obtain ⟨ad533, A533_0, c533_0, e533, hx533_0, hl533_0, hi533_0⟩ := at_L3 (Kd.S_reads' HO_6.out).2.2 x20_3 p533 q533
    cases e533
    obtain ⟨ce533, hce533, hMe533, hcc533⟩ := Kd.S_get HO_6.out [] x20_3 p533 (by first | exact q533 | exact od_ | (have e_ := (Kd.S_reads' HO_6.out).1; omega))
    obtain ⟨ve533_0, rfl, ge533_0⟩ := hMe533
    have hv533_0 := hcc533 0 _ rfl
    rw [Nat.add_zero, show ((Kd.slice 43 k43)).sz = 1 from rfl, Nat.mul_one] at hv533_0
    replace hv533_0 := Option.some.inj (hv533_0.symm.trans hx533_0)
    rw [hv533_0] at ge533_0
    have HL533_0 := Aside0.mk (show Kd.R k43 43 _ _ _ _ (rd_L3 t511 x20_3) from ge533_0)
    clear hv533_0 ge533_0
    clear hcc533 hce533
    have HR533_0 := Aside0.mk hi533_0
    have HC533_0 := Aside0.mk hl533_0
    clear hi533_0 hl533_0
    replace p533 := eq_true p533
    replace q533 := eq_true q533
    try go_wp2_with (first | ((with_reducible refine gate_callee (f := 13) rfl ?_); refine goM_ (some 172) Try.func13 #[.slice A533_0 (rd_L3 t511 x20_3).length c533_0] ?_; (with_reducible refine (impl_AreaTwice.calls k3 _ _ (rd_L3 t511 x20_3) t534 t535 _ ?side1 ?side2 A77.out).mono ?_); (case side1 => repeat (first | exact (kc_ HR533_0.out) | (with_reducible refine Kd.C_alloc ?_ _) | (with_reducible refine Kd.C_drewN ?_ _) | (with_reducible refine Kd.C_drew ?_))); (case side2 => exact HC533_0.out); rintro e w82 ⟨rfl, hb⟩; refine ⟨_, rfl, ?_⟩; replace HO_6 := Aside0.mk (Kd.S_below (ks_ HO_6) hb); replace HL533_0 := Aside0.mk (Kd.R_below (kp_ HL533_0) hb); replace BK514 := bd_ BK514 hb; replace HR533_0 := Aside0.mk (Kd.C_below (kc_ HR533_0.out) hb); replace HB := Aside0.mk (below_step (k1_ HB GE514) hb); clear hb))
    have n0_ := Aside0.mk (Kd.S_drew HO_6.out)
    have n1_ := Aside0.mk (Kd.R_drew HL533_0.out)
    have n2_ := Aside0.mk (blk_drew BK514.out)
    have n3_ := Aside0.mk (Kd.C_drew HR533_0.out)
    have n4_ := Aside0.mk (below_drew1 HB.out)
    clear HO_6
    clear HL533_0
    clear BK514
    clear HR533_0
    clear HB
    have HO_6 := n0_
    have HL533_0 := n1_
    have BK514 := n2_
    have HR533_0 := n3_
    have HB := n4_
    clear n0_ n1_ n2_ n3_ n4_
    have p536 : 0 ≤ (x20_3 : Int) := od_
    have q536 : x20_3 < (t511.length : Int) := od_
    obtain ⟨ad536, A536_0, c536_0, e536, hx536_0, hl536_0, hi536_0⟩ := at_L3 (Kd.S_reads' HO_6.out).2.2 x20_3 p536 q536
    obtain rfl : ad533 = ad536 := (by injection e536)
    obtain ⟨ce536, hce536, hMe536, hcc536⟩ := Kd.S_get HO_6.out [] x20_3 p536 (by first | exact q536 | exact od_ | (have e_ := (Kd.S_reads' HO_6.out).1; omega))
    obtain ⟨ve536_0, rfl, ge536_0⟩ := hMe536
    have hv536_0 := hcc536 0 _ rfl
    rw [Nat.add_zero, show ((Kd.slice 43 k43)).sz = 1 from rfl, Nat.mul_one] at hv536_0
    replace hv536_0 := Option.some.inj (hv536_0.symm.trans hx536_0)
    rw [hv536_0] at ge536_0
    have HL536_0 := Aside0.mk (show Kd.R k43 43 _ _ _ _ (rd_L3 t511 x20_3) from ge536_0)
    clear hv536_0 ge536_0
    clear hcc536 hce536
    have HR536_0 := Aside0.mk hi536_0
    have HC536_0 := Aside0.mk hl536_0
    clear hi536_0 hl536_0
    replace p536 := eq_true p536
    replace q536 := eq_true q536
    refine start_ (n := 11) (S := fun w' => w'.cell? ⟨gb514, 0, none⟩ = some (.int .i16 t509) ∧ w'.cell? ⟨gb514, 1, none⟩ = some (.int .i16 t510) ∧ w'.cell? (ad533.add (x20_3).toNat) = some (.slice A536_0 (rd_L3 t511 x20_3).length c536_0)) (ds := []) #[false, false, false, false, false, false, false, false, false, false, false] (by kernel_rfl) rfl rfl ⟨(blk_cell BK514.out 0).trans rfl, (blk_cell BK514.out 1).trans rfl, hx536_0⟩ (fun hHeld => ?_); refine with_tabW laws_FnLays.tab24 laws_FnLays.bits24 (fun HT_ HW_ => ?_)
    generalize w82.drew = w83 at HO_6 HL533_0 BK514 HR533_0 HB HL536_0 HR536_0 hx536_0 hHeld ⊢
    refine pu_ 1 177 (lA 11 2) ?_ ?_ HT_ ?_
    refine pu_ 2 178 (lA 11 6) ?_ ?_ HT_ ?_
    refine pu_ 3 179 (lA 11 14) ?_ ?_ HT_ ?_
    refine tk_ 0 176 (lA 11 15) ?_ ?_ HT_ HW_ hHeld ?_
    refine tk_ 4 180 (lA 11 31) ?_ ?_ HT_ HW_ hHeld ?_
    refine one_ (i := 5) (N := some 181) #[true, true, true, true, true, true, false, false, false, false, false] rfl rfl (one_of HT_.out (by kernel_rfl)) (by decide) (fun K hK => ?_)
    refine goes_ Try.func10 (by kernel_rfl) rfl #[.agg #[.int .i16 t509, .int .i16 t510], .slice A536_0 (rd_L3 t511 x20_3).length c536_0] (by rfl) rfl rfl (by (try simp only [List.map_toArray, List.map_cons, List.map_nil]); first | done | rfl | (simp only [List.length_drop, List.length_take]; rfl)) ?_
    with_reducible refine (impl_InFrame.calls k3 t509 t510 _ _ (rd_L3 t511 x20_3) t537 t538 _ ?side1 ?side2 A78.out).mono ?_
    (case side1 => repeat (first | exact (kc_ HR536_0.out) | (with_reducible refine Kd.C_alloc ?_ _) | (with_reducible refine Kd.C_drewN ?_ _) | (with_reducible refine Kd.C_drew ?_)))
    (case side2 => exact HC536_0.out)
    rintro e w84 ⟨rfl, hb⟩
    have HS2_ := (hb.cell (World.block_lt_of_cell? _ _ (hHeld.2.2))).trans (hHeld.2.2)
    refine ⟨_, rfl, ?_⟩
    have n0_ := Aside0.mk (Kd.S_below (ks_ HO_6) hb)
    have n1_ := Aside0.mk (Kd.R_below (kp_ HL533_0) hb)
    have n2_ := Aside0.mk (Kd.R_below (kp_ HL536_0) hb)
    have n3_ := bd_ BK514 hb
    have n4_ := Aside0.mk (Kd.C_below (kc_ HR533_0.out) hb)
    have n5_ := Aside0.mk (Kd.C_below (kc_ HR536_0.out) hb)
    have n6_ := Aside0.mk (below_step (k1_ HB GE514) hb)
    clear HO_6
    clear HL533_0
    clear HL536_0
    clear BK514
    clear HR533_0
    clear HR536_0
    clear HB
    have HO_6 := n0_
    have HL533_0 := n1_
    have HL536_0 := n2_
    have BK514 := n3_
    have HR533_0 := n4_
    have HR536_0 := n5_
    have HB := n6_
    clear n0_ n1_ n2_ n3_ n4_ n5_ n6_
    refine hK.out _ _ ⟨(blk_cell BK514.out 0).trans rfl, (blk_cell BK514.out 1).trans rfl, HS2_⟩ (fun hHeld => ?_)
    clear hK K
    refine norm_ (a' := ?_) ?_ ?_
    rotate_left
    ·
     show Act.put _ (some 181) _ = _
     simp only [Act.put, List.setIfInBounds_toArray, List.set_cons_zero, List.set_cons_succ, i64_w, i32_w]
     rfl
    refine pu_ 6 175 (lA 11 127) ?_ ?_ HT_ ?_
    refine pu_ 7 182 (lA 11 255) ?_ ?_ HT_ ?_
    refine pu_ 8 183 (lA 11 511) ?_ ?_ HT_ ?_
    refine pu_ 9 23 (lA 11 1023) ?_ ?_ HT_ ?_
    refine pu_ 10 24 (lA 11 2047) ?_ ?_ HT_ ?_
    refine done_ (done_of HT_.out (by kernel_rfl)) ?_
    try go_wp2
    have n0_ := Aside0.mk (Kd.S_drew HO_6.out)
    have n1_ := Aside0.mk (Kd.R_drew HL533_0.out)
    have n2_ := Aside0.mk (Kd.R_drew HL536_0.out)
    have n3_ := Aside0.mk (blk_drew BK514.out)
    have n4_ := Aside0.mk (Kd.C_drew HR533_0.out)
    have n5_ := Aside0.mk (Kd.C_drew HR536_0.out)
    have n6_ := Aside0.mk (below_drew1 HB.out)
    clear HO_6
    clear HL533_0
    clear HL536_0
    clear BK514
    clear HR533_0
    clear HR536_0
    clear HB
    have HO_6 := n0_
    have HL533_0 := n1_
    have HL536_0 := n2_
    have BK514 := n3_
    have HR533_0 := n4_
    have HR536_0 := n5_
    have HB := n6_
    clear n0_ n1_ n2_ n3_ n4_ n5_ n6_
    have p539 : 0 ≤ (x20_3 : Int) := od_
    have q539 : x20_3 < (t511.length : Int) := od_
    obtain ⟨ad539, A539_0, c539_0, e539, hx539_0, hl539_0, hi539_0⟩ := at_L3 (Kd.S_reads' HO_6.out).2.2 x20_3 p539 q539
    obtain rfl : ad533 = ad539 := (by injection e539)
    obtain ⟨ce539, hce539, hMe539, hcc539⟩ := Kd.S_get HO_6.out [] x20_3 p539 (by first | exact q539 | exact od_ | (have e_ := (Kd.S_reads' HO_6.out).1; omega))
    obtain ⟨ve539_0, rfl, ge539_0⟩ := hMe539
    have hv539_0 := hcc539 0 _ rfl
    rw [Nat.add_zero, show ((Kd.slice 43 k43)).sz = 1 from rfl, Nat.mul_one] at hv539_0
    replace hv539_0 := Option.some.inj (hv539_0.symm.trans hx539_0)
    rw [hv539_0] at ge539_0
    have HL539_0 := Aside0.mk (show Kd.R k43 43 _ _ _ _ (rd_L3 t511 x20_3) from ge539_0)
    clear hv539_0 ge539_0
    clear hcc539 hce539
    have HR539_0 := Aside0.mk hi539_0
    have HC539_0 := Aside0.mk hl539_0
    clear hi539_0 hl539_0
    replace p539 := eq_true p539
    replace q539 := eq_true q539
    have p540 : 0 ≤ (0 : Int) := (by omega)
    have q540 : 0 < ((rd_L3 t511 x20_3).length : Int) := od_
    obtain ⟨ad540, e540, hx540_0, hx540_1⟩ := at_T43 (kc_ HR539_0.out) 0 p540 q540
    cases e540
    have qi540 : (0 < (rd_L3 t511 x20_3).length) = True := eq_true (by omega)
    (try rw [show ((0 : Int)).toNat = 0 from rfl] at hx540_0)
    (try rw [show 0 * 2 = 0 from rfl] at hx540_0)
    (try rw [Addr.add_zero'] at hx540_0)
    (try rw [show ((0 : Int)).toNat = 0 from rfl] at hx540_1)
    (try rw [show 0 * 2 = 0 from rfl] at hx540_1)
    (try rw [Addr.add_zero'] at hx540_1)
    replace p540 := eq_true p540
    replace q540 := eq_true q540
    have p541 : 0 ≤ (x20_3 : Int) := od_
    have q541 : x20_3 < (t511.length : Int) := od_
    obtain ⟨ad541, A541_0, c541_0, e541, hx541_0, hl541_0, hi541_0⟩ := at_L3 (Kd.S_reads' HO_6.out).2.2 x20_3 p541 q541
    obtain rfl : ad533 = ad541 := (by injection e541)
    obtain ⟨ce541, hce541, hMe541, hcc541⟩ := Kd.S_get HO_6.out [] x20_3 p541 (by first | exact q541 | exact od_ | (have e_ := (Kd.S_reads' HO_6.out).1; omega))
    obtain ⟨ve541_0, rfl, ge541_0⟩ := hMe541
    have hv541_0 := hcc541 0 _ rfl
    rw [Nat.add_zero, show ((Kd.slice 43 k43)).sz = 1 from rfl, Nat.mul_one] at hv541_0
    replace hv541_0 := Option.some.inj (hv541_0.symm.trans hx541_0)
    rw [hv541_0] at ge541_0
    have HL541_0 := Aside0.mk (show Kd.R k43 43 _ _ _ _ (rd_L3 t511 x20_3) from ge541_0)
    clear hv541_0 ge541_0
    clear hcc541 hce541
    have HR541_0 := Aside0.mk hi541_0
    have HC541_0 := Aside0.mk hl541_0
    clear hi541_0 hl541_0
    replace p541 := eq_true p541
    replace q541 := eq_true q541
    have ea_ := Option.some.inj (hx539_0.symm.trans hx541_0)
    injection ea_ with ea_ en_ ec_
    subst ea_
    subst ec_
    clear en_
    have p542 : 0 ≤ (0 : Int) := (by omega)
    have q542 : 0 < ((rd_L3 t511 x20_3).length : Int) := od_
    obtain ⟨ad542, e542, hx542_0, hx542_1⟩ := at_T43 (kc_ HR541_0.out) 0 p542 q542
    cases e542
    have qi542 : (0 < (rd_L3 t511 x20_3).length) = True := eq_true (by omega)
    (try rw [show ((0 : Int)).toNat = 0 from rfl] at hx542_0)
    (try rw [show 0 * 2 = 0 from rfl] at hx542_0)
    (try rw [Addr.add_zero'] at hx542_0)
    (try rw [show ((0 : Int)).toNat = 0 from rfl] at hx542_1)
    (try rw [show 0 * 2 = 0 from rfl] at hx542_1)
    (try rw [Addr.add_zero'] at hx542_1)
    replace p542 := eq_true p542
    replace q542 := eq_true q542
    refine start_ (n := 24) (S := fun w' => w'.cell? ⟨gb514, 0, none⟩ = some (.int .i16 t509) ∧ w'.cell? ⟨gb514, 1, none⟩ = some (.int .i16 t510) ∧ w'.cell? (ad533.add (x20_3).toNat) = some (.slice (some ad540) (rd_L3 t511 x20_3).length c539_0) ∧ w'.cell? ad540 = some (.int .i16 ((rd_T43 (rd_L3 t511 x20_3) 0).f0)) ∧ w'.cell? ⟨ad540.block, ad540.off + 1, none⟩ = some (.int .i16 ((rd_T43 (rd_L3 t511 x20_3) 0).f1)) ∧ w'.cell? (ad533.add (x20_3).toNat) = some (.slice (some ad540) (rd_L3 t511 x20_3).length c539_0) ∧ w'.cell? ad540 = some (.int .i16 ((rd_T43 (rd_L3 t511 x20_3) 0).f0)) ∧ w'.cell? ⟨ad540.block, ad540.off + 1, none⟩ = some (.int .i16 ((rd_T43 (rd_L3 t511 x20_3) 0).f1))) (ds := []) #[false, false, false, false, false, false, false, false, false, false, false, false, false, false, false, false, false, false, false, false, false, false, false, false] (by kernel_rfl) rfl rfl ⟨(blk_cell BK514.out 0).trans rfl, (blk_cell BK514.out 1).trans rfl, hx539_0, hx540_0, hx540_1, hx541_0, hx542_0, hx542_1⟩ (fun hHeld => ?_); refine with_tabW laws_FnLays.tab25 laws_FnLays.bits25 (fun HT_ HW_ => ?_)
    generalize w84.drew = w85 at HO_6 HL533_0 HL536_0 BK514 HR533_0 HR536_0 HB HL539_0 HL541_0 HR539_0 HR541_0 hx539_0 hx540_0 hx540_1 hx541_0 hx542_0 hx542_1 hHeld ⊢
    refine pu_ 1 186 (lA 24 2) ?_ ?_ HT_ ?_
    refine pu_ 2 187 (lA 24 6) ?_ ?_ HT_ ?_
    refine pu_ 3 188 (lA 24 14) ?_ ?_ HT_ ?_
    refine pu_ 4 189 (lA 24 30) ?_ ?_ HT_ ?_
    refine pu_ 10 195 (lA 24 1054) ?_ ?_ HT_ ?_
    refine pu_ 11 196 (lA 24 3102) ?_ ?_ HT_ ?_
    refine pu_ 12 197 (lA 24 7198) ?_ ?_ HT_ ?_
    refine tk_ 0 185 (lA 24 7199) ?_ ?_ HT_ HW_ hHeld ?_
    refine tk_ 5 190 (lA 24 7231) ?_ ?_ HT_ HW_ hHeld ?_
    refine pu_ 6 191 (lA 24 7295) ?_ ?_ HT_ ?_
    refine pu_ 7 192 (lA 24 7423) ?_ ?_ HT_ ?_
    refine tk_ 8 193 (lA 24 7679) ?_ ?_ HT_ HW_ hHeld ?_
    refine pu_ 9 194 (lA 24 8191) ?_ ?_ HT_ ?_
    refine tk_ 13 198 (lA 24 16383) ?_ ?_ HT_ HW_ hHeld ?_
    refine pu_ 14 199 (lA 24 32767) ?_ ?_ HT_ ?_
    refine pu_ 15 200 (lA 24 65535) ?_ ?_ HT_ ?_
    refine tk_ 16 201 (lA 24 131071) ?_ ?_ HT_ HW_ hHeld ?_
    refine pu_ 17 202 (lA 24 262143) ?_ ?_ HT_ ?_
    refine one_ (i := 18) (N := some 203) #[true, true, true, true, true, true, true, true, true, true, true, true, true, true, true, true, true, true, true, false, false, false, false, false] rfl rfl (one_of HT_.out (by kernel_rfl)) (by decide) (fun K hK => ?_)
    refine goes_ Try.func14 (by kernel_rfl) rfl #[.agg #[.int .i16 t509, .int .i16 t510], .slice (some ad533) t511.length co28, .int .i64 (wrap64 ((rd_T43 (rd_L3 t511 x20_3) 0).f0)), .int .i64 (wrap64 ((rd_T43 (rd_L3 t511 x20_3) 0).f1))] (by rfl) rfl rfl (by (try simp only [List.map_toArray, List.map_cons, List.map_nil]); first | done | rfl | (simp only [List.length_drop, List.length_take]; rfl)) ?_
    with_reducible refine (impl_StoneAt.calls k3 t509 t510 _ _ t511 (wrap64 ((rd_T43 (rd_L3 t511 x20_3) 0).f0)) (wrap64 ((rd_T43 (rd_L3 t511 x20_3) 0).f1)) t543 t544 _ ?side1 ?side2 A80.out).mono ?_
    (case side1 => exact kc_ ((Kd.S_reads' HO_6.out).2.2))
    (case side2 => exact (Kd.S_reads' HO_6.out).2.1)
    rintro e w86 ⟨rfl, hb⟩
    have HS2_ := (hb.cell (World.block_lt_of_cell? _ _ (hHeld.2.2.1))).trans (hHeld.2.2.1)
    have HS3_ := (hb.cell (World.block_lt_of_cell? _ _ (hHeld.2.2.2.1))).trans (hHeld.2.2.2.1)
    have HS4_ := (hb.cell (World.block_lt_of_cell? _ _ (hHeld.2.2.2.2.1))).trans (hHeld.2.2.2.2.1)
    have HS5_ := (hb.cell (World.block_lt_of_cell? _ _ (hHeld.2.2.2.2.2.1))).trans (hHeld.2.2.2.2.2.1)
    have HS6_ := (hb.cell (World.block_lt_of_cell? _ _ (hHeld.2.2.2.2.2.2.1))).trans (hHeld.2.2.2.2.2.2.1)
    have HS7_ := (hb.cell (World.block_lt_of_cell? _ _ (hHeld.2.2.2.2.2.2.2))).trans (hHeld.2.2.2.2.2.2.2)
    refine ⟨_, rfl, ?_⟩
    have n0_ := Aside0.mk (Kd.S_below (ks_ HO_6) hb)
    have n1_ := Aside0.mk (Kd.R_below (kp_ HL533_0) hb)
    have n2_ := Aside0.mk (Kd.R_below (kp_ HL536_0) hb)
    have n3_ := Aside0.mk (Kd.R_below (kp_ HL539_0) hb)
    have n4_ := Aside0.mk (Kd.R_below (kp_ HL541_0) hb)
    have n5_ := bd_ BK514 hb
    have n6_ := Aside0.mk (Kd.C_below (kc_ HR533_0.out) hb)
    have n7_ := Aside0.mk (Kd.C_below (kc_ HR536_0.out) hb)
    have n8_ := Aside0.mk (Kd.C_below (kc_ HR539_0.out) hb)
    have n9_ := Aside0.mk (Kd.C_below (kc_ HR541_0.out) hb)
    have n10_ := Aside0.mk (below_step (k1_ HB GE514) hb)
    clear HO_6
    clear HL533_0
    clear HL536_0
    clear HL539_0
    clear HL541_0
    clear BK514
    clear HR533_0
    clear HR536_0
    clear HR539_0
    clear HR541_0
    clear HB
    have HO_6 := n0_
    have HL533_0 := n1_
    have HL536_0 := n2_
    have HL539_0 := n3_
    have HL541_0 := n4_
    have BK514 := n5_
    have HR533_0 := n6_
    have HR536_0 := n7_
    have HR539_0 := n8_
    have HR541_0 := n9_
    have HB := n10_
    clear n0_ n1_ n2_ n3_ n4_ n5_ n6_ n7_ n8_ n9_ n10_
    refine hK.out _ _ ⟨(blk_cell BK514.out 0).trans rfl, (blk_cell BK514.out 1).trans rfl, HS2_, HS3_, HS4_, HS5_, HS6_, HS7_⟩ (fun hHeld => ?_)
    clear hK K
    refine norm_ (a' := ?_) ?_ ?_
    rotate_left
    ·
     show Act.put _ (some 203) _ = _
     simp only [Act.put, List.setIfInBounds_toArray, List.set_cons_zero, List.set_cons_succ, i64_w, i32_w]
     rfl
    refine pu_ 19 184 (lA 24 1048575) ?_ ?_ HT_ ?_
    refine pu_ 20 204 (lA 24 2097151) ?_ ?_ HT_ ?_
    refine pu_ 21 205 (lA 24 4194303) ?_ ?_ HT_ ?_
    refine pu_ 22 25 (lA 24 8388607) ?_ ?_ HT_ ?_
    refine pu_ 23 26 (lA 24 16777215) ?_ ?_ HT_ ?_
    refine done_ (done_of HT_.out (by kernel_rfl)) ?_
    go_upto_region 26 with (fail)
    go_cut [228] (fun v228 wc => ∃ (kq : Nat) (x228_80 : Bool), v228 = .bool x228_80 ∧ Aside0 (laws_FnLays.j4 kq t511 t531 t532 x19_3 x20_3 t534 t543 x228_80 t509 t510 = some r) ∧ Aside0 (kq ≤ k3) ∧ Aside0 (Kd.S (Kd.slice 43 k43) 36 wc w.heap.size (fun _ => True) (.slice (some ad533) t511.length co28) t511) ∧ Aside0 (wc.heap[gb514]? = some (.cells #[.int .i16 t509, .int .i16 t510] 26 (0, 0))) ∧ Aside0 (Kd.C k43 wc A533_0 (rd_L3 t511 x20_3).length (rd_L3 t511 x20_3)) ∧ Aside0 (Kd.C k43 wc A536_0 (rd_L3 t511 x20_3).length (rd_L3 t511 x20_3)) ∧ Aside0 (Kd.C k43 wc (some ad540) (rd_L3 t511 x20_3).length (rd_L3 t511 x20_3)) ∧ Aside0 (Kd.C k43 wc (some ad540) (rd_L3 t511 x20_3).length (rd_L3 t511 x20_3)) ∧ Aside0 (Below w.heap.size w wc))
    case first => as_aux_lemma =>
     have H := HC81.out
     clear HC81
     obtain ⟨(c87 : t535 = 0), H⟩ := gd_ H
     have c87b0 : (t535 == 0) = true := beq_iff_eq.mpr c87
     have c87b1 : (t535 != 0) = false := bne_eq_false_iff_eq.mpr c87
     clear c87
     (first | rw [c87b0] | (simp only [i64_w, i32_w]; rw [c87b0]) | skip)
     obtain ⟨(c88 : t538 = 0), H⟩ := gd_ H
     have c88b0 : (t538 == 0) = true := beq_iff_eq.mpr c88
     have c88b1 : (t538 != 0) = false := bne_eq_false_iff_eq.mpr c88
     clear c88
     rcases (Decidable.em (t537 = true)).symm with c89 | c89
     ·
      replace c89 := Bool.eq_false_iff.mpr c89
      subst c89
      have H1 := gf_ H
      exact absurd H1 (by simp)
     subst c89
     replace H := gt_ H
     obtain ⟨(c90 : t544 = 0), H⟩ := gd_ H
     have c90b0 : (t544 == 0) = true := beq_iff_eq.mpr c90
     have c90b1 : (t544 != 0) = false := bne_eq_false_iff_eq.mpr c90
     clear c90
     by_cases c91 : t543 > x20_3
     ·
      rw [if_pos c91] at H
      exact absurd H (by simp)
     rw [if_neg c91] at H
     have c91b0 : decide (x20_3 < t543) = false := decide_eq_false c91
     clear c91
     have H' := Aside0.mk H
     clear H
     go_wp2
     go_meet
     case rel => exact ⟨_, (decide (t543 < 0)), (by first | rfl | (simp; done) | (simp [*]; done)), H', ⟨by have := HJ2.out; have := HJ21.out; have := HK3.out; first | omega | exact Nat.le_refl _⟩, ⟨ks_ HO_6⟩, ⟨bk_ BK514⟩, ⟨kc_ HR533_0.out⟩, ⟨kc_ HR536_0.out⟩, ⟨kc_ HR539_0.out⟩, ⟨kc_ HR541_0.out⟩, ⟨k1_ HB GE514⟩⟩
    case rest => as_aux_lemma =>
     clear HC81
     obtain ⟨kq, x228_80, rfl, HA, HJ80, HO_6, BK514, HR533_0, HR536_0, HR539_0, HR541_0, HB⟩ := hcut
     rcases kq with _ | kj80
     · exact absurd HA.out (by simp [laws_FnLays.j4])
     have H := HA.out
     clear HA
     simp only [laws_FnLays.j4] at H
     by_cases c92 : x228_80 = true
     ·
      subst c92
      have H1 := gt_ H
      exact absurd H1 (by simp)
     replace c92 := Bool.eq_false_iff.mpr c92
     subst c92
     replace H := gf_ H
     obtain ⟨(c93 : 0 ≤ t543), H⟩ := gd_ H
     have c93b0 : decide (0 ≤ t543) = true := decide_eq_true c93
     clear c93
     obtain ⟨(c94 : t543 < (t511.length : Int)), H⟩ := gd_ H
     have c94b0 : decide (t543 < (t511.length : Int)) = true := decide_eq_true c94
     clear c94
     obtain ⟨(c95 : 0 ≤ x20_3), H⟩ := gd_ H
     have c95b0 : decide (0 ≤ x20_3) = true := decide_eq_true c95
     clear c95
     obtain ⟨(c96 : x20_3 < (t511.length : Int)), H⟩ := gd_ H
     have c96b0 : decide (x20_3 < (t511.length : Int)) = true := decide_eq_true c96
     clear c96
     obtain ⟨(c97 : 0 < ((rd_L3 t511 x20_3).length : Int)), H⟩ := gd_ H
     have c97b0 : decide (0 < ((rd_L3 t511 x20_3).length : Int)) = true := decide_eq_true c97
     have c97b1 : decide (0 < (rd_L3 t511 x20_3).length) = true := decide_eq_true (by omega)
     clear c97
     replace H := Option.bind_eq_some_iff.mp H
     obtain ⟨⟨t550, t551⟩, A980, H⟩ := H
     (try dsimp only at H)
     have A98 := Aside0.mk A980
     clear A980
     obtain ⟨(c99 : t551 = 0), H⟩ := gd_ H
     have c99b0 : (t551 == 0) = true := beq_iff_eq.mpr c99
     have c99b1 : (t551 != 0) = false := bne_eq_false_iff_eq.mpr c99
     clear c99
     by_cases c100 : t550 = 0
     ·
      rw [if_pos c100] at H
      exact absurd H (by simp)
     rw [if_neg c100] at H
     have c100b0 : (t550 == 0) = false := beq_eq_false_iff_ne.mpr c100
     have c100b1 : (t550 != 0) = true := bne_iff_ne.mpr c100
     have H' := Aside0.mk H
     clear H
     try go_wp2
     have n0_ := Aside0.mk (Kd.S_drew HO_6.out)
     have n1_ := Aside0.mk (blk_drew BK514.out)
     have n2_ := Aside0.mk (Kd.C_drew HR533_0.out)
     have n3_ := Aside0.mk (Kd.C_drew HR536_0.out)
     have n4_ := Aside0.mk (Kd.C_drew HR539_0.out)
     have n5_ := Aside0.mk (Kd.C_drew HR541_0.out)
     have n6_ := Aside0.mk (below_drew1 HB.out)
     clear HO_6
     clear BK514
     clear HR533_0
     clear HR536_0
     clear HR539_0
     clear HR541_0
     clear HB
     have HO_6 := n0_
     have BK514 := n1_
     have HR533_0 := n2_
     have HR536_0 := n3_
     have HR539_0 := n4_
     have HR541_0 := n5_
     have HB := n6_
     clear n0_ n1_ n2_ n3_ n4_ n5_ n6_
     have p545 : 0 ≤ (t543 : Int) := od_
     have q545 : t543 < (t511.length : Int) := od_
     obtain ⟨ad545, A545_0, c545_0, e545, hx545_0, hl545_0, hi545_0⟩ := at_L3 (Kd.S_reads' HO_6.out).2.2 t543 p545 q545
     obtain rfl : ad533 = ad545 := (by injection e545)
     obtain ⟨ce545, hce545, hMe545, hcc545⟩ := Kd.S_get HO_6.out [] t543 p545 (by first | exact q545 | exact od_ | (have e_ := (Kd.S_reads' HO_6.out).1; omega))
     obtain ⟨ve545_0, rfl, ge545_0⟩ := hMe545
     have hv545_0 := hcc545 0 _ rfl
     rw [Nat.add_zero, show ((Kd.slice 43 k43)).sz = 1 from rfl, Nat.mul_one] at hv545_0
     replace hv545_0 := Option.some.inj (hv545_0.symm.trans hx545_0)
     rw [hv545_0] at ge545_0
     have HL545_0 := Aside0.mk (show Kd.R k43 43 _ _ _ _ (rd_L3 t511 t543) from ge545_0)
     clear hv545_0 ge545_0
     clear hcc545 hce545
     have HR545_0 := Aside0.mk hi545_0
     have HC545_0 := Aside0.mk hl545_0
     clear hi545_0 hl545_0
     replace p545 := eq_true p545
     replace q545 := eq_true q545
     have p546 : 0 ≤ (x20_3 : Int) := od_
     have q546 : x20_3 < (t511.length : Int) := od_
     obtain ⟨ad546, A546_0, c546_0, e546, hx546_0, hl546_0, hi546_0⟩ := at_L3 (Kd.S_reads' HO_6.out).2.2 x20_3 p546 q546
     obtain rfl : ad533 = ad546 := (by injection e546)
     obtain ⟨ce546, hce546, hMe546, hcc546⟩ := Kd.S_get HO_6.out [] x20_3 p546 (by first | exact q546 | exact od_ | (have e_ := (Kd.S_reads' HO_6.out).1; omega))
     obtain ⟨ve546_0, rfl, ge546_0⟩ := hMe546
     have hv546_0 := hcc546 0 _ rfl
     rw [Nat.add_zero, show ((Kd.slice 43 k43)).sz = 1 from rfl, Nat.mul_one] at hv546_0
     replace hv546_0 := Option.some.inj (hv546_0.symm.trans hx546_0)
     rw [hv546_0] at ge546_0
     have HL546_0 := Aside0.mk (show Kd.R k43 43 _ _ _ _ (rd_L3 t511 x20_3) from ge546_0)
     clear hv546_0 ge546_0
     clear hcc546 hce546
     have HR546_0 := Aside0.mk hi546_0
     have HC546_0 := Aside0.mk hl546_0
     clear hi546_0 hl546_0
     replace p546 := eq_true p546
     replace q546 := eq_true q546
     have p547 : 0 ≤ (0 : Int) := (by omega)
     have q547 : 0 < ((rd_L3 t511 x20_3).length : Int) := od_
     obtain ⟨ad547, e547, hx547_0, hx547_1⟩ := at_T43 (kc_ HR546_0.out) 0 p547 q547
     cases e547
     have qi547 : (0 < (rd_L3 t511 x20_3).length) = True := eq_true (by omega)
     (try rw [show ((0 : Int)).toNat = 0 from rfl] at hx547_0)
     (try rw [show 0 * 2 = 0 from rfl] at hx547_0)
     (try rw [Addr.add_zero'] at hx547_0)
     (try rw [show ((0 : Int)).toNat = 0 from rfl] at hx547_1)
     (try rw [show 0 * 2 = 0 from rfl] at hx547_1)
     (try rw [Addr.add_zero'] at hx547_1)
     replace p547 := eq_true p547
     replace q547 := eq_true q547
     have p548 : 0 ≤ (x20_3 : Int) := od_
     have q548 : x20_3 < (t511.length : Int) := od_
     obtain ⟨ad548, A548_0, c548_0, e548, hx548_0, hl548_0, hi548_0⟩ := at_L3 (Kd.S_reads' HO_6.out).2.2 x20_3 p548 q548
     obtain rfl : ad533 = ad548 := (by injection e548)
     obtain ⟨ce548, hce548, hMe548, hcc548⟩ := Kd.S_get HO_6.out [] x20_3 p548 (by first | exact q548 | exact od_ | (have e_ := (Kd.S_reads' HO_6.out).1; omega))
     obtain ⟨ve548_0, rfl, ge548_0⟩ := hMe548
     have hv548_0 := hcc548 0 _ rfl
     rw [Nat.add_zero, show ((Kd.slice 43 k43)).sz = 1 from rfl, Nat.mul_one] at hv548_0
     replace hv548_0 := Option.some.inj (hv548_0.symm.trans hx548_0)
     rw [hv548_0] at ge548_0
     have HL548_0 := Aside0.mk (show Kd.R k43 43 _ _ _ _ (rd_L3 t511 x20_3) from ge548_0)
     clear hv548_0 ge548_0
     clear hcc548 hce548
     have HR548_0 := Aside0.mk hi548_0
     have HC548_0 := Aside0.mk hl548_0
     clear hi548_0 hl548_0
     replace p548 := eq_true p548
     replace q548 := eq_true q548
     have ea_ := Option.some.inj (hx546_0.symm.trans hx548_0)
     injection ea_ with ea_ en_ ec_
     subst ea_
     subst ec_
     clear en_
     have p549 : 0 ≤ (0 : Int) := (by omega)
     have q549 : 0 < ((rd_L3 t511 x20_3).length : Int) := od_
     obtain ⟨ad549, e549, hx549_0, hx549_1⟩ := at_T43 (kc_ HR548_0.out) 0 p549 q549
     cases e549
     have qi549 : (0 < (rd_L3 t511 x20_3).length) = True := eq_true (by omega)
     (try rw [show ((0 : Int)).toNat = 0 from rfl] at hx549_0)
     (try rw [show 0 * 2 = 0 from rfl] at hx549_0)
     (try rw [Addr.add_zero'] at hx549_0)
     (try rw [show ((0 : Int)).toNat = 0 from rfl] at hx549_1)
     (try rw [show 0 * 2 = 0 from rfl] at hx549_1)
     (try rw [Addr.add_zero'] at hx549_1)
     replace p549 := eq_true p549
     replace q549 := eq_true q549
     refine start_ (n := 26) (S := fun w' => w'.cell? (ad533.add (t543).toNat) = some (.slice A545_0 (rd_L3 t511 t543).length c545_0) ∧ w'.cell? (ad533.add (x20_3).toNat) = some (.slice (some ad547) (rd_L3 t511 x20_3).length c546_0) ∧ w'.cell? ad547 = some (.int .i16 ((rd_T43 (rd_L3 t511 x20_3) 0).f0)) ∧ w'.cell? ⟨ad547.block, ad547.off + 1, none⟩ = some (.int .i16 ((rd_T43 (rd_L3 t511 x20_3) 0).f1)) ∧ w'.cell? (ad533.add (x20_3).toNat) = some (.slice (some ad547) (rd_L3 t511 x20_3).length c546_0) ∧ w'.cell? ad547 = some (.int .i16 ((rd_T43 (rd_L3 t511 x20_3) 0).f0)) ∧ w'.cell? ⟨ad547.block, ad547.off + 1, none⟩ = some (.int .i16 ((rd_T43 (rd_L3 t511 x20_3) 0).f1))) (ds := []) #[false, false, false, false, false, false, false, false, false, false, false, false, false, false, false, false, false, false, false, false, false, false, false, false, false, false] (by kernel_rfl) rfl rfl ⟨hx545_0, hx546_0, hx547_0, hx547_1, hx548_0, hx549_0, hx549_1⟩ (fun hHeld => ?_); refine with_tabW laws_FnLays.tab28 laws_FnLays.bits28 (fun HT_ HW_ => ?_)
     generalize wc.drew = w103 at HO_6 BK514 HR533_0 HR536_0 HR539_0 HR541_0 HB HL545_0 HL546_0 HL548_0 HR545_0 HR546_0 HR548_0 hx545_0 hx546_0 hx547_0 hx547_1 hx548_0 hx549_0 hx549_1 hHeld ⊢
     refine pu_ 0 230 (lA 26 1) ?_ ?_ HT_ ?_
     refine pu_ 1 231 (lA 26 3) ?_ ?_ HT_ ?_
     refine pu_ 2 232 (lA 26 7) ?_ ?_ HT_ ?_
     refine pu_ 4 234 (lA 26 23) ?_ ?_ HT_ ?_
     refine pu_ 5 235 (lA 26 55) ?_ ?_ HT_ ?_
     refine pu_ 6 236 (lA 26 119) ?_ ?_ HT_ ?_
     refine pu_ 12 242 (lA 26 4215) ?_ ?_ HT_ ?_
     refine pu_ 13 243 (lA 26 12407) ?_ ?_ HT_ ?_
     refine pu_ 14 244 (lA 26 28791) ?_ ?_ HT_ ?_
     refine tk_ 3 233 (lA 26 28799) ?_ ?_ HT_ HW_ hHeld ?_
     refine tk_ 7 237 (lA 26 28927) ?_ ?_ HT_ HW_ hHeld ?_
     refine pu_ 8 238 (lA 26 29183) ?_ ?_ HT_ ?_
     refine pu_ 9 239 (lA 26 29695) ?_ ?_ HT_ ?_
     refine tk_ 10 240 (lA 26 30719) ?_ ?_ HT_ HW_ hHeld ?_
     refine pu_ 11 241 (lA 26 32767) ?_ ?_ HT_ ?_
     refine tk_ 15 245 (lA 26 65535) ?_ ?_ HT_ HW_ hHeld ?_
     refine pu_ 16 246 (lA 26 131071) ?_ ?_ HT_ ?_
     refine pu_ 17 247 (lA 26 262143) ?_ ?_ HT_ ?_
     refine tk_ 18 248 (lA 26 524287) ?_ ?_ HT_ HW_ hHeld ?_
     refine pu_ 19 249 (lA 26 1048575) ?_ ?_ HT_ ?_
     refine one_ (i := 20) (N := some 250) #[true, true, true, true, true, true, true, true, true, true, true, true, true, true, true, true, true, true, true, true, true, false, false, false, false, false] rfl rfl (one_of HT_.out (by kernel_rfl)) (by decide) (fun K hK => ?_)
     refine goes_ Try.func15 (by kernel_rfl) rfl #[.slice A545_0 (rd_L3 t511 t543).length c545_0, .int .i64 (wrap64 ((rd_T43 (rd_L3 t511 x20_3) 0).f0)), .int .i64 (wrap64 ((rd_T43 (rd_L3 t511 x20_3) 0).f1))] (by rfl) rfl rfl (by (try simp only [List.map_toArray, List.map_cons, List.map_nil]); first | done | rfl | (simp only [List.length_drop, List.length_take]; rfl)) ?_
     with_reducible refine (impl_WhereIs.calls kj80 _ _ (rd_L3 t511 t543) (wrap64 ((rd_T43 (rd_L3 t511 x20_3) 0).f0)) (wrap64 ((rd_T43 (rd_L3 t511 x20_3) 0).f1)) t550 t551 _ ?side1 ?side2 A98.out).mono ?_
     (case side1 => repeat (first | exact (kc_ HR545_0.out) | (with_reducible refine Kd.C_alloc ?_ _) | (with_reducible refine Kd.C_drewN ?_ _) | (with_reducible refine Kd.C_drew ?_)))
     (case side2 => exact HC545_0.out)
     rintro e w104 ⟨rfl, hb⟩
     have HS0_ := (hb.cell (World.block_lt_of_cell? _ _ (hHeld.1))).trans (hHeld.1)
     have HS1_ := (hb.cell (World.block_lt_of_cell? _ _ (hHeld.2.1))).trans (hHeld.2.1)
     have HS2_ := (hb.cell (World.block_lt_of_cell? _ _ (hHeld.2.2.1))).trans (hHeld.2.2.1)
     have HS3_ := (hb.cell (World.block_lt_of_cell? _ _ (hHeld.2.2.2.1))).trans (hHeld.2.2.2.1)
     have HS4_ := (hb.cell (World.block_lt_of_cell? _ _ (hHeld.2.2.2.2.1))).trans (hHeld.2.2.2.2.1)
     have HS5_ := (hb.cell (World.block_lt_of_cell? _ _ (hHeld.2.2.2.2.2.1))).trans (hHeld.2.2.2.2.2.1)
     have HS6_ := (hb.cell (World.block_lt_of_cell? _ _ (hHeld.2.2.2.2.2.2))).trans (hHeld.2.2.2.2.2.2)
     refine ⟨_, rfl, ?_⟩
     have n0_ := Aside0.mk (Kd.S_below (ks_ HO_6) hb)
     have n1_ := Aside0.mk (Kd.R_below (kp_ HL545_0) hb)
     have n2_ := Aside0.mk (Kd.R_below (kp_ HL546_0) hb)
     have n3_ := Aside0.mk (Kd.R_below (kp_ HL548_0) hb)
     have n4_ := bd_ BK514 hb
     have n5_ := Aside0.mk (Kd.C_below (kc_ HR533_0.out) hb)
     have n6_ := Aside0.mk (Kd.C_below (kc_ HR536_0.out) hb)
     have n7_ := Aside0.mk (Kd.C_below (kc_ HR539_0.out) hb)
     have n8_ := Aside0.mk (Kd.C_below (kc_ HR541_0.out) hb)
     have n9_ := Aside0.mk (Kd.C_below (kc_ HR545_0.out) hb)
     have n10_ := Aside0.mk (Kd.C_below (kc_ HR546_0.out) hb)
     have n11_ := Aside0.mk (Kd.C_below (kc_ HR548_0.out) hb)
     have n12_ := Aside0.mk (below_step (k1_ HB GE514) hb)
     clear HO_6
     clear HL545_0
     clear HL546_0
     clear HL548_0
     clear BK514
     clear HR533_0
     clear HR536_0
     clear HR539_0
     clear HR541_0
     clear HR545_0
     clear HR546_0
     clear HR548_0
     clear HB
     have HO_6 := n0_
     have HL545_0 := n1_
     have HL546_0 := n2_
     have HL548_0 := n3_
     have BK514 := n4_
     have HR533_0 := n5_
     have HR536_0 := n6_
     have HR539_0 := n7_
     have HR541_0 := n8_
     have HR545_0 := n9_
     have HR546_0 := n10_
     have HR548_0 := n11_
     have HB := n12_
     clear n0_ n1_ n2_ n3_ n4_ n5_ n6_ n7_ n8_ n9_ n10_ n11_ n12_
     refine hK.out _ _ ⟨HS0_, HS1_, HS2_, HS3_, HS4_, HS5_, HS6_⟩ (fun hHeld => ?_)
     clear hK K
     refine norm_ (a' := ?_) ?_ ?_
     rotate_left
     ·
      show Act.put _ (some 250) _ = _
      simp only [Act.put, List.setIfInBounds_toArray, List.set_cons_zero, List.set_cons_succ, i64_w, i32_w]
      rfl
     refine pu_ 21 229 (lA 26 4194303) ?_ ?_ HT_ ?_
     refine pu_ 22 251 (lA 26 8388607) ?_ ?_ HT_ ?_
     refine pu_ 23 252 (lA 26 16777215) ?_ ?_ HT_ ?_
     refine pu_ 24 27 (lA 26 33554431) ?_ ?_ HT_ ?_
     refine pu_ 25 28 (lA 26 67108863) ?_ ?_ HT_ ?_
     refine done_ (done_of HT_.out (by kernel_rfl)) ?_
     try go_wp2
     go_roundg kj80
     case measure => have := HJ2.out; have := HJ21.out; have := HK3.out; have := HJ80.out; omega
     case rel => exact ⟨(wrap64 (x19_3 + t534)), (wrap64 (x20_3 + 1)), (by first | rfl | (simp; done) | (simp [*]; done)), (by first | rfl | (simp; done) | (simp [*]; done)), H', ⟨by have := HJ2.out; have := HJ21.out; have := HK3.out; have := HJ80.out; omega⟩, ⟨ks_ HO_6⟩, ⟨bk_ BK514⟩, ⟨k1_ HB GE514⟩⟩
/-- THE ONE PURE STATEMENT of laws_FnLays: yours. -/
def laws_FnLays.Pure : Prop := ∀ (l0 : List Int) (l1 : List Int), l0.length ≤ maxLen → l0.length * 1 ≤ 140737488351232 → (∀ x ∈ l0, (Lit.int .u8 x).wf = true) → l1.length ≤ maxLen → l1.length * 1 ≤ 140737488351232 → (∀ x ∈ l1, (Lit.int .u8 x).wf = true) → ∃ k, laws_FnLays.f k l0 l1 = some true
theorem laws_FnLays.walk (P : laws_FnLays.Pure) (a0 : Option Addr) (len0 cap0 : Nat) (z0 : List Int) (a1 : Option Addr) (len1 cap1 : Nat) (z1 : List Int) (w : World) (w0 : (a0 = none ∧ len0 = 0 ∧ cap0 = 0 ∧ z0 = []) ∨ ∃ x, a0 = some x ∧ len0 ≤ cap0 ∧ cap0 ≤ maxLen ∧ z0.length = cap0 ∧ (∀ i, i < z0.length → w.cell? (x.add i) = some (.int .u8 (z0.getD i 0))) ∧ ∀ n ∈ z0, (Lit.int .u8 n).wf = true) (y0 : len0 * 1 ≤ 140737488351232) (w1 : (a1 = none ∧ len1 = 0 ∧ cap1 = 0 ∧ z1 = []) ∨ ∃ x, a1 = some x ∧ len1 ≤ cap1 ∧ cap1 ≤ maxLen ∧ z1.length = cap1 ∧ (∀ i, i < z1.length → w.cell? (x.add i) = some (.int .u8 (z1.getD i 0))) ∧ ∀ n ∈ z1, (Lit.int .u8 n).wf = true) (y1 : len1 * 1 ≤ 140737488351232) :
  Calls Try.prog 3 #[.slice a0 len0 cap0, .slice a1 len1 cap1] w fun e w' => e = .returned (.bool true) ∧ Below w.heap.size w w' := by
 obtain ⟨l0, rfl, hr0, hm0, hw0, hc0⟩ := ReadsInt.ofRowC w0
 obtain ⟨l1, rfl, hr1, hm1, hw1, hc1⟩ := ReadsInt.ofRowC w1
 obtain ⟨k, h⟩ := P l0 l1 hm0 y0 hw0 hm1 y1 hw1
 refine (laws_FnLays.calls k _ _ l0 _ _ l1 true w (Kd.C_of_reads (d := (0 : Int)) (h1 := fun _ => rfl) hr0) hc0 (Kd.C_of_reads (d := (0 : Int)) (h1 := fun _ => rfl) hr1) hc1 h).mono ?_
 rintro e w' ⟨rfl, hd⟩
 exact ⟨rfl, hd⟩

end Go.Proofs.Ytllfeehchiikoaa.PA
