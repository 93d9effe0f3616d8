/- Pure functions, and that Go's functions come to them. -/
import Derived.Test.YtnkihjabmbeicaaPAx0
import Derived.Test.YtnkihjabmbeicaaPAxm8
import Derived.Test.YtnkihjabmbeicaaPAxm10
import Derived.Test.YtnkihjabmbeicaaPAxgPlate
import Derived.Test.YtnkihjabmbeicaaPAxm6
namespace Go.Proofs.Ytnkihjabmbeicaa.PA
open Go.RowKit Go.Proofs.YtnkihjabmbeicaaW.PrintWords Go.Proofs.YtnkihjabmbeicaaW.PrintLast Go.Proofs.YtnkihjabmbeicaaW.PrintMore
set_option linter.unusedVariables false
set_option linter.unusedSimpArgs false

attribute [local go_sem high] eqA48 eqA49
/-! ### spec_l04Sizes: function 37 -/
mutual
def spec_l04Sizes.j0 : Nat → Int → Int → List (S46) → List (S48) → Bool → Option ((List (S49)) × Bool)
 | 0, _, _, _, _, _ => none
 | k + 1, x0, x1, x2, x3, x33 => if x33 = true then (some ((([] : List (S49))), false)) else (if 0 ≤ (x3.length : Int) then (if ((x3.length : Int) : Int).toNat ≤ 17592186044416 then ((some (List.replicate ((x3.length : Int) : Int).toNat z49 : List (S49))).bind fun y228 => (if 0 < (y228.length : Int) then (spec_l04Sizes.l0 k x2 x3 (y228.set (0 : Int).toNat (⟨x0, x1⟩ : S49)) 0) else (none))) else (none)) else (none))
def spec_l04Sizes.l0 : Nat → List (S46) → List (S48) → List (S49) → Int → Option ((List (S49)) × Bool)
 | 0, _, _, _, _ => none
 | k + 1, x2, x3, x10, x11 => if x11 < (x3.length : Int) then (if 0 ≤ x11 then (if x11 < (x10.length : Int) then (if ((rd_T49 x10 x11).f0) = 0 then (some ((([] : List (S49))), false)) else (if ((rd_T48 x3 x11).f0) = 0 then (if (!(((rd_T48 x3 x11).f0) == 0) || (!(((rd_T48 x3 x11).f1) == 0) || (!(((rd_T48 x3 x11).f2) == 0) || (!(((rd_T48 x3 x11).f3) == 0))))) = true then (some ((([] : List (S49))), false)) else (spec_l04Sizes.l0 k x2 x3 x10 (wrap64 (x11 + 1)))) else (if ((rd_T48 x3 x11).f0) = 1 then (if ((rd_T48 x3 x11).f1) = 0 then (if ((rd_T48 x3 x11).f3) = 0 then ((spec_l00In.f (wrap64 ((rd_T48 x3 x11).f2)) 0 (wrap64 ((x2.length : Int) - 1))).bind fun t242 => (spec_l04Sizes.j2 k x2 x3 x10 x11 (!t242) ((rd_T48 x3 x11).f0) ((rd_T48 x3 x11).f1) ((rd_T48 x3 x11).f2) ((rd_T48 x3 x11).f3) ((rd_T49 x10 x11).f0) ((rd_T49 x10 x11).f1))) else (spec_l04Sizes.j2 k x2 x3 x10 x11 true ((rd_T48 x3 x11).f0) ((rd_T48 x3 x11).f1) ((rd_T48 x3 x11).f2) ((rd_T48 x3 x11).f3) ((rd_T49 x10 x11).f0) ((rd_T49 x10 x11).f1))) else (spec_l04Sizes.j2 k x2 x3 x10 x11 true ((rd_T48 x3 x11).f0) ((rd_T48 x3 x11).f1) ((rd_T48 x3 x11).f2) ((rd_T48 x3 x11).f3) ((rd_T49 x10 x11).f0) ((rd_T49 x10 x11).f1))) else (if ((rd_T48 x3 x11).f0) = 2 then (spec_l04Sizes.j3 k x2 x3 x10 x11 (((rd_T48 x3 x11).f0) == 2) ((rd_T48 x3 x11).f0) ((rd_T48 x3 x11).f1) ((rd_T48 x3 x11).f2) ((rd_T48 x3 x11).f3) ((rd_T49 x10 x11).f0) ((rd_T49 x10 x11).f1)) else (spec_l04Sizes.j3 k x2 x3 x10 x11 (((rd_T48 x3 x11).f0) == 3) ((rd_T48 x3 x11).f0) ((rd_T48 x3 x11).f1) ((rd_T48 x3 x11).f2) ((rd_T48 x3 x11).f3) ((rd_T49 x10 x11).f0) ((rd_T49 x10 x11).f1)))))) else (none)) else (none)) else (some (x10, true))
def spec_l04Sizes.j2 : Nat → List (S46) → List (S48) → List (S49) → Int → Bool → Int → Int → Int → Int → Int → Int → Option ((List (S49)) × Bool)
 | 0, _, _, _, _, _, _, _, _, _, _, _ => none
 | k + 1, x2, x3, x10, x11, x89, x234000, x234001, x234002, x234003, x236000, x236001 => if x89 = true then (some ((([] : List (S49))), false)) else (if 0 ≤ x234002 then (if x234002 < (x2.length : Int) then (if (!(x236000 == (wrap64 ((rd_T46 x2 x234002).f0))) || (!(x236001 == (wrap64 ((rd_T46 x2 x234002).f1))))) = true then (some ((([] : List (S49))), false)) else (spec_l04Sizes.l0 k x2 x3 x10 (wrap64 (x11 + 1)))) else (none)) else (none))
def spec_l04Sizes.j3 : Nat → List (S46) → List (S48) → List (S49) → Int → Bool → Int → Int → Int → Int → Int → Int → Option ((List (S49)) × Bool)
 | 0, _, _, _, _, _, _, _, _, _, _, _ => none
 | k + 1, x2, x3, x10, x11, x109, x234000, x234001, x234002, x234003, x236000, x236001 => if x109 = true then ((spec_l04Given.f x10 x11 x234000 x234001 x234002 x234003).bind fun t251 => (if t251 = true then (if (wrap64 ((wrap64 (x234000)) - 2)) = (0 : Int) then ((spec_l00In.f (wrap64 (x234001)) 1 (wrap64 (x236000 - 1))).bind fun t252 => (if t252 = true then (if 0 ≤ x234002 then (if x234002 < (x10.length : Int) then ((some (x10.set (x234002 : Int).toNat (⟨x236000, x236001⟩ : S49) : List (S49))).bind fun y253 => (if 0 ≤ x234003 then (if x234003 < (x10.length : Int) then ((some ((y253.set (x234002 : Int).toNat (⟨wrap64 (x234001), (rd_T49 y253 x234002).f1⟩ : S49)).set (x234003 : Int).toNat (⟨x236000, x236001⟩ : S49) : List (S49))).bind fun y255 => (spec_l04Sizes.l0 k x2 x3 (y255.set (x234003 : Int).toNat (⟨wrap64 (x236000 - (wrap64 (x234001))), (rd_T49 y255 x234003).f1⟩ : S49)) (wrap64 (x11 + 1)))) else (none)) else (none))) else (none)) else (none)) else (some ((([] : List (S49))), false)))) else (if (wrap64 ((wrap64 (x234000)) - 2)) = (1 : Int) then ((spec_l00In.f (wrap64 (x234001)) 1 (wrap64 (x236001 - 1))).bind fun t260 => (if t260 = true then (if 0 ≤ x234002 then (if x234002 < (x10.length : Int) then ((some (x10.set (x234002 : Int).toNat (⟨x236000, x236001⟩ : S49) : List (S49))).bind fun y261 => (if 0 ≤ x234003 then (if x234003 < (x10.length : Int) then ((some ((y261.set (x234002 : Int).toNat (⟨(rd_T49 y261 x234002).f0, wrap64 (x234001)⟩ : S49)).set (x234003 : Int).toNat (⟨x236000, x236001⟩ : S49) : List (S49))).bind fun y263 => (spec_l04Sizes.l0 k x2 x3 (y263.set (x234003 : Int).toNat (⟨(rd_T49 y263 x234003).f0, wrap64 (x236001 - (wrap64 (x234001)))⟩ : S49)) (wrap64 (x11 + 1)))) else (none)) else (none))) else (none)) else (none)) else (some ((([] : List (S49))), false)))) else (none))) else (some ((([] : List (S49))), false)))) else (some ((([] : List (S49))), false))
end
def spec_l04Sizes.f (k : Nat) (a0 : Int) (a1 : Int) (l2 : List (S46)) (l3 : List (S48)) : Option ((List (S49)) × Bool) := (spec_l04Plate.f a0).bind fun t221 => (if t221 = true then ((spec_l04Plate.f a1).bind fun t222 => (if t222 = true then ((spec_l04Kinds.f k l2).bind fun t223 => (if t223 = true then ((spec_l00In.f (l3.length : Int) 1 60).bind fun t224 => (spec_l04Sizes.j0 k a0 a1 l2 l3 (!t224))) else (spec_l04Sizes.j0 k a0 a1 l2 l3 true))) else (spec_l04Sizes.j0 k a0 a1 l2 l3 true))) else (spec_l04Sizes.j0 k a0 a1 l2 l3 true))
theorem spec_l04Sizes.mono_l : ∀ k, (∀ y0 y1 y2 y3 y4, LeO (spec_l04Sizes.j0 k y0 y1 y2 y3 y4) (spec_l04Sizes.j0 (k + 1) y0 y1 y2 y3 y4)) ∧ (∀ y0 y1 y2 y3, LeO (spec_l04Sizes.l0 k y0 y1 y2 y3) (spec_l04Sizes.l0 (k + 1) y0 y1 y2 y3)) ∧ (∀ y0 y1 y2 y3 y4 y5 y6 y7 y8 y9 y10, LeO (spec_l04Sizes.j2 k y0 y1 y2 y3 y4 y5 y6 y7 y8 y9 y10) (spec_l04Sizes.j2 (k + 1) y0 y1 y2 y3 y4 y5 y6 y7 y8 y9 y10)) ∧ (∀ y0 y1 y2 y3 y4 y5 y6 y7 y8 y9 y10, LeO (spec_l04Sizes.j3 k y0 y1 y2 y3 y4 y5 y6 y7 y8 y9 y10) (spec_l04Sizes.j3 (k + 1) y0 y1 y2 y3 y4 y5 y6 y7 y8 y9 y10))
 | 0 => ⟨fun _ _ _ _ _ r h => by simp [spec_l04Sizes.j0] at h, fun _ _ _ _ r h => by simp [spec_l04Sizes.l0] at h, fun _ _ _ _ _ _ _ _ _ _ _ r h => by simp [spec_l04Sizes.j2] at h, fun _ _ _ _ _ _ _ _ _ _ _ r h => by simp [spec_l04Sizes.j3] at h⟩
 | k + 1 => by
  obtain ⟨ih0, ih1, ih2, ih3⟩ := spec_l04Sizes.mono_l k
  refine ⟨?_, ?_, ?_, ?_⟩ <;> intros
  all_goals first | unfold spec_l04Sizes.j0 | unfold spec_l04Sizes.l0 | unfold spec_l04Sizes.j2 | unfold spec_l04Sizes.j3
  all_goals repeat' first | (with_reducible first | exact ih0 _ _ _ _ _ | exact ih1 _ _ _ _ | exact ih2 _ _ _ _ _ _ _ _ _ _ _ | exact ih3 _ _ _ _ _ _ _ _ _ _ _ | exact spec_l04Kinds.mono _ _ | exact LeO.refl _ | exact LeO.none _ | refine LeO.ite ?_ ?_ | refine LeO.bind ?_ (fun _ => ?_))
theorem spec_l04Sizes.mono : ∀ a0 a1 a2 a3 k, LeO (spec_l04Sizes.f k a0 a1 a2 a3) (spec_l04Sizes.f (k + 1) a0 a1 a2 a3) := by
 intro a0 a1 a2 a3 k
 obtain ⟨ih0, ih1, ih2, ih3⟩ := spec_l04Sizes.mono_l k
 unfold spec_l04Sizes.f
 repeat' first | (with_reducible first | exact ih0 _ _ _ _ _ | exact ih1 _ _ _ _ | exact ih2 _ _ _ _ _ _ _ _ _ _ _ | exact ih3 _ _ _ _ _ _ _ _ _ _ _ | exact spec_l04Kinds.mono _ _ | exact LeO.refl _ | exact LeO.none _ | refine LeO.ite ?_ ?_ | refine LeO.bind ?_ (fun _ => ?_))
def spec_l04Sizes.T20 : Bool × List (List Nat × List Nat) := (true, [([], []), ([], []), ([], []), ([2], [2]), ([1, 3], [1, 3]), ([4], [4]), ([5], [5]), ([6], [6]), ([], []), ([], []), ([9], [9]), ([8, 10], [8, 10]), ([11], [11]), ([12], [12]), ([13], [13]), ([7, 14], [7, 14]), ([0, 15], [0, 15])])
def spec_l04Sizes.B20 : List Nat := [0, 0, 0, 4, 14, 30, 62, 126, 0, 0, 512, 1792, 3840, 7936, 16128, 32766, 65535]
theorem spec_l04Sizes.tab20 : rtab .any (opsOf Try.f37 20) = spec_l04Sizes.T20 := by kernel_rfl
theorem spec_l04Sizes.bits20 : waitsOk spec_l04Sizes.T20.2 spec_l04Sizes.B20 = true := by kernel_rfl
def spec_l04Sizes.T27 : Bool × List (List Nat × List Nat) := (true, [([], []), ([0], [0]), ([1], [1]), ([], []), ([3], [3]), ([4], [4]), ([5], [5]), ([2, 6], [2, 6]), ([7], [7])])
def spec_l04Sizes.B27 : List Nat := [0, 1, 3, 0, 8, 24, 56, 127, 255]
theorem spec_l04Sizes.tab27 : rtab .any (opsOf Try.f37 27) = spec_l04Sizes.T27 := by kernel_rfl
theorem spec_l04Sizes.bits27 : waitsOk spec_l04Sizes.T27.2 spec_l04Sizes.B27 = true := by kernel_rfl
def spec_l04Sizes.T30 : Bool × List (List Nat × List Nat) := (true, [([], []), ([], []), ([1], [1]), ([], []), ([], []), ([4], [4]), ([5], [5]), ([0, 2], [0, 2]), ([7, 3, 0, 1, 2, 3, 4, 5, 6], [3, 7]), ([8, 6, 0, 1, 2, 3, 4, 5, 6], [6, 8])])
def spec_l04Sizes.B30 : List Nat := [0, 0, 2, 0, 0, 16, 48, 7, 255, 511]
theorem spec_l04Sizes.tab30 : rtab .any (opsOf Try.f37 30) = spec_l04Sizes.T30 := by kernel_rfl
theorem spec_l04Sizes.bits30 : waitsOk spec_l04Sizes.T30.2 spec_l04Sizes.B30 = true := by kernel_rfl
def spec_l04Sizes.T32 : Bool × List (List Nat × List Nat) := (true, [([], []), ([], []), ([1], [1]), ([], []), ([], []), ([4], [4]), ([5], [5]), ([], []), ([7], [7]), ([8], [8]), ([6, 9], [6, 9]), ([0, 2], [0, 2]), ([11, 3, 0, 1, 2, 3, 4, 5, 6, 7, 8, 9, 10], [3, 11]), ([12, 10, 0, 1, 2, 3, 4, 5, 6, 7, 8, 9, 10], [10, 12])])
def spec_l04Sizes.B32 : List Nat := [0, 0, 2, 0, 0, 16, 48, 0, 128, 384, 1008, 7, 4095, 8191]
theorem spec_l04Sizes.tab32 : rtab .any (opsOf Try.f37 32) = spec_l04Sizes.T32 := by kernel_rfl
theorem spec_l04Sizes.bits32 : waitsOk spec_l04Sizes.T32.2 spec_l04Sizes.B32 = true := by kernel_rfl

end Go.Proofs.Ytnkihjabmbeicaa.PA
