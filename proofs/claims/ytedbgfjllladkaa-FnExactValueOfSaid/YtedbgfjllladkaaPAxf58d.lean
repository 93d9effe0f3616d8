/- Written by a program of this session out of the translation: pure functions, and that Go's functions come to them. -/
import Derived.Test.YtedbgfjllladkaaPAx0
import Derived.Test.YtedbgfjllladkaaPAxe0
import Derived.Test.YtedbgfjllladkaaPAxgImpl
import Derived.Test.YtedbgfjllladkaaPAxgKinds
namespace Go.Proofs.Ytedbgfjllladkaa.PA
open Go.RowKit Go.Proofs.YtedbgfjllladkaaW.PrintWords Go.Proofs.YtedbgfjllladkaaW.PrintLast Go.Proofs.YtedbgfjllladkaaW.PrintMore
attribute [local go_sem] max2_int min2_int max_two min_two max_three min_three max_four min_four   -- for this text's walks alone
set_option linter.unusedVariables false
set_option linter.unusedSimpArgs false

attribute [local go_sem high] eqA75
/-! ### impl_sizes: function 58 -/
mutual
def impl_sizes.j0 : Nat → Int → Int → List (S57) → List (S75) → Bool → Option ((List (S79)) × Bool)
 | 0, _, _, _, _, _ => none
 | k + 1, x0, x1, x2, x3, x33 => if x33 = true then (some (([] : List (S79)), false)) else (if 0 ≤ (x3.length : Int) then (if ((x3.length : Int) : Int).toNat ≤ 17592186044416 then ((some (List.replicate ((x3.length : Int) : Int).toNat z79 : List (S79))).bind fun y233 => (if ((x3.length : Int) : Int).toNat ≤ 281474976710656 then ((some (List.replicate ((x3.length : Int) : Int).toNat false : List Bool)).bind fun y236 => (if 0 < (y233.length : Int) then (if 0 < (y236.length : Int) then (impl_sizes.l0 k x2 x3 (y233.set (0 : Int).toNat (⟨x0, x1⟩ : S79)) (y236.set (0 : Int).toNat true) x3 (x3.length : Int) 0) else (none)) else (none))) else (none))) else (none)) else (none))
def impl_sizes.l0 : Nat → List (S57) → List (S75) → List (S79) → List Bool → List (S75) → Int → Int → Option ((List (S79)) × Bool)
 | 0, _, _, _, _, _, _, _ => none
 | k + 1, x2, x3, x10, x11, x47, x48, x49 => if x49 < x48 then (if 0 ≤ x49 then (if x49 < (x47.length : Int) then (if x49 < (x10.length : Int) then (if x49 < (x11.length : Int) then (if rdOf false x11 x49 = true then (if ((rd_T75 x47 x49).f0) = 0 then (if (!(((rd_T75 x47 x49).f0) == 0) || (!(((rd_T75 x47 x49).f1) == 0) || (!(((rd_T75 x47 x49).f2) == 0) || (!(((rd_T75 x47 x49).f3) == 0))))) = true then (some (([] : List (S79)), false)) else (impl_sizes.l0 k x2 x3 x10 x11 x47 x48 (wrap64 (x49 + 1)))) else (if ((rd_T75 x47 x49).f0) = 1 then (if ((rd_T75 x47 x49).f1) = 0 then (if ((rd_T75 x47 x49).f3) = 0 then ((impl_within.f (wrap64 ((rd_T75 x47 x49).f2)) 0 (wrap64 ((x2.length : Int) - 1))).bind fun t246 => (if t246 = true then (if 0 ≤ (wrap64 ((rd_T75 x47 x49).f2)) then (if (wrap64 ((rd_T75 x47 x49).f2)) < (x2.length : Int) then (if (wrap64 ((rd_T57 x2 (wrap64 ((rd_T75 x47 x49).f2))).f0)) = ((rd_T79 x10 x49).f0) then (if (wrap64 ((rd_T57 x2 (wrap64 ((rd_T75 x47 x49).f2))).f1)) = ((rd_T79 x10 x49).f1) then (impl_sizes.l0 k x2 x3 x10 x11 x47 x48 (wrap64 (x49 + 1))) else (some (([] : List (S79)), false))) else (some (([] : List (S79)), false))) else (none)) else (none)) else (some (([] : List (S79)), false)))) else (some (([] : List (S79)), false))) else (some (([] : List (S79)), false))) else (if ((rd_T75 x47 x49).f0) = 2 then (impl_sizes.j2 k x2 x3 x10 x11 x49 x47 x48 x49 (((rd_T75 x47 x49).f0) == 2) ((rd_T75 x47 x49).f0) ((rd_T75 x47 x49).f1) ((rd_T75 x47 x49).f2) ((rd_T75 x47 x49).f3) ((rd_T79 x10 x49).f0) ((rd_T79 x10 x49).f1)) else (impl_sizes.j2 k x2 x3 x10 x11 x49 x47 x48 x49 (((rd_T75 x47 x49).f0) == 3) ((rd_T75 x47 x49).f0) ((rd_T75 x47 x49).f1) ((rd_T75 x47 x49).f2) ((rd_T75 x47 x49).f3) ((rd_T79 x10 x49).f0) ((rd_T79 x10 x49).f1))))) else (some (([] : List (S79)), false))) else (none)) else (none)) else (none)) else (none)) else (some (x10, true))
def impl_sizes.j2 : Nat → List (S57) → List (S75) → List (S79) → List Bool → Int → List (S75) → Int → Int → Bool → Int → Int → Int → Int → Int → Int → Option ((List (S79)) × Bool)
 | 0, _, _, _, _, _, _, _, _, _, _, _, _, _, _, _ => none
 | k + 1, x2, x3, x10, x11, x12, x47, x48, x49, x113, x243000, x243001, x243002, x243003, x245000, x245001 => if x113 = true then (if (wrap64 (x243002)) ≤ x12 then (some (([] : List (S79)), false)) else (if (wrap64 (x243003)) ≤ x12 then (some (([] : List (S79)), false)) else (if (wrap64 (x243002)) ≥ (x3.length : Int) then (some (([] : List (S79)), false)) else (if (wrap64 (x243003)) ≥ (x3.length : Int) then (some (([] : List (S79)), false)) else (if (wrap64 (x243002)) = (wrap64 (x243003)) then (some (([] : List (S79)), false)) else (if 0 ≤ (wrap64 (x243002)) then (if (wrap64 (x243002)) < (x11.length : Int) then (if rdOf false x11 (wrap64 (x243002)) = true then (some (([] : List (S79)), false)) else (if 0 ≤ (wrap64 (x243003)) then (if (wrap64 (x243003)) < (x11.length : Int) then (if rdOf false x11 (wrap64 (x243003)) = true then (some (([] : List (S79)), false)) else (if (wrap64 (IntKind.i8.wrap (x243000 - 2))) = (0 : Int) then ((impl_within.f (wrap64 (x243001)) 1 (wrap64 (x245000 - 1))).bind fun t251 => (if t251 = true then (if (wrap64 (x243002)) < (x10.length : Int) then (if (wrap64 (x243003)) < (x10.length : Int) then ((some ((x10.set ((wrap64 (x243002)) : Int).toNat (⟨x245000, x245001⟩ : S79)).set ((wrap64 (x243003)) : Int).toNat (⟨x245000, x245001⟩ : S79) : List (S79))).bind fun y255 => ((some (y255.set ((wrap64 (x243002)) : Int).toNat (⟨wrap64 (x243001), (rd_T79 y255 (wrap64 (x243002))).f1⟩ : S79) : List (S79))).bind fun y256 => (impl_sizes.l0 k x2 x3 (y256.set ((wrap64 (x243003)) : Int).toNat (⟨wrap64 (((rd_T79 y256 (wrap64 (x243003))).f0) - (wrap64 (x243001))), (rd_T79 y256 (wrap64 (x243003))).f1⟩ : S79)) ((x11.set ((wrap64 (x243002)) : Int).toNat true).set ((wrap64 (x243003)) : Int).toNat true) x47 x48 (wrap64 (x49 + 1))))) else (none)) else (none)) else (some (([] : List (S79)), false)))) else (if (wrap64 (IntKind.i8.wrap (x243000 - 2))) = (1 : Int) then ((impl_within.f (wrap64 (x243001)) 1 (wrap64 (x245001 - 1))).bind fun t259 => (if t259 = true then (if (wrap64 (x243002)) < (x10.length : Int) then (if (wrap64 (x243003)) < (x10.length : Int) then ((some ((x10.set ((wrap64 (x243002)) : Int).toNat (⟨x245000, x245001⟩ : S79)).set ((wrap64 (x243003)) : Int).toNat (⟨x245000, x245001⟩ : S79) : List (S79))).bind fun y263 => ((some (y263.set ((wrap64 (x243002)) : Int).toNat (⟨(rd_T79 y263 (wrap64 (x243002))).f0, wrap64 (x243001)⟩ : S79) : List (S79))).bind fun y264 => (impl_sizes.l0 k x2 x3 (y264.set ((wrap64 (x243003)) : Int).toNat (⟨(rd_T79 y264 (wrap64 (x243003))).f0, wrap64 (((rd_T79 y264 (wrap64 (x243003))).f1) - (wrap64 (x243001)))⟩ : S79)) ((x11.set ((wrap64 (x243002)) : Int).toNat true).set ((wrap64 (x243003)) : Int).toNat true) x47 x48 (wrap64 (x49 + 1))))) else (none)) else (none)) else (some (([] : List (S79)), false)))) else (none)))) else (none)) else (none))) else (none)) else (none))))))) else (some (([] : List (S79)), false))
end
def impl_sizes.f (k : Nat) (a0 : Int) (a1 : Int) (l2 : List (S57)) (l3 : List (S75)) : Option ((List (S79)) × Bool) := (impl_isPlate.f a0 a1).bind fun t230 => (if t230 = true then ((impl_ValidKinds.f l2).bind fun t231 => (if t231 = true then ((impl_within.f (l3.length : Int) 1 60).bind fun t232 => (impl_sizes.j0 k a0 a1 l2 l3 (!t232))) else (impl_sizes.j0 k a0 a1 l2 l3 true))) else (impl_sizes.j0 k a0 a1 l2 l3 true))
theorem impl_sizes.mono_l : ∀ k, (∀ y0 y1 y2 y3 y4, LeO (impl_sizes.j0 k y0 y1 y2 y3 y4) (impl_sizes.j0 (k + 1) y0 y1 y2 y3 y4)) ∧ (∀ y0 y1 y2 y3 y4 y5 y6, LeO (impl_sizes.l0 k y0 y1 y2 y3 y4 y5 y6) (impl_sizes.l0 (k + 1) y0 y1 y2 y3 y4 y5 y6)) ∧ (∀ y0 y1 y2 y3 y4 y5 y6 y7 y8 y9 y10 y11 y12 y13 y14, LeO (impl_sizes.j2 k y0 y1 y2 y3 y4 y5 y6 y7 y8 y9 y10 y11 y12 y13 y14) (impl_sizes.j2 (k + 1) y0 y1 y2 y3 y4 y5 y6 y7 y8 y9 y10 y11 y12 y13 y14))
 | 0 => ⟨fun _ _ _ _ _ r h => by simp [impl_sizes.j0] at h, fun _ _ _ _ _ _ _ r h => by simp [impl_sizes.l0] at h, fun _ _ _ _ _ _ _ _ _ _ _ _ _ _ _ r h => by simp [impl_sizes.j2] at h⟩
 | k + 1 => by
  obtain ⟨ih0, ih1, ih2⟩ := impl_sizes.mono_l k
  refine ⟨?_, ?_, ?_⟩
  ·
   intro y0 y1 y2 y3 y4
   unfold impl_sizes.j0
   repeat' first
   | (with_reducible exact ih0 _ _ _ _ _)
   | (with_reducible exact ih1 _ _ _ _ _ _ _)
   | (with_reducible exact ih2 _ _ _ _ _ _ _ _ _ _ _ _ _ _ _)
   | (with_reducible exact LeO.refl _)
   | (with_reducible exact LeO.none _)
   | (with_reducible refine LeO.ite ?_ ?_)
   | (with_reducible refine LeO.bind ?_ (fun _ => ?_))
   | exact ih0 _ _ _ _ _
   | exact ih1 _ _ _ _ _ _ _
   | exact ih2 _ _ _ _ _ _ _ _ _ _ _ _ _ _ _
   | exact LeO.none _
   | refine LeO.ite ?_ ?_
   | refine LeO.bind ?_ (fun _ => ?_)
  ·
   intro y0 y1 y2 y3 y4 y5 y6
   unfold impl_sizes.l0
   repeat' first
   | (with_reducible exact ih0 _ _ _ _ _)
   | (with_reducible exact ih1 _ _ _ _ _ _ _)
   | (with_reducible exact ih2 _ _ _ _ _ _ _ _ _ _ _ _ _ _ _)
   | (with_reducible exact LeO.refl _)
   | (with_reducible exact LeO.none _)
   | (with_reducible refine LeO.ite ?_ ?_)
   | (with_reducible refine LeO.bind ?_ (fun _ => ?_))
   | exact ih0 _ _ _ _ _
   | exact ih1 _ _ _ _ _ _ _
   | exact ih2 _ _ _ _ _ _ _ _ _ _ _ _ _ _ _
   | exact LeO.none _
   | refine LeO.ite ?_ ?_
   | refine LeO.bind ?_ (fun _ => ?_)
  ·
   intro y0 y1 y2 y3 y4 y5 y6 y7 y8 y9 y10 y11 y12 y13 y14
   unfold impl_sizes.j2
   repeat' first
   | (with_reducible exact ih0 _ _ _ _ _)
   | (with_reducible exact ih1 _ _ _ _ _ _ _)
   | (with_reducible exact ih2 _ _ _ _ _ _ _ _ _ _ _ _ _ _ _)
   | (with_reducible exact LeO.refl _)
   | (with_reducible exact LeO.none _)
   | (with_reducible refine LeO.ite ?_ ?_)
   | (with_reducible refine LeO.bind ?_ (fun _ => ?_))
   | exact ih0 _ _ _ _ _
   | exact ih1 _ _ _ _ _ _ _
   | exact ih2 _ _ _ _ _ _ _ _ _ _ _ _ _ _ _
   | exact LeO.none _
   | refine LeO.ite ?_ ?_
   | refine LeO.bind ?_ (fun _ => ?_)
theorem impl_sizes.mono : ∀ a0 a1 a2 a3 k, LeO (impl_sizes.f k a0 a1 a2 a3) (impl_sizes.f (k + 1) a0 a1 a2 a3) := by
 intro a0 a1 a2 a3 k
 obtain ⟨ih0, ih1, ih2⟩ := impl_sizes.mono_l k
 unfold impl_sizes.f
 repeat' first
   | (with_reducible exact ih0 _ _ _ _ _)
   | (with_reducible exact ih1 _ _ _ _ _ _ _)
   | (with_reducible exact ih2 _ _ _ _ _ _ _ _ _ _ _ _ _ _ _)
   | (with_reducible exact LeO.refl _)
   | (with_reducible exact LeO.none _)
   | (with_reducible refine LeO.ite ?_ ?_)
   | (with_reducible refine LeO.bind ?_ (fun _ => ?_))
   | exact ih0 _ _ _ _ _
   | exact ih1 _ _ _ _ _ _ _
   | exact ih2 _ _ _ _ _ _ _ _ _ _ _ _ _ _ _
   | exact LeO.none _
   | refine LeO.ite ?_ ?_
   | refine LeO.bind ?_ (fun _ => ?_)
def impl_sizes.T3 : Bool × List (List Nat × List Nat) := (true, [([], []), ([0], [0]), ([1, 1], [1]), ([], []), ([3], [3]), ([4, 4], [4]), ([2, 0, 1, 2], [2]), ([5, 6, 0, 1, 2, 3, 4, 5, 6], [5])])
def impl_sizes.B3 : List Nat := [0, 1, 3, 0, 8, 24, 7, 127]
theorem impl_sizes.tab3 : rtab .any (opsOf Try.f58 3) = impl_sizes.T3 := by kernel_rfl
theorem impl_sizes.bits3 : waitsOk impl_sizes.T3.2 impl_sizes.B3 = true := by kernel_rfl
def impl_sizes.T18 : Bool × List (List Nat × List Nat) := (true, [([], []), ([0], [0]), ([1], [1]), ([2], [2]), ([3], [3]), ([4, 3], [3, 4]), ([5, 3], [3, 5]), ([3, 6], [3, 6]), ([7, 3], [7]), ([8], [8]), ([8], [8]), ([10, 8], [8, 10]), ([11, 8], [8, 11]), ([9, 12, 8, 8], [8, 9, 12]), ([13, 8], [8, 13]), ([8, 14], [8, 14]), ([15, 13], [15]), ([16], [16]), ([16], [16]), ([17, 18, 16], [16, 17, 18]), ([19, 16], [16, 19]), ([20, 16], [16, 20]), ([21, 16], [16, 21]), ([16], [16]), ([23, 16], [16, 23]), ([22, 24, 16], [16, 22, 24]), ([16, 25], [16, 25]), ([26, 16], [26]), ([27], [27]), ([27], [27]), ([28, 29, 27], [27, 28, 29]), ([30, 27], [27, 30]), ([31, 27], [27, 31]), ([32, 27], [27, 32]), ([27], [27]), ([34, 27], [27, 34]), ([33, 35, 27], [27, 33, 35]), ([27, 36], [27, 36])])
def impl_sizes.B18 : List Nat := [0, 1, 3, 7, 15, 31, 63, 127, 255, 511, 511, 1535, 3583, 8191, 16383, 32767, 65535, 131071, 131071, 524287, 1048575, 2097151, 4194303, 131071, 8519679, 33554431, 67108863, 134217727, 268435455, 268435455, 1073741823, 2147483647, 4294967295, 8589934591, 268435455, 17448304639, 68719476735, 137438953471]
theorem impl_sizes.tab18 : rtab .any (opsOf Try.f58 18) = impl_sizes.T18 := by kernel_rfl
theorem impl_sizes.bits18 : waitsOk impl_sizes.T18.2 impl_sizes.B18 = true := by kernel_rfl
def impl_sizes.T22 : Bool × List (List Nat × List Nat) := (true, [([], []), ([0], [0]), ([1], [1]), ([], []), ([3], [3]), ([4], [4]), ([], []), ([6], [6]), ([7], [7]), ([8], [8]), ([2, 0, 1, 2], [2]), ([5, 10, 0, 1, 2, 3, 4, 5, 10], [5]), ([9, 11, 0, 1, 2, 3, 4, 5, 6, 7, 8, 9, 10, 11], [9])])
def impl_sizes.B22 : List Nat := [0, 1, 3, 0, 8, 24, 0, 64, 192, 448, 7, 1087, 4095]
theorem impl_sizes.tab22 : rtab .any (opsOf Try.f58 22) = impl_sizes.T22 := by kernel_rfl
theorem impl_sizes.bits22 : waitsOk impl_sizes.T22.2 impl_sizes.B22 = true := by kernel_rfl
def impl_sizes.T23 : Bool × List (List Nat × List Nat) := (true, [([], []), ([], []), ([0, 1], [0, 1]), ([2], [2]), ([3], [3]), ([3], [3]), ([4, 5, 3], [3, 4, 5]), ([3, 6], [3, 6]), ([7, 3], [7]), ([8], [8]), ([8], [8]), ([10, 8], [8, 10]), ([9, 11, 8], [8, 9, 11]), ([8, 12], [8, 12]), ([13, 8], [13]), ([14], [14]), ([14], [14]), ([16, 14], [14, 16]), ([15, 17, 14], [14, 15, 17]), ([14, 18], [14, 18]), ([19, 14], [19]), ([20], [20]), ([20], [20]), ([21, 22, 20], [20, 21, 22]), ([20, 23], [20, 23]), ([24, 20], [24]), ([25], [25]), ([25], [25]), ([26, 27, 25], [25, 26, 27]), ([28, 25], [25, 28]), ([25, 29], [25, 29]), ([30, 25], [30]), ([31], [31]), ([31], [31]), ([32, 33, 31], [31, 32, 33]), ([34, 31], [31, 34]), ([31, 35], [31, 35]), ([36, 31], [36]), ([37], [37]), ([38, 37], [37, 38]), ([39, 37], [37, 39]), ([37], [37]), ([41, 37], [37, 41]), ([42, 37], [37, 42]), ([43, 37], [37, 43]), ([40, 44, 37, 37], [37, 40, 44]), ([45, 37], [37, 45]), ([37, 46], [37, 46])])
def impl_sizes.B23 : List Nat := [0, 0, 3, 7, 15, 15, 63, 127, 255, 511, 511, 1535, 4095, 8191, 16383, 32767, 32767, 98303, 262143, 524287, 1048575, 2097151, 2097151, 8388607, 16777215, 33554431, 67108863, 67108863, 268435455, 536870911, 1073741823, 2147483647, 4294967295, 4294967295, 17179869183, 34359738367, 68719476735, 137438953471, 274877906943, 549755813887, 1099511627775, 274877906943, 2473901162495, 6871947673599, 15668040695807, 35184372088831, 70368744177663, 140737488355327]
theorem impl_sizes.tab23 : rtab .any (opsOf Try.f58 23) = impl_sizes.T23 := by kernel_rfl
theorem impl_sizes.bits23 : waitsOk impl_sizes.T23.2 impl_sizes.B23 = true := by kernel_rfl
def impl_sizes.T26 : Bool × List (List Nat × List Nat) := (true, [([], []), ([], []), ([], []), ([], []), ([], []), ([], []), ([0, 1, 0, 1, 4], [0, 1]), ([6, 4, 0, 1, 4], [4, 6]), ([2, 3, 0, 1, 2, 3, 4, 5, 6, 7], [2, 3]), ([8, 5, 7, 0, 1, 2, 3, 4, 5, 6, 7], [5, 8])])
def impl_sizes.B26 : List Nat := [0, 0, 0, 0, 0, 0, 19, 83, 255, 511]
theorem impl_sizes.tab26 : rtab .any (opsOf Try.f58 26) = impl_sizes.T26 := by kernel_rfl
theorem impl_sizes.bits26 : waitsOk impl_sizes.T26.2 impl_sizes.B26 = true := by kernel_rfl
def impl_sizes.T27 : Bool × List (List Nat × List Nat) := (true, [([], []), ([], []), ([], []), ([], []), ([3], [3]), ([4], [4]), ([0, 1], [0, 1]), ([6, 2, 0, 1, 2, 3, 4, 5], [2, 6]), ([7, 5, 0, 1, 2, 3, 4, 5], [5, 7])])
def impl_sizes.B27 : List Nat := [0, 0, 0, 0, 8, 24, 3, 127, 255]
theorem impl_sizes.tab27 : rtab .any (opsOf Try.f58 27) = impl_sizes.T27 := by kernel_rfl
theorem impl_sizes.bits27 : waitsOk impl_sizes.T27.2 impl_sizes.B27 = true := by kernel_rfl
def impl_sizes.T28 : Bool × List (List Nat × List Nat) := (true, [([], []), ([], []), ([], []), ([0, 1], [0, 1]), ([3, 2], [2, 3]), ([4], [4]), ([], []), ([6], [6]), ([7], [7]), ([5, 8], [5, 8]), ([0, 1], [0, 1]), ([10, 2, 0, 1, 2, 3, 4, 5, 6, 7, 8, 9], [2, 10]), ([11, 9, 0, 1, 2, 3, 4, 5, 6, 7, 8, 9], [9, 11])])
def impl_sizes.B28 : List Nat := [0, 0, 0, 3, 15, 31, 0, 64, 192, 511, 3, 2047, 4095]
theorem impl_sizes.tab28 : rtab .any (opsOf Try.f58 28) = impl_sizes.T28 := by kernel_rfl
theorem impl_sizes.bits28 : waitsOk impl_sizes.T28.2 impl_sizes.B28 = true := by kernel_rfl

end Go.Proofs.Ytedbgfjllladkaa.PA
