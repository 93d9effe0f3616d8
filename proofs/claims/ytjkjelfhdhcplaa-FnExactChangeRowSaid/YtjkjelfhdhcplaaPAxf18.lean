/- Written by a program of this session out of the translation: pure functions, and that Go's functions come to them. -/
import Derived.Test.YtjkjelfhdhcplaaPAx0
import Derived.Test.YtjkjelfhdhcplaaPAxgSpec
namespace Go.Proofs.Ytjkjelfhdhcplaa.PA
open Go.RowKit Go.Proofs.YtjkjelfhdhcplaaW.PrintWords Go.Proofs.YtjkjelfhdhcplaaW.PrintLast Go.Proofs.YtjkjelfhdhcplaaW.PrintMore
attribute [local go_sem] max2_int min2_int max_two min_two max_three min_three max_four min_four   -- for this text's walks alone
set_option linter.unusedVariables false
set_option linter.unusedSimpArgs false

/-! ### spec_ChangeRow: function 18 -/
mutual
def spec_ChangeRow.j0 : Nat → List Int → Int → Int → Int → Int → Int → Bool → Option (List Int × Int × Int)
  | 0, _, _, _, _, _, _, _ => none
  | k + 1, x0, x1, x2, x3, x4, x13, x40 => if x40 = true then (spec_ChangeRow.j1 k x0 x1 x2 x3 x4 2) else (spec_ChangeRow.j1 k x0 x1 x2 x3 x4 x13)
def spec_ChangeRow.j1 : Nat → List Int → Int → Int → Int → Int → Int → Option (List Int × Int × Int)
  | 0, _, _, _, _, _, _ => none
  | k + 1, x0, x1, x2, x3, x4, x13 => if x13 = 0 then (spec_ChangeRow.j2 k x0 x1 x2 x3 x4 x13 (decide (x3 > x4))) else (spec_ChangeRow.j2 k x0 x1 x2 x3 x4 x13 false)
def spec_ChangeRow.j2 : Nat → List Int → Int → Int → Int → Int → Int → Bool → Option (List Int × Int × Int)
  | 0, _, _, _, _, _, _, _ => none
  | k + 1, x0, x1, x2, x3, x4, x13, x47 => if x47 = true then (spec_ChangeRow.j3 k x0 x1 x2 x3 x4 4) else (spec_ChangeRow.j3 k x0 x1 x2 x3 x4 x13)
def spec_ChangeRow.j3 : Nat → List Int → Int → Int → Int → Int → Int → Option (List Int × Int × Int)
  | 0, _, _, _, _, _, _ => none
  | k + 1, x0, x1, x2, x3, x4, x13 => if x13 = 0 then ((spec_l05Length.f k x0 x1).bind fun t364 => ((some (([] : List Int) : List Int)).bind fun y365 => (if y365.length + x0.length < 70368744177664 then (spec_ChangeRow.l0 k x3 x4 (wrap64 (x2 - t364)) (y365 ++ x0) 0 0) else (none)))) else (some ((([] : List Int)), 0, x13))
def spec_ChangeRow.l0 : Nat → Int → Int → Int → List Int → Int → Int → Option (List Int × Int × Int)
  | 0, _, _, _, _, _, _ => none
  | k + 1, x3, x4, x14, x15, x16, x17 => if x17 < (x15.length : Int) then (if 0 ≤ x17 then (if x14 > 0 then ((spec_l00Min.f x14 (wrap64 (x4 - (wrap64 (rd x15 x17))))).bind fun t375 => ((spec_l00Max.f 0 t375).bind fun t376 => (spec_ChangeRow.j5 k x3 x4 x14 x15 x16 x17 (wrap64 (rd x15 x17)) t376))) else (spec_ChangeRow.j5 k x3 x4 x14 x15 x16 x17 (wrap64 (rd x15 x17)) 0)) else (none)) else (if x14 = 0 then (some (x15, x16, 0)) else (some ((([] : List Int)), 0, 6)))
def spec_ChangeRow.j5 : Nat → Int → Int → Int → List Int → Int → Int → Int → Int → Option (List Int × Int × Int)
  | 0, _, _, _, _, _, _, _, _ => none
  | k + 1, x3, x4, x14, x15, x16, x17, x18, x19 => if x14 < 0 then ((spec_l00Min.f (wrap64 (-x14)) (wrap64 (x18 - x3))).bind fun t377 => ((spec_l00Max.f 0 t377).bind fun t378 => (if (wrap64 (-t378)) = 0 then (spec_ChangeRow.l0 k x3 x4 x14 x15 x16 (wrap64 (x17 + 1))) else (if 0 ≤ x17 then (if x17 < (x15.length : Int) then (spec_ChangeRow.l0 k x3 x4 (wrap64 (x14 - (wrap64 (-t378)))) (x15.set (x17 : Int).toNat (IntKind.i16.wrap (wrap64 (x18 + (wrap64 (-t378)))))) (wrap64 (x16 + 1)) (wrap64 (x17 + 1))) else (none)) else (none))))) else (if x19 = 0 then (spec_ChangeRow.l0 k x3 x4 x14 x15 x16 (wrap64 (x17 + 1))) else (if 0 ≤ x17 then (if x17 < (x15.length : Int) then (spec_ChangeRow.l0 k x3 x4 (wrap64 (x14 - x19)) (x15.set (x17 : Int).toNat (IntKind.i16.wrap (wrap64 (x18 + x19)))) (wrap64 (x16 + 1)) (wrap64 (x17 + 1))) else (none)) else (none)))
end
def spec_ChangeRow.f (k : Nat) (l0 : List Int) (a1 : Int) (a2 : Int) (a3 : Int) (a4 : Int) : Option (List Int × Int × Int) := (spec_l05Asked.f k l0 a1).bind fun t357 => (if t357 = 0 then ((spec_l05Long.f a2 a1).bind fun t358 => (if t358 = true then ((spec_l05Width.f a3).bind fun t359 => (if t359 = true then ((spec_l05Width.f a4).bind fun t360 => (spec_ChangeRow.j0 k l0 a1 a2 a3 a4 t357 (!t360))) else (spec_ChangeRow.j0 k l0 a1 a2 a3 a4 t357 true))) else (spec_ChangeRow.j0 k l0 a1 a2 a3 a4 t357 true))) else (spec_ChangeRow.j0 k l0 a1 a2 a3 a4 t357 false))
theorem spec_ChangeRow.mono_l : ∀ k, (∀ y0 y1 y2 y3 y4 y5 y6, LeO (spec_ChangeRow.j0 k y0 y1 y2 y3 y4 y5 y6) (spec_ChangeRow.j0 (k + 1) y0 y1 y2 y3 y4 y5 y6)) ∧ (∀ y0 y1 y2 y3 y4 y5, LeO (spec_ChangeRow.j1 k y0 y1 y2 y3 y4 y5) (spec_ChangeRow.j1 (k + 1) y0 y1 y2 y3 y4 y5)) ∧ (∀ y0 y1 y2 y3 y4 y5 y6, LeO (spec_ChangeRow.j2 k y0 y1 y2 y3 y4 y5 y6) (spec_ChangeRow.j2 (k + 1) y0 y1 y2 y3 y4 y5 y6)) ∧ (∀ y0 y1 y2 y3 y4 y5, LeO (spec_ChangeRow.j3 k y0 y1 y2 y3 y4 y5) (spec_ChangeRow.j3 (k + 1) y0 y1 y2 y3 y4 y5)) ∧ (∀ y0 y1 y2 y3 y4 y5, LeO (spec_ChangeRow.l0 k y0 y1 y2 y3 y4 y5) (spec_ChangeRow.l0 (k + 1) y0 y1 y2 y3 y4 y5)) ∧ (∀ y0 y1 y2 y3 y4 y5 y6 y7, LeO (spec_ChangeRow.j5 k y0 y1 y2 y3 y4 y5 y6 y7) (spec_ChangeRow.j5 (k + 1) y0 y1 y2 y3 y4 y5 y6 y7))
  | 0 => ⟨fun _ _ _ _ _ _ _ r h => by simp [spec_ChangeRow.j0] at h, fun _ _ _ _ _ _ r h => by simp [spec_ChangeRow.j1] at h, fun _ _ _ _ _ _ _ r h => by simp [spec_ChangeRow.j2] at h, fun _ _ _ _ _ _ r h => by simp [spec_ChangeRow.j3] at h, fun _ _ _ _ _ _ r h => by simp [spec_ChangeRow.l0] at h, fun _ _ _ _ _ _ _ _ r h => by simp [spec_ChangeRow.j5] at h⟩
  | k + 1 => by
    obtain ⟨ih0, ih1, ih2, ih3, ih4, ih5⟩ := spec_ChangeRow.mono_l k
    refine ⟨?_, ?_, ?_, ?_, ?_, ?_⟩
    · intro y0 y1 y2 y3 y4 y5 y6
      unfold spec_ChangeRow.j0
      repeat' first
      | (with_reducible exact ih0 _ _ _ _ _ _ _)
      | (with_reducible exact ih1 _ _ _ _ _ _)
      | (with_reducible exact ih2 _ _ _ _ _ _ _)
      | (with_reducible exact ih3 _ _ _ _ _ _)
      | (with_reducible exact ih4 _ _ _ _ _ _)
      | (with_reducible exact ih5 _ _ _ _ _ _ _ _)
      | (with_reducible exact spec_l05Asked.mono _ _ _)
      | (with_reducible exact spec_l05Length.mono _ _ _)
      | (with_reducible exact LeO.refl _)
      | (with_reducible exact LeO.none _)
      | (with_reducible refine LeO.ite ?_ ?_)
      | (with_reducible refine LeO.bind ?_ (fun _ => ?_))
      | exact ih0 _ _ _ _ _ _ _
      | exact ih1 _ _ _ _ _ _
      | exact ih2 _ _ _ _ _ _ _
      | exact ih3 _ _ _ _ _ _
      | exact ih4 _ _ _ _ _ _
      | exact ih5 _ _ _ _ _ _ _ _
      | exact spec_l05Asked.mono _ _ _
      | exact spec_l05Length.mono _ _ _
      | exact LeO.none _
      | refine LeO.ite ?_ ?_
      | refine LeO.bind ?_ (fun _ => ?_)
    · intro y0 y1 y2 y3 y4 y5
      unfold spec_ChangeRow.j1
      repeat' first
      | (with_reducible exact ih0 _ _ _ _ _ _ _)
      | (with_reducible exact ih1 _ _ _ _ _ _)
      | (with_reducible exact ih2 _ _ _ _ _ _ _)
      | (with_reducible exact ih3 _ _ _ _ _ _)
      | (with_reducible exact ih4 _ _ _ _ _ _)
      | (with_reducible exact ih5 _ _ _ _ _ _ _ _)
      | (with_reducible exact spec_l05Asked.mono _ _ _)
      | (with_reducible exact spec_l05Length.mono _ _ _)
      | (with_reducible exact LeO.refl _)
      | (with_reducible exact LeO.none _)
      | (with_reducible refine LeO.ite ?_ ?_)
      | (with_reducible refine LeO.bind ?_ (fun _ => ?_))
      | exact ih0 _ _ _ _ _ _ _
      | exact ih1 _ _ _ _ _ _
      | exact ih2 _ _ _ _ _ _ _
      | exact ih3 _ _ _ _ _ _
      | exact ih4 _ _ _ _ _ _
      | exact ih5 _ _ _ _ _ _ _ _
      | exact spec_l05Asked.mono _ _ _
      | exact spec_l05Length.mono _ _ _
      | exact LeO.none _
      | refine LeO.ite ?_ ?_
      | refine LeO.bind ?_ (fun _ => ?_)
    · intro y0 y1 y2 y3 y4 y5 y6
      unfold spec_ChangeRow.j2
      repeat' first
      | (with_reducible exact ih0 _ _ _ _ _ _ _)
      | (with_reducible exact ih1 _ _ _ _ _ _)
      | (with_reducible exact ih2 _ _ _ _ _ _ _)
      | (with_reducible exact ih3 _ _ _ _ _ _)
      | (with_reducible exact ih4 _ _ _ _ _ _)
      | (with_reducible exact ih5 _ _ _ _ _ _ _ _)
      | (with_reducible exact spec_l05Asked.mono _ _ _)
      | (with_reducible exact spec_l05Length.mono _ _ _)
      | (with_reducible exact LeO.refl _)
      | (with_reducible exact LeO.none _)
      | (with_reducible refine LeO.ite ?_ ?_)
      | (with_reducible refine LeO.bind ?_ (fun _ => ?_))
      | exact ih0 _ _ _ _ _ _ _
      | exact ih1 _ _ _ _ _ _
      | exact ih2 _ _ _ _ _ _ _
      | exact ih3 _ _ _ _ _ _
      | exact ih4 _ _ _ _ _ _
      | exact ih5 _ _ _ _ _ _ _ _
      | exact spec_l05Asked.mono _ _ _
      | exact spec_l05Length.mono _ _ _
      | exact LeO.none _
      | refine LeO.ite ?_ ?_
      | refine LeO.bind ?_ (fun _ => ?_)
    · intro y0 y1 y2 y3 y4 y5
      unfold spec_ChangeRow.j3
      repeat' first
      | (with_reducible exact ih0 _ _ _ _ _ _ _)
      | (with_reducible exact ih1 _ _ _ _ _ _)
      | (with_reducible exact ih2 _ _ _ _ _ _ _)
      | (with_reducible exact ih3 _ _ _ _ _ _)
      | (with_reducible exact ih4 _ _ _ _ _ _)
      | (with_reducible exact ih5 _ _ _ _ _ _ _ _)
      | (with_reducible exact spec_l05Asked.mono _ _ _)
      | (with_reducible exact spec_l05Length.mono _ _ _)
      | (with_reducible exact LeO.refl _)
      | (with_reducible exact LeO.none _)
      | (with_reducible refine LeO.ite ?_ ?_)
      | (with_reducible refine LeO.bind ?_ (fun _ => ?_))
      | exact ih0 _ _ _ _ _ _ _
      | exact ih1 _ _ _ _ _ _
      | exact ih2 _ _ _ _ _ _ _
      | exact ih3 _ _ _ _ _ _
      | exact ih4 _ _ _ _ _ _
      | exact ih5 _ _ _ _ _ _ _ _
      | exact spec_l05Asked.mono _ _ _
      | exact spec_l05Length.mono _ _ _
      | exact LeO.none _
      | refine LeO.ite ?_ ?_
      | refine LeO.bind ?_ (fun _ => ?_)
    · intro y0 y1 y2 y3 y4 y5
      unfold spec_ChangeRow.l0
      repeat' first
      | (with_reducible exact ih0 _ _ _ _ _ _ _)
      | (with_reducible exact ih1 _ _ _ _ _ _)
      | (with_reducible exact ih2 _ _ _ _ _ _ _)
      | (with_reducible exact ih3 _ _ _ _ _ _)
      | (with_reducible exact ih4 _ _ _ _ _ _)
      | (with_reducible exact ih5 _ _ _ _ _ _ _ _)
      | (with_reducible exact spec_l05Asked.mono _ _ _)
      | (with_reducible exact spec_l05Length.mono _ _ _)
      | (with_reducible exact LeO.refl _)
      | (with_reducible exact LeO.none _)
      | (with_reducible refine LeO.ite ?_ ?_)
      | (with_reducible refine LeO.bind ?_ (fun _ => ?_))
      | exact ih0 _ _ _ _ _ _ _
      | exact ih1 _ _ _ _ _ _
      | exact ih2 _ _ _ _ _ _ _
      | exact ih3 _ _ _ _ _ _
      | exact ih4 _ _ _ _ _ _
      | exact ih5 _ _ _ _ _ _ _ _
      | exact spec_l05Asked.mono _ _ _
      | exact spec_l05Length.mono _ _ _
      | exact LeO.none _
      | refine LeO.ite ?_ ?_
      | refine LeO.bind ?_ (fun _ => ?_)
    · intro y0 y1 y2 y3 y4 y5 y6 y7
      unfold spec_ChangeRow.j5
      repeat' first
      | (with_reducible exact ih0 _ _ _ _ _ _ _)
      | (with_reducible exact ih1 _ _ _ _ _ _)
      | (with_reducible exact ih2 _ _ _ _ _ _ _)
      | (with_reducible exact ih3 _ _ _ _ _ _)
      | (with_reducible exact ih4 _ _ _ _ _ _)
      | (with_reducible exact ih5 _ _ _ _ _ _ _ _)
      | (with_reducible exact spec_l05Asked.mono _ _ _)
      | (with_reducible exact spec_l05Length.mono _ _ _)
      | (with_reducible exact LeO.refl _)
      | (with_reducible exact LeO.none _)
      | (with_reducible refine LeO.ite ?_ ?_)
      | (with_reducible refine LeO.bind ?_ (fun _ => ?_))
      | exact ih0 _ _ _ _ _ _ _
      | exact ih1 _ _ _ _ _ _
      | exact ih2 _ _ _ _ _ _ _
      | exact ih3 _ _ _ _ _ _
      | exact ih4 _ _ _ _ _ _
      | exact ih5 _ _ _ _ _ _ _ _
      | exact spec_l05Asked.mono _ _ _
      | exact spec_l05Length.mono _ _ _
      | exact LeO.none _
      | refine LeO.ite ?_ ?_
      | refine LeO.bind ?_ (fun _ => ?_)
theorem spec_ChangeRow.mono : ∀ a0 a1 a2 a3 a4 k, LeO (spec_ChangeRow.f k a0 a1 a2 a3 a4) (spec_ChangeRow.f (k + 1) a0 a1 a2 a3 a4) := by
  intro a0 a1 a2 a3 a4 k
  obtain ⟨ih0, ih1, ih2, ih3, ih4, ih5⟩ := spec_ChangeRow.mono_l k
  unfold spec_ChangeRow.f
  repeat' first
      | (with_reducible exact ih0 _ _ _ _ _ _ _)
      | (with_reducible exact ih1 _ _ _ _ _ _)
      | (with_reducible exact ih2 _ _ _ _ _ _ _)
      | (with_reducible exact ih3 _ _ _ _ _ _)
      | (with_reducible exact ih4 _ _ _ _ _ _)
      | (with_reducible exact ih5 _ _ _ _ _ _ _ _)
      | (with_reducible exact spec_l05Asked.mono _ _ _)
      | (with_reducible exact spec_l05Length.mono _ _ _)
      | (with_reducible exact LeO.refl _)
      | (with_reducible exact LeO.none _)
      | (with_reducible refine LeO.ite ?_ ?_)
      | (with_reducible refine LeO.bind ?_ (fun _ => ?_))
      | exact ih0 _ _ _ _ _ _ _
      | exact ih1 _ _ _ _ _ _
      | exact ih2 _ _ _ _ _ _ _
      | exact ih3 _ _ _ _ _ _
      | exact ih4 _ _ _ _ _ _
      | exact ih5 _ _ _ _ _ _ _ _
      | exact spec_l05Asked.mono _ _ _
      | exact spec_l05Length.mono _ _ _
      | exact LeO.none _
      | refine LeO.ite ?_ ?_
      | refine LeO.bind ?_ (fun _ => ?_)
set_option maxHeartbeats 8000000 in
set_option maxRecDepth 100000 in
theorem spec_ChangeRow.calls (k : Nat) (A0 : Option Addr) (c0 : Nat) (l0 : List Int) (a1 : Int) (a2 : Int) (a3 : Int) (a4 : Int) (r1 : List Int) (r2 : Int) (r3 : Int) (w : World) (hr0 : Kd.C (Kd.int .i16) w A0 l0.length l0) (hc0 : l0.length ≤ c0) (h : spec_ChangeRow.f k l0 a1 a2 a3 a4 = some (r1, r2, r3)) :
    Calls Try.prog 18 #[.slice A0 l0.length c0, .int .i64 a1, .int .i64 a2, .int .i64 a3, .int .i64 a4] w fun e w' => ∃ v0_ : Value, e = .returned (.tuple #[v0_, .int .i64 r2, .int .i64 r3]) ∧ Kd.R (Kd.int .i16) 48 w' w.heap.size (fun _ => True) v0_ r1 ∧ Below w.heap.size w w' := by
  have HR0 := Aside0.mk hr0
  have HC0 := Aside0.mk hc0
  clear hr0 hc0
  have HB := Aside0.mk (Below.refl w.heap.size w)
  have H : ((spec_l05Asked.f k l0 a1).bind fun t357 => (if t357 = 0 then ((spec_l05Long.f a2 a1).bind fun t358 => (if t358 = true then ((spec_l05Width.f a3).bind fun t359 => (if t359 = true then ((spec_l05Width.f a4).bind fun t360 => (spec_ChangeRow.j0 k l0 a1 a2 a3 a4 t357 (!t360))) else (spec_ChangeRow.j0 k l0 a1 a2 a3 a4 t357 true))) else (spec_ChangeRow.j0 k l0 a1 a2 a3 a4 t357 true))) else (spec_ChangeRow.j0 k l0 a1 a2 a3 a4 t357 false))) = some (r1, r2, r3) := h
  clear h
  replace H := Option.bind_eq_some_iff.mp H
  obtain ⟨t357, A60, H⟩ := H
  replace H : (if t357 = 0 then ((spec_l05Long.f a2 a1).bind fun t358 => (if t358 = true then ((spec_l05Width.f a3).bind fun t359 => (if t359 = true then ((spec_l05Width.f a4).bind fun t360 => (spec_ChangeRow.j0 k l0 a1 a2 a3 a4 t357 (!t360))) else (spec_ChangeRow.j0 k l0 a1 a2 a3 a4 t357 true))) else (spec_ChangeRow.j0 k l0 a1 a2 a3 a4 t357 true))) else (spec_ChangeRow.j0 k l0 a1 a2 a3 a4 t357 false)) = some (r1, r2, r3) := H
  have A6 := Aside0.mk A60
  clear A60
  have HC7 := Aside0.mk H
  clear H
  go_enter Try.func18, Try.ntmps18
  go_upto_region 2 with (first | ((with_reducible refine gate_callee (f := 44) rfl ?_); refine goesL_ (some 22) rfl rfl Try.func44 (by kernel_rfl) rfl #[.slice A0 l0.length c0, .int .i64 a1] rfl (by (try simp only [List.map_toArray, List.map_cons, List.map_nil]); first | done | rfl | (simp only [List.length_drop, List.length_take]; rfl)) ?_; (with_reducible refine (spec_l05Asked.calls k _ _ l0 a1 t357 _ ?side1 ?side2 A6.out).mono ?_); (case side1 => repeat (first | exact HR0.out | (with_reducible refine Kd.C_alloc ?_ _) | (with_reducible refine Kd.C_drewN ?_ _) | (with_reducible refine Kd.C_drew ?_))); (case side2 => exact HC0.out); rintro e w' ⟨rfl, ⟨nd, rfl⟩⟩; refine ⟨_, rfl, ?_⟩))
  (try simp only [Act.put, List.setIfInBounds_toArray, List.set_cons_zero, List.set_cons_succ])
  go_cut [40] (fun v40 wc => ∃ (kq : Nat) (x40_6 : Bool), v40 = .bool x40_6 ∧ Aside0 (spec_ChangeRow.j0 kq l0 a1 a2 a3 a4 t357 x40_6 = some (r1, r2, r3)) ∧ Aside0 (kq ≤ k) ∧ Aside0 (Below w.heap.size w wc))
  case first =>
    have H := HC7.out
    clear HC7
    by_cases c8 : t357 = 0
    · rw [if_pos c8] at H
      have c8b0 : (t357 == 0) = true := beq_iff_eq.mpr c8
      have c8b1 : (t357 != 0) = false := bne_eq_false_iff_eq.mpr c8
      clear c8
      (first | rw [c8b0] | (simp only [i64_w, i32_w]; rw [c8b0]) | skip)
      replace H := Option.bind_eq_some_iff.mp H
      obtain ⟨t358, A90, H⟩ := H
      replace H : (if t358 = true then ((spec_l05Width.f a3).bind fun t359 => (if t359 = true then ((spec_l05Width.f a4).bind fun t360 => (spec_ChangeRow.j0 k l0 a1 a2 a3 a4 t357 (!t360))) else (spec_ChangeRow.j0 k l0 a1 a2 a3 a4 t357 true))) else (spec_ChangeRow.j0 k l0 a1 a2 a3 a4 t357 true)) = some (r1, r2, r3) := H
      have A9 := Aside0.mk A90
      clear A90
      by_cases c10 : t358 = true
      · subst c10
        have H1 : ((spec_l05Width.f a3).bind fun t359 => (if t359 = true then ((spec_l05Width.f a4).bind fun t360 => (spec_ChangeRow.j0 k l0 a1 a2 a3 a4 t357 (!t360))) else (spec_ChangeRow.j0 k l0 a1 a2 a3 a4 t357 true))) = some (r1, r2, r3) := by rw [if_pos rfl] at H; exact H
        clear H
        have H := H1
        clear H1
        replace H := Option.bind_eq_some_iff.mp H
        obtain ⟨t359, A110, H⟩ := H
        replace H : (if t359 = true then ((spec_l05Width.f a4).bind fun t360 => (spec_ChangeRow.j0 k l0 a1 a2 a3 a4 t357 (!t360))) else (spec_ChangeRow.j0 k l0 a1 a2 a3 a4 t357 true)) = some (r1, r2, r3) := H
        have A11 := Aside0.mk A110
        clear A110
        by_cases c12 : t359 = true
        · subst c12
          have H1 : ((spec_l05Width.f a4).bind fun t360 => (spec_ChangeRow.j0 k l0 a1 a2 a3 a4 t357 (!t360))) = some (r1, r2, r3) := by rw [if_pos rfl] at H; exact H
          clear H
          have H := H1
          clear H1
          replace H := Option.bind_eq_some_iff.mp H
          obtain ⟨t360, A130, H⟩ := H
          replace H : (spec_ChangeRow.j0 k l0 a1 a2 a3 a4 t357 (!t360)) = some (r1, r2, r3) := H
          have A13 := Aside0.mk A130
          clear A130
          have H' := Aside0.mk H
          clear H
          go_wp2_with (first | (go_at_call 34; (with_reducible refine (spec_l05Long.calls a2 a1 true _ A9.out).mono ?_); rintro e w' ⟨rfl, ⟨nd, rfl⟩⟩) | (go_at_call 35; (with_reducible refine (spec_l05Width.calls a3 true _ A11.out).mono ?_); rintro e w' ⟨rfl, ⟨nd, rfl⟩⟩) | (go_at_call 35; (with_reducible refine (spec_l05Width.calls a4 t360 _ A13.out).mono ?_); rintro e w' ⟨rfl, ⟨nd, rfl⟩⟩))
          go_meet
          case rel => exact ⟨_, (!t360), (by first | rfl | (simp; done) | (simp [*]; done)), H', ⟨by first | omega | exact Nat.le_refl _⟩, ⟨by repeat (first | (with_reducible first | exact HB.out | apply below_alloc | apply pw_below_drewN | apply below_drew1) | exact HB.out)⟩⟩
        · replace c12 := Bool.eq_false_iff.mpr c12
          subst c12
          have H1 : (spec_ChangeRow.j0 k l0 a1 a2 a3 a4 t357 true) = some (r1, r2, r3) := by rw [if_neg (show ¬ (false = true) by decide)] at H; exact H
          clear H
          have H := H1
          clear H1
          have H' := Aside0.mk H
          clear H
          go_wp2_with (first | (go_at_call 34; (with_reducible refine (spec_l05Long.calls a2 a1 true _ A9.out).mono ?_); rintro e w' ⟨rfl, ⟨nd, rfl⟩⟩) | (go_at_call 35; (with_reducible refine (spec_l05Width.calls a3 false _ A11.out).mono ?_); rintro e w' ⟨rfl, ⟨nd, rfl⟩⟩))
          go_meet
          case rel => exact ⟨_, (true), (by first | rfl | (simp; done) | (simp [*]; done)), H', ⟨by first | omega | exact Nat.le_refl _⟩, ⟨by repeat (first | (with_reducible first | exact HB.out | apply below_alloc | apply pw_below_drewN | apply below_drew1) | exact HB.out)⟩⟩
      · replace c10 := Bool.eq_false_iff.mpr c10
        subst c10
        have H1 : (spec_ChangeRow.j0 k l0 a1 a2 a3 a4 t357 true) = some (r1, r2, r3) := by rw [if_neg (show ¬ (false = true) by decide)] at H; exact H
        clear H
        have H := H1
        clear H1
        have H' := Aside0.mk H
        clear H
        go_wp2_with (first | (go_at_call 34; (with_reducible refine (spec_l05Long.calls a2 a1 false _ A9.out).mono ?_); rintro e w' ⟨rfl, ⟨nd, rfl⟩⟩))
        go_meet
        case rel => exact ⟨_, (true), (by first | rfl | (simp; done) | (simp [*]; done)), H', ⟨by first | omega | exact Nat.le_refl _⟩, ⟨by repeat (first | (with_reducible first | exact HB.out | apply below_alloc | apply pw_below_drewN | apply below_drew1) | exact HB.out)⟩⟩
    · rw [if_neg c8] at H
      have c8b0 : (t357 == 0) = false := beq_eq_false_iff_ne.mpr c8
      have c8b1 : (t357 != 0) = true := bne_iff_ne.mpr c8
      (first | rw [c8b0] | (simp only [i64_w, i32_w]; rw [c8b0]) | skip)
      have H' := Aside0.mk H
      clear H
      go_wp2
      go_meet
      case rel => exact ⟨_, (false), (by first | rfl | (simp; done) | (simp [*]; done)), H', ⟨by first | omega | exact Nat.le_refl _⟩, ⟨by repeat (first | (with_reducible first | exact HB.out | apply below_alloc | apply pw_below_drewN | apply below_drew1) | exact HB.out)⟩⟩
  case rest =>
    clear HC7
    try clear c1
    try clear p2
    try clear c4
    try clear c8
    try clear c8b0
    try clear c8b1
    try clear c10
    try clear c12
    obtain ⟨kq, x40_6, rfl, HA, HJ6, HB⟩ := hcut
    cases kq with
    | zero => exact absurd HA.out (by simp [spec_ChangeRow.j0])
    | succ kj6 =>
      have H := HA.out
      clear HA
      simp only [spec_ChangeRow.j0] at H
      have HC14 := Aside0.mk H
      clear H
      go_upto_if 40 with (fail)
      go_cut [13] (fun v13 wc => ∃ (kq : Nat) (x13_13 : Int), v13 = .int .i64 x13_13 ∧ Aside0 (spec_ChangeRow.j1 kq l0 a1 a2 a3 a4 x13_13 = some (r1, r2, r3)) ∧ Aside0 (kq ≤ kj6) ∧ Aside0 (Below w.heap.size w wc))
      case first =>
        have H := HC14.out
        clear HC14
        by_cases c15 : x40_6 = true
        · subst c15
          have H1 : (spec_ChangeRow.j1 kj6 l0 a1 a2 a3 a4 2) = some (r1, r2, r3) := by rw [if_pos rfl] at H; exact H
          clear H
          have H := H1
          clear H1
          have H' := Aside0.mk H
          clear H
          go_wp2
          go_meet
          case rel => exact ⟨_, (2), (by first | rfl | (simp; done) | (simp [*]; done)), H', ⟨by have := HJ6.out; first | omega | exact Nat.le_refl _⟩, ⟨by repeat (first | (with_reducible first | exact HB.out | apply below_alloc | apply pw_below_drewN | apply below_drew1) | exact HB.out)⟩⟩
        · replace c15 := Bool.eq_false_iff.mpr c15
          subst c15
          have H1 : (spec_ChangeRow.j1 kj6 l0 a1 a2 a3 a4 t357) = some (r1, r2, r3) := by rw [if_neg (show ¬ (false = true) by decide)] at H; exact H
          clear H
          have H := H1
          clear H1
          have H' := Aside0.mk H
          clear H
          go_wp2
          go_meet
          case rel => exact ⟨_, (t357), (by first | rfl | (simp; done) | (simp [*]; done)), H', ⟨by have := HJ6.out; first | omega | exact Nat.le_refl _⟩, ⟨by repeat (first | (with_reducible first | exact HB.out | apply below_alloc | apply pw_below_drewN | apply below_drew1) | exact HB.out)⟩⟩
      case rest =>
        clear HC14
        try clear c1
        try clear p2
        try clear c4
        try clear c8
        try clear c8b0
        try clear c8b1
        try clear c10
        try clear c12
        try clear c15
        try clear p2
        obtain ⟨kq, x13_13, rfl, HA, HJ13, HB⟩ := hcut
        cases kq with
        | zero => exact absurd HA.out (by simp [spec_ChangeRow.j1])
        | succ kj13 =>
          have H := HA.out
          clear HA
          simp only [spec_ChangeRow.j1] at H
          have HC16 := Aside0.mk H
          clear H
          go_upto_region 4 with (fail)
          go_cut [47] (fun v47 wc => ∃ (kq : Nat) (x47_15 : Bool), v47 = .bool x47_15 ∧ Aside0 (spec_ChangeRow.j2 kq l0 a1 a2 a3 a4 x13_13 x47_15 = some (r1, r2, r3)) ∧ Aside0 (kq ≤ kj13) ∧ Aside0 (Below w.heap.size w wc))
          case first =>
            have H := HC16.out
            clear HC16
            by_cases c17 : x13_13 = 0
            · rw [if_pos c17] at H
              have c17b0 : (x13_13 == 0) = true := beq_iff_eq.mpr c17
              have c17b1 : (x13_13 != 0) = false := bne_eq_false_iff_eq.mpr c17
              clear c17
              (first | rw [c17b0] | (simp only [i64_w, i32_w]; rw [c17b0]) | skip)
              have H' := Aside0.mk H
              clear H
              go_wp2
              go_meet
              case rel => exact ⟨_, (decide (a3 > a4)), (by first | rfl | (simp; done) | (simp [*]; done)), H', ⟨by have := HJ6.out; have := HJ13.out; first | omega | exact Nat.le_refl _⟩, ⟨by repeat (first | (with_reducible first | exact HB.out | apply below_alloc | apply pw_below_drewN | apply below_drew1) | exact HB.out)⟩⟩
            · rw [if_neg c17] at H
              have c17b0 : (x13_13 == 0) = false := beq_eq_false_iff_ne.mpr c17
              have c17b1 : (x13_13 != 0) = true := bne_iff_ne.mpr c17
              (first | rw [c17b0] | (simp only [i64_w, i32_w]; rw [c17b0]) | skip)
              have H' := Aside0.mk H
              clear H
              go_wp2
              go_meet
              case rel => exact ⟨_, (false), (by first | rfl | (simp; done) | (simp [*]; done)), H', ⟨by have := HJ6.out; have := HJ13.out; first | omega | exact Nat.le_refl _⟩, ⟨by repeat (first | (with_reducible first | exact HB.out | apply below_alloc | apply pw_below_drewN | apply below_drew1) | exact HB.out)⟩⟩
          case rest =>
            clear HC16
            try clear c1
            try clear p2
            try clear c4
            try clear c8
            try clear c8b0
            try clear c8b1
            try clear c10
            try clear c12
            try clear c15
            try clear c17
            try clear c17b0
            try clear c17b1
            try clear p2
            obtain ⟨kq, x47_15, rfl, HA, HJ15, HB⟩ := hcut
            cases kq with
            | zero => exact absurd HA.out (by simp [spec_ChangeRow.j2])
            | succ kj15 =>
              have H := HA.out
              clear HA
              simp only [spec_ChangeRow.j2] at H
              have HC18 := Aside0.mk H
              clear H
              go_upto_if 47 with (fail)
              go_cut [13] (fun v13 wc => ∃ (kq : Nat) (x13_17 : Int), v13 = .int .i64 x13_17 ∧ Aside0 (spec_ChangeRow.j3 kq l0 a1 a2 a3 a4 x13_17 = some (r1, r2, r3)) ∧ Aside0 (kq ≤ kj15) ∧ Aside0 (Below w.heap.size w wc))
              case first =>
                have H := HC18.out
                clear HC18
                by_cases c19 : x47_15 = true
                · subst c19
                  have H1 : (spec_ChangeRow.j3 kj15 l0 a1 a2 a3 a4 4) = some (r1, r2, r3) := by rw [if_pos rfl] at H; exact H
                  clear H
                  have H := H1
                  clear H1
                  have H' := Aside0.mk H
                  clear H
                  go_wp2
                  go_meet
                  case rel => exact ⟨_, (4), (by first | rfl | (simp; done) | (simp [*]; done)), H', ⟨by have := HJ6.out; have := HJ13.out; have := HJ15.out; first | omega | exact Nat.le_refl _⟩, ⟨by repeat (first | (with_reducible first | exact HB.out | apply below_alloc | apply pw_below_drewN | apply below_drew1) | exact HB.out)⟩⟩
                · replace c19 := Bool.eq_false_iff.mpr c19
                  subst c19
                  have H1 : (spec_ChangeRow.j3 kj15 l0 a1 a2 a3 a4 x13_13) = some (r1, r2, r3) := by rw [if_neg (show ¬ (false = true) by decide)] at H; exact H
                  clear H
                  have H := H1
                  clear H1
                  have H' := Aside0.mk H
                  clear H
                  go_wp2
                  go_meet
                  case rel => exact ⟨_, (x13_13), (by first | rfl | (simp; done) | (simp [*]; done)), H', ⟨by have := HJ6.out; have := HJ13.out; have := HJ15.out; first | omega | exact Nat.le_refl _⟩, ⟨by repeat (first | (with_reducible first | exact HB.out | apply below_alloc | apply pw_below_drewN | apply below_drew1) | exact HB.out)⟩⟩
              case rest =>
                clear HC18
                try clear c1
                try clear p2
                try clear c4
                try clear c8
                try clear c8b0
                try clear c8b1
                try clear c10
                try clear c12
                try clear c15
                try clear c17
                try clear c17b0
                try clear c17b1
                try clear c18
                try clear c19
                try clear p2
                obtain ⟨kq, x13_17, rfl, HA, HJ17, HB⟩ := hcut
                cases kq with
                | zero => exact absurd HA.out (by simp [spec_ChangeRow.j3])
                | succ kj17 =>
                  have H := HA.out
                  clear HA
                  simp only [spec_ChangeRow.j3] at H
                  by_cases c20 : x13_17 = 0
                  · rw [if_pos c20] at H
                    have c20b0 : (x13_17 == 0) = true := beq_iff_eq.mpr c20
                    have c20b1 : (x13_17 != 0) = false := bne_eq_false_iff_eq.mpr c20
                    clear c20
                    replace H := Option.bind_eq_some_iff.mp H
                    obtain ⟨t364, A210, H⟩ := H
                    replace H : ((some (([] : List Int) : List Int)).bind fun y365 => (if y365.length + l0.length < 70368744177664 then (spec_ChangeRow.l0 kj17 a3 a4 (wrap64 (a2 - t364)) (y365 ++ l0) 0 0) else (none))) = some (r1, r2, r3) := H
                    have A21 := Aside0.mk A210
                    clear A210
                    obtain ⟨y365, hy365⟩ : ∃ y_ : List Int, y_ = (([] : List Int)) := ⟨_, rfl⟩
                    replace H : (if y365.length + l0.length < 70368744177664 then (spec_ChangeRow.l0 kj17 a3 a4 (wrap64 (a2 - t364)) (y365 ++ l0) 0 0) else (none)) = some (r1, r2, r3) := by first | (rw [hy365]; with_reducible exact H) | (have H2_ := (Option.bind_some _ _).symm.trans H; rw [hy365]; with_reducible exact H2_) | (have H2_ := (Option.bind_some _ _).symm.trans H; with_reducible exact H2_) | with_reducible exact H | (rw [hy365]; exact H) | exact H
                    have Ny365 := Aside0.mk hy365
                    clear hy365
                    by_cases c22 : y365.length + l0.length < 70368744177664
                    · rw [if_pos c22] at H
                      have LMc22 := Aside0.mk c22
                      clear c22
                      obtain ⟨y368, hy368⟩ : ∃ y_ : List Int, y_ = (y365 ++ l0) := ⟨_, rfl⟩
                      replace H : (spec_ChangeRow.l0 kj17 a3 a4 (wrap64 (a2 - t364)) y368 0 0) = some (r1, r2, r3) := by first | (rw [hy368]; with_reducible exact H) | (have H2_ := (Option.bind_some _ _).symm.trans H; rw [hy368]; with_reducible exact H2_) | (have H2_ := (Option.bind_some _ _).symm.trans H; with_reducible exact H2_) | with_reducible exact H | (rw [hy368]; exact H) | exact H
                      have Ny368 := Aside0.mk hy368
                      clear hy368
                      have H' := Aside0.mk H
                      clear H
                      go_wp2_with (first | ((with_reducible refine gate_callee (f := 45) rfl ?_); refine goesL_ (some 55) rfl rfl Try.func45 (by kernel_rfl) rfl #[.slice A0 l0.length c0, .int .i64 a1] rfl (by (try simp only [List.map_toArray, List.map_cons, List.map_nil]); first | done | rfl | (simp only [List.length_drop, List.length_take]; rfl)) ?_; (with_reducible refine (spec_l05Length.calls kj17 _ _ l0 a1 t364 _ ?side1 ?side2 A21.out).mono ?_); (case side1 => repeat (first | exact (Kd.C_below HR0.out HB.out) | (with_reducible refine Kd.C_alloc ?_ _) | (with_reducible refine Kd.C_drewN ?_ _) | (with_reducible refine Kd.C_drew ?_))); (case side2 => exact HC0.out); rintro e w' ⟨rfl, ⟨nd, rfl⟩⟩; refine ⟨_, rfl, ?_⟩) | ((with_reducible refine gate_dst (N := 57) rfl ?_); refine Kd.R_lit (Kd.int .i16) _ 48 ?hg (N := 57) ?hd (xs := ([] : List Int)) (inner := []) (ok := fun _ => True) (okp := fun _ => True) ?hr ?hp (fun _ hk => hk) trivial (Below.refl _ _) (Nat.le_refl _) (by simp) ?_; (case hd => rfl); (case hg => rfl); (case hr => first | (go_simp; done) | (go_simp; rfl)); (case hp => exact (Reps.none _ _)); intro v366 w23 ho24 hb hg_ hnew_; clear hg_ hnew_; (first | rw [← Ny365.out] at ho24 | (simp only [Int.reduceToNat] at ho24; rw [← Ny365.out] at ho24)); have n0_ := Aside0.mk (Kd.R_lower ho24 (below_size (by repeat (first | (with_reducible first | exact HB.out | apply below_alloc | apply pw_below_drewN | apply below_drew1) | exact HB.out)))); have n1_ := Aside0.mk (below_step (by repeat (first | (with_reducible first | exact HB.out | apply below_alloc | apply pw_below_drewN | apply below_drew1) | exact HB.out)) hb); clear HB; have HO367 := n0_; have HB := n1_; clear n0_ n1_; clear hb ho24) | ((with_reducible refine gate_builtin (b := .append) (xs := #[.tmp 57, .tmp 58]) rfl ?_); at_builtin; refine Kd.R_append_rows (Kd.int .i16) (w0 := w) w.heap.size rfl (.tmp 57) (.tmp 58) 26 48 (.int .i16 0) 2 rfl Try.underlying26 info48 rfl (by decide) (by omega) v366 y365 l0 _ _ _ (fun _ => True) (fun _ => False) rfl rfl ?aO ?aR (fun _ _ h => h) (fun _ h => h.elim) ?aF ?aB ?aS ?aL ?_; (case aR => repeat (first | exact (Kd.C_below HR0.out HB.out) | (with_reducible refine Kd.C_alloc ?_ _) | (with_reducible refine Kd.C_drewN ?_ _) | (with_reducible refine Kd.C_drew ?_))); (case aB => exact (by repeat (first | (with_reducible first | exact HB.out | apply below_alloc | apply pw_below_drewN | apply below_drew1) | exact HB.out))); (case aF => exact (fun _ _ => trivial)); (case aO => exact (by (with_reducible repeat (first | apply Kd.R_alloc | apply Kd.R_drewN | apply Kd.R_drew)); exact HO367.out)); (case aS => exact (below_size (by repeat (first | (with_reducible first | exact HB.out | apply below_alloc | apply pw_below_drewN | apply below_drew1) | exact HB.out)))); (case aL => have := LMc22.out; omega); intro v369 w25 ho hb hg hat; rw [← Ny368.out] at ho; have n0_ := Aside0.mk (hb); have n1_ := Aside0.mk (ho); clear HB; clear HO367; have HB := n0_; have HO370 := n1_; clear n0_ n1_; clear ho hb hg hat))
                      go_loopg [14, 16, 17] kj17 (fun kq v14 v16 v17 w' => ∃ (x14_5 : Int) (x15_5 : List Int) (x16_5 : Int) (x17_5 : Int), v14 = .int .i64 x14_5 ∧ v16 = .int .i64 x16_5 ∧ v17 = .int .i64 x17_5 ∧ Aside0 (spec_ChangeRow.l0 kq a3 a4 x14_5 x15_5 x16_5 x17_5 = some (r1, r2, r3)) ∧ Aside0 (kq ≤ kj17) ∧ Aside0 (Kd.R (Kd.int .i16) 48 w' w.heap.size (fun _ => True) v369 x15_5) ∧ Aside0 (Below w.heap.size w w'))
                      case atStart => exact ⟨(wrap64 (a2 - t364)), (y368), (0), (0), (by first | rfl | (simp; done) | (simp [*]; done)), (by first | rfl | (simp; done) | (simp [*]; done)), (by first | rfl | (simp; done) | (simp [*]; done)), H', ⟨Nat.le_refl _⟩, ⟨by (with_reducible repeat (first | apply Kd.R_alloc | apply Kd.R_drewN | apply Kd.R_drew)); exact HO370.out⟩, ⟨by repeat (first | (with_reducible first | exact HB.out | apply below_alloc | apply pw_below_drewN | apply below_drew1) | exact HB.out)⟩⟩
                      case round =>
                        clear H'
                        try clear c1
                        try clear c2
                        try clear p2
                        try clear c4
                        try clear p6
                        try clear c8
                        try clear c8b0
                        try clear c8b1
                        try clear c10
                        try clear c12
                        try clear c15
                        try clear c17
                        try clear c17b0
                        try clear c17b1
                        try clear c18
                        try clear c19
                        try clear c20
                        try clear c20b0
                        try clear c20b1
                        try clear c22
                        try clear p2
                        obtain ⟨x14_5, x15_5, x16_5, x17_5, rfl, rfl, rfl, HA, HK5, HO_15, HB⟩ := hrel
                        cases gk with
                        | zero => exact absurd HA.out (by simp [spec_ChangeRow.l0])
                        | succ k5 =>
                          have H := HA.out
                          clear HA
                          simp only [spec_ChangeRow.l0] at H
                          by_cases c26 : x17_5 < (x15_5.length : Int)
                          · rw [if_pos c26] at H
                            have c26b0 : decide (x17_5 < (x15_5.length : Int)) = true := decide_eq_true c26
                            clear c26
                            by_cases c27 : 0 ≤ x17_5
                            · rw [if_pos c27] at H
                              have c27b0 : decide (0 ≤ x17_5) = true := decide_eq_true c27
                              clear c27
                              have HC28 := Aside0.mk H
                              clear H
                              obtain ⟨Ao29, co29, eo29⟩ := Kd.R_slice HO_15.out
                              subst eo29
                              have p374 : 0 ≤ (x17_5 : Int) := of_decide_eq_true (by first | (with_reducible assumption) | assumption)
                              have q374 : x17_5 < (x15_5.length : Int) := of_decide_eq_true (by first | (with_reducible assumption) | assumption)
                              obtain ⟨ad374, e374, hx374_0⟩ := Kd.at_int (Kd.R_reads' HO_15.out).2.2 x17_5 p374 q374
                              cases e374
                              replace p374 := eq_true p374
                              replace q374 := eq_true q374
                              go_upto_if 72 with (fail)
                              go_cut [19] (fun v19 wc => ∃ (kq : Nat) (x19_27 : Int), v19 = .int .i64 x19_27 ∧ Aside0 (spec_ChangeRow.j5 kq a3 a4 x14_5 x15_5 x16_5 x17_5 (wrap64 (rd x15_5 x17_5)) x19_27 = some (r1, r2, r3)) ∧ Aside0 (kq ≤ k5) ∧ Aside0 (Kd.R (Kd.int .i16) 48 wc w.heap.size (fun _ => True) (.slice (some ad374) x15_5.length co29) x15_5) ∧ Aside0 (Below w.heap.size w wc))
                              case first =>
                                have H := HC28.out
                                clear HC28
                                by_cases c30 : x14_5 > 0
                                · rw [if_pos c30] at H
                                  have c30b0 : decide (0 < x14_5) = true := decide_eq_true c30
                                  clear c30
                                  (first | rw [c30b0] | (simp only [i64_w, i32_w]; rw [c30b0]) | skip)
                                  replace H := Option.bind_eq_some_iff.mp H
                                  obtain ⟨t375, A310, H⟩ := H
                                  replace H : ((spec_l00Max.f 0 t375).bind fun t376 => (spec_ChangeRow.j5 k5 a3 a4 x14_5 x15_5 x16_5 x17_5 (wrap64 (rd x15_5 x17_5)) t376)) = some (r1, r2, r3) := H
                                  have A31 := Aside0.mk A310
                                  clear A310
                                  replace H := Option.bind_eq_some_iff.mp H
                                  obtain ⟨t376, A320, H⟩ := H
                                  replace H : (spec_ChangeRow.j5 k5 a3 a4 x14_5 x15_5 x16_5 x17_5 (wrap64 (rd x15_5 x17_5)) t376) = some (r1, r2, r3) := H
                                  have A32 := Aside0.mk A320
                                  clear A320
                                  have H' := Aside0.mk H
                                  clear H
                                  go_wp2_with (first | ((with_reducible refine gate_callee (f := 46) rfl ?_); refine goesL_ (some 77) rfl rfl Try.func46 (by kernel_rfl) rfl #[.int .i64 x14_5, .int .i64 (wrap64 (a4 - (wrap64 (rd x15_5 x17_5))))] rfl (by (try simp only [List.map_toArray, List.map_cons, List.map_nil]); first | done | rfl | (simp only [List.length_drop, List.length_take]; rfl)) ?_; (with_reducible refine (spec_l00Min.calls x14_5 (wrap64 (a4 - (wrap64 (rd x15_5 x17_5)))) t375 _ A31.out).mono ?_); rintro e w' ⟨rfl, ⟨nd, rfl⟩⟩; refine ⟨_, rfl, ?_⟩) | ((with_reducible refine gate_callee (f := 38) rfl ?_); refine goesL_ (some 78) rfl rfl Try.func38 (by kernel_rfl) rfl #[.int .i64 0, .int .i64 t375] rfl (by (try simp only [List.map_toArray, List.map_cons, List.map_nil]); first | done | rfl | (simp only [List.length_drop, List.length_take]; rfl)) ?_; (with_reducible refine (spec_l00Max.calls 0 t375 t376 _ A32.out).mono ?_); rintro e w' ⟨rfl, ⟨nd, rfl⟩⟩; refine ⟨_, rfl, ?_⟩))
                                  go_meet
                                  case rel => exact ⟨_, (t376), (by first | rfl | (simp; done) | (simp [*]; done)), H', ⟨by have := HJ6.out; have := HJ13.out; have := HJ15.out; have := HJ17.out; have := HK5.out; first | omega | exact Nat.le_refl _⟩, ⟨by (with_reducible repeat (first | apply Kd.R_alloc | apply Kd.R_drewN | apply Kd.R_drew)); exact HO_15.out⟩, ⟨by repeat (first | (with_reducible first | exact HB.out | apply below_alloc | apply pw_below_drewN | apply below_drew1) | exact HB.out)⟩⟩
                                · rw [if_neg c30] at H
                                  have c30b0 : decide (0 < x14_5) = false := decide_eq_false c30
                                  clear c30
                                  (first | rw [c30b0] | (simp only [i64_w, i32_w]; rw [c30b0]) | skip)
                                  have H' := Aside0.mk H
                                  clear H
                                  go_wp2
                                  go_meet
                                  case rel => exact ⟨_, (0), (by first | rfl | (simp; done) | (simp [*]; done)), H', ⟨by have := HJ6.out; have := HJ13.out; have := HJ15.out; have := HJ17.out; have := HK5.out; first | omega | exact Nat.le_refl _⟩, ⟨by (with_reducible repeat (first | apply Kd.R_alloc | apply Kd.R_drewN | apply Kd.R_drew)); exact HO_15.out⟩, ⟨by repeat (first | (with_reducible first | exact HB.out | apply below_alloc | apply pw_below_drewN | apply below_drew1) | exact HB.out)⟩⟩
                              case rest =>
                                clear HC28
                                try clear c1
                                try clear c2
                                try clear p2
                                try clear c3
                                try clear p3
                                try clear q3
                                try clear hx3
                                try clear c4
                                try clear p6
                                try clear c8
                                try clear c8b0
                                try clear c8b1
                                try clear c10
                                try clear c12
                                try clear c15
                                try clear c17
                                try clear c17b0
                                try clear c17b1
                                try clear c18
                                try clear c19
                                try clear c20
                                try clear c20b0
                                try clear c20b1
                                try clear c22
                                try clear c26
                                try clear c26b0
                                try clear c27
                                try clear c27b0
                                try clear c30
                                try clear c30b0
                                try clear hx374_0
                                try clear p2
                                try clear p374
                                try clear p6
                                try clear q374
                                obtain ⟨kq, x19_27, rfl, HA, HJ27, HO_15, HB⟩ := hcut
                                cases kq with
                                | zero => exact absurd HA.out (by simp [spec_ChangeRow.j5])
                                | succ kj27 =>
                                  have H := HA.out
                                  clear HA
                                  simp only [spec_ChangeRow.j5] at H
                                  by_cases c33 : x14_5 < 0
                                  · rw [if_pos c33] at H
                                    have c33b0 : decide (x14_5 < 0) = true := decide_eq_true c33
                                    clear c33
                                    replace H := Option.bind_eq_some_iff.mp H
                                    obtain ⟨t377, A340, H⟩ := H
                                    replace H : ((spec_l00Max.f 0 t377).bind fun t378 => (if (wrap64 (-t378)) = 0 then (spec_ChangeRow.l0 kj27 a3 a4 x14_5 x15_5 x16_5 (wrap64 (x17_5 + 1))) else (if 0 ≤ x17_5 then (if x17_5 < (x15_5.length : Int) then (spec_ChangeRow.l0 kj27 a3 a4 (wrap64 (x14_5 - (wrap64 (-t378)))) (x15_5.set (x17_5 : Int).toNat (IntKind.i16.wrap (wrap64 ((wrap64 (rd x15_5 x17_5)) + (wrap64 (-t378)))))) (wrap64 (x16_5 + 1)) (wrap64 (x17_5 + 1))) else (none)) else (none)))) = some (r1, r2, r3) := H
                                    have A34 := Aside0.mk A340
                                    clear A340
                                    replace H := Option.bind_eq_some_iff.mp H
                                    obtain ⟨t378, A350, H⟩ := H
                                    replace H : (if (wrap64 (-t378)) = 0 then (spec_ChangeRow.l0 kj27 a3 a4 x14_5 x15_5 x16_5 (wrap64 (x17_5 + 1))) else (if 0 ≤ x17_5 then (if x17_5 < (x15_5.length : Int) then (spec_ChangeRow.l0 kj27 a3 a4 (wrap64 (x14_5 - (wrap64 (-t378)))) (x15_5.set (x17_5 : Int).toNat (IntKind.i16.wrap (wrap64 ((wrap64 (rd x15_5 x17_5)) + (wrap64 (-t378)))))) (wrap64 (x16_5 + 1)) (wrap64 (x17_5 + 1))) else (none)) else (none))) = some (r1, r2, r3) := H
                                    have A35 := Aside0.mk A350
                                    clear A350
                                    by_cases c36 : (wrap64 (-t378)) = 0
                                    · rw [if_pos c36] at H
                                      have c36b0 : ((wrap64 (-t378)) == 0) = true := beq_iff_eq.mpr c36
                                      have c36b1 : ((wrap64 (-t378)) != 0) = false := bne_eq_false_iff_eq.mpr c36
                                      clear c36
                                      have H' := Aside0.mk H
                                      clear H
                                      go_wp2_with (first | ((with_reducible refine gate_callee (f := 46) rfl ?_); refine goesL_ (some 86) rfl rfl Try.func46 (by kernel_rfl) rfl #[.int .i64 (wrap64 (-x14_5)), .int .i64 (wrap64 ((wrap64 (rd x15_5 x17_5)) - a3))] rfl (by (try simp only [List.map_toArray, List.map_cons, List.map_nil]); first | done | rfl | (simp only [List.length_drop, List.length_take]; rfl)) ?_; (with_reducible refine (spec_l00Min.calls (wrap64 (-x14_5)) (wrap64 ((wrap64 (rd x15_5 x17_5)) - a3)) t377 _ A34.out).mono ?_); rintro e w' ⟨rfl, ⟨nd, rfl⟩⟩; refine ⟨_, rfl, ?_⟩) | ((with_reducible refine gate_callee (f := 38) rfl ?_); refine goesL_ (some 87) rfl rfl Try.func38 (by kernel_rfl) rfl #[.int .i64 0, .int .i64 t377] rfl (by (try simp only [List.map_toArray, List.map_cons, List.map_nil]); first | done | rfl | (simp only [List.length_drop, List.length_take]; rfl)) ?_; (with_reducible refine (spec_l00Max.calls 0 t377 t378 _ A35.out).mono ?_); rintro e w' ⟨rfl, ⟨nd, rfl⟩⟩; refine ⟨_, rfl, ?_⟩))
                                      go_roundg kj27
                                      case measure => have := HJ6.out; have := HJ13.out; have := HJ15.out; have := HJ17.out; have := HK5.out; have := HJ27.out; omega
                                      case rel => exact ⟨(x14_5), (x15_5), (x16_5), (wrap64 (x17_5 + 1)), (by first | rfl | (simp; done) | (simp [*]; done)), (by first | rfl | (simp; done) | (simp [*]; done)), (by first | rfl | (simp; done) | (simp [*]; done)), H', ⟨by have := HJ6.out; have := HJ13.out; have := HJ15.out; have := HJ17.out; have := HK5.out; have := HJ27.out; omega⟩, ⟨by (with_reducible repeat (first | apply Kd.R_alloc | apply Kd.R_drewN | apply Kd.R_drew)); exact HO_15.out⟩, ⟨by repeat (first | (with_reducible first | exact HB.out | apply below_alloc | apply pw_below_drewN | apply below_drew1) | exact HB.out)⟩⟩
                                    · rw [if_neg c36] at H
                                      have c36b0 : ((wrap64 (-t378)) == 0) = false := beq_eq_false_iff_ne.mpr c36
                                      have c36b1 : ((wrap64 (-t378)) != 0) = true := bne_iff_ne.mpr c36
                                      by_cases c37 : 0 ≤ x17_5
                                      · rw [if_pos c37] at H
                                        have c37b0 : decide (0 ≤ x17_5) = true := decide_eq_true c37
                                        clear c37
                                        by_cases c38 : x17_5 < (x15_5.length : Int)
                                        · rw [if_pos c38] at H
                                          have c38b0 : decide (x17_5 < (x15_5.length : Int)) = true := decide_eq_true c38
                                          clear c38
                                          obtain ⟨y379, hy379⟩ : ∃ y_ : List Int, y_ = (x15_5.set (x17_5 : Int).toNat (IntKind.i16.wrap (wrap64 ((wrap64 (rd x15_5 x17_5)) + (wrap64 (-t378)))))) := ⟨_, rfl⟩
                                          replace H : (spec_ChangeRow.l0 kj27 a3 a4 (wrap64 (x14_5 - (wrap64 (-t378)))) y379 (wrap64 (x16_5 + 1)) (wrap64 (x17_5 + 1))) = some (r1, r2, r3) := by first | (rw [hy379]; with_reducible exact H) | (have H2_ := (Option.bind_some _ _).symm.trans H; rw [hy379]; with_reducible exact H2_) | (have H2_ := (Option.bind_some _ _).symm.trans H; with_reducible exact H2_) | with_reducible exact H | (rw [hy379]; exact H) | exact H
                                          have Ny379 := Aside0.mk hy379
                                          clear hy379
                                          have H' := Aside0.mk H
                                          clear H
                                          go_wp2_with (first | ((with_reducible refine gate_callee (f := 46) rfl ?_); refine goesL_ (some 86) rfl rfl Try.func46 (by kernel_rfl) rfl #[.int .i64 (wrap64 (-x14_5)), .int .i64 (wrap64 ((wrap64 (rd x15_5 x17_5)) - a3))] rfl (by (try simp only [List.map_toArray, List.map_cons, List.map_nil]); first | done | rfl | (simp only [List.length_drop, List.length_take]; rfl)) ?_; (with_reducible refine (spec_l00Min.calls (wrap64 (-x14_5)) (wrap64 ((wrap64 (rd x15_5 x17_5)) - a3)) t377 _ A34.out).mono ?_); rintro e w' ⟨rfl, ⟨nd, rfl⟩⟩; refine ⟨_, rfl, ?_⟩; (try (rw [drewN_self wc]; generalize hq_ : World.drewN wc _ = wc; have n0_ : Aside0 (Kd.R (Kd.int .i16) 48 wc w.heap.size (fun _ => True) (.slice (some ad374) x15_5.length co29) x15_5) := ⟨by rw [← hq_]; exact (by (with_reducible repeat (first | apply Kd.R_alloc | apply Kd.R_drewN | apply Kd.R_drew)); exact HO_15.out)⟩; have n1_ : Aside0 (Below w.heap.size w wc) := ⟨by rw [← hq_]; exact (by repeat (first | (with_reducible first | exact HB.out | apply below_alloc | apply pw_below_drewN | apply below_drew1) | exact HB.out))⟩; clear HO_15 HB hq_; have HO_15 := n0_; have HB := n1_; clear n0_ n1_))) | ((with_reducible refine gate_callee (f := 38) rfl ?_); refine goesL_ (some 87) rfl rfl Try.func38 (by kernel_rfl) rfl #[.int .i64 0, .int .i64 t377] rfl (by (try simp only [List.map_toArray, List.map_cons, List.map_nil]); first | done | rfl | (simp only [List.length_drop, List.length_take]; rfl)) ?_; (with_reducible refine (spec_l00Max.calls 0 t377 t378 _ A35.out).mono ?_); rintro e w' ⟨rfl, ⟨nd, rfl⟩⟩; refine ⟨_, rfl, ?_⟩; (try (rw [drewN_self wc]; generalize hq_ : World.drewN wc _ = wc; have n0_ : Aside0 (Kd.R (Kd.int .i16) 48 wc w.heap.size (fun _ => True) (.slice (some ad374) x15_5.length co29) x15_5) := ⟨by rw [← hq_]; exact (by (with_reducible repeat (first | apply Kd.R_alloc | apply Kd.R_drewN | apply Kd.R_drew)); exact HO_15.out)⟩; have n1_ : Aside0 (Below w.heap.size w wc) := ⟨by rw [← hq_]; exact (by repeat (first | (with_reducible first | exact HB.out | apply below_alloc | apply pw_below_drewN | apply below_drew1) | exact HB.out))⟩; clear HO_15 HB hq_; have HO_15 := n0_; have HB := n1_; clear n0_ n1_)); have p39 : 0 ≤ (x17_5 : Int) := of_decide_eq_true (by first | (with_reducible assumption) | assumption); have q39 : (x17_5 : Int) < ((x15_5.length : Int) : Int) := of_decide_eq_true (by first | (with_reducible assumption) | assumption); obtain ⟨go39, co39, eo39, gb39, gl39, cl39, HG39⟩ := Kd.R_form HO_15.out (by omega); (first | cases eo39 | (injection eo39 with ea_ en_ ec_; (first | subst ea_ | (injection ea_ with ea_; subst ea_)); subst ec_; clear en_)); have GB39 := Aside0.mk gb39; have GG39 := Aside0.mk HG39; clear gb39 gl39 HG39; (first | simp only [add_plain] at hx374_0 | skip); obtain ⟨hx39_0, hf39_0⟩ := Kd.R_celln 0 HO_15.out (x17_5 : Int) p39 q39; replace p39 := eq_true p39; replace q39 := eq_true q39; obtain ⟨hy40_, hz40_⟩ := Kd.R_celln 0 HO_15.out (x17_5 : Int) (of_decide_eq_true (by first | (with_reducible assumption) | assumption)) (of_decide_eq_true (by first | (with_reducible assumption) | assumption)); have HP40 := Kd.R_putg HO_15.out (x17_5 : Int) (IntKind.i16.wrap (wrap64 ((wrap64 (rd x15_5 x17_5)) + (wrap64 (-t378)))))) | ((with_reducible refine gate_store (t := 48) (p := 97) rfl ?_); refine store_event (t := 48) (p := 97) (v := ?vo_w41) (w1 := (wc.setCell ⟨go39, (x17_5 : Int).toNat, none⟩ (.int .i16 (IntKind.i16.wrap (wrap64 ((wrap64 (rd x15_5 x17_5)) + (wrap64 (-t378)))))))) ?hg ?ho ?hn ?hr ?_; (case ho => rfl); (case hg => rfl); (case hn => rfl); (case hr => first | (go_simp; done) | (go_simp; rfl)); intro w41 hw; have hg : wc.grownBy w41 (some go39) := (by rw [hw]; exact HP40.2); have hp_ : Kd.R (Kd.int .i16) 48 w41 w.heap.size (fun _ => True) (.slice (some ⟨go39, 0, none⟩) x15_5.length co29) y379 := (by rw [hw, Ny379.out]; exact HP40.1); clear HP40; have n0_ := Aside0.mk (hp_); have n1_ := Aside0.mk ((by rw [hw]; exact below_set (HB.out) GB39.out : Below w.heap.size w w41)); clear HO_15; clear HB; have HO_15 := n0_; have HB := n1_; clear n0_ n1_; clear hg hw hp_))
                                          go_roundg kj27
                                          case measure => have := HJ6.out; have := HJ13.out; have := HJ15.out; have := HJ17.out; have := HK5.out; have := HJ27.out; omega
                                          case rel => exact ⟨(wrap64 (x14_5 - (wrap64 (-t378)))), (y379), (wrap64 (x16_5 + 1)), (wrap64 (x17_5 + 1)), (by first | rfl | (simp; done) | (simp [*]; done)), (by first | rfl | (simp; done) | (simp [*]; done)), (by first | rfl | (simp; done) | (simp [*]; done)), H', ⟨by have := HJ6.out; have := HJ13.out; have := HJ15.out; have := HJ17.out; have := HK5.out; have := HJ27.out; omega⟩, ⟨by (with_reducible repeat (first | apply Kd.R_alloc | apply Kd.R_drewN | apply Kd.R_drew)); exact HO_15.out⟩, ⟨by repeat (first | (with_reducible first | exact HB.out | apply below_alloc | apply pw_below_drewN | apply below_drew1) | exact HB.out)⟩⟩
                                        · rw [if_neg c38] at H
                                          exact absurd H (by simp)
                                      · rw [if_neg c37] at H
                                        exact absurd H (by simp)
                                  · rw [if_neg c33] at H
                                    have c33b0 : decide (x14_5 < 0) = false := decide_eq_false c33
                                    clear c33
                                    by_cases c42 : x19_27 = 0
                                    · rw [if_pos c42] at H
                                      have c42b0 : (x19_27 == 0) = true := beq_iff_eq.mpr c42
                                      have c42b1 : (x19_27 != 0) = false := bne_eq_false_iff_eq.mpr c42
                                      clear c42
                                      have H' := Aside0.mk H
                                      clear H
                                      go_wp2
                                      go_roundg kj27
                                      case measure => have := HJ6.out; have := HJ13.out; have := HJ15.out; have := HJ17.out; have := HK5.out; have := HJ27.out; omega
                                      case rel => exact ⟨(x14_5), (x15_5), (x16_5), (wrap64 (x17_5 + 1)), (by first | rfl | (simp; done) | (simp [*]; done)), (by first | rfl | (simp; done) | (simp [*]; done)), (by first | rfl | (simp; done) | (simp [*]; done)), H', ⟨by have := HJ6.out; have := HJ13.out; have := HJ15.out; have := HJ17.out; have := HK5.out; have := HJ27.out; omega⟩, ⟨by (with_reducible repeat (first | apply Kd.R_alloc | apply Kd.R_drewN | apply Kd.R_drew)); exact HO_15.out⟩, ⟨by repeat (first | (with_reducible first | exact HB.out | apply below_alloc | apply pw_below_drewN | apply below_drew1) | exact HB.out)⟩⟩
                                    · rw [if_neg c42] at H
                                      have c42b0 : (x19_27 == 0) = false := beq_eq_false_iff_ne.mpr c42
                                      have c42b1 : (x19_27 != 0) = true := bne_iff_ne.mpr c42
                                      by_cases c43 : 0 ≤ x17_5
                                      · rw [if_pos c43] at H
                                        have c43b0 : decide (0 ≤ x17_5) = true := decide_eq_true c43
                                        clear c43
                                        by_cases c44 : x17_5 < (x15_5.length : Int)
                                        · rw [if_pos c44] at H
                                          have c44b0 : decide (x17_5 < (x15_5.length : Int)) = true := decide_eq_true c44
                                          clear c44
                                          obtain ⟨y380, hy380⟩ : ∃ y_ : List Int, y_ = (x15_5.set (x17_5 : Int).toNat (IntKind.i16.wrap (wrap64 ((wrap64 (rd x15_5 x17_5)) + x19_27)))) := ⟨_, rfl⟩
                                          replace H : (spec_ChangeRow.l0 kj27 a3 a4 (wrap64 (x14_5 - x19_27)) y380 (wrap64 (x16_5 + 1)) (wrap64 (x17_5 + 1))) = some (r1, r2, r3) := by first | (rw [hy380]; with_reducible exact H) | (have H2_ := (Option.bind_some _ _).symm.trans H; rw [hy380]; with_reducible exact H2_) | (have H2_ := (Option.bind_some _ _).symm.trans H; with_reducible exact H2_) | with_reducible exact H | (rw [hy380]; exact H) | exact H
                                          have Ny380 := Aside0.mk hy380
                                          clear hy380
                                          have H' := Aside0.mk H
                                          clear H
                                          have p45 : 0 ≤ (x17_5 : Int) := of_decide_eq_true (by first | (with_reducible assumption) | assumption)
                                          have q45 : (x17_5 : Int) < ((x15_5.length : Int) : Int) := of_decide_eq_true (by first | (with_reducible assumption) | assumption)
                                          obtain ⟨go45, co45, eo45, gb45, gl45, cl45, HG45⟩ := Kd.R_form HO_15.out (by omega)
                                          (first | cases eo45 | (injection eo45 with ea_ en_ ec_; (first | subst ea_ | (injection ea_ with ea_; subst ea_)); subst ec_; clear en_))
                                          have GB45 := Aside0.mk gb45
                                          have GG45 := Aside0.mk HG45
                                          clear gb45 gl45 HG45
                                          obtain ⟨hx45_0, hf45_0⟩ := Kd.R_celln 0 HO_15.out (x17_5 : Int) p45 q45
                                          replace p45 := eq_true p45
                                          replace q45 := eq_true q45
                                          have HP46 := Kd.R_putg HO_15.out (x17_5 : Int) (IntKind.i16.wrap (wrap64 ((wrap64 (rd x15_5 x17_5)) + x19_27)))
                                          go_wp2_with (first | ((with_reducible refine gate_store (t := 48) (p := 97) rfl ?_); refine store_event (t := 48) (p := 97) (v := ?vo_w47) (w1 := (wc.setCell ⟨go45, (x17_5 : Int).toNat, none⟩ (.int .i16 (IntKind.i16.wrap (wrap64 ((wrap64 (rd x15_5 x17_5)) + x19_27)))))) ?hg ?ho ?hn ?hr ?_; (case ho => rfl); (case hg => rfl); (case hn => rfl); (case hr => first | (go_simp; done) | (go_simp; rfl)); intro w47 hw; have hg : wc.grownBy w47 (some go45) := (by rw [hw]; exact HP46.2); have hp_ : Kd.R (Kd.int .i16) 48 w47 w.heap.size (fun _ => True) (.slice (some ⟨go45, 0, none⟩) x15_5.length co29) y380 := (by rw [hw, Ny380.out]; exact HP46.1); clear HP46; have n0_ := Aside0.mk (hp_); have n1_ := Aside0.mk ((by rw [hw]; exact below_set (HB.out) GB45.out : Below w.heap.size w w47)); clear HO_15; clear HB; have HO_15 := n0_; have HB := n1_; clear n0_ n1_; clear hg hw hp_))
                                          go_roundg kj27
                                          case measure => have := HJ6.out; have := HJ13.out; have := HJ15.out; have := HJ17.out; have := HK5.out; have := HJ27.out; omega
                                          case rel => exact ⟨(wrap64 (x14_5 - x19_27)), (y380), (wrap64 (x16_5 + 1)), (wrap64 (x17_5 + 1)), (by first | rfl | (simp; done) | (simp [*]; done)), (by first | rfl | (simp; done) | (simp [*]; done)), (by first | rfl | (simp; done) | (simp [*]; done)), H', ⟨by have := HJ6.out; have := HJ13.out; have := HJ15.out; have := HJ17.out; have := HK5.out; have := HJ27.out; omega⟩, ⟨by (with_reducible repeat (first | apply Kd.R_alloc | apply Kd.R_drewN | apply Kd.R_drew)); exact HO_15.out⟩, ⟨by repeat (first | (with_reducible first | exact HB.out | apply below_alloc | apply pw_below_drewN | apply below_drew1) | exact HB.out)⟩⟩
                                        · rw [if_neg c44] at H
                                          exact absurd H (by simp)
                                      · rw [if_neg c43] at H
                                        exact absurd H (by simp)
                            · rw [if_neg c27] at H
                              exact absurd H (by simp)
                          · rw [if_neg c26] at H
                            have c26b0 : decide (x17_5 < (x15_5.length : Int)) = false := decide_eq_false c26
                            clear c26
                            by_cases c48 : x14_5 = 0
                            · rw [if_pos c48] at H
                              have c48b0 : (x14_5 == 0) = true := beq_iff_eq.mpr c48
                              have c48b1 : (x14_5 != 0) = false := bne_eq_false_iff_eq.mpr c48
                              clear c48
                              simp only [Option.some.injEq, Prod.mk.injEq] at H
                              obtain ⟨rfl, rfl, rfl⟩ := H
                              obtain ⟨Ao49, co49, eo49⟩ := Kd.R_slice HO_15.out
                              subst eo49
                              go_wp2
                              go_ret3
                              exact ⟨_, by first | rfl | (simp [errW_none, errW_some] <;> rfl) | (simp [*, errW_none, errW_some] <;> rfl), by (with_reducible repeat (first | apply Kd.R_alloc | apply Kd.R_drewN | apply Kd.R_drew)); exact HO_15.out, by repeat (first | (with_reducible first | exact HB.out | apply below_alloc | apply pw_below_drewN | apply below_drew1) | exact HB.out)⟩
                            · rw [if_neg c48] at H
                              have c48b0 : (x14_5 == 0) = false := beq_eq_false_iff_ne.mpr c48
                              have c48b1 : (x14_5 != 0) = true := bne_iff_ne.mpr c48
                              obtain ⟨y371, hy371⟩ : ∃ y_ : List Int, y_ = (([] : List Int)) := ⟨_, rfl⟩
                              replace H : (some (y371, 0, 6)) = some (r1, r2, r3) := by first | (rw [hy371]; with_reducible exact H) | (have H2_ := (Option.bind_some _ _).symm.trans H; rw [hy371]; with_reducible exact H2_) | (have H2_ := (Option.bind_some _ _).symm.trans H; with_reducible exact H2_) | with_reducible exact H | (rw [hy371]; exact H) | exact H
                              have Ny371 := Aside0.mk hy371
                              clear hy371
                              simp only [Option.some.injEq, Prod.mk.injEq] at H
                              obtain ⟨rfl, rfl, rfl⟩ := H
                              obtain ⟨Ao50, co50, eo50⟩ := Kd.R_slice HO_15.out
                              subst eo50
                              go_wp2_with (first | ((with_reducible refine gate_dst (N := 105) rfl ?_); refine Kd.R_lit (Kd.int .i16) _ 48 ?hg (N := 105) ?hd (xs := ([] : List Int)) (inner := []) (ok := fun _ => True) (okp := fun _ => True) ?hr ?hp (fun _ hk => hk) trivial (Below.refl _ _) (Nat.le_refl _) (by simp) ?_; (case hd => rfl); (case hg => rfl); (case hr => first | (go_simp; done) | (go_simp; rfl)); (case hp => exact (Reps.none _ _)); intro v372 w51 ho52 hb hg_ hnew_; clear hg_ hnew_; (first | rw [← Ny371.out] at ho52 | (simp only [Int.reduceToNat] at ho52; rw [← Ny371.out] at ho52)); have n0_ := Aside0.mk (Kd.R_elder' (by (with_reducible repeat (first | apply Kd.R_alloc | apply Kd.R_drewN | apply Kd.R_drew)); exact HO_15.out) (Kd.R_base ho52) hb); have n1_ := Aside0.mk (Kd.R_lower (Kd.R_new' ho52 (Kd.R_lt (by (with_reducible repeat (first | apply Kd.R_alloc | apply Kd.R_drewN | apply Kd.R_drew)); exact HO_15.out))) (below_size (by repeat (first | (with_reducible first | exact HB.out | apply below_alloc | apply pw_below_drewN | apply below_drew1) | exact HB.out)))); have n2_ := Aside0.mk (below_step (by repeat (first | (with_reducible first | exact HB.out | apply below_alloc | apply pw_below_drewN | apply below_drew1) | exact HB.out)) hb); clear HO_15; clear HB; have HO_15 := n0_; have HO373 := n1_; have HB := n2_; clear n0_ n1_ n2_; clear hb ho52))
                              go_ret3
                              exact ⟨_, by first | rfl | (simp [errW_none, errW_some] <;> rfl) | (simp [*, errW_none, errW_some] <;> rfl), by (with_reducible repeat (first | apply Kd.R_alloc | apply Kd.R_drewN | apply Kd.R_drew)); exact Kd.R_mono HO373.out (fun _ hk => trivial), by repeat (first | (with_reducible first | exact HB.out | apply below_alloc | apply pw_below_drewN | apply below_drew1) | exact HB.out)⟩
                    · rw [if_neg c22] at H
                      exact absurd H (by simp)
                  · rw [if_neg c20] at H
                    have c20b0 : (x13_17 == 0) = false := beq_eq_false_iff_ne.mpr c20
                    have c20b1 : (x13_17 != 0) = true := bne_iff_ne.mpr c20
                    obtain ⟨y361, hy361⟩ : ∃ y_ : List Int, y_ = (([] : List Int)) := ⟨_, rfl⟩
                    replace H : (some (y361, 0, x13_17)) = some (r1, r2, r3) := by first | (rw [hy361]; with_reducible exact H) | (have H2_ := (Option.bind_some _ _).symm.trans H; rw [hy361]; with_reducible exact H2_) | (have H2_ := (Option.bind_some _ _).symm.trans H; with_reducible exact H2_) | with_reducible exact H | (rw [hy361]; exact H) | exact H
                    have Ny361 := Aside0.mk hy361
                    clear hy361
                    simp only [Option.some.injEq, Prod.mk.injEq] at H
                    obtain ⟨rfl, rfl, rfl⟩ := H
                    go_wp2_with (first | ((with_reducible refine gate_dst (N := 50) rfl ?_); refine Kd.R_lit (Kd.int .i16) _ 48 ?hg (N := 50) ?hd (xs := ([] : List Int)) (inner := []) (ok := fun _ => True) (okp := fun _ => True) ?hr ?hp (fun _ hk => hk) trivial (Below.refl _ _) (Nat.le_refl _) (by simp) ?_; (case hd => rfl); (case hg => rfl); (case hr => first | (go_simp; done) | (go_simp; rfl)); (case hp => exact (Reps.none _ _)); intro v362 w53 ho54 hb hg_ hnew_; clear hg_ hnew_; (first | rw [← Ny361.out] at ho54 | (simp only [Int.reduceToNat] at ho54; rw [← Ny361.out] at ho54)); have n0_ := Aside0.mk (Kd.R_lower ho54 (below_size (by repeat (first | (with_reducible first | exact HB.out | apply below_alloc | apply pw_below_drewN | apply below_drew1) | exact HB.out)))); have n1_ := Aside0.mk (below_step (by repeat (first | (with_reducible first | exact HB.out | apply below_alloc | apply pw_below_drewN | apply below_drew1) | exact HB.out)) hb); clear HB; have HO363 := n0_; have HB := n1_; clear n0_ n1_; clear hb ho54))
                    go_ret3
                    exact ⟨_, by first | rfl | (simp [errW_none, errW_some] <;> rfl) | (simp [*, errW_none, errW_some] <;> rfl), by (with_reducible repeat (first | apply Kd.R_alloc | apply Kd.R_drewN | apply Kd.R_drew)); exact HO363.out, by repeat (first | (with_reducible first | exact HB.out | apply below_alloc | apply pw_below_drewN | apply below_drew1) | exact HB.out)⟩

end Go.Proofs.Ytjkjelfhdhcplaa.PA
