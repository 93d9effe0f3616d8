/- Written by a program of this session out of the translation: pure functions, and that Go's functions come to them. -/
import Derived.Test.YtedbgfjllladkaaPAx0
import Derived.Test.YtedbgfjllladkaaPAxf56
namespace Go.Proofs.Ytedbgfjllladkaa.PA
open Go.RowKit Go.Proofs.YtedbgfjllladkaaW.PrintWords Go.Proofs.YtedbgfjllladkaaW.PrintLast Go.Proofs.YtedbgfjllladkaaW.PrintMore
attribute [local go_sem] max2_int min2_int max_two min_two max_three min_three max_four min_four   -- for this text's walks alone
set_option linter.unusedVariables false
set_option linter.unusedSimpArgs false

/-! ### spec_CutLength: function 26 -/
def spec_CutLength.l0 : Nat → List (S75) → List (S79) → Int → Int → Option (Int × Int)
 | 0, _, _, _, _ => none
 | k + 1, x3, x10, x12, x13 => if x13 < (x3.length : Int) then (if 0 ≤ x13 then (if ((rd_T75 x3 x13).f0) = 2 then (if x13 < (x10.length : Int) then (spec_CutLength.l0 k x3 x10 (wrap64 (x12 + ((rd_T79 x10 x13).f1))) (wrap64 (x13 + 1))) else (none)) else (if ((rd_T75 x3 x13).f0) = 3 then (if x13 < (x10.length : Int) then (spec_CutLength.l0 k x3 x10 (wrap64 (x12 + ((rd_T79 x10 x13).f0))) (wrap64 (x13 + 1))) else (none)) else (spec_CutLength.l0 k x3 x10 x12 (wrap64 (x13 + 1))))) else (none)) else (some (x12, 0))
def spec_CutLength.f (k : Nat) (a0 : Int) (a1 : Int) (l2 : List (S57)) (l3 : List (S75)) : Option (Int × Int) := (spec_l04Sizes.f k a0 a1 l2 l3).bind fun bt337 => (if bt337.2 = true then (spec_CutLength.l0 k l3 bt337.1 0 0) else (some (0, 1)))
theorem spec_CutLength.mono_l : ∀ k, (∀ y0 y1 y2 y3, LeO (spec_CutLength.l0 k y0 y1 y2 y3) (spec_CutLength.l0 (k + 1) y0 y1 y2 y3))
 | 0 => fun _ _ _ _ r h => by simp [spec_CutLength.l0] at h
 | k + 1 => by
  have ih0 := spec_CutLength.mono_l k
  ·
   intro y0 y1 y2 y3
   unfold spec_CutLength.l0
   repeat' first
   | (with_reducible exact ih0 _ _ _ _)
   | (with_reducible exact spec_l04Sizes.mono _ _ _ _ _)
   | (with_reducible exact LeO.refl _)
   | (with_reducible exact LeO.none _)
   | (with_reducible refine LeO.ite ?_ ?_)
   | (with_reducible refine LeO.bind ?_ (fun _ => ?_))
   | exact ih0 _ _ _ _
   | exact spec_l04Sizes.mono _ _ _ _ _
   | exact LeO.none _
   | refine LeO.ite ?_ ?_
   | refine LeO.bind ?_ (fun _ => ?_)
theorem spec_CutLength.mono : ∀ a0 a1 a2 a3 k, LeO (spec_CutLength.f k a0 a1 a2 a3) (spec_CutLength.f (k + 1) a0 a1 a2 a3) := by
 intro a0 a1 a2 a3 k
 have ih0 := spec_CutLength.mono_l k
 unfold spec_CutLength.f
 repeat' first
   | (with_reducible exact ih0 _ _ _ _)
   | (with_reducible exact spec_l04Sizes.mono _ _ _ _ _)
   | (with_reducible exact LeO.refl _)
   | (with_reducible exact LeO.none _)
   | (with_reducible refine LeO.ite ?_ ?_)
   | (with_reducible refine LeO.bind ?_ (fun _ => ?_))
   | exact ih0 _ _ _ _
   | exact spec_l04Sizes.mono _ _ _ _ _
   | exact LeO.none _
   | refine LeO.ite ?_ ?_
   | refine LeO.bind ?_ (fun _ => ?_)
set_option maxHeartbeats 8000000 in
set_option maxRecDepth 100000 in
theorem spec_CutLength.calls (k : Nat) (a0 : Int) (a1 : Int) (A2 : Option Addr) (c2 : Nat) (l2 : List (S57)) (A3 : Option Addr) (c3 : Nat) (l3 : List (S75)) (r1 : Int) (r2 : Int) (w : World) (hr2 : Kd.C k57 w A2 l2.length l2) (hc2 : l2.length ≤ c2) (hr3 : Kd.C k75 w A3 l3.length l3) (hc3 : l3.length ≤ c3) (h : spec_CutLength.f k a0 a1 l2 l3 = some (r1, r2)) :
  Calls Try.prog 26 #[.int .i64 a0, .int .i64 a1, .slice A2 l2.length c2, .slice A3 l3.length c3] w fun e w' => e = .returned (.tuple #[.int .i64 r1, .int .i64 r2]) ∧ Below w.heap.size w w' := by
 have HR2 := Aside0.mk hr2
 have HC2 := Aside0.mk hc2
 clear hr2 hc2
 have HR3 := Aside0.mk hr3
 have HC3 := Aside0.mk hc3
 clear hr3 hc3
 have HB := Aside0.mk (Below.refl w.heap.size w)
 have H : ((spec_l04Sizes.f k a0 a1 l2 l3).bind fun bt337 => (if bt337.2 = true then (spec_CutLength.l0 k l3 bt337.1 0 0) else (some (0, 1)))) = some (r1, r2) := h
 clear h
 replace H := Option.bind_eq_some_iff.mp H
 obtain ⟨⟨t337, t338⟩, A50, H⟩ := H
 replace H : (if t338 = true then (spec_CutLength.l0 k l3 t337 0 0) else (some (0, 1))) = some (r1, r2) := H
 have A5 := Aside0.mk A50
 clear A50
 by_cases c6 : t338 = true
 ·
  subst c6
  have H1 : (spec_CutLength.l0 k l3 t337 0 0) = some (r1, r2) := by rw [if_pos rfl] at H; exact H
  clear H
  have H := H1
  clear H1
  have H' := Aside0.mk H
  clear H
  go_enter Try.func26, Try.ntmps26
  go_wp2_with (first | ((with_reducible refine gate_callee (f := 56) rfl ?_); refine goesL_ (some 19) rfl rfl Try.func56 (by kernel_rfl) rfl #[.int .i64 a0, .int .i64 a1, .slice A2 l2.length c2, .slice A3 l3.length c3] rfl (by (try simp only [List.map_toArray, List.map_cons, List.map_nil]); first | done | rfl | (simp only [List.length_drop, List.length_take]; rfl)) ?_; (with_reducible refine (spec_l04Sizes.calls k a0 a1 _ _ l2 _ _ l3 t337 true _ ?side1 ?side2 ?side3 ?side4 A5.out).mono ?_); (case side1 => repeat (first | exact HR2.out | (with_reducible refine Kd.C_alloc ?_ _) | (with_reducible refine Kd.C_drewN ?_ _) | (with_reducible refine Kd.C_drew ?_))); (case side2 => exact HC2.out); (case side3 => repeat (first | exact HR3.out | (with_reducible refine Kd.C_alloc ?_ _) | (with_reducible refine Kd.C_drewN ?_ _) | (with_reducible refine Kd.C_drew ?_))); (case side4 => exact HC3.out); rintro e w7 ⟨v339, rfl, ho0, hb⟩; refine ⟨_, rfl, ?_⟩; have n0_ := Aside0.mk (Kd.R_lower ho0 (below_size (kB_ HB))); have n1_ := Aside0.mk (below_step (kB_ HB) hb); clear HB; have HO340 := n0_; have HB := n1_; clear n0_ n1_; (try clear hb); (try clear hb2); (try clear hk); (try clear hi); (try clear ho0)))
  go_loopg [12, 13] k (fun kq v12 v13 w' => ∃ (x12_1 : Int) (x13_1 : Int), v12 = .int .i64 x12_1 ∧ v13 = .int .i64 x13_1 ∧ Aside0 (spec_CutLength.l0 kq l3 t337 x12_1 x13_1 = some (r1, r2)) ∧ Aside0 (kq ≤ k) ∧ Aside0 (Kd.R k79 79 w' w.heap.size (fun _ => True) v339 t337) ∧ Aside0 (Below w.heap.size w w'))
  case atStart => exact ⟨(0), (0), (by first | rfl | (simp; done) | (simp [*]; done)), (by first | rfl | (simp; done) | (simp [*]; done)), H', ⟨Nat.le_refl _⟩, ⟨kp_ HO340⟩, ⟨kB_ HB⟩⟩
  case round =>
   clear H'
   try clear c2
   try clear p2
   try clear c3
   try clear c5
   try clear c6
   obtain ⟨x12_1, x13_1, rfl, rfl, HA, HK1, HO_10, HB⟩ := hrel
   cases gk with
   | zero => exact absurd HA.out (by simp [spec_CutLength.l0])
   | succ k1 =>
    have H := HA.out
    clear HA
    simp only [spec_CutLength.l0] at H
    by_cases c8 : x13_1 < (l3.length : Int)
    ·
     rw [if_pos c8] at H
     have c8b0 : decide (x13_1 < (l3.length : Int)) = true := decide_eq_true c8
     clear c8
     by_cases c9 : 0 ≤ x13_1
     ·
      rw [if_pos c9] at H
      have c9b0 : decide (0 ≤ x13_1) = true := decide_eq_true c9
      clear c9
      by_cases c10 : ((rd_T75 l3 x13_1).f0) = 2
      ·
       rw [if_pos c10] at H
       have c10b0 : (((rd_T75 l3 x13_1).f0) == 2) = true := beq_iff_eq.mpr c10
       have c10b1 : (((rd_T75 l3 x13_1).f0) != 2) = false := bne_eq_false_iff_eq.mpr c10
       clear c10
       by_cases c11 : x13_1 < (t337.length : Int)
       ·
        rw [if_pos c11] at H
        have c11b0 : decide (x13_1 < (t337.length : Int)) = true := decide_eq_true c11
        clear c11
        have H' := Aside0.mk H
        clear H
        have p341 : 0 ≤ (x13_1 : Int) := od_
        have q341 : x13_1 < (l3.length : Int) := od_
        obtain ⟨ad341, e341, hx341_0, hx341_1, hx341_2, hx341_3⟩ := at_T75 HR3.out x13_1 p341 q341
        cases e341
        replace hx341_0 := (HB.out.cell (World.block_lt_of_cell? w _ hx341_0)).trans hx341_0
        replace hx341_1 := (HB.out.cell (World.block_lt_of_cell? w _ hx341_1)).trans hx341_1
        replace hx341_2 := (HB.out.cell (World.block_lt_of_cell? w _ hx341_2)).trans hx341_2
        replace hx341_3 := (HB.out.cell (World.block_lt_of_cell? w _ hx341_3)).trans hx341_3
        replace p341 := eq_true p341
        replace q341 := eq_true q341
        obtain ⟨Ao12, co12, eo12⟩ := Kd.R_slice HO_10.out
        subst eo12
        have p342 : 0 ≤ (x13_1 : Int) := od_
        have q342 : x13_1 < (t337.length : Int) := od_
        obtain ⟨ad342, e342, hx342_0, hx342_1⟩ := at_T79 (Kd.R_reads' HO_10.out).2.2 x13_1 p342 q342
        cases e342
        replace p342 := eq_true p342
        replace q342 := eq_true q342
        go_wp2
        go_roundg k1
        case measure => have := HK1.out; omega
        case rel => exact ⟨(wrap64 (x12_1 + ((rd_T79 t337 x13_1).f1))), (wrap64 (x13_1 + 1)), (by first | rfl | (simp; done) | (simp [*]; done)), (by first | rfl | (simp; done) | (simp [*]; done)), H', ⟨by have := HK1.out; omega⟩, ⟨kp_ HO_10⟩, ⟨kB_ HB⟩⟩
       ·
        rw [if_neg c11] at H
        exact absurd H (by simp)
      ·
       rw [if_neg c10] at H
       have c10b0 : (((rd_T75 l3 x13_1).f0) == 2) = false := beq_eq_false_iff_ne.mpr c10
       have c10b1 : (((rd_T75 l3 x13_1).f0) != 2) = true := bne_iff_ne.mpr c10
       by_cases c13 : ((rd_T75 l3 x13_1).f0) = 3
       ·
        rw [if_pos c13] at H
        have c13b0 : (((rd_T75 l3 x13_1).f0) == 3) = true := beq_iff_eq.mpr c13
        have c13b1 : (((rd_T75 l3 x13_1).f0) != 3) = false := bne_eq_false_iff_eq.mpr c13
        clear c13
        by_cases c14 : x13_1 < (t337.length : Int)
        ·
         rw [if_pos c14] at H
         have c14b0 : decide (x13_1 < (t337.length : Int)) = true := decide_eq_true c14
         clear c14
         have H' := Aside0.mk H
         clear H
         have p341 : 0 ≤ (x13_1 : Int) := od_
         have q341 : x13_1 < (l3.length : Int) := od_
         obtain ⟨ad341, e341, hx341_0, hx341_1, hx341_2, hx341_3⟩ := at_T75 HR3.out x13_1 p341 q341
         cases e341
         replace hx341_0 := (HB.out.cell (World.block_lt_of_cell? w _ hx341_0)).trans hx341_0
         replace hx341_1 := (HB.out.cell (World.block_lt_of_cell? w _ hx341_1)).trans hx341_1
         replace hx341_2 := (HB.out.cell (World.block_lt_of_cell? w _ hx341_2)).trans hx341_2
         replace hx341_3 := (HB.out.cell (World.block_lt_of_cell? w _ hx341_3)).trans hx341_3
         replace p341 := eq_true p341
         replace q341 := eq_true q341
         obtain ⟨Ao15, co15, eo15⟩ := Kd.R_slice HO_10.out
         subst eo15
         have p343 : 0 ≤ (x13_1 : Int) := od_
         have q343 : x13_1 < (t337.length : Int) := od_
         obtain ⟨ad343, e343, hx343_0, hx343_1⟩ := at_T79 (Kd.R_reads' HO_10.out).2.2 x13_1 p343 q343
         cases e343
         replace p343 := eq_true p343
         replace q343 := eq_true q343
         go_wp2
         go_roundg k1
         case measure => have := HK1.out; omega
         case rel => exact ⟨(wrap64 (x12_1 + ((rd_T79 t337 x13_1).f0))), (wrap64 (x13_1 + 1)), (by first | rfl | (simp; done) | (simp [*]; done)), (by first | rfl | (simp; done) | (simp [*]; done)), H', ⟨by have := HK1.out; omega⟩, ⟨kp_ HO_10⟩, ⟨kB_ HB⟩⟩
        ·
         rw [if_neg c14] at H
         exact absurd H (by simp)
       ·
        rw [if_neg c13] at H
        have c13b0 : (((rd_T75 l3 x13_1).f0) == 3) = false := beq_eq_false_iff_ne.mpr c13
        have c13b1 : (((rd_T75 l3 x13_1).f0) != 3) = true := bne_iff_ne.mpr c13
        have H' := Aside0.mk H
        clear H
        have p341 : 0 ≤ (x13_1 : Int) := od_
        have q341 : x13_1 < (l3.length : Int) := od_
        obtain ⟨ad341, e341, hx341_0, hx341_1, hx341_2, hx341_3⟩ := at_T75 HR3.out x13_1 p341 q341
        cases e341
        replace hx341_0 := (HB.out.cell (World.block_lt_of_cell? w _ hx341_0)).trans hx341_0
        replace hx341_1 := (HB.out.cell (World.block_lt_of_cell? w _ hx341_1)).trans hx341_1
        replace hx341_2 := (HB.out.cell (World.block_lt_of_cell? w _ hx341_2)).trans hx341_2
        replace hx341_3 := (HB.out.cell (World.block_lt_of_cell? w _ hx341_3)).trans hx341_3
        replace p341 := eq_true p341
        replace q341 := eq_true q341
        go_wp2
        go_roundg k1
        case measure => have := HK1.out; omega
        case rel => exact ⟨(x12_1), (wrap64 (x13_1 + 1)), (by first | rfl | (simp; done) | (simp [*]; done)), (by first | rfl | (simp; done) | (simp [*]; done)), H', ⟨by have := HK1.out; omega⟩, ⟨kp_ HO_10⟩, ⟨kB_ HB⟩⟩
     ·
      rw [if_neg c9] at H
      exact absurd H (by simp)
    ·
     rw [if_neg c8] at H
     have c8b0 : decide (x13_1 < (l3.length : Int)) = false := decide_eq_false c8
     clear c8
     simp only [Option.some.injEq, Prod.mk.injEq] at H
     obtain ⟨rfl, rfl⟩ := H
     go_wp2
     go_ret2
     exact ⟨by first | rfl | (simp [errW_none, errW_some] <;> rfl) | (simp [*, errW_none, errW_some] <;> rfl), kB_ HB⟩
 ·
  replace c6 := Bool.eq_false_iff.mpr c6
  subst c6
  have H1 : (some (0, 1)) = some (r1, r2) := by rw [if_neg (show ¬ (false = true) by decide)] at H; exact H
  clear H
  have H := H1
  clear H1
  simp only [Option.some.injEq, Prod.mk.injEq] at H
  obtain ⟨rfl, rfl⟩ := H
  go_enter Try.func26, Try.ntmps26
  go_wp2_with (first | ((with_reducible refine gate_callee (f := 56) rfl ?_); refine goesL_ (some 19) rfl rfl Try.func56 (by kernel_rfl) rfl #[.int .i64 a0, .int .i64 a1, .slice A2 l2.length c2, .slice A3 l3.length c3] rfl (by (try simp only [List.map_toArray, List.map_cons, List.map_nil]); first | done | rfl | (simp only [List.length_drop, List.length_take]; rfl)) ?_; (with_reducible refine (spec_l04Sizes.calls k a0 a1 _ _ l2 _ _ l3 t337 false _ ?side1 ?side2 ?side3 ?side4 A5.out).mono ?_); (case side1 => repeat (first | exact HR2.out | (with_reducible refine Kd.C_alloc ?_ _) | (with_reducible refine Kd.C_drewN ?_ _) | (with_reducible refine Kd.C_drew ?_))); (case side2 => exact HC2.out); (case side3 => repeat (first | exact HR3.out | (with_reducible refine Kd.C_alloc ?_ _) | (with_reducible refine Kd.C_drewN ?_ _) | (with_reducible refine Kd.C_drew ?_))); (case side4 => exact HC3.out); rintro e w16 ⟨v339, rfl, ho0, hb⟩; refine ⟨_, rfl, ?_⟩; have n0_ := Aside0.mk (Kd.R_lower ho0 (below_size (kB_ HB))); have n1_ := Aside0.mk (below_step (kB_ HB) hb); clear HB; have HO340 := n0_; have HB := n1_; clear n0_ n1_; (try clear hb); (try clear hb2); (try clear hk); (try clear hi); (try clear ho0)))
  go_ret2
  exact ⟨by first | rfl | (simp [errW_none, errW_some] <;> rfl) | (simp [*, errW_none, errW_some] <;> rfl), kB_ HB⟩

end Go.Proofs.Ytedbgfjllladkaa.PA
