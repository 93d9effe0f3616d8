/- Written by a program of this session out of the translation: pure functions, and that Go's functions come to them. -/
import Derived.Test.YtdklfcanifmnpaaPAx0
import Derived.Test.YtdklfcanifmnpaaPAxgImpl
namespace Go.Proofs.Ytdklfcanifmnpaa.PA
open Go.RowKit Go.Proofs.YtdklfcanifmnpaaW.PrintWords Go.Proofs.YtdklfcanifmnpaaW.PrintLast Go.Proofs.YtdklfcanifmnpaaW.PrintMore
attribute [local go_sem] max2_int min2_int max_two min_two max_three min_three max_four min_four   -- for this text's walks alone
set_option linter.unusedVariables false
set_option linter.unusedSimpArgs false

/-! ### impl_MoveStone: function 30 -/
mutual
def impl_MoveStone.j0 : Nat → List (S56) → Int → Int → Int → Option ((List (S56)) × Int)
  | 0, _, _, _, _ => none
  | k + 1, x0, x1, x2, x8 => if x8 = 0 then (impl_MoveStone.l0 k x1 x2 (([] : List (S56))) x0 (x0.length : Int) 0) else (some (([] : List (S56)), x8))
def impl_MoveStone.l0 : Nat → Int → Int → List (S56) → List (S56) → Int → Int → Option ((List (S56)) × Int)
  | 0, _, _, _, _, _, _ => none
  | k + 1, x1, x2, x9, x25, x26, x27 => if x27 < x26 then (if 0 ≤ x27 then (if x27 < (x25.length : Int) then ((impl_isPlaced.f (IntKind.i16.wrap (((rd_T56 x25 x27).f0) + (IntKind.i16.wrap (x1)))) (IntKind.i16.wrap (((rd_T56 x25 x27).f1) + (IntKind.i16.wrap (x2))))).bind fun t415 => (if t415 = true then (if x9.length < 35184372088832 then (impl_MoveStone.l0 k x1 x2 (x9 ++ [(⟨IntKind.i16.wrap (((rd_T56 x25 x27).f0) + (IntKind.i16.wrap (x1))), IntKind.i16.wrap (((rd_T56 x25 x27).f1) + (IntKind.i16.wrap (x2)))⟩ : S56)]) x25 x26 (wrap64 (x27 + 1))) else (none)) else (some (([] : List (S56)), 3)))) else (none)) else (none)) else (some (x9, 0))
end
def impl_MoveStone.f (k : Nat) (l0 : List (S56)) (a1 : Int) (a2 : Int) : Option ((List (S56)) × Int) := (impl_ValidStone.f k l0).bind fun t405 => ((impl_within.f a1 (-1000) 1000).bind fun t406 => (if t406 = true then ((impl_within.f a2 (-1000) 1000).bind fun t407 => ((impl_codeOf.f t405 t407).bind fun t408 => (impl_MoveStone.j0 k l0 a1 a2 t408))) else ((impl_codeOf.f t405 false).bind fun t409 => (impl_MoveStone.j0 k l0 a1 a2 t409))))
theorem impl_MoveStone.mono_l : ∀ k, (∀ y0 y1 y2 y3, LeO (impl_MoveStone.j0 k y0 y1 y2 y3) (impl_MoveStone.j0 (k + 1) y0 y1 y2 y3)) ∧ (∀ y0 y1 y2 y3 y4 y5, LeO (impl_MoveStone.l0 k y0 y1 y2 y3 y4 y5) (impl_MoveStone.l0 (k + 1) y0 y1 y2 y3 y4 y5))
  | 0 => ⟨fun _ _ _ _ r h => by simp [impl_MoveStone.j0] at h, fun _ _ _ _ _ _ r h => by simp [impl_MoveStone.l0] at h⟩
  | k + 1 => by
    obtain ⟨ih0, ih1⟩ := impl_MoveStone.mono_l k
    refine ⟨?_, ?_⟩
    · intro y0 y1 y2 y3
      unfold impl_MoveStone.j0
      repeat' first
      | (with_reducible exact ih0 _ _ _ _)
      | (with_reducible exact ih1 _ _ _ _ _ _)
      | (with_reducible exact impl_ValidStone.mono _ _)
      | (with_reducible exact LeO.refl _)
      | (with_reducible exact LeO.none _)
      | (with_reducible refine LeO.ite ?_ ?_)
      | (with_reducible refine LeO.bind ?_ (fun _ => ?_))
      | exact ih0 _ _ _ _
      | exact ih1 _ _ _ _ _ _
      | exact impl_ValidStone.mono _ _
      | exact LeO.none _
      | refine LeO.ite ?_ ?_
      | refine LeO.bind ?_ (fun _ => ?_)
    · intro y0 y1 y2 y3 y4 y5
      unfold impl_MoveStone.l0
      repeat' first
      | (with_reducible exact ih0 _ _ _ _)
      | (with_reducible exact ih1 _ _ _ _ _ _)
      | (with_reducible exact impl_ValidStone.mono _ _)
      | (with_reducible exact LeO.refl _)
      | (with_reducible exact LeO.none _)
      | (with_reducible refine LeO.ite ?_ ?_)
      | (with_reducible refine LeO.bind ?_ (fun _ => ?_))
      | exact ih0 _ _ _ _
      | exact ih1 _ _ _ _ _ _
      | exact impl_ValidStone.mono _ _
      | exact LeO.none _
      | refine LeO.ite ?_ ?_
      | refine LeO.bind ?_ (fun _ => ?_)
theorem impl_MoveStone.mono : ∀ a0 a1 a2 k, LeO (impl_MoveStone.f k a0 a1 a2) (impl_MoveStone.f (k + 1) a0 a1 a2) := by
  intro a0 a1 a2 k
  obtain ⟨ih0, ih1⟩ := impl_MoveStone.mono_l k
  unfold impl_MoveStone.f
  repeat' first
      | (with_reducible exact ih0 _ _ _ _)
      | (with_reducible exact ih1 _ _ _ _ _ _)
      | (with_reducible exact impl_ValidStone.mono _ _)
      | (with_reducible exact LeO.refl _)
      | (with_reducible exact LeO.none _)
      | (with_reducible refine LeO.ite ?_ ?_)
      | (with_reducible refine LeO.bind ?_ (fun _ => ?_))
      | exact ih0 _ _ _ _
      | exact ih1 _ _ _ _ _ _
      | exact impl_ValidStone.mono _ _
      | exact LeO.none _
      | refine LeO.ite ?_ ?_
      | refine LeO.bind ?_ (fun _ => ?_)
set_option maxHeartbeats 8000000 in
set_option maxRecDepth 100000 in
theorem impl_MoveStone.calls (k : Nat) (A0 : Option Addr) (c0 : Nat) (l0 : List (S56)) (a1 : Int) (a2 : Int) (r1 : List (S56)) (r2 : Int) (w : World) (hr0 : Kd.C k56 w A0 l0.length l0) (hc0 : l0.length ≤ c0) (h : impl_MoveStone.f k l0 a1 a2 = some (r1, r2)) :
    Calls Try.prog 30 #[.slice A0 l0.length c0, .int .i64 a1, .int .i64 a2] w fun e w' => ∃ v0_ : Value, e = .returned (.tuple #[v0_, .int .i64 r2]) ∧ Kd.R k56 56 w' w.heap.size (fun _ => True) v0_ r1 ∧ Below w.heap.size w w' := by
  have hu56 := Try.underlying56
  have HR0 := Aside0.mk hr0
  have HC0 := Aside0.mk hc0
  clear hr0 hc0
  have HB := Aside0.mk (Below.refl w.heap.size w)
  have H : ((impl_ValidStone.f k l0).bind fun t405 => ((impl_within.f a1 (-1000) 1000).bind fun t406 => (if t406 = true then ((impl_within.f a2 (-1000) 1000).bind fun t407 => ((impl_codeOf.f t405 t407).bind fun t408 => (impl_MoveStone.j0 k l0 a1 a2 t408))) else ((impl_codeOf.f t405 false).bind fun t409 => (impl_MoveStone.j0 k l0 a1 a2 t409))))) = some (r1, r2) := h
  clear h
  have HC4 := Aside0.mk H
  clear H
  go_enter Try.func30, Try.ntmps30
  go_upto_region 1 with (fail)
  go_cut [8] (fun v8 wc => ∃ (kq : Nat) (x8_3 : Int), v8 = .int .i64 x8_3 ∧ Aside0 (impl_MoveStone.j0 kq l0 a1 a2 x8_3 = some (r1, r2)) ∧ Aside0 (kq ≤ k) ∧ Aside0 (Below w.heap.size w wc))
  case first =>
    have H := HC4.out
    clear HC4
    replace H := Option.bind_eq_some_iff.mp H
    obtain ⟨t405, A50, H⟩ := H
    replace H : ((impl_within.f a1 (-1000) 1000).bind fun t406 => (if t406 = true then ((impl_within.f a2 (-1000) 1000).bind fun t407 => ((impl_codeOf.f t405 t407).bind fun t408 => (impl_MoveStone.j0 k l0 a1 a2 t408))) else ((impl_codeOf.f t405 false).bind fun t409 => (impl_MoveStone.j0 k l0 a1 a2 t409)))) = some (r1, r2) := H
    have A5 := Aside0.mk A50
    clear A50
    replace H := Option.bind_eq_some_iff.mp H
    obtain ⟨t406, A60, H⟩ := H
    replace H : (if t406 = true then ((impl_within.f a2 (-1000) 1000).bind fun t407 => ((impl_codeOf.f t405 t407).bind fun t408 => (impl_MoveStone.j0 k l0 a1 a2 t408))) else ((impl_codeOf.f t405 false).bind fun t409 => (impl_MoveStone.j0 k l0 a1 a2 t409))) = some (r1, r2) := H
    have A6 := Aside0.mk A60
    clear A60
    by_cases c7 : t406 = true
    · subst c7
      have H1 : ((impl_within.f a2 (-1000) 1000).bind fun t407 => ((impl_codeOf.f t405 t407).bind fun t408 => (impl_MoveStone.j0 k l0 a1 a2 t408))) = some (r1, r2) := by rw [if_pos rfl] at H; exact H
      clear H
      have H := H1
      clear H1
      replace H := Option.bind_eq_some_iff.mp H
      obtain ⟨t407, A80, H⟩ := H
      replace H : ((impl_codeOf.f t405 t407).bind fun t408 => (impl_MoveStone.j0 k l0 a1 a2 t408)) = some (r1, r2) := H
      have A8 := Aside0.mk A80
      clear A80
      replace H := Option.bind_eq_some_iff.mp H
      obtain ⟨t408, A90, H⟩ := H
      replace H : (impl_MoveStone.j0 k l0 a1 a2 t408) = some (r1, r2) := H
      have A9 := Aside0.mk A90
      clear A90
      have H' := Aside0.mk H
      clear H
      go_wp2_with (first | ((with_reducible refine gate_callee (f := 42) rfl ?_); refine goesL_ (some 13) rfl rfl Try.func42 (by kernel_rfl) rfl #[.slice A0 l0.length c0] rfl (by (try simp only [List.map_toArray, List.map_cons, List.map_nil]); first | done | rfl | (simp only [List.length_drop, List.length_take]; rfl)) ?_; (with_reducible refine (impl_ValidStone.calls k _ _ l0 t405 _ ?side1 ?side2 A5.out).mono ?_); (case side1 => repeat (first | exact (Kd.C_below HR0.out HB.out) | (with_reducible refine Kd.C_alloc ?_ _) | (with_reducible refine Kd.C_drewN ?_ _) | (with_reducible refine Kd.C_drew ?_))); (case side2 => exact HC0.out); rintro e w10 ⟨rfl, hb⟩; refine ⟨_, rfl, ?_⟩; have n0_ := Aside0.mk (below_step (by repeat (first | (with_reducible first | exact HB.out | apply below_alloc | apply pw_below_drewN | apply below_drew1) | exact HB.out)) hb); clear HB; have HB := n0_; clear n0_; (try clear hb); (try clear hb2); (try clear hk); (try clear hi)) | ((with_reducible refine gate_callee (f := 50) rfl ?_); refine goesL_ (some 15) rfl rfl Try.func50 (by kernel_rfl) rfl #[.int .i64 a1, .int .i64 (-1000), .int .i64 1000] rfl (by (try simp only [List.map_toArray, List.map_cons, List.map_nil]); first | done | rfl | (simp only [List.length_drop, List.length_take]; rfl)) ?_; (with_reducible refine (impl_within.calls a1 (-1000) 1000 true _ A6.out).mono ?_); rintro e w' ⟨rfl, ⟨nd, rfl⟩⟩; refine ⟨_, rfl, ?_⟩) | (go_at_call 50; (with_reducible refine (impl_within.calls a2 (-1000) 1000 t407 _ A8.out).mono ?_); rintro e w' ⟨rfl, ⟨nd, rfl⟩⟩) | ((with_reducible refine gate_callee (f := 49) rfl ?_); refine goesL_ (some 20) rfl rfl Try.func49 (by kernel_rfl) rfl #[.bool t405, .bool t407] rfl (by (try simp only [List.map_toArray, List.map_cons, List.map_nil]); first | done | rfl | (simp only [List.length_drop, List.length_take]; rfl)) ?_; (with_reducible refine (impl_codeOf.calls t405 t407 t408 _ A9.out).mono ?_); rintro e w' ⟨rfl, ⟨nd, rfl⟩⟩; refine ⟨_, rfl, ?_⟩))
      go_meet
      case rel => exact ⟨_, (t408), (by first | rfl | (simp; done) | (simp [*]; done)), H', ⟨by first | omega | exact Nat.le_refl _⟩, ⟨by repeat (first | (with_reducible first | exact HB.out | apply below_alloc | apply pw_below_drewN | apply below_drew1) | exact HB.out)⟩⟩
    · replace c7 := Bool.eq_false_iff.mpr c7
      subst c7
      have H1 : ((impl_codeOf.f t405 false).bind fun t409 => (impl_MoveStone.j0 k l0 a1 a2 t409)) = some (r1, r2) := by rw [if_neg (show ¬ (false = true) by decide)] at H; exact H
      clear H
      have H := H1
      clear H1
      replace H := Option.bind_eq_some_iff.mp H
      obtain ⟨t409, A110, H⟩ := H
      replace H : (impl_MoveStone.j0 k l0 a1 a2 t409) = some (r1, r2) := H
      have A11 := Aside0.mk A110
      clear A110
      have H' := Aside0.mk H
      clear H
      go_wp2_with (first | ((with_reducible refine gate_callee (f := 42) rfl ?_); refine goesL_ (some 13) rfl rfl Try.func42 (by kernel_rfl) rfl #[.slice A0 l0.length c0] rfl (by (try simp only [List.map_toArray, List.map_cons, List.map_nil]); first | done | rfl | (simp only [List.length_drop, List.length_take]; rfl)) ?_; (with_reducible refine (impl_ValidStone.calls k _ _ l0 t405 _ ?side1 ?side2 A5.out).mono ?_); (case side1 => repeat (first | exact (Kd.C_below HR0.out HB.out) | (with_reducible refine Kd.C_alloc ?_ _) | (with_reducible refine Kd.C_drewN ?_ _) | (with_reducible refine Kd.C_drew ?_))); (case side2 => exact HC0.out); rintro e w12 ⟨rfl, hb⟩; refine ⟨_, rfl, ?_⟩; have n0_ := Aside0.mk (below_step (by repeat (first | (with_reducible first | exact HB.out | apply below_alloc | apply pw_below_drewN | apply below_drew1) | exact HB.out)) hb); clear HB; have HB := n0_; clear n0_; (try clear hb); (try clear hb2); (try clear hk); (try clear hi)) | ((with_reducible refine gate_callee (f := 50) rfl ?_); refine goesL_ (some 15) rfl rfl Try.func50 (by kernel_rfl) rfl #[.int .i64 a1, .int .i64 (-1000), .int .i64 1000] rfl (by (try simp only [List.map_toArray, List.map_cons, List.map_nil]); first | done | rfl | (simp only [List.length_drop, List.length_take]; rfl)) ?_; (with_reducible refine (impl_within.calls a1 (-1000) 1000 false _ A6.out).mono ?_); rintro e w' ⟨rfl, ⟨nd, rfl⟩⟩; refine ⟨_, rfl, ?_⟩) | ((with_reducible refine gate_callee (f := 49) rfl ?_); refine goesL_ (some 20) rfl rfl Try.func49 (by kernel_rfl) rfl #[.bool t405, .bool false] rfl (by (try simp only [List.map_toArray, List.map_cons, List.map_nil]); first | done | rfl | (simp only [List.length_drop, List.length_take]; rfl)) ?_; (with_reducible refine (impl_codeOf.calls t405 false t409 _ A11.out).mono ?_); rintro e w' ⟨rfl, ⟨nd, rfl⟩⟩; refine ⟨_, rfl, ?_⟩))
      go_meet
      case rel => exact ⟨_, (t409), (by first | rfl | (simp; done) | (simp [*]; done)), H', ⟨by first | omega | exact Nat.le_refl _⟩, ⟨by repeat (first | (with_reducible first | exact HB.out | apply below_alloc | apply pw_below_drewN | apply below_drew1) | exact HB.out)⟩⟩
  case rest =>
    clear HC4
    try clear p2
    try clear c3
    try clear c4
    try clear c5
    try clear c7
    obtain ⟨kq, x8_3, rfl, HA, HJ3, HB⟩ := hcut
    cases kq with
    | zero => exact absurd HA.out (by simp [impl_MoveStone.j0])
    | succ kj3 =>
      have H := HA.out
      clear HA
      simp only [impl_MoveStone.j0] at H
      by_cases c13 : x8_3 = 0
      · rw [if_pos c13] at H
        have c13b0 : (x8_3 == 0) = true := beq_iff_eq.mpr c13
        have c13b1 : (x8_3 != 0) = false := bne_eq_false_iff_eq.mpr c13
        clear c13
        obtain ⟨y410, hy410⟩ : ∃ y_ : List (S56), y_ = (([] : List (S56))) := ⟨_, rfl⟩
        replace H : (impl_MoveStone.l0 kj3 a1 a2 y410 l0 (l0.length : Int) 0) = some (r1, r2) := by first | (rw [hy410]; with_reducible exact H) | (have H2_ := (Option.bind_some _ _).symm.trans H; rw [hy410]; with_reducible exact H2_) | (have H2_ := (Option.bind_some _ _).symm.trans H; with_reducible exact H2_) | with_reducible exact H | (rw [hy410]; exact H) | exact H
        have Ny410 := Aside0.mk hy410
        clear hy410
        have H' := Aside0.mk H
        clear H
        go_wp2_with (first | ((with_reducible refine gate_dst (N := 24) rfl ?_); refine Kd.R_lit k56 _ 56 ?hg (N := 24) ?hd (xs := ([] : List (S56))) (inner := []) (ok := fun _ => True) (okp := fun _ => True) ?hr ?hp (fun _ hk => hk) trivial (Below.refl _ _) (Nat.le_refl _) (by simp) ?_; (case hd => rfl); (case hg => rfl); (case hr => first | (go_simp; done) | (go_simp; rfl)); (case hp => exact (Reps.none _ _)); intro v411 w14 ho15 hb hg_ hnew_; clear hg_ hnew_; (first | rw [← Ny410.out] at ho15 | (simp only [Int.reduceToNat] at ho15; rw [← Ny410.out] at ho15)); have n0_ := Aside0.mk (Kd.R_lower ho15 (below_size (by repeat (first | (with_reducible first | exact HB.out | apply below_alloc | apply pw_below_drewN | apply below_drew1) | exact HB.out)))); have n1_ := Aside0.mk (below_step (by repeat (first | (with_reducible first | exact HB.out | apply below_alloc | apply pw_below_drewN | apply below_drew1) | exact HB.out)) hb); clear HB; have HO412 := n0_; have HB := n1_; clear n0_ n1_; clear hb ho15))
        go_loopg [9, 27] kj3 (fun kq v9 v27 w' => ∃ (x9_2 : List (S56)) (x27_2 : Int), v27 = .int .i64 x27_2 ∧ Aside0 (impl_MoveStone.l0 kq a1 a2 x9_2 l0 (l0.length : Int) x27_2 = some (r1, r2)) ∧ Aside0 (kq ≤ kj3) ∧ Aside0 (Kd.R k56 56 w' w.heap.size (fun _ => True) v9 x9_2) ∧ Aside0 (Below w.heap.size w w'))
        case atStart => exact ⟨(y410), (0), (by first | rfl | (simp; done) | (simp [*]; done)), H', ⟨Nat.le_refl _⟩, ⟨by (with_reducible repeat (first | apply Kd.R_alloc | apply Kd.R_drewN | apply Kd.R_drew)); exact HO412.out⟩, ⟨by repeat (first | (with_reducible first | exact HB.out | apply below_alloc | apply pw_below_drewN | apply below_drew1) | exact HB.out)⟩⟩
        case round =>
          clear H'
          try clear c1
          try clear p2
          try clear c3
          try clear c4
          try clear c5
          try clear c7
          try clear c13
          try clear c13b0
          try clear c13b1
          try clear p2
          obtain ⟨x9_2, x27_2, rfl, HA, HK2, HO_9, HB⟩ := hrel
          cases gk with
          | zero => exact absurd HA.out (by simp [impl_MoveStone.l0])
          | succ k2 =>
            have H := HA.out
            clear HA
            simp only [impl_MoveStone.l0] at H
            by_cases c16 : x27_2 < (l0.length : Int)
            · rw [if_pos c16] at H
              have c16b0 : decide (x27_2 < (l0.length : Int)) = true := decide_eq_true c16
              clear c16
              by_cases c17 : 0 ≤ x27_2
              · rw [if_pos c17] at H
                have c17b0 : decide (0 ≤ x27_2) = true := decide_eq_true c17
                clear c17
                by_cases c18 : x27_2 < (l0.length : Int)
                · rw [if_pos c18] at H
                  have c18b0 : decide (x27_2 < (l0.length : Int)) = true := decide_eq_true c18
                  clear c18
                  replace H := Option.bind_eq_some_iff.mp H
                  obtain ⟨t415, A190, H⟩ := H
                  replace H : (if t415 = true then (if x9_2.length < 35184372088832 then (impl_MoveStone.l0 k2 a1 a2 (x9_2 ++ [(⟨IntKind.i16.wrap (((rd_T56 l0 x27_2).f0) + (IntKind.i16.wrap (a1))), IntKind.i16.wrap (((rd_T56 l0 x27_2).f1) + (IntKind.i16.wrap (a2)))⟩ : S56)]) l0 (l0.length : Int) (wrap64 (x27_2 + 1))) else (none)) else (some (([] : List (S56)), 3))) = some (r1, r2) := H
                  have A19 := Aside0.mk A190
                  clear A190
                  by_cases c20 : t415 = true
                  · subst c20
                    have H1 : (if x9_2.length < 35184372088832 then (impl_MoveStone.l0 k2 a1 a2 (x9_2 ++ [(⟨IntKind.i16.wrap (((rd_T56 l0 x27_2).f0) + (IntKind.i16.wrap (a1))), IntKind.i16.wrap (((rd_T56 l0 x27_2).f1) + (IntKind.i16.wrap (a2)))⟩ : S56)]) l0 (l0.length : Int) (wrap64 (x27_2 + 1))) else (none)) = some (r1, r2) := by rw [if_pos rfl] at H; exact H
                    clear H
                    have H := H1
                    clear H1
                    by_cases c21 : x9_2.length < 35184372088832
                    · rw [if_pos c21] at H
                      have LMc21 := Aside0.mk c21
                      clear c21
                      obtain ⟨y416, hy416⟩ : ∃ y_ : List (S56), y_ = (x9_2 ++ [(⟨IntKind.i16.wrap (((rd_T56 l0 x27_2).f0) + (IntKind.i16.wrap (a1))), IntKind.i16.wrap (((rd_T56 l0 x27_2).f1) + (IntKind.i16.wrap (a2)))⟩ : S56)]) := ⟨_, rfl⟩
                      replace H : (impl_MoveStone.l0 k2 a1 a2 y416 l0 (l0.length : Int) (wrap64 (x27_2 + 1))) = some (r1, r2) := by first | (rw [hy416]; with_reducible exact H) | (have H2_ := (Option.bind_some _ _).symm.trans H; rw [hy416]; with_reducible exact H2_) | (have H2_ := (Option.bind_some _ _).symm.trans H; with_reducible exact H2_) | with_reducible exact H | (rw [hy416]; exact H) | exact H
                      have Ny416 := Aside0.mk hy416
                      clear hy416
                      have H' := Aside0.mk H
                      clear H
                      have p413 : 0 ≤ (x27_2 : Int) := of_decide_eq_true (by first | (with_reducible assumption) | assumption)
                      have q413 : x27_2 < (l0.length : Int) := of_decide_eq_true (by first | (with_reducible assumption) | assumption)
                      obtain ⟨ad413, e413, hx413_0, hx413_1⟩ := at_T56 HR0.out x27_2 p413 q413
                      cases e413
                      replace hx413_0 := (HB.out.cell (World.block_lt_of_cell? w _ hx413_0)).trans hx413_0
                      replace hx413_1 := (HB.out.cell (World.block_lt_of_cell? w _ hx413_1)).trans hx413_1
                      replace p413 := eq_true p413
                      replace q413 := eq_true q413
                      go_wp2_with (first | ((with_reducible refine gate_dst (N := 11) rfl ?_); refine box_event ?hg (N := 11) ?hd (cs := #[.int .i16 0, .int .i16 0]) (t := 56) ?hr ?_; (case hd => rfl); (case hg => rfl); (case hr => first | (go_simp; done) | (go_simp; rfl)); intro gb414 hg w22 hbox hb; have n0_ := Aside0.mk (Kd.R_below (Kd.R_elderB (by (with_reducible repeat (first | apply Kd.R_alloc | apply Kd.R_drewN | apply Kd.R_drew)); exact HO_9.out) gb414 (Nat.le_of_eq hg.symm)) hb); have n1_ := Aside0.mk (below_step (by repeat (first | (with_reducible first | exact HB.out | apply below_alloc | apply pw_below_drewN | apply below_drew1) | exact HB.out)) hb); have n2_ := Aside0.mk (hbox); have n3_ := Aside0.mk ((by rw [hg]; exact (below_size (by repeat (first | (with_reducible first | exact HB.out | apply below_alloc | apply pw_below_drewN | apply below_drew1) | exact HB.out))) : w.heap.size ≤ gb414)); have n4_ := Aside0.mk ((by rw [hg]; exact (below_size (by repeat (first | (with_reducible first | exact HB.out | apply below_alloc | apply pw_below_drewN | apply below_drew1) | exact HB.out))) : w.heap.size ≤ gb414)); clear HO_9; clear HB; have HO_9 := n0_; have HB := n1_; have BK414 := n2_; have GW414 := n3_; have GE414 := n4_; clear n0_ n1_ n2_ n3_ n4_; clear hb hbox hg; have hcz23_0 : w22.cell? ⟨gb414, 0, none⟩ = some (.int .i16 0) := (blk_cell BK414.out 0).trans rfl; have hcz23_1 : w22.cell? ⟨gb414, 1, none⟩ = some (.int .i16 0) := (blk_cell BK414.out 1).trans rfl; have hfz23_0 := blk_frozen BK414.out 0; have hfz23_1 := blk_frozen BK414.out 1; have HS1_ := Aside0.mk (blk_put (cs := #[.int .i16 0, .int .i16 0]) BK414.out 0 (.int .i16 ((rd_T56 l0 x27_2).f0)) rfl); have HS2_ := Aside0.mk (blk_put HS1_.out 1 (.int .i16 ((rd_T56 l0 x27_2).f1)) rfl); have hs0_ := (blk_cell HS2_.out 0).trans rfl; have hs1_ := (blk_cell HS2_.out 1).trans rfl; have hs2_ := blk_frozen HS2_.out 0; have hs3_ := blk_frozen HS2_.out 1) | ((with_reducible refine gate_callee (f := 53) rfl ?_); refine goesL_ (some 43) rfl rfl Try.func53 (by kernel_rfl) rfl #[.agg #[.int .i16 (IntKind.i16.wrap (((rd_T56 l0 x27_2).f0) + (IntKind.i16.wrap (a1)))), .int .i16 (IntKind.i16.wrap (((rd_T56 l0 x27_2).f1) + (IntKind.i16.wrap (a2))))]] rfl (by (try simp only [List.map_toArray, List.map_cons, List.map_nil]); first | done | rfl | (simp only [List.length_drop, List.length_take]; rfl)) ?_; (with_reducible refine (impl_isPlaced.calls (IntKind.i16.wrap (((rd_T56 l0 x27_2).f0) + (IntKind.i16.wrap (a1)))) (IntKind.i16.wrap (((rd_T56 l0 x27_2).f1) + (IntKind.i16.wrap (a2)))) true _ A19.out).mono ?_); rintro e w24 ⟨rfl, hb⟩; refine ⟨_, rfl, ?_⟩; have n0_ := Aside0.mk (Kd.R_below (by (with_reducible repeat (first | apply Kd.R_alloc | apply Kd.R_drewN | apply Kd.R_drew)); exact (Kd.R_mono (Kd.R_far (p := ⟨gb414, 1, none⟩) (Kd.R_far (p := ⟨gb414, 0, none⟩) (Kd.R_far (p := ⟨gb414, 1, none⟩) (Kd.R_far (p := ⟨gb414, 0, none⟩) (Kd.R_mono HO_9.out (fun k_ hk => (⟨hk, hk.2⟩ : _ ∧ k_ ≠ gb414))) (fun _ hk => hk.2) (.int .i16 ((rd_T56 l0 x27_2).f0))) (fun _ hk => hk.2) (.int .i16 ((rd_T56 l0 x27_2).f1))) (fun _ hk => hk.2) (.int .i16 (IntKind.i16.wrap (((rd_T56 l0 x27_2).f0) + (IntKind.i16.wrap (a1)))))) (fun _ hk => hk.2) (.int .i16 (IntKind.i16.wrap (((rd_T56 l0 x27_2).f1) + (IntKind.i16.wrap (a2)))))) (fun _ h_ => h_.1))) hb); have n1_ := Aside0.mk (blk_below (g := gb414) (o := .cells #[.int .i16 (IntKind.i16.wrap (((rd_T56 l0 x27_2).f0) + (IntKind.i16.wrap (a1)))), .int .i16 (IntKind.i16.wrap (((rd_T56 l0 x27_2).f1) + (IntKind.i16.wrap (a2))))] 56 (0, 0)) (by (with_reducible repeat (first | refine blk_drewN ?_ _ | refine blk_drew ?_ | refine blk_alloc ?_ _)); refine blk_put (cs := #[.int .i16 (IntKind.i16.wrap (((rd_T56 l0 x27_2).f0) + (IntKind.i16.wrap (a1)))), .int .i16 ((rd_T56 l0 x27_2).f1)]) ?_ 1 _ rfl; (with_reducible repeat (first | refine blk_drewN ?_ _ | refine blk_drew ?_ | refine blk_alloc ?_ _)); refine blk_put (cs := #[.int .i16 ((rd_T56 l0 x27_2).f0), .int .i16 ((rd_T56 l0 x27_2).f1)]) ?_ 0 _ rfl; (with_reducible repeat (first | refine blk_drewN ?_ _ | refine blk_drew ?_ | refine blk_alloc ?_ _)); refine blk_put (cs := #[.int .i16 ((rd_T56 l0 x27_2).f0), .int .i16 0]) ?_ 1 _ rfl; (with_reducible repeat (first | refine blk_drewN ?_ _ | refine blk_drew ?_ | refine blk_alloc ?_ _)); refine blk_put (cs := #[.int .i16 0, .int .i16 0]) ?_ 0 _ rfl; (with_reducible repeat (first | refine blk_drewN ?_ _ | refine blk_drew ?_ | refine blk_alloc ?_ _)); exact BK414.out) hb); have n2_ := Aside0.mk (below_step (by repeat (first | (with_reducible first | exact HB.out | apply below_alloc | apply pw_below_drewN | apply below_drew1 | refine below_set ?_ GE414.out) | exact HB.out)) hb); clear HO_9; clear BK414; clear HB; have HO_9 := n0_; have BK414 := n1_; have HB := n2_; clear n0_ n1_ n2_; (try clear hb); (try clear hb2); (try clear hk); (try clear hi); have hcz25_0 : w24.cell? ⟨gb414, 0, none⟩ = some (.int .i16 (IntKind.i16.wrap (((rd_T56 l0 x27_2).f0) + (IntKind.i16.wrap (a1))))) := (blk_cell BK414.out 0).trans rfl; have hcz25_1 : w24.cell? ⟨gb414, 1, none⟩ = some (.int .i16 (IntKind.i16.wrap (((rd_T56 l0 x27_2).f1) + (IntKind.i16.wrap (a2))))) := (blk_cell BK414.out 1).trans rfl; have hfz25_0 := blk_frozen BK414.out 0; have hfz25_1 := blk_frozen BK414.out 1) | ((with_reducible refine gate_builtin (b := .append) (xs := #[.tmp 45, .tmp 47]) rfl ?_); at_builtin; refine Kd.R_append k56 (w0 := w) w.heap.size rfl (.tmp 45) (.tmp 47) 32 56 (.agg #[(.int .i16 0), (.int .i16 0)]) 4 rfl Try.underlying32 info56 rfl (by decide) (by omega) u9 x9_2 (⟨IntKind.i16.wrap (((rd_T56 l0 x27_2).f0) + (IntKind.i16.wrap (a1))), IntKind.i16.wrap (((rd_T56 l0 x27_2).f1) + (IntKind.i16.wrap (a2)))⟩ : S56) [.int .i16 (IntKind.i16.wrap (((rd_T56 l0 x27_2).f0) + (IntKind.i16.wrap (a1)))), .int .i16 (IntKind.i16.wrap (((rd_T56 l0 x27_2).f1) + (IntKind.i16.wrap (a2))))] (fun k_ => k_ ≠ gb414) (fun _ => False) rfl rfl ?aP (fun _ hk => hk.elim) ?aF ?aO ?aB ?aS ?aL ?_; (case aP => exact k56_mkM _ _ _ (⟨IntKind.i16.wrap (((rd_T56 l0 x27_2).f0) + (IntKind.i16.wrap (a1))), IntKind.i16.wrap (((rd_T56 l0 x27_2).f1) + (IntKind.i16.wrap (a2)))⟩ : S56)); (case aB => exact (by repeat (first | (with_reducible first | exact HB.out | apply below_alloc | apply pw_below_drewN | apply below_drew1 | refine below_set ?_ GE414.out) | exact HB.out))); (case aF => exact (fun k_ hk => Kd.freshB (g := gb414) (o := .cells #[.int .i16 (IntKind.i16.wrap (((rd_T56 l0 x27_2).f0) + (IntKind.i16.wrap (a1)))), .int .i16 (IntKind.i16.wrap (((rd_T56 l0 x27_2).f1) + (IntKind.i16.wrap (a2))))] 56 (0, 0)) (by (with_reducible repeat (first | refine blk_drewN ?_ _ | refine blk_drew ?_ | refine blk_alloc ?_ _)); exact BK414.out) k_ hk)); (case aO => exact (by (with_reducible repeat (first | apply Kd.R_alloc | apply Kd.R_drewN | apply Kd.R_drew)); exact Kd.R_mono HO_9.out (fun _ hk => hk.2))); (case aS => exact (below_size (by repeat (first | (with_reducible first | exact HB.out | apply below_alloc | apply pw_below_drewN | apply below_drew1 | refine below_set ?_ GE414.out) | exact HB.out)))); (case aL => have := LMc21.out; omega); intro v417 w26 ho hb hg hat; rw [← Ny416.out] at ho; have n0_ := Aside0.mk (blk_grown (g := gb414) (o := .cells #[.int .i16 (IntKind.i16.wrap (((rd_T56 l0 x27_2).f0) + (IntKind.i16.wrap (a1)))), .int .i16 (IntKind.i16.wrap (((rd_T56 l0 x27_2).f1) + (IntKind.i16.wrap (a2))))] 56 (0, 0)) (by (with_reducible repeat (first | refine blk_drewN ?_ _ | refine blk_drew ?_ | refine blk_alloc ?_ _)); exact BK414.out) hg (Kd.R_away HO_9.out (fun _ hk => hk.2))); have n1_ := Aside0.mk (hb); have n2_ := Aside0.mk (ho); clear BK414; clear HB; clear HO_9; have BK414 := n0_; have HB := n1_; have HO418 := n2_; clear n0_ n1_ n2_; clear ho hb hg hat))
                      go_roundg k2
                      case measure => have := HJ3.out; have := HK2.out; omega
                      case rel => exact ⟨(y416), (wrap64 (x27_2 + 1)), (by first | rfl | (simp; done) | (simp [*]; done)), H', ⟨by have := HJ3.out; have := HK2.out; omega⟩, ⟨by (with_reducible repeat (first | apply Kd.R_alloc | apply Kd.R_drewN | apply Kd.R_drew)); exact Kd.R_mono HO418.out (fun _ hk => trivial)⟩, ⟨by repeat (first | (with_reducible first | exact HB.out | apply below_alloc | apply pw_below_drewN | apply below_drew1 | refine below_set ?_ GE414.out) | exact HB.out)⟩⟩
                    · rw [if_neg c21] at H
                      exact absurd H (by simp)
                  · replace c20 := Bool.eq_false_iff.mpr c20
                    subst c20
                    have H1 : (some (([] : List (S56)), 3)) = some (r1, r2) := by rw [if_neg (show ¬ (false = true) by decide)] at H; exact H
                    clear H
                    have H := H1
                    clear H1
                    simp only [Option.some.injEq, Prod.mk.injEq] at H
                    obtain ⟨rfl, rfl⟩ := H
                    have p413 : 0 ≤ (x27_2 : Int) := of_decide_eq_true (by first | (with_reducible assumption) | assumption)
                    have q413 : x27_2 < (l0.length : Int) := of_decide_eq_true (by first | (with_reducible assumption) | assumption)
                    obtain ⟨ad413, e413, hx413_0, hx413_1⟩ := at_T56 HR0.out x27_2 p413 q413
                    cases e413
                    replace hx413_0 := (HB.out.cell (World.block_lt_of_cell? w _ hx413_0)).trans hx413_0
                    replace hx413_1 := (HB.out.cell (World.block_lt_of_cell? w _ hx413_1)).trans hx413_1
                    replace p413 := eq_true p413
                    replace q413 := eq_true q413
                    go_wp2_with (first | ((with_reducible refine gate_dst (N := 11) rfl ?_); refine box_event ?hg (N := 11) ?hd (cs := #[.int .i16 0, .int .i16 0]) (t := 56) ?hr ?_; (case hd => rfl); (case hg => rfl); (case hr => first | (go_simp; done) | (go_simp; rfl)); intro gb414 hg w27 hbox hb; have n0_ := Aside0.mk (Kd.R_below (Kd.R_elderB (by (with_reducible repeat (first | apply Kd.R_alloc | apply Kd.R_drewN | apply Kd.R_drew)); exact HO_9.out) gb414 (Nat.le_of_eq hg.symm)) hb); have n1_ := Aside0.mk (below_step (by repeat (first | (with_reducible first | exact HB.out | apply below_alloc | apply pw_below_drewN | apply below_drew1) | exact HB.out)) hb); have n2_ := Aside0.mk (hbox); have n3_ := Aside0.mk ((by rw [hg]; exact (below_size (by repeat (first | (with_reducible first | exact HB.out | apply below_alloc | apply pw_below_drewN | apply below_drew1) | exact HB.out))) : w.heap.size ≤ gb414)); have n4_ := Aside0.mk ((by rw [hg]; exact (below_size (by repeat (first | (with_reducible first | exact HB.out | apply below_alloc | apply pw_below_drewN | apply below_drew1) | exact HB.out))) : w.heap.size ≤ gb414)); clear HO_9; clear HB; have HO_9 := n0_; have HB := n1_; have BK414 := n2_; have GW414 := n3_; have GE414 := n4_; clear n0_ n1_ n2_ n3_ n4_; clear hb hbox hg; have hcz28_0 : w27.cell? ⟨gb414, 0, none⟩ = some (.int .i16 0) := (blk_cell BK414.out 0).trans rfl; have hcz28_1 : w27.cell? ⟨gb414, 1, none⟩ = some (.int .i16 0) := (blk_cell BK414.out 1).trans rfl; have hfz28_0 := blk_frozen BK414.out 0; have hfz28_1 := blk_frozen BK414.out 1; have HS1_ := Aside0.mk (blk_put (cs := #[.int .i16 0, .int .i16 0]) BK414.out 0 (.int .i16 ((rd_T56 l0 x27_2).f0)) rfl); have HS2_ := Aside0.mk (blk_put HS1_.out 1 (.int .i16 ((rd_T56 l0 x27_2).f1)) rfl); have hs0_ := (blk_cell HS2_.out 0).trans rfl; have hs1_ := (blk_cell HS2_.out 1).trans rfl; have hs2_ := blk_frozen HS2_.out 0; have hs3_ := blk_frozen HS2_.out 1) | ((with_reducible refine gate_callee (f := 53) rfl ?_); refine goesL_ (some 43) rfl rfl Try.func53 (by kernel_rfl) rfl #[.agg #[.int .i16 (IntKind.i16.wrap (((rd_T56 l0 x27_2).f0) + (IntKind.i16.wrap (a1)))), .int .i16 (IntKind.i16.wrap (((rd_T56 l0 x27_2).f1) + (IntKind.i16.wrap (a2))))]] rfl (by (try simp only [List.map_toArray, List.map_cons, List.map_nil]); first | done | rfl | (simp only [List.length_drop, List.length_take]; rfl)) ?_; (with_reducible refine (impl_isPlaced.calls (IntKind.i16.wrap (((rd_T56 l0 x27_2).f0) + (IntKind.i16.wrap (a1)))) (IntKind.i16.wrap (((rd_T56 l0 x27_2).f1) + (IntKind.i16.wrap (a2)))) false _ A19.out).mono ?_); rintro e w29 ⟨rfl, hb⟩; refine ⟨_, rfl, ?_⟩; have n0_ := Aside0.mk (Kd.R_below (by (with_reducible repeat (first | apply Kd.R_alloc | apply Kd.R_drewN | apply Kd.R_drew)); exact (Kd.R_mono (Kd.R_far (p := ⟨gb414, 1, none⟩) (Kd.R_far (p := ⟨gb414, 0, none⟩) (Kd.R_far (p := ⟨gb414, 1, none⟩) (Kd.R_far (p := ⟨gb414, 0, none⟩) (Kd.R_mono HO_9.out (fun k_ hk => (⟨hk, hk.2⟩ : _ ∧ k_ ≠ gb414))) (fun _ hk => hk.2) (.int .i16 ((rd_T56 l0 x27_2).f0))) (fun _ hk => hk.2) (.int .i16 ((rd_T56 l0 x27_2).f1))) (fun _ hk => hk.2) (.int .i16 (IntKind.i16.wrap (((rd_T56 l0 x27_2).f0) + (IntKind.i16.wrap (a1)))))) (fun _ hk => hk.2) (.int .i16 (IntKind.i16.wrap (((rd_T56 l0 x27_2).f1) + (IntKind.i16.wrap (a2)))))) (fun _ h_ => h_.1))) hb); have n1_ := Aside0.mk (blk_below (g := gb414) (o := .cells #[.int .i16 (IntKind.i16.wrap (((rd_T56 l0 x27_2).f0) + (IntKind.i16.wrap (a1)))), .int .i16 (IntKind.i16.wrap (((rd_T56 l0 x27_2).f1) + (IntKind.i16.wrap (a2))))] 56 (0, 0)) (by (with_reducible repeat (first | refine blk_drewN ?_ _ | refine blk_drew ?_ | refine blk_alloc ?_ _)); refine blk_put (cs := #[.int .i16 (IntKind.i16.wrap (((rd_T56 l0 x27_2).f0) + (IntKind.i16.wrap (a1)))), .int .i16 ((rd_T56 l0 x27_2).f1)]) ?_ 1 _ rfl; (with_reducible repeat (first | refine blk_drewN ?_ _ | refine blk_drew ?_ | refine blk_alloc ?_ _)); refine blk_put (cs := #[.int .i16 ((rd_T56 l0 x27_2).f0), .int .i16 ((rd_T56 l0 x27_2).f1)]) ?_ 0 _ rfl; (with_reducible repeat (first | refine blk_drewN ?_ _ | refine blk_drew ?_ | refine blk_alloc ?_ _)); refine blk_put (cs := #[.int .i16 ((rd_T56 l0 x27_2).f0), .int .i16 0]) ?_ 1 _ rfl; (with_reducible repeat (first | refine blk_drewN ?_ _ | refine blk_drew ?_ | refine blk_alloc ?_ _)); refine blk_put (cs := #[.int .i16 0, .int .i16 0]) ?_ 0 _ rfl; (with_reducible repeat (first | refine blk_drewN ?_ _ | refine blk_drew ?_ | refine blk_alloc ?_ _)); exact BK414.out) hb); have n2_ := Aside0.mk (below_step (by repeat (first | (with_reducible first | exact HB.out | apply below_alloc | apply pw_below_drewN | apply below_drew1 | refine below_set ?_ GE414.out) | exact HB.out)) hb); clear HO_9; clear BK414; clear HB; have HO_9 := n0_; have BK414 := n1_; have HB := n2_; clear n0_ n1_ n2_; (try clear hb); (try clear hb2); (try clear hk); (try clear hi)))
                    go_ret2
                    exact ⟨_, by first | rfl | (simp [errW_none, errW_some] <;> rfl) | (simp [*, errW_none, errW_some] <;> rfl), by first | exact Kd.R_nil _ _ _ _ _ | exact Kd.N_nil _ _ _ _ _ | exact Kd.V_nil _ _ _ _ _ | exact Kd.Q_nil _ _ _ _ _ | exact Kd.S_nil _ _ _ _ _, by repeat (first | (with_reducible first | exact HB.out | apply below_alloc | apply pw_below_drewN | apply below_drew1 | refine below_set ?_ GE414.out) | exact HB.out)⟩
                · rw [if_neg c18] at H
                  exact absurd H (by simp)
              · rw [if_neg c17] at H
                exact absurd H (by simp)
            · rw [if_neg c16] at H
              have c16b0 : decide (x27_2 < (l0.length : Int)) = false := decide_eq_false c16
              clear c16
              simp only [Option.some.injEq, Prod.mk.injEq] at H
              obtain ⟨rfl, rfl⟩ := H
              go_wp2
              go_ret2
              exact ⟨_, by first | rfl | (simp [errW_none, errW_some] <;> rfl) | (simp [*, errW_none, errW_some] <;> rfl), by (with_reducible repeat (first | apply Kd.R_alloc | apply Kd.R_drewN | apply Kd.R_drew)); exact HO_9.out, by repeat (first | (with_reducible first | exact HB.out | apply below_alloc | apply pw_below_drewN | apply below_drew1) | exact HB.out)⟩
      · rw [if_neg c13] at H
        have c13b0 : (x8_3 == 0) = false := beq_eq_false_iff_ne.mpr c13
        have c13b1 : (x8_3 != 0) = true := bne_iff_ne.mpr c13
        simp only [Option.some.injEq, Prod.mk.injEq] at H
        obtain ⟨rfl, rfl⟩ := H
        go_wp2
        go_ret2
        exact ⟨_, by first | rfl | (simp [errW_none, errW_some] <;> rfl) | (simp [*, errW_none, errW_some] <;> rfl), by first | exact Kd.R_nil _ _ _ _ _ | exact Kd.N_nil _ _ _ _ _ | exact Kd.V_nil _ _ _ _ _ | exact Kd.Q_nil _ _ _ _ _ | exact Kd.S_nil _ _ _ _ _, by repeat (first | (with_reducible first | exact HB.out | apply below_alloc | apply pw_below_drewN | apply below_drew1) | exact HB.out)⟩

end Go.Proofs.Ytdklfcanifmnpaa.PA
