/- Written by a program of this session out of the translation: pure functions, and that Go's functions come to them. -/
import Derived.Test.YtpkbamcfncambaaPAx0
import Derived.Test.YtpkbamcfncambaaPAxf17
import Derived.Test.YtpkbamcfncambaaPAxf19
import Derived.Test.YtpkbamcfncambaaPAxf22
import Derived.Test.YtpkbamcfncambaaPAxgKinds
namespace Go.Proofs.Ytpkbamcfncambaa.PA
open Go.RowKit Go.Proofs.YtpkbamcfncambaaW.PrintWords Go.Proofs.YtpkbamcfncambaaW.PrintLast Go.Proofs.YtpkbamcfncambaaW.PrintMore
attribute [local go_sem] max2_int min2_int max_two min_two max_three min_three max_four min_four   -- for this text's walks alone
set_option linter.unusedVariables false
set_option linter.unusedSimpArgs false

/-! ### impl_BestValue: function 8 -/
def impl_BestValue.f (k : Nat) (a0 : Int) (a1 : Int) (l2 : List (S43)) : Option (Int × Int) := (impl_ValidKinds.f l2).bind fun t163 => ((impl_isPlate.f a0 a1).bind fun t164 => ((impl_codeOf.f t163 t164).bind fun t165 => (if t165 = 0 then ((impl_worthOf.f k a0 a1 l2).bind fun t166 => (if 0 ≤ a0 then (if a0 < 25 then (if 0 ≤ a1 then (if a1 < 25 then (some (rd t166 (a0 * 25 + a1), 0)) else (none)) else (none)) else (none)) else (none))) else (some (0, t165)))))
theorem impl_BestValue.mono : ∀ a0 a1 a2 k, LeO (impl_BestValue.f k a0 a1 a2) (impl_BestValue.f (k + 1) a0 a1 a2) := by
  intro a0 a1 a2 k
  unfold impl_BestValue.f
  repeat' first
      | (with_reducible exact impl_worthOf.mono _ _ _ _)
      | (with_reducible exact LeO.refl _)
      | (with_reducible exact LeO.none _)
      | (with_reducible refine LeO.ite ?_ ?_)
      | (with_reducible refine LeO.bind ?_ (fun _ => ?_))
      | exact impl_worthOf.mono _ _ _ _
      | exact LeO.none _
      | refine LeO.ite ?_ ?_
      | refine LeO.bind ?_ (fun _ => ?_)
set_option maxHeartbeats 8000000 in
set_option maxRecDepth 100000 in
theorem impl_BestValue.calls (k : Nat) (a0 : Int) (a1 : Int) (A2 : Option Addr) (c2 : Nat) (l2 : List (S43)) (r1 : Int) (r2 : Int) (w : World) (hr2 : Kd.C k43 w A2 l2.length l2) (hc2 : l2.length ≤ c2) (h : impl_BestValue.f k a0 a1 l2 = some (r1, r2)) :
    Calls Try.prog 8 #[.int .i64 a0, .int .i64 a1, .slice A2 l2.length c2] w fun e w' => e = .returned (.tuple #[.int .i64 r1, .int .i64 r2]) ∧ Below w.heap.size w w' := by
  have HR2 := Aside0.mk hr2
  have HC2 := Aside0.mk hc2
  clear hr2 hc2
  have HB := Aside0.mk (Below.refl w.heap.size w)
  have H : ((impl_ValidKinds.f l2).bind fun t163 => ((impl_isPlate.f a0 a1).bind fun t164 => ((impl_codeOf.f t163 t164).bind fun t165 => (if t165 = 0 then ((impl_worthOf.f k a0 a1 l2).bind fun t166 => (if 0 ≤ a0 then (if a0 < 25 then (if 0 ≤ a1 then (if a1 < 25 then (some (rd t166 (a0 * 25 + a1), 0)) else (none)) else (none)) else (none)) else (none))) else (some (0, t165)))))) = some (r1, r2) := h
  clear h
  replace H := Option.bind_eq_some_iff.mp H
  obtain ⟨t163, A40, H⟩ := H
  replace H : ((impl_isPlate.f a0 a1).bind fun t164 => ((impl_codeOf.f t163 t164).bind fun t165 => (if t165 = 0 then ((impl_worthOf.f k a0 a1 l2).bind fun t166 => (if 0 ≤ a0 then (if a0 < 25 then (if 0 ≤ a1 then (if a1 < 25 then (some (rd t166 (a0 * 25 + a1), 0)) else (none)) else (none)) else (none)) else (none))) else (some (0, t165))))) = some (r1, r2) := H
  have A4 := Aside0.mk A40
  clear A40
  replace H := Option.bind_eq_some_iff.mp H
  obtain ⟨t164, A50, H⟩ := H
  replace H : ((impl_codeOf.f t163 t164).bind fun t165 => (if t165 = 0 then ((impl_worthOf.f k a0 a1 l2).bind fun t166 => (if 0 ≤ a0 then (if a0 < 25 then (if 0 ≤ a1 then (if a1 < 25 then (some (rd t166 (a0 * 25 + a1), 0)) else (none)) else (none)) else (none)) else (none))) else (some (0, t165)))) = some (r1, r2) := H
  have A5 := Aside0.mk A50
  clear A50
  replace H := Option.bind_eq_some_iff.mp H
  obtain ⟨t165, A60, H⟩ := H
  replace H : (if t165 = 0 then ((impl_worthOf.f k a0 a1 l2).bind fun t166 => (if 0 ≤ a0 then (if a0 < 25 then (if 0 ≤ a1 then (if a1 < 25 then (some (rd t166 (a0 * 25 + a1), 0)) else (none)) else (none)) else (none)) else (none))) else (some (0, t165))) = some (r1, r2) := H
  have A6 := Aside0.mk A60
  clear A60
  by_cases c7 : t165 = 0
  · rw [if_pos c7] at H
    have c7b0 : (t165 == 0) = true := beq_iff_eq.mpr c7
    have c7b1 : (t165 != 0) = false := bne_eq_false_iff_eq.mpr c7
    clear c7
    replace H := Option.bind_eq_some_iff.mp H
    obtain ⟨t166, A80, H⟩ := H
    replace H : (if 0 ≤ a0 then (if a0 < 25 then (if 0 ≤ a1 then (if a1 < 25 then (some (rd t166 (a0 * 25 + a1), 0)) else (none)) else (none)) else (none)) else (none)) = some (r1, r2) := H
    have A8 := Aside0.mk A80
    clear A80
    by_cases c9 : 0 ≤ a0
    · rw [if_pos c9] at H
      have c9b0 : decide (0 ≤ a0) = true := decide_eq_true c9
      clear c9
      by_cases c10 : a0 < 25
      · rw [if_pos c10] at H
        have c10b0 : decide (a0 < 25) = true := decide_eq_true c10
        clear c10
        by_cases c11 : 0 ≤ a1
        · rw [if_pos c11] at H
          have c11b0 : decide (0 ≤ a1) = true := decide_eq_true c11
          clear c11
          by_cases c12 : a1 < 25
          · rw [if_pos c12] at H
            have c12b0 : decide (a1 < 25) = true := decide_eq_true c12
            clear c12
            simp only [Option.some.injEq, Prod.mk.injEq] at H
            obtain ⟨rfl, rfl⟩ := H
            go_enter Try.func8, Try.ntmps8
            go_wp2_with (first | ((with_reducible refine gate_callee (f := 20) rfl ?_); refine goesL_ (some 10) rfl rfl Try.func20 (by kernel_rfl) rfl #[.slice A2 l2.length c2] rfl (by (try simp only [List.map_toArray, List.map_cons, List.map_nil]); first | done | rfl | (simp only [List.length_drop, List.length_take]; rfl)) ?_; (with_reducible refine (impl_ValidKinds.calls _ _ l2 t163 _ ?side1 ?side2 A4.out).mono ?_); (case side1 => repeat (first | exact HR2.out | (with_reducible refine Kd.C_alloc ?_ _) | (with_reducible refine Kd.C_drewN ?_ _) | (with_reducible refine Kd.C_drew ?_))); (case side2 => exact HC2.out); rintro e w13 ⟨rfl, hb⟩; refine ⟨_, rfl, ?_⟩; have n0_ := Aside0.mk (below_step (by repeat (first | (with_reducible first | exact HB.out | apply below_alloc | apply pw_below_drewN | apply below_drew1) | exact HB.out)) hb); clear HB; have HB := n0_; clear n0_; (try clear hb); (try clear hb2); (try clear hk); (try clear hi)) | ((with_reducible refine gate_callee (f := 21) rfl ?_); refine goesL_ (some 13) rfl rfl Try.func21 (by kernel_rfl) rfl #[.int .i64 a0, .int .i64 a1] rfl (by (try simp only [List.map_toArray, List.map_cons, List.map_nil]); first | done | rfl | (simp only [List.length_drop, List.length_take]; rfl)) ?_; (with_reducible refine (impl_isPlate.calls a0 a1 t164 _ A5.out).mono ?_); rintro e w' ⟨rfl, ⟨nd, rfl⟩⟩; refine ⟨_, rfl, ?_⟩) | ((with_reducible refine gate_callee (f := 19) rfl ?_); refine goesL_ (some 14) rfl rfl Try.func19 (by kernel_rfl) rfl #[.bool t163, .bool t164] rfl (by (try simp only [List.map_toArray, List.map_cons, List.map_nil]); first | done | rfl | (simp only [List.length_drop, List.length_take]; rfl)) ?_; (with_reducible refine (impl_codeOf.calls t163 t164 t165 _ A6.out).mono ?_); rintro e w' ⟨rfl, ⟨nd, rfl⟩⟩; refine ⟨_, rfl, ?_⟩) | ((with_reducible refine gate_callee (f := 22) rfl ?_); refine goesL_ (some 21) rfl rfl Try.func22 (by kernel_rfl) rfl #[.int .i64 a0, .int .i64 a1, .slice A2 l2.length c2] rfl (by (try simp only [List.map_toArray, List.map_cons, List.map_nil]); first | done | rfl | (simp only [List.length_drop, List.length_take]; rfl)) ?_; (with_reducible refine (impl_worthOf.calls k a0 a1 _ _ l2 t166 _ ?side1 ?side2 A8.out).mono ?_); (case side1 => repeat (first | exact (Kd.C_below HR2.out (by repeat (first | (with_reducible first | exact HB.out | apply below_alloc | apply pw_below_drewN | apply below_drew1) | exact HB.out))) | (with_reducible refine Kd.C_alloc ?_ _) | (with_reducible refine Kd.C_drewN ?_ _) | (with_reducible refine Kd.C_drew ?_))); (case side2 => exact HC2.out); rintro e w14 ⟨g7, rfl, hO, hb⟩; refine ⟨_, rfl, ?_⟩; have n1_ := Aside0.mk (below_step (by repeat (first | (with_reducible first | exact HB.out | apply below_alloc | apply pw_below_drewN | apply below_drew1) | exact HB.out)) hb); have n0_ := Aside0.mk hO; clear HB hb hO; have HO_7 := n0_; have HB := n1_; clear n0_ n1_; have pi : 0 ≤ a0 := (of_decide_eq_true (by first | (with_reducible assumption) | assumption)); have qi : a0 < 25 := (of_decide_eq_true (by first | (with_reducible assumption) | assumption)); have pj : 0 ≤ a1 := (of_decide_eq_true (by first | (with_reducible assumption) | assumption)); have qj : a1 < 25 := (of_decide_eq_true (by first | (with_reducible assumption) | assumption)); have hx_0 := (spec_l04Worth.tab_cell HO_7.out a0 a1 pi qi pj qj).1; replace pi := eq_true pi; replace qi := eq_true qi; replace pj := eq_true pj; replace qj := eq_true qj))
            go_ret2
            exact ⟨by first | rfl | (simp [errW_none, errW_some] <;> rfl) | (simp [*, errW_none, errW_some] <;> rfl), by repeat (first | (with_reducible first | exact HB.out | apply below_alloc | apply pw_below_drewN | apply below_drew1) | exact HB.out)⟩
          · rw [if_neg c12] at H
            exact absurd H (by simp)
        · rw [if_neg c11] at H
          exact absurd H (by simp)
      · rw [if_neg c10] at H
        exact absurd H (by simp)
    · rw [if_neg c9] at H
      exact absurd H (by simp)
  · rw [if_neg c7] at H
    have c7b0 : (t165 == 0) = false := beq_eq_false_iff_ne.mpr c7
    have c7b1 : (t165 != 0) = true := bne_iff_ne.mpr c7
    simp only [Option.some.injEq, Prod.mk.injEq] at H
    obtain ⟨rfl, rfl⟩ := H
    go_enter Try.func8, Try.ntmps8
    go_wp2_with (first | ((with_reducible refine gate_callee (f := 20) rfl ?_); refine goesL_ (some 10) rfl rfl Try.func20 (by kernel_rfl) rfl #[.slice A2 l2.length c2] rfl (by (try simp only [List.map_toArray, List.map_cons, List.map_nil]); first | done | rfl | (simp only [List.length_drop, List.length_take]; rfl)) ?_; (with_reducible refine (impl_ValidKinds.calls _ _ l2 t163 _ ?side1 ?side2 A4.out).mono ?_); (case side1 => repeat (first | exact HR2.out | (with_reducible refine Kd.C_alloc ?_ _) | (with_reducible refine Kd.C_drewN ?_ _) | (with_reducible refine Kd.C_drew ?_))); (case side2 => exact HC2.out); rintro e w16 ⟨rfl, hb⟩; refine ⟨_, rfl, ?_⟩; have n0_ := Aside0.mk (below_step (by repeat (first | (with_reducible first | exact HB.out | apply below_alloc | apply pw_below_drewN | apply below_drew1) | exact HB.out)) hb); clear HB; have HB := n0_; clear n0_; (try clear hb); (try clear hb2); (try clear hk); (try clear hi)) | ((with_reducible refine gate_callee (f := 21) rfl ?_); refine goesL_ (some 13) rfl rfl Try.func21 (by kernel_rfl) rfl #[.int .i64 a0, .int .i64 a1] rfl (by (try simp only [List.map_toArray, List.map_cons, List.map_nil]); first | done | rfl | (simp only [List.length_drop, List.length_take]; rfl)) ?_; (with_reducible refine (impl_isPlate.calls a0 a1 t164 _ A5.out).mono ?_); rintro e w' ⟨rfl, ⟨nd, rfl⟩⟩; refine ⟨_, rfl, ?_⟩) | ((with_reducible refine gate_callee (f := 19) rfl ?_); refine goesL_ (some 14) rfl rfl Try.func19 (by kernel_rfl) rfl #[.bool t163, .bool t164] rfl (by (try simp only [List.map_toArray, List.map_cons, List.map_nil]); first | done | rfl | (simp only [List.length_drop, List.length_take]; rfl)) ?_; (with_reducible refine (impl_codeOf.calls t163 t164 t165 _ A6.out).mono ?_); rintro e w' ⟨rfl, ⟨nd, rfl⟩⟩; refine ⟨_, rfl, ?_⟩))
    go_ret2
    exact ⟨by first | rfl | (simp [errW_none, errW_some] <;> rfl) | (simp [*, errW_none, errW_some] <;> rfl), by repeat (first | (with_reducible first | exact HB.out | apply below_alloc | apply pw_below_drewN | apply below_drew1) | exact HB.out)⟩

end Go.Proofs.Ytpkbamcfncambaa.PA
