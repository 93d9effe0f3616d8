/- Written by a program of this session out of the translation: pure functions, and that Go's functions come to them. -/
import Derived.Test.YtpkbamcfncambaaPAx0
import Derived.Test.YtpkbamcfncambaaPAxf16
import Derived.Test.YtpkbamcfncambaaPAxf17
namespace Go.Proofs.Ytpkbamcfncambaa.PA
open Go.RowKit Go.Proofs.YtpkbamcfncambaaW.PrintWords Go.Proofs.YtpkbamcfncambaaW.PrintLast Go.Proofs.YtpkbamcfncambaaW.PrintMore
attribute [local go_sem] max2_int min2_int max_two min_two max_three min_three max_four min_four   -- for this text's walks alone
set_option linter.unusedVariables false
set_option linter.unusedSimpArgs false

/-! ### spec_BestValue: function 6 -/
def spec_BestValue.f (k : Nat) (a0 : Int) (a1 : Int) (l2 : List (S43)) : Option (Int × Int) := (spec_l04Asked.f k a0 a1 l2).bind fun t141 => (if t141 = 0 then ((spec_l04Worth.f k a0 a1 l2).bind fun t142 => (if 0 ≤ a0 then (if a0 < 25 then (if 0 ≤ a1 then (if a1 < 25 then (some (rd t142 (a0 * 25 + a1), 0)) else (none)) else (none)) else (none)) else (none))) else (some (0, t141)))
theorem spec_BestValue.mono : ∀ a0 a1 a2 k, LeO (spec_BestValue.f k a0 a1 a2) (spec_BestValue.f (k + 1) a0 a1 a2) := by
  intro a0 a1 a2 k
  unfold spec_BestValue.f
  repeat' first
      | (with_reducible exact spec_l04Asked.mono _ _ _ _)
      | (with_reducible exact spec_l04Worth.mono _ _ _ _)
      | (with_reducible exact LeO.refl _)
      | (with_reducible exact LeO.none _)
      | (with_reducible refine LeO.ite ?_ ?_)
      | (with_reducible refine LeO.bind ?_ (fun _ => ?_))
      | exact spec_l04Asked.mono _ _ _ _
      | exact spec_l04Worth.mono _ _ _ _
      | exact LeO.none _
      | refine LeO.ite ?_ ?_
      | refine LeO.bind ?_ (fun _ => ?_)
set_option maxHeartbeats 8000000 in
set_option maxRecDepth 100000 in
theorem spec_BestValue.calls (k : Nat) (a0 : Int) (a1 : Int) (A2 : Option Addr) (c2 : Nat) (l2 : List (S43)) (r1 : Int) (r2 : Int) (w : World) (hr2 : Kd.C k43 w A2 l2.length l2) (hc2 : l2.length ≤ c2) (h : spec_BestValue.f k a0 a1 l2 = some (r1, r2)) :
    Calls Try.prog 6 #[.int .i64 a0, .int .i64 a1, .slice A2 l2.length c2] w fun e w' => e = .returned (.tuple #[.int .i64 r1, .int .i64 r2]) ∧ Below w.heap.size w w' := by
  have HR2 := Aside0.mk hr2
  have HC2 := Aside0.mk hc2
  clear hr2 hc2
  have HB := Aside0.mk (Below.refl w.heap.size w)
  have H : ((spec_l04Asked.f k a0 a1 l2).bind fun t141 => (if t141 = 0 then ((spec_l04Worth.f k a0 a1 l2).bind fun t142 => (if 0 ≤ a0 then (if a0 < 25 then (if 0 ≤ a1 then (if a1 < 25 then (some (rd t142 (a0 * 25 + a1), 0)) else (none)) else (none)) else (none)) else (none))) else (some (0, t141)))) = some (r1, r2) := h
  clear h
  replace H := Option.bind_eq_some_iff.mp H
  obtain ⟨t141, A40, H⟩ := H
  replace H : (if t141 = 0 then ((spec_l04Worth.f k a0 a1 l2).bind fun t142 => (if 0 ≤ a0 then (if a0 < 25 then (if 0 ≤ a1 then (if a1 < 25 then (some (rd t142 (a0 * 25 + a1), 0)) else (none)) else (none)) else (none)) else (none))) else (some (0, t141))) = some (r1, r2) := H
  have A4 := Aside0.mk A40
  clear A40
  by_cases c5 : t141 = 0
  · rw [if_pos c5] at H
    have c5b0 : (t141 == 0) = true := beq_iff_eq.mpr c5
    have c5b1 : (t141 != 0) = false := bne_eq_false_iff_eq.mpr c5
    clear c5
    replace H := Option.bind_eq_some_iff.mp H
    obtain ⟨t142, A60, H⟩ := H
    replace H : (if 0 ≤ a0 then (if a0 < 25 then (if 0 ≤ a1 then (if a1 < 25 then (some (rd t142 (a0 * 25 + a1), 0)) else (none)) else (none)) else (none)) else (none)) = some (r1, r2) := H
    have A6 := Aside0.mk A60
    clear A60
    by_cases c7 : 0 ≤ a0
    · rw [if_pos c7] at H
      have c7b0 : decide (0 ≤ a0) = true := decide_eq_true c7
      clear c7
      by_cases c8 : a0 < 25
      · rw [if_pos c8] at H
        have c8b0 : decide (a0 < 25) = true := decide_eq_true c8
        clear c8
        by_cases c9 : 0 ≤ a1
        · rw [if_pos c9] at H
          have c9b0 : decide (0 ≤ a1) = true := decide_eq_true c9
          clear c9
          by_cases c10 : a1 < 25
          · rw [if_pos c10] at H
            have c10b0 : decide (a1 < 25) = true := decide_eq_true c10
            clear c10
            simp only [Option.some.injEq, Prod.mk.injEq] at H
            obtain ⟨rfl, rfl⟩ := H
            obtain ⟨z6, Nz⟩ : ∃ y_ : List Int, (List.replicate 625 0) = y_ := ⟨_, rfl⟩
            have ZL : z6.length = 625 := by rw [← Nz]; simp
            have ZA := Aside0.mk (show (Try.prog.info? 38).bind (·.zero) = some (.agg (spec_l04Worth.cs z6)) by rw [← Nz, spec_l04Worth.cs_zero]; kernel_rfl)
            go_enter Try.func6, Try.ntmps6
            go_wp2_with (first | ((with_reducible refine gate_callee (f := 16) rfl ?_); refine goesL_ (some 13) rfl rfl Try.func16 (by kernel_rfl) rfl #[.int .i64 a0, .int .i64 a1, .slice A2 l2.length c2] rfl (by (try simp only [List.map_toArray, List.map_cons, List.map_nil]); first | done | rfl | (simp only [List.length_drop, List.length_take]; rfl)) ?_; (with_reducible refine (spec_l04Asked.calls k a0 a1 _ _ l2 t141 _ ?side1 ?side2 A4.out).mono ?_); (case side1 => repeat (first | exact HR2.out | (with_reducible refine Kd.C_alloc ?_ _) | (with_reducible refine Kd.C_drewN ?_ _) | (with_reducible refine Kd.C_drew ?_))); (case side2 => exact HC2.out); rintro e w' ⟨rfl, ⟨nd, rfl⟩⟩; refine ⟨_, rfl, ?_⟩) | ((with_reducible refine gate_callee (f := 17) rfl ?_); refine goesL_ (some 20) rfl rfl Try.func17 (by kernel_rfl) rfl #[.int .i64 a0, .int .i64 a1, .slice A2 l2.length c2] rfl (by (try simp only [List.map_toArray, List.map_cons, List.map_nil]); first | done | rfl | (simp only [List.length_drop, List.length_take]; rfl)) ?_; (with_reducible refine (spec_l04Worth.calls k a0 a1 _ _ l2 t142 _ ?side1 ?side2 A6.out).mono ?_); (case side1 => repeat (first | exact HR2.out | (with_reducible refine Kd.C_alloc ?_ _) | (with_reducible refine Kd.C_drewN ?_ _) | (with_reducible refine Kd.C_drew ?_))); (case side2 => exact HC2.out); rintro e w11 ⟨rfl, hEL, hb⟩; refine ⟨_, rfl, ?_⟩; have n0_ := Aside0.mk hEL; have n1_ := Aside0.mk (below_step (by repeat (first | (with_reducible first | exact HB.out | apply below_alloc | apply pw_below_drewN | apply below_drew1) | exact HB.out)) hb); clear HB hEL hb; have EL := n0_; have HB := n1_; clear n0_ n1_) | ((with_reducible refine gate_dst (N := 9) rfl ?_); refine spec_l04Worth.alloc_ev rfl rfl 38 rfl ZA.out ?_; intro g9 hg w15 hk9 hb; have n0_ := Aside0.mk (below_step (by repeat (first | (with_reducible first | exact HB.out | apply below_alloc | apply pw_below_drewN | apply below_drew1) | exact HB.out)) hb); have n1_ := Aside0.mk hk9; have n2_ := Aside0.mk ((by rw [hg]; exact (below_size (by repeat (first | (with_reducible first | exact HB.out | apply below_alloc | apply pw_below_drewN | apply below_drew1) | exact HB.out)))) : w.heap.size ≤ g9); clear HB; have HB := n0_; have BK9 := n1_; have GE9 := n2_; clear n0_ n1_ n2_; clear hb hk9 hg) | ((with_reducible refine gate_store (t := 38) (p := 9) rfl ?_); refine spec_l04Worth.store_ev rfl rfl 38 9 _ rfl g9 38 _ t142 rfl rfl (by (with_reducible repeat (first | refine blk_drewN ?_ _ | refine blk_drew ?_ | refine blk_alloc ?_ _)); exact BK9.out) (by rw [spec_l04Worth.cs_size, ZL]) EL.out (by kernel_rfl) (by repeat (first | (with_reducible first | exact HB.out | apply below_alloc | apply pw_below_drewN | apply below_drew1) | exact HB.out)) GE9.out ?_; intro w16 hk9 hb ho; have n0_ := Aside0.mk hb; have n1_ := Aside0.mk (spec_l04Worth.tab_of hk9 EL.out GE9.out); clear HB BK9; have HB := n0_; have HO_9 := n1_; clear n0_ n1_; clear hb hk9 ho; have pi : 0 ≤ a0 := (of_decide_eq_true (by first | (with_reducible assumption) | assumption)); have qi : a0 < 25 := (of_decide_eq_true (by first | (with_reducible assumption) | assumption)); have pj : 0 ≤ a1 := (of_decide_eq_true (by first | (with_reducible assumption) | assumption)); have qj : a1 < 25 := (of_decide_eq_true (by first | (with_reducible assumption) | assumption)); have hx_0 := (spec_l04Worth.tab_cell HO_9.out a0 a1 pi qi pj qj).1; replace pi := eq_true pi; replace qi := eq_true qi; replace pj := eq_true pj; replace qj := eq_true qj))
            go_ret2
            exact ⟨by first | rfl | (simp [errW_none, errW_some] <;> rfl) | (simp [*, errW_none, errW_some] <;> rfl), by repeat (first | (with_reducible first | exact HB.out | apply below_alloc | apply pw_below_drewN | apply below_drew1) | exact HB.out)⟩
          · rw [if_neg c10] at H
            exact absurd H (by simp)
        · rw [if_neg c9] at H
          exact absurd H (by simp)
      · rw [if_neg c8] at H
        exact absurd H (by simp)
    · rw [if_neg c7] at H
      exact absurd H (by simp)
  · rw [if_neg c5] at H
    have c5b0 : (t141 == 0) = false := beq_eq_false_iff_ne.mpr c5
    have c5b1 : (t141 != 0) = true := bne_iff_ne.mpr c5
    simp only [Option.some.injEq, Prod.mk.injEq] at H
    obtain ⟨rfl, rfl⟩ := H
    go_enter Try.func6, Try.ntmps6
    go_wp2_with (first | ((with_reducible refine gate_callee (f := 16) rfl ?_); refine goesL_ (some 13) rfl rfl Try.func16 (by kernel_rfl) rfl #[.int .i64 a0, .int .i64 a1, .slice A2 l2.length c2] rfl (by (try simp only [List.map_toArray, List.map_cons, List.map_nil]); first | done | rfl | (simp only [List.length_drop, List.length_take]; rfl)) ?_; (with_reducible refine (spec_l04Asked.calls k a0 a1 _ _ l2 t141 _ ?side1 ?side2 A4.out).mono ?_); (case side1 => repeat (first | exact HR2.out | (with_reducible refine Kd.C_alloc ?_ _) | (with_reducible refine Kd.C_drewN ?_ _) | (with_reducible refine Kd.C_drew ?_))); (case side2 => exact HC2.out); rintro e w' ⟨rfl, ⟨nd, rfl⟩⟩; refine ⟨_, rfl, ?_⟩))
    go_ret2
    exact ⟨by first | rfl | (simp [errW_none, errW_some] <;> rfl) | (simp [*, errW_none, errW_some] <;> rfl), by repeat (first | (with_reducible first | exact HB.out | apply below_alloc | apply pw_below_drewN | apply below_drew1) | exact HB.out)⟩

end Go.Proofs.Ytpkbamcfncambaa.PA
