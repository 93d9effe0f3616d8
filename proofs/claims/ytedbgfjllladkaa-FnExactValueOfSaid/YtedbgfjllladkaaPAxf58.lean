/- Written by a program of this session out of the translation: pure functions, and that Go's functions come to them. -/
import Derived.Test.YtedbgfjllladkaaPAx0
import Derived.Test.YtedbgfjllladkaaPAxe0
import Derived.Test.YtedbgfjllladkaaPAxgImpl
import Derived.Test.YtedbgfjllladkaaPAxgKinds
import Derived.Test.YtedbgfjllladkaaPAxf58d
namespace Go.Proofs.Ytedbgfjllladkaa.PA
open Go.RowKit Go.Proofs.YtedbgfjllladkaaW.PrintWords Go.Proofs.YtedbgfjllladkaaW.PrintLast Go.Proofs.YtedbgfjllladkaaW.PrintMore
attribute [local go_sem] max2_int min2_int max_two min_two max_three min_three max_four min_four   -- for this text's walks alone
set_option linter.unusedVariables false
set_option linter.unusedSimpArgs false

attribute [local go_sem high] eqA75
set_option maxHeartbeats 40000000 in
set_option maxRecDepth 100000 in
theorem impl_sizes.calls (k : Nat) (a0 : Int) (a1 : Int) (A2 : Option Addr) (c2 : Nat) (l2 : List (S57)) (A3 : Option Addr) (c3 : Nat) (l3 : List (S75)) (r1 : List (S79)) (r2 : Bool) (w : World) (hr2 : Kd.C k57 w A2 l2.length l2) (hc2 : l2.length ≤ c2) (hr3 : Kd.C k75 w A3 l3.length l3) (hc3 : l3.length ≤ c3) (h : impl_sizes.f k a0 a1 l2 l3 = some (r1, r2)) :
  Calls Try.prog 58 #[.int .i64 a0, .int .i64 a1, .slice A2 l2.length c2, .slice A3 l3.length c3] w fun e w' => ∃ v0_ : Value, e = .returned (.tuple #[v0_, .bool r2]) ∧ Kd.R k79 79 w' w.heap.size (fun _ => True) v0_ r1 ∧ Below w.heap.size w w' := by
 have hu79 := Try.underlying79
 have hu75 := Try.underlying75
 have HR2 := Aside0.mk hr2
 have HC2 := Aside0.mk hc2
 clear hr2 hc2
 have HR3 := Aside0.mk hr3
 have HC3 := Aside0.mk hc3
 clear hr3 hc3
 have HB := Aside0.mk (Below.refl w.heap.size w)
 have H : ((impl_isPlate.f a0 a1).bind fun t230 => (if t230 = true then ((impl_ValidKinds.f l2).bind fun t231 => (if t231 = true then ((impl_within.f (l3.length : Int) 1 60).bind fun t232 => (impl_sizes.j0 k a0 a1 l2 l3 (!t232))) else (impl_sizes.j0 k a0 a1 l2 l3 true))) else (impl_sizes.j0 k a0 a1 l2 l3 true))) = some (r1, r2) := h
 clear h
 have HC5 := Aside0.mk H
 clear H
 go_enter Try.func58, Try.ntmps58
 go_upto_region 1 with (fail)
 go_cut [33] (fun v33 wc => ∃ (kq : Nat) (x33_4 : Bool), v33 = .bool x33_4 ∧ Aside0 (impl_sizes.j0 kq a0 a1 l2 l3 x33_4 = some (r1, r2)) ∧ Aside0 (kq ≤ k) ∧ Aside0 (Below w.heap.size w wc))
 case first =>
  have H := HC5.out
  clear HC5
  replace H := Option.bind_eq_some_iff.mp H
  obtain ⟨t230, A60, H⟩ := H
  replace H : (if t230 = true then ((impl_ValidKinds.f l2).bind fun t231 => (if t231 = true then ((impl_within.f (l3.length : Int) 1 60).bind fun t232 => (impl_sizes.j0 k a0 a1 l2 l3 (!t232))) else (impl_sizes.j0 k a0 a1 l2 l3 true))) else (impl_sizes.j0 k a0 a1 l2 l3 true)) = some (r1, r2) := H
  have A6 := Aside0.mk A60
  clear A60
  by_cases c7 : t230 = true
  ·
   subst c7
   have H1 : ((impl_ValidKinds.f l2).bind fun t231 => (if t231 = true then ((impl_within.f (l3.length : Int) 1 60).bind fun t232 => (impl_sizes.j0 k a0 a1 l2 l3 (!t232))) else (impl_sizes.j0 k a0 a1 l2 l3 true))) = some (r1, r2) := by rw [if_pos rfl] at H; exact H
   clear H
   have H := H1
   clear H1
   replace H := Option.bind_eq_some_iff.mp H
   obtain ⟨t231, A80, H⟩ := H
   replace H : (if t231 = true then ((impl_within.f (l3.length : Int) 1 60).bind fun t232 => (impl_sizes.j0 k a0 a1 l2 l3 (!t232))) else (impl_sizes.j0 k a0 a1 l2 l3 true)) = some (r1, r2) := H
   have A8 := Aside0.mk A80
   clear A80
   by_cases c9 : t231 = true
   ·
    subst c9
    have H1 : ((impl_within.f (l3.length : Int) 1 60).bind fun t232 => (impl_sizes.j0 k a0 a1 l2 l3 (!t232))) = some (r1, r2) := by rw [if_pos rfl] at H; exact H
    clear H
    have H := H1
    clear H1
    replace H := Option.bind_eq_some_iff.mp H
    obtain ⟨t232, A100, H⟩ := H
    replace H : (impl_sizes.j0 k a0 a1 l2 l3 (!t232)) = some (r1, r2) := H
    have A10 := Aside0.mk A100
    clear A100
    have H' := Aside0.mk H
    clear H
    go_wp2_with (first | ((with_reducible refine gate_callee (f := 54) rfl ?_); refine goesL_ (some 21) rfl rfl Try.func54 (by kernel_rfl) rfl #[.int .i64 a0, .int .i64 a1] rfl (by (try simp only [List.map_toArray, List.map_cons, List.map_nil]); first | done | rfl | (simp only [List.length_drop, List.length_take]; rfl)) ?_; (with_reducible refine (impl_isPlate.calls a0 a1 true _ A6.out).mono ?_); rintro e w' ⟨rfl, ⟨nd, rfl⟩⟩; refine ⟨_, rfl, ?_⟩) | (go_at_call 15; (with_reducible refine (impl_ValidKinds.calls _ _ l2 true _ ?side1 ?side2 A8.out).mono ?_); (case side1 => repeat (first | exact (Kd.C_below HR2.out (kB_ HB)) | (with_reducible refine Kd.C_alloc ?_ _) | (with_reducible refine Kd.C_drewN ?_ _) | (with_reducible refine Kd.C_drew ?_))); (case side2 => exact HC2.out); rintro e w11 ⟨rfl, hb⟩; have n0_ := Aside0.mk (below_step (kB_ HB) hb); clear HB; have HB := n0_; clear n0_; (try clear hb); (try clear hb2); (try clear hk); (try clear hi)) | (go_at_call 49; (with_reducible refine (impl_within.calls (l3.length : Int) 1 60 t232 _ A10.out).mono ?_); rintro e w' ⟨rfl, ⟨nd, rfl⟩⟩))
    go_meet
    case rel => exact ⟨_, (!t232), (by first | rfl | (simp; done) | (simp [*]; done)), H', ⟨by first | omega | exact Nat.le_refl _⟩, ⟨kB_ HB⟩⟩
   ·
    replace c9 := Bool.eq_false_iff.mpr c9
    subst c9
    have H1 : (impl_sizes.j0 k a0 a1 l2 l3 true) = some (r1, r2) := by rw [if_neg (show ¬ (false = true) by decide)] at H; exact H
    clear H
    have H := H1
    clear H1
    have H' := Aside0.mk H
    clear H
    go_wp2_with (first | ((with_reducible refine gate_callee (f := 54) rfl ?_); refine goesL_ (some 21) rfl rfl Try.func54 (by kernel_rfl) rfl #[.int .i64 a0, .int .i64 a1] rfl (by (try simp only [List.map_toArray, List.map_cons, List.map_nil]); first | done | rfl | (simp only [List.length_drop, List.length_take]; rfl)) ?_; (with_reducible refine (impl_isPlate.calls a0 a1 true _ A6.out).mono ?_); rintro e w' ⟨rfl, ⟨nd, rfl⟩⟩; refine ⟨_, rfl, ?_⟩) | (go_at_call 15; (with_reducible refine (impl_ValidKinds.calls _ _ l2 false _ ?side1 ?side2 A8.out).mono ?_); (case side1 => repeat (first | exact (Kd.C_below HR2.out (kB_ HB)) | (with_reducible refine Kd.C_alloc ?_ _) | (with_reducible refine Kd.C_drewN ?_ _) | (with_reducible refine Kd.C_drew ?_))); (case side2 => exact HC2.out); rintro e w12 ⟨rfl, hb⟩; have n0_ := Aside0.mk (below_step (kB_ HB) hb); clear HB; have HB := n0_; clear n0_; (try clear hb); (try clear hb2); (try clear hk); (try clear hi)))
    go_meet
    case rel => exact ⟨_, (true), (by first | rfl | (simp; done) | (simp [*]; done)), H', ⟨by first | omega | exact Nat.le_refl _⟩, ⟨kB_ HB⟩⟩
  ·
   replace c7 := Bool.eq_false_iff.mpr c7
   subst c7
   have H1 : (impl_sizes.j0 k a0 a1 l2 l3 true) = some (r1, r2) := by rw [if_neg (show ¬ (false = true) by decide)] at H; exact H
   clear H
   have H := H1
   clear H1
   have H' := Aside0.mk H
   clear H
   go_wp2_with (first | ((with_reducible refine gate_callee (f := 54) rfl ?_); refine goesL_ (some 21) rfl rfl Try.func54 (by kernel_rfl) rfl #[.int .i64 a0, .int .i64 a1] rfl (by (try simp only [List.map_toArray, List.map_cons, List.map_nil]); first | done | rfl | (simp only [List.length_drop, List.length_take]; rfl)) ?_; (with_reducible refine (impl_isPlate.calls a0 a1 false _ A6.out).mono ?_); rintro e w' ⟨rfl, ⟨nd, rfl⟩⟩; refine ⟨_, rfl, ?_⟩))
   go_meet
   case rel => exact ⟨_, (true), (by first | rfl | (simp; done) | (simp [*]; done)), H', ⟨by first | omega | exact Nat.le_refl _⟩, ⟨kB_ HB⟩⟩
 case rest =>
  clear HC5
  try clear c2
  try clear p2
  try clear c3
  try clear c5
  try clear c7
  try clear c9
  obtain ⟨kq, x33_4, rfl, HA, HJ4, HB⟩ := hcut
  cases kq with
  | zero => exact absurd HA.out (by simp [impl_sizes.j0])
  | succ kj4 =>
   have H := HA.out
   clear HA
   simp only [impl_sizes.j0] at H
   by_cases c13 : x33_4 = true
   ·
    subst c13
    have H1 : (some (([] : List (S79)), false)) = some (r1, r2) := by rw [if_pos rfl] at H; exact H
    clear H
    have H := H1
    clear H1
    simp only [Option.some.injEq, Prod.mk.injEq] at H
    obtain ⟨rfl, rfl⟩ := H
    go_wp2
    go_ret2
    exact ⟨_, by first | rfl | (simp [errW_none, errW_some] <;> rfl) | (simp [*, errW_none, errW_some] <;> rfl), by first | exact Kd.R_nil _ _ _ _ _ | exact Kd.N_nil _ _ _ _ _ | exact Kd.V_nil _ _ _ _ _ | exact Kd.Q_nil _ _ _ _ _ | exact Kd.S_nil _ _ _ _ _, kB_ HB⟩
   replace c13 := Bool.eq_false_iff.mpr c13
   subst c13
   have H1 : (if 0 ≤ (l3.length : Int) then (if ((l3.length : Int) : Int).toNat ≤ 17592186044416 then ((some (List.replicate ((l3.length : Int) : Int).toNat z79 : List (S79))).bind fun y233 => (if ((l3.length : Int) : Int).toNat ≤ 281474976710656 then ((some (List.replicate ((l3.length : Int) : Int).toNat false : List Bool)).bind fun y236 => (if 0 < (y233.length : Int) then (if 0 < (y236.length : Int) then (impl_sizes.l0 kj4 l2 l3 (y233.set (0 : Int).toNat (⟨a0, a1⟩ : S79)) (y236.set (0 : Int).toNat true) l3 (l3.length : Int) 0) else (none)) else (none))) else (none))) else (none)) else (none)) = some (r1, r2) := by rw [if_neg (show ¬ (false = true) by decide)] at H; exact H
   clear H
   have H := H1
   clear H1
   by_cases c14 : 0 ≤ (l3.length : Int)
   rotate_left
   ·
    rw [if_neg c14] at H
    exact absurd H (by simp)

   rw [if_pos c14] at H
   have c14b0 := eq_true c14
   have c14b1 : decide (0 ≤ (l3.length : Int)) = true := decide_eq_true c14
   clear c14
   by_cases c15 : ((l3.length : Int) : Int).toNat ≤ 17592186044416
   rotate_left
   ·
    rw [if_neg c15] at H
    exact absurd H (by simp)
   rw [if_pos c15] at H
   have c15b0 := eq_true c15
   have c15b1 : decide (((l3.length : Int) : Int).toNat ≤ 17592186044416) = true := decide_eq_true c15
   clear c15
   obtain ⟨y233, hy233⟩ : ∃ y_ : List (S79), y_ = (List.replicate ((l3.length : Int) : Int).toNat z79) := ⟨_, rfl⟩
   replace H : (if ((l3.length : Int) : Int).toNat ≤ 281474976710656 then ((some (List.replicate ((l3.length : Int) : Int).toNat false : List Bool)).bind fun y236 => (if 0 < (y233.length : Int) then (if 0 < (y236.length : Int) then (impl_sizes.l0 kj4 l2 l3 (y233.set (0 : Int).toNat (⟨a0, a1⟩ : S79)) (y236.set (0 : Int).toNat true) l3 (l3.length : Int) 0) else (none)) else (none))) else (none)) = some (r1, r2) := by first | (rw [hy233]; with_reducible exact H) | (have H2_ := (Option.bind_some _ _).symm.trans H; rw [hy233]; with_reducible exact H2_) | (have H2_ := (Option.bind_some _ _).symm.trans H; with_reducible exact H2_) | with_reducible exact H | (rw [hy233]; exact H) | exact H
   have Ny233 := Aside0.mk hy233
   clear hy233
   by_cases c16 : ((l3.length : Int) : Int).toNat ≤ 281474976710656
   rotate_left
   ·
    rw [if_neg c16] at H
    exact absurd H (by simp)
   rw [if_pos c16] at H
   have c16b0 := eq_true c16
   have c16b1 : decide (((l3.length : Int) : Int).toNat ≤ 281474976710656) = true := decide_eq_true c16
   clear c16
   obtain ⟨y236, hy236⟩ : ∃ y_ : List Bool, y_ = (List.replicate ((l3.length : Int) : Int).toNat false) := ⟨_, rfl⟩
   replace H : (if 0 < (y233.length : Int) then (if 0 < (y236.length : Int) then (impl_sizes.l0 kj4 l2 l3 (y233.set (0 : Int).toNat (⟨a0, a1⟩ : S79)) (y236.set (0 : Int).toNat true) l3 (l3.length : Int) 0) else (none)) else (none)) = some (r1, r2) := by first | (rw [hy236]; with_reducible exact H) | (have H2_ := (Option.bind_some _ _).symm.trans H; rw [hy236]; with_reducible exact H2_) | (have H2_ := (Option.bind_some _ _).symm.trans H; with_reducible exact H2_) | with_reducible exact H | (rw [hy236]; exact H) | exact H
   have Ny236 := Aside0.mk hy236
   clear hy236
   by_cases c17 : 0 < (y233.length : Int)
   rotate_left
   ·
    rw [if_neg c17] at H
    exact absurd H (by simp)
   rw [if_pos c17] at H
   have c17b0 : decide (0 < (y233.length : Int)) = true := decide_eq_true c17
   have c17b1 : decide (0 < y233.length) = true := decide_eq_true (by omega)
   clear c17
   obtain ⟨y239, hy239⟩ : ∃ y_ : List (S79), y_ = (y233.set (0 : Int).toNat (⟨a0, a1⟩ : S79)) := ⟨_, rfl⟩
   replace H : (if 0 < (y236.length : Int) then (impl_sizes.l0 kj4 l2 l3 y239 (y236.set (0 : Int).toNat true) l3 (l3.length : Int) 0) else (none)) = some (r1, r2) := by first | (rw [hy239]; with_reducible exact H) | (have H2_ := (Option.bind_some _ _).symm.trans H; rw [hy239]; with_reducible exact H2_) | (have H2_ := (Option.bind_some _ _).symm.trans H; with_reducible exact H2_) | with_reducible exact H | (rw [hy239]; exact H) | exact H
   have Ny239 := Aside0.mk hy239
   clear hy239
   by_cases c19 : 0 < (y236.length : Int)
   rotate_left
   ·
    rw [if_neg c19] at H
    exact absurd H (by simp)
   rw [if_pos c19] at H
   have c19b0 : decide (0 < (y236.length : Int)) = true := decide_eq_true c19
   have c19b1 : decide (0 < y236.length) = true := decide_eq_true (by omega)
   clear c19
   obtain ⟨y240, hy240⟩ : ∃ y_ : List Bool, y_ = (y236.set (0 : Int).toNat true) := ⟨_, rfl⟩
   replace H : (impl_sizes.l0 kj4 l2 l3 y239 y240 l3 (l3.length : Int) 0) = some (r1, r2) := by first | (rw [hy240]; with_reducible exact H) | (have H2_ := (Option.bind_some _ _).symm.trans H; rw [hy240]; with_reducible exact H2_) | (have H2_ := (Option.bind_some _ _).symm.trans H; with_reducible exact H2_) | with_reducible exact H | (rw [hy240]; exact H) | exact H
   have Ny240 := Aside0.mk hy240
   clear hy240
   have H' := Aside0.mk H
   clear H
   try go_wp2
   replace HB := Aside0.mk (below_drew1 HB.out)
   refine start_ (n := 8) (S := fun w' => True) (ds := []) #[false, false, false, false, false, false, false, false] (by kernel_rfl) rfl rfl trivial (fun hHeld => ?_); refine with_tabW impl_sizes.tab3 impl_sizes.bits3 (fun HT_ HW_ => ?_)
   generalize wc.drew = w21 at HB hHeld ⊢
   refine pu_ 0 34 (lA 8 1) ?_ ?_ HT_ ?_
   refine pu_ 1 35 (lA 8 3) ?_ ?_ HT_ ?_
   refine pu_ 3 37 (lA 8 11) ?_ ?_ HT_ ?_
   refine pu_ 4 38 (lA 8 27) ?_ ?_ HT_ ?_
   refine join_ (σ := Value × Value) 1 #[true, true, true, true, true, true, true, false] (fun s_ => [(36, s_.1), (39, s_.2), (10, s_.1)]) (fun s_ w' => (Kd.R k79 79 w' w.heap.size (fun _ => True) s_.1 y233) ∧ (Kd.R Kd.bool 4 w' w.heap.size (fun _ => True) s_.2 y236) ∧ (Below w.heap.size w w')) ?_ ?_
   rotate_left
   ·
    intro hCont
    refine two_ (i := 2) (j := 5) (Ni := some 36) (Nj := some 39) #[true, true, true, true, true, false, false, false] #[true, true, false, true, true, true, false, false] rfl rfl rfl rfl (two_of HT_.out (by kernel_rfl)) (by decide) (by decide) (fun K hK => ?_) (fun K hK => ?_)
    ·
     skip
     refine Kd.R_make_step k79 _ 79 (by rfl) (N := 36) rfl 40 _ _ rfl (l3.length : Int) rfl rfl Try.underlying40 (.agg #[(.int .i64 0), (.int .i64 0)]) 16 info79 rfl (by decide) (by omega) z79 (ok := fun _ => True) (okp := fun _ => True) (k79_mkM _ _ _ z79 ) (fun _ hk => hk) trivial od_ (Nat.le_trans (Nat.mul_le_mul_right _ (od_ : (l3.length : Int).toNat ≤ 17592186044416)) (by omega)) (Below.refl _ _) (Nat.le_refl _) ?_
     intro v234 w22 ho23 hb hg_ hnew_
     clear hg_ hnew_
     (first | rw [← Ny233.out] at ho23 | (simp only [Int.reduceToNat] at ho23; rw [← Ny233.out] at ho23))
     have n0_ := Aside0.mk (Kd.R_lower ho23 (below_size (kB_ HB)))
     have n1_ := Aside0.mk (below_step (kB_ HB) hb)
     clear HB
     have HO235 := n0_
     have HB := n1_
     clear n0_ n1_ hb ho23
     refine hK.out _ _ trivial (fun hHeld => ?_)
     clear hK K
     refine norm_ (a' := ?_) ?_ ?_
     rotate_left
     ·
      show Act.put _ (some 36) _ = _
      simp only [Act.put, List.setIfInBounds_toArray, List.set_cons_zero, List.set_cons_succ, i64_w, i32_w]
      rfl
     refine pu_ 6 10 (lA 8 95) ?_ ?_ HT_ ?_
     refine one_ (i := 5) (N := some 39) (lA 8 127) rfl rfl (one_of HT_.out (by kernel_rfl)) (by decide) (fun K hK => ?_)
     refine Kd.R_make_step Kd.bool _ 4 (by rfl) (N := 39) rfl 95 _ _ rfl (l3.length : Int) rfl rfl Try.underlying95 (.bool false) 1 info4 rfl (by decide) (by omega) false (ok := fun _ => True) (okp := fun _ => True) rfl (fun _ hk => hk) trivial od_ (Nat.le_trans (Nat.mul_le_mul_right _ (od_ : (l3.length : Int).toNat ≤ 281474976710656)) (by omega)) (Below.refl _ _) (Nat.le_refl _) ?_
     intro v237 w24 ho25 hb hg_ hnew_
     clear hg_ hnew_
     (first | rw [← Ny236.out] at ho25 | (simp only [Int.reduceToNat] at ho25; rw [← Ny236.out] at ho25))
     have n0_ := Aside0.mk (Kd.R_below (kp_ HO235) hb)
     have n1_ := Aside0.mk (Kd.R_lower ho25 (below_size (kB_ HB)))
     have n2_ := Aside0.mk (below_step (kB_ HB) hb)
     clear HO235 HB
     have HO235 := n0_
     have HO238 := n1_
     have HB := n2_
     clear n0_ n1_ n2_ hb ho25
     refine hK.out _ _ trivial (fun hHeld => ?_)
     clear hK K
     refine norm_ (a' := ?_) ?_ ?_
     rotate_left
     ·
      show Act.put _ (some 39) _ = _
      simp only [Act.put, List.setIfInBounds_toArray, List.set_cons_zero, List.set_cons_succ, i64_w, i32_w]
      rfl
     exact norm_ (by simp only [putAll, Act.put, List.setIfInBounds_toArray, List.set_cons_zero, List.set_cons_succ]) (hCont (v234, v237) _ ⟨(kp_ HO235), (kp_ HO238), (kB_ HB)⟩)
    ·
     skip
     refine Kd.R_make_step Kd.bool _ 4 (by rfl) (N := 39) rfl 95 _ _ rfl (l3.length : Int) rfl rfl Try.underlying95 (.bool false) 1 info4 rfl (by decide) (by omega) false (ok := fun _ => True) (okp := fun _ => True) rfl (fun _ hk => hk) trivial od_ (Nat.le_trans (Nat.mul_le_mul_right _ (od_ : (l3.length : Int).toNat ≤ 281474976710656)) (by omega)) (Below.refl _ _) (Nat.le_refl _) ?_
     intro v237 w22 ho23 hb hg_ hnew_
     clear hg_ hnew_
     (first | rw [← Ny236.out] at ho23 | (simp only [Int.reduceToNat] at ho23; rw [← Ny236.out] at ho23))
     have n0_ := Aside0.mk (Kd.R_lower ho23 (below_size (kB_ HB)))
     have n1_ := Aside0.mk (below_step (kB_ HB) hb)
     clear HB
     have HO238 := n0_
     have HB := n1_
     clear n0_ n1_ hb ho23
     refine hK.out _ _ trivial (fun hHeld => ?_)
     clear hK K
     refine norm_ (a' := ?_) ?_ ?_
     rotate_left
     ·
      show Act.put _ (some 39) _ = _
      simp only [Act.put, List.setIfInBounds_toArray, List.set_cons_zero, List.set_cons_succ, i64_w, i32_w]
      rfl
     refine one_ (i := 2) (N := some 36) (lA 8 63) rfl rfl (one_of HT_.out (by kernel_rfl)) (by decide) (fun K hK => ?_)
     refine Kd.R_make_step k79 _ 79 (by rfl) (N := 36) rfl 40 _ _ rfl (l3.length : Int) rfl rfl Try.underlying40 (.agg #[(.int .i64 0), (.int .i64 0)]) 16 info79 rfl (by decide) (by omega) z79 (ok := fun _ => True) (okp := fun _ => True) (k79_mkM _ _ _ z79 ) (fun _ hk => hk) trivial od_ (Nat.le_trans (Nat.mul_le_mul_right _ (od_ : (l3.length : Int).toNat ≤ 17592186044416)) (by omega)) (Below.refl _ _) (Nat.le_refl _) ?_
     intro v234 w24 ho25 hb hg_ hnew_
     clear hg_ hnew_
     (first | rw [← Ny233.out] at ho25 | (simp only [Int.reduceToNat] at ho25; rw [← Ny233.out] at ho25))
     have n0_ := Aside0.mk (Kd.R_below (kp_ HO238) hb)
     have n1_ := Aside0.mk (Kd.R_lower ho25 (below_size (kB_ HB)))
     have n2_ := Aside0.mk (below_step (kB_ HB) hb)
     clear HO238 HB
     have HO238 := n0_
     have HO235 := n1_
     have HB := n2_
     clear n0_ n1_ n2_ hb ho25
     refine hK.out _ _ trivial (fun hHeld => ?_)
     clear hK K
     refine norm_ (a' := ?_) ?_ ?_
     rotate_left
     ·
      show Act.put _ (some 36) _ = _
      simp only [Act.put, List.setIfInBounds_toArray, List.set_cons_zero, List.set_cons_succ, i64_w, i32_w]
      rfl
     refine pu_ 6 10 (lA 8 127) ?_ ?_ HT_ ?_
     exact norm_ (by simp only [putAll, Act.put, List.setIfInBounds_toArray, List.set_cons_zero, List.set_cons_succ]) (hCont (v234, v237) _ ⟨(kp_ HO235), (kp_ HO238), (kB_ HB)⟩)
   rintro ⟨v234, v237⟩ w26 ⟨h0_, h1_, h2_⟩
   have n0_ : Aside0 (Kd.R k79 79 w26 w.heap.size (fun _ => True) v234 y233) := ⟨h0_⟩
   have n1_ : Aside0 (Kd.R Kd.bool 4 w26 w.heap.size (fun _ => True) v237 y236) := ⟨h1_⟩
   have n2_ : Aside0 (Below w.heap.size w w26) := ⟨h2_⟩
   clear HB h0_ h1_ h2_
   have HO235 := n0_
   have HO238 := n1_
   have HB := n2_
   clear n0_ n1_ n2_
   have hHeld := trivial
   refine norm_ (a' := ?_) ?_ ?_
   rotate_left
   ·
    simp only [putAll, Act.put, List.setIfInBounds_toArray, List.set_cons_zero, List.set_cons_succ]
    rfl
   refine pu_ 7 11 (lA 8 255) ?_ ?_ HT_ ?_
   refine done_ (done_of HT_.out (by kernel_rfl)) ?_
   have p18 : 0 ≤ (0 : Int) := (by omega)
   have q18 : (0 : Int) < ((y233.length : Int) : Int) := od_
   have qi18 : (0 < y233.length) = True := eq_true (by omega)
   obtain ⟨go18, co18, eo18, gb18, gl18, cl18, HG18⟩ := Kd.R_form HO235.out (by omega)
   (first | cases eo18 | (injection eo18 with ea_ en_ ec_; (first | subst ea_ | (injection ea_ with ea_; subst ea_)); subst ec_; clear en_))
   have GB18 := Aside0.mk gb18
   have GG18 := Aside0.mk HG18
   clear gb18 gl18 HG18
   obtain ⟨ce18, hcl18, hM18, hcc18, hfr18⟩ := Kd.R_elem HO235.out z79 (0 : Int) p18 q18
   obtain rfl := k79_openM hM18
   have hx18_0 : w26.cell? ⟨go18, (0 : Int).toNat * 2, none⟩ = some (.int .i64 ((rd_T79 y233 0).f0)) := hcc18 0 _ rfl
   have hx18_1 : w26.cell? ⟨go18, (0 : Int).toNat * 2 + 1, none⟩ = some (.int .i64 ((rd_T79 y233 0).f1)) := hcc18 1 _ rfl
   have hf18_0 : w26.frozen? ⟨go18, (0 : Int).toNat * 2, none⟩ = false := hfr18 0
   have hf18_1 : w26.frozen? ⟨go18, (0 : Int).toNat * 2 + 1, none⟩ = false := hfr18 1
   clear hcl18 hcc18 hfr18; (try clear hM18)
   (try rw [show ((0 : Int)).toNat = 0 from rfl] at hx18_0)
   (try simp only [Nat.reduceMul, Nat.zero_mul, Nat.zero_add, Nat.reduceAdd] at hx18_0)
   (try rw [show ((0 : Int)).toNat = 0 from rfl] at hf18_0)
   (try simp only [Nat.reduceMul, Nat.zero_mul, Nat.zero_add, Nat.reduceAdd] at hf18_0)
   (try rw [show ((0 : Int)).toNat = 0 from rfl] at hx18_1)
   (try simp only [Nat.reduceMul, Nat.zero_mul, Nat.zero_add, Nat.reduceAdd] at hx18_1)
   (try rw [show ((0 : Int)).toNat = 0 from rfl] at hf18_1)
   (try simp only [Nat.reduceMul, Nat.zero_mul, Nat.zero_add, Nat.reduceAdd] at hf18_1)
   replace p18 := eq_true p18
   replace q18 := eq_true q18
   have HX27 := Aside0.mk (show Kd.R k79 79 w26 w.heap.size (fun _ => True) (.slice (some ⟨go18, 0, none⟩) y233.length co18) y233 from (kp_ HO235))
   obtain ⟨ce27, hcl27, hM27, hcc27, hfr27⟩ := Kd.R_elem HX27.out z79 (0 : Int) (by omega) (by have h_ : (0 : Int) < ((y233.length : Int) : Int) := od_; first | exact h_ | (have e_ := (Kd.R_reads' HO235.out).1; omega) | simpa using h_)
   obtain rfl := k79_openM hM27
   have HP27 := Kd.R_seg HX27.out (0 : Int) (by omega) (by have h_ : (0 : Int) < ((y233.length : Int) : Int) := od_; first | exact h_ | (have e_ := (Kd.R_reads' HO235.out).1; omega) | simpa using h_) (seg := [.int .i64 a0, .int .i64 a1]) (j := 0) hcl27 hcc27 (show 2 ≤ 2 from by decide) (x' := (⟨a0, a1⟩ : S79)) (k79_mkM _ _ _ (⟨a0, a1⟩ : S79) ) (fun _ hk => hk)
   have hx27_0 := hcc27 0 _ rfl
   (try simp only [show (k79).sz = 2 from rfl, Nat.mul_one, Nat.add_zero] at hx27_0)
   (try rw [show ((0 : Int)).toNat = 0 from rfl] at hx27_0)
   (try simp only [Nat.reduceMul, Nat.zero_mul, Nat.zero_add, Nat.reduceAdd] at hx27_0)
   have hf27_0 := hfr27 0
   (try simp only [show (k79).sz = 2 from rfl, Nat.mul_one, Nat.add_zero] at hf27_0)
   (try rw [show ((0 : Int)).toNat = 0 from rfl] at hf27_0)
   (try simp only [Nat.reduceMul, Nat.zero_mul, Nat.zero_add, Nat.reduceAdd] at hf27_0)
   have hx27_1 := hcc27 1 _ rfl
   (try simp only [show (k79).sz = 2 from rfl, Nat.mul_one, Nat.add_zero] at hx27_1)
   (try rw [show ((0 : Int)).toNat = 0 from rfl] at hx27_1)
   (try simp only [Nat.reduceMul, Nat.zero_mul, Nat.zero_add, Nat.reduceAdd] at hx27_1)
   have hf27_1 := hfr27 1
   (try simp only [show (k79).sz = 2 from rfl, Nat.mul_one, Nat.add_zero] at hf27_1)
   (try rw [show ((0 : Int)).toNat = 0 from rfl] at hf27_1)
   (try simp only [Nat.reduceMul, Nat.zero_mul, Nat.zero_add, Nat.reduceAdd] at hf27_1)
   clear hcl27 hcc27 hfr27; (try clear hM27)
   try go_wp2_with (first | ((with_reducible refine gate_store (t := 79) (p := 45) rfl ?_); refine store_event (t := 79) (p := 45) (v := ?vo_w28) (w1 := ((w26.setCell ⟨go18, 0, none⟩ (.int .i64 a0)).setCell ⟨go18, 1, none⟩ (.int .i64 a1))) ?hg ?ho ?hn ?hr ?_; (case ho => rfl); (case hg => rfl); (case hn => rfl); (case hr => first | (go_simp; done) | (go_simp; rfl)); intro w28 hw; have hg : w26.grownBy w28 (some go18) := (by rw [hw]; exact HP27.2); have hp_ : Kd.R k79 79 w28 w.heap.size (fun _ => True) (.slice (some ⟨go18, 0, none⟩) y233.length co18) y239 := (by rw [hw, Ny239.out]; exact HP27.1); clear HP27; have n0_ := Aside0.mk (hp_); have n1_ := Aside0.mk (Kd.R_over' (v := (.slice (some ⟨go18, 0, none⟩) y233.length co18)) (kp_ HO238) (Kd.R_typed HO235.out) (by decide) hg); have n2_ := Aside0.mk ((by rw [hw]; exact below_set (below_set (HB.out) GB18.out) GB18.out : Below w.heap.size w w28)); clear HO235; clear HO238; clear HB; have HO235 := n0_; have HO238 := n1_; have HB := n2_; clear n0_ n1_ n2_; clear hg hw hp_; have p20 : 0 ≤ (0 : Int) := (by omega); have q20 : (0 : Int) < ((y236.length : Int) : Int) := od_; have qi20 : (0 < y236.length) = True := eq_true (by omega); obtain ⟨go20, co20, eo20, gb20, gl20, cl20, HG20⟩ := Kd.R_form HO238.out (by omega); (first | cases eo20 | (injection eo20 with ea_ en_ ec_; (first | subst ea_ | (injection ea_ with ea_; subst ea_)); subst ec_; clear en_)); have GB20 := Aside0.mk gb20; have GG20 := Aside0.mk HG20; clear gb20 gl20 HG20; obtain ⟨hx20_0, hf20_0⟩ := Kd.R_celln false HO238.out (0 : Int) p20 q20; (try rw [show ((0 : Int)).toNat = 0 from rfl] at hx20_0); (try simp only [Nat.reduceMul, Nat.zero_mul, Nat.zero_add, Nat.reduceAdd] at hx20_0); (try rw [show ((0 : Int)).toNat = 0 from rfl] at hf20_0); (try simp only [Nat.reduceMul, Nat.zero_mul, Nat.zero_add, Nat.reduceAdd] at hf20_0); replace p20 := eq_true p20; replace q20 := eq_true q20; obtain ⟨hy29_, hz29_⟩ := Kd.R_celln false HO238.out (0 : Int) (by omega) od_; (try simp only [Int.reduceToNat, Int.toNat_zero, Int.toNat_ofNat, Nat.reduceMul, Nat.zero_mul, Nat.zero_add] at hy29_ hz29_); (try rw [show ((0 : Int)).toNat = 0 from rfl] at hy29_); (try rw [show ((0 : Int)).toNat = 0 from rfl] at hz29_); have HP29 := Kd.R_putg HO238.out (0 : Int) true) | ((with_reducible refine gate_store (t := 4) (p := 46) rfl ?_); refine store_event (t := 4) (p := 46) (v := ?vo_w30) (w1 := (w28.setCell ⟨go20, (0 : Int).toNat, none⟩ (.bool true))) ?hg ?ho ?hn ?hr ?_; (case ho => rfl); (case hg => rfl); (case hn => rfl); (case hr => first | (go_simp; done) | (go_simp; rfl)); intro w30 hw; have hg : w28.grownBy w30 (some go20) := (by rw [hw]; exact HP29.2); have hp_ : Kd.R Kd.bool 4 w30 w.heap.size (fun _ => True) (.slice (some ⟨go20, 0, none⟩) y236.length co20) y240 := (by rw [hw, Ny240.out]; exact HP29.1); clear HP29; have n0_ := Aside0.mk (Kd.R_over' (v := (.slice (some ⟨go20, 0, none⟩) y236.length co20)) (kp_ HO235) (Kd.R_typed HO238.out) (by decide) hg); have n1_ := Aside0.mk (hp_); have n2_ := Aside0.mk ((by rw [hw]; exact below_set (HB.out) GB20.out : Below w.heap.size w w30)); clear HO235; clear HO238; clear HB; have HO235 := n0_; have HO238 := n1_; have HB := n2_; clear n0_ n1_ n2_; clear hg hw hp_))
   go_loopg [49] kj4 (fun kq v49 w' => ∃ (x10_2 : List (S79)) (x11_2 : List Bool) (x49_2 : Int), v49 = .int .i64 x49_2 ∧ Aside0 (impl_sizes.l0 kq l2 l3 x10_2 x11_2 l3 (l3.length : Int) x49_2 = some (r1, r2)) ∧ Aside0 (kq ≤ kj4) ∧ Aside0 (Kd.R k79 79 w' w.heap.size (fun _ => True) (.slice (some ⟨go18, 0, none⟩) y233.length co18) x10_2) ∧ Aside0 (Kd.R Kd.bool 4 w' w.heap.size (fun _ => True) (.slice (some ⟨go20, 0, none⟩) y236.length co20) x11_2) ∧ Aside0 (Below w.heap.size w w'))
   case atStart => exact ⟨(y239), (y240), (0), (by first | rfl | (simp; done) | (simp [*]; done)), H', ⟨Nat.le_refl _⟩, ⟨kp_ HO235⟩, ⟨kp_ HO238⟩, ⟨kB_ HB⟩⟩
   case round =>
    clear H'
    try clear c1
    try clear p1
    try clear q1
    try clear hx1
    try clear qi1
    try clear c2
    try clear p2
    try clear q2
    try clear hx2
    try clear qi2
    try clear c3
    try clear c5
    try clear c7
    try clear c9
    try clear c13
    try clear c14
    try clear c14b0
    try clear c14b1
    try clear c15
    try clear c15b0
    try clear c15b1
    try clear c16
    try clear c16b0
    try clear c16b1
    try clear c17
    try clear c17b0
    try clear c17b1
    try clear c18
    try clear p18
    try clear q18
    try clear hx18
    try clear qi18
    try clear hf18
    try clear c19
    try clear c19b0
    try clear c19b1
    try clear p20
    try clear q20
    try clear hx20
    try clear qi20
    try clear hf20
    try clear c27
    try clear hx27
    try clear hf27
    try clear hx18_0
    try clear hx18_1
    try clear hx20_0
    try clear hx27_0
    try clear hx27_1
    try clear p18
    try clear p2
    try clear p20
    try clear q18
    try clear q20
    obtain ⟨x10_2, x11_2, x49_2, rfl, HA, HK2, HO_10, HO_11, HB⟩ := hrel
    have hl10_2 := (Kd.R_reads' HO_10.out).1
    rw [hl10_2] at HO_10
    (try simp only [hl10_2])
    (try simp only [hl10_2] at HO_11)
    have hl11_2 := (Kd.R_reads' HO_11.out).1
    rw [hl11_2] at HO_11
    (try simp only [hl11_2])
    (try simp only [hl11_2] at HO_10)
    cases gk with
    | zero => exact absurd HA.out (by simp [impl_sizes.l0])
    | succ k2 =>
     have H := HA.out
     clear HA
     simp only [impl_sizes.l0] at H
     by_cases c31 : x49_2 < (l3.length : Int)
     rotate_left
     ·
      rw [if_neg c31] at H
      have c31b0 : decide (x49_2 < (l3.length : Int)) = false := decide_eq_false c31
      clear c31
      simp only [Option.some.injEq, Prod.mk.injEq] at H
      obtain ⟨rfl, rfl⟩ := H
      go_wp2
      go_ret2
      exact ⟨_, by first | rfl | (simp [errW_none, errW_some] <;> rfl) | (simp [*, errW_none, errW_some] <;> rfl), by (with_reducible repeat (first | apply Kd.R_alloc | apply Kd.R_drewN | apply Kd.R_drew)); exact HO_10.out, kB_ HB⟩
     rw [if_pos c31] at H
     have c31b0 : decide (x49_2 < (l3.length : Int)) = true := decide_eq_true c31
     clear c31
     by_cases c32 : 0 ≤ x49_2
     rotate_left
     ·
      rw [if_neg c32] at H
      exact absurd H (by simp)
     rw [if_pos c32] at H
     have c32b0 : decide (0 ≤ x49_2) = true := decide_eq_true c32
     clear c32
     by_cases c33 : x49_2 < (l3.length : Int)
     rotate_left
     ·
      rw [if_neg c33] at H
      exact absurd H (by simp)
     rw [if_pos c33] at H
     have c33b0 : decide (x49_2 < (l3.length : Int)) = true := decide_eq_true c33
     clear c33
     by_cases c34 : x49_2 < (x10_2.length : Int)
     rotate_left
     ·
      rw [if_neg c34] at H
      exact absurd H (by simp)
     rw [if_pos c34] at H
     have c34b0 : decide (x49_2 < (x10_2.length : Int)) = true := decide_eq_true c34
     clear c34
     by_cases c35 : x49_2 < (x11_2.length : Int)
     rotate_left
     ·
      rw [if_neg c35] at H
      exact absurd H (by simp)
     rw [if_pos c35] at H
     have c35b0 : decide (x49_2 < (x11_2.length : Int)) = true := decide_eq_true c35
     clear c35
     obtain ⟨bq36, hbq36⟩ : ∃ b_ : Bool, b_ = (rdOf false x11_2 x49_2) := ⟨_, rfl⟩
     replace H : (if bq36 = true then (if ((rd_T75 l3 x49_2).f0) = 0 then (if (!(((rd_T75 l3 x49_2).f0) == 0) || (!(((rd_T75 l3 x49_2).f1) == 0) || (!(((rd_T75 l3 x49_2).f2) == 0) || (!(((rd_T75 l3 x49_2).f3) == 0))))) = true then (some (([] : List (S79)), false)) else (impl_sizes.l0 k2 l2 l3 x10_2 x11_2 l3 (l3.length : Int) (wrap64 (x49_2 + 1)))) else (if ((rd_T75 l3 x49_2).f0) = 1 then (if ((rd_T75 l3 x49_2).f1) = 0 then (if ((rd_T75 l3 x49_2).f3) = 0 then ((impl_within.f (wrap64 ((rd_T75 l3 x49_2).f2)) 0 (wrap64 ((l2.length : Int) - 1))).bind fun t246 => (if t246 = true then (if 0 ≤ (wrap64 ((rd_T75 l3 x49_2).f2)) then (if (wrap64 ((rd_T75 l3 x49_2).f2)) < (l2.length : Int) then (if (wrap64 ((rd_T57 l2 (wrap64 ((rd_T75 l3 x49_2).f2))).f0)) = ((rd_T79 x10_2 x49_2).f0) then (if (wrap64 ((rd_T57 l2 (wrap64 ((rd_T75 l3 x49_2).f2))).f1)) = ((rd_T79 x10_2 x49_2).f1) then (impl_sizes.l0 k2 l2 l3 x10_2 x11_2 l3 (l3.length : Int) (wrap64 (x49_2 + 1))) else (some (([] : List (S79)), false))) else (some (([] : List (S79)), false))) else (none)) else (none)) else (some (([] : List (S79)), false)))) else (some (([] : List (S79)), false))) else (some (([] : List (S79)), false))) else (if ((rd_T75 l3 x49_2).f0) = 2 then (impl_sizes.j2 k2 l2 l3 x10_2 x11_2 x49_2 l3 (l3.length : Int) x49_2 (((rd_T75 l3 x49_2).f0) == 2) ((rd_T75 l3 x49_2).f0) ((rd_T75 l3 x49_2).f1) ((rd_T75 l3 x49_2).f2) ((rd_T75 l3 x49_2).f3) ((rd_T79 x10_2 x49_2).f0) ((rd_T79 x10_2 x49_2).f1)) else (impl_sizes.j2 k2 l2 l3 x10_2 x11_2 x49_2 l3 (l3.length : Int) x49_2 (((rd_T75 l3 x49_2).f0) == 3) ((rd_T75 l3 x49_2).f0) ((rd_T75 l3 x49_2).f1) ((rd_T75 l3 x49_2).f2) ((rd_T75 l3 x49_2).f3) ((rd_T79 x10_2 x49_2).f0) ((rd_T79 x10_2 x49_2).f1))))) else (some (([] : List (S79)), false))) = some (r1, r2) := by rw [← hbq36] at H; exact H
     have Nbq36 := Aside0.mk hbq36
     clear hbq36
     by_cases c37 : bq36 = true
     rotate_left
     ·
      replace c37 := Bool.eq_false_iff.mpr c37
      subst c37
      have H1 : (some (([] : List (S79)), false)) = some (r1, r2) := by rw [if_neg (show ¬ (false = true) by decide)] at H; exact H
      clear H
      have H := H1
      clear H1
      simp only [Option.some.injEq, Prod.mk.injEq] at H
      obtain ⟨rfl, rfl⟩ := H
      have p241 : 0 ≤ (x49_2 : Int) := od_
      have q241 : x49_2 < (l3.length : Int) := od_
      obtain ⟨ad241, e241, hx241_0, hx241_1, hx241_2, hx241_3⟩ := at_T75 HR3.out x49_2 p241 q241
      cases e241
      replace hx241_0 := (HB.out.cell (World.block_lt_of_cell? w _ hx241_0)).trans hx241_0
      replace hx241_1 := (HB.out.cell (World.block_lt_of_cell? w _ hx241_1)).trans hx241_1
      replace hx241_2 := (HB.out.cell (World.block_lt_of_cell? w _ hx241_2)).trans hx241_2
      replace hx241_3 := (HB.out.cell (World.block_lt_of_cell? w _ hx241_3)).trans hx241_3
      replace p241 := eq_true p241
      replace q241 := eq_true q241
      go_wp2_with (first | ((with_reducible refine gate_dst (N := 13) rfl ?_); (try (refine gate_guard (by rfl) ?_; dsimp only)); refine box_event ?hg (N := 13) ?hd (cs := #[.int .i8 0, .int .i8 0, .int .i8 0, .int .i8 0]) (t := 75) ?hr ?_; (case hd => rfl); (case hg => rfl); (case hr => first | (go_simp; done) | (go_simp; rfl)); intro gb242 hg w204 hbox hb; have n0_ := Aside0.mk (Kd.R_below (kp_ HO_10) hb); have n1_ := Aside0.mk (Kd.R_below (kp_ HO_11) hb); have n2_ := Aside0.mk (below_step (kB_ HB) hb); have n3_ := Aside0.mk (hbox); have n4_ := Aside0.mk ((by rw [hg]; exact (below_size (kB_ HB)) : w.heap.size ≤ gb242)); have n5_ := Aside0.mk ((by rw [hg]; exact (below_size (kB_ HB)) : w.heap.size ≤ gb242)); clear HO_10; clear HO_11; clear HB; have HO_10 := n0_; have HO_11 := n1_; have HB := n2_; have BK242 := n3_; have GW242 := n4_; have GE242 := n5_; clear n0_ n1_ n2_ n3_ n4_ n5_; clear hb hbox hg; have hcz205_0 : w204.cell? ⟨gb242, 0, none⟩ = some (.int .i8 0) := (blk_cell BK242.out 0).trans rfl; have hcz205_1 : w204.cell? ⟨gb242, 1, none⟩ = some (.int .i8 0) := (blk_cell BK242.out 1).trans rfl; have hcz205_2 : w204.cell? ⟨gb242, 2, none⟩ = some (.int .i8 0) := (blk_cell BK242.out 2).trans rfl; have hcz205_3 : w204.cell? ⟨gb242, 3, none⟩ = some (.int .i8 0) := (blk_cell BK242.out 3).trans rfl; have hfz205_0 := blk_frozen BK242.out 0; have hfz205_1 := blk_frozen BK242.out 1; have hfz205_2 := blk_frozen BK242.out 2; have hfz205_3 := blk_frozen BK242.out 3; have p243 : 0 ≤ (x49_2 : Int) := od_; have q243 : x49_2 < (x10_2.length : Int) := od_; obtain ⟨ad243, e243, hx243_0, hx243_1⟩ := at_T79 (Kd.R_reads' HO_10.out).2.2 x49_2 p243 q243; obtain rfl : (⟨go18, 0, none⟩ : Addr) = ad243 := (by injection e243); (first | simp only [add_plain] at hx243_0 | simp only [add_at] at hx243_0 | simp only [Addr.add, Nat.zero_add] at hx243_0 | skip); (first | simp only [add_plain] at hx243_1 | simp only [add_at] at hx243_1 | simp only [Addr.add, Nat.zero_add] at hx243_1 | skip); have hn243_0 : (⟨go18, 0, none⟩ : Addr).block ≠ gb242 := Kd.own_blk (Kd.R_ne HO_10.out BK242.out (by decide)); have hn243_1 : (⟨go18, 0, none⟩ : Addr).block ≠ gb242 := Kd.own_blk (Kd.R_ne HO_10.out BK242.out (by decide)); have hn243_2 : (⟨go18, 0, none⟩ : Addr).block ≠ gb242 := Kd.own_blk (Kd.R_ne HO_10.out BK242.out (by decide)); have hn243_3 : (⟨go18, 0, none⟩ : Addr).block ≠ gb242 := Kd.own_blk (Kd.R_ne HO_10.out BK242.out (by decide)); replace hx243_0 := (cell_far (p := ⟨gb242, 0, none⟩) (by first | (rw [add_block]; exact hn243_0) | (show (Addr.add _ _).block ≠ _; rw [add_block]; exact hn243_0) | exact hn243_0) (.int .i8 ((rd_T75 l3 x49_2).f0))).trans hx243_0; replace hx243_1 := (cell_far (p := ⟨gb242, 0, none⟩) (by first | (rw [add_block]; exact hn243_0) | (show (Addr.add _ _).block ≠ _; rw [add_block]; exact hn243_0) | exact hn243_0) (.int .i8 ((rd_T75 l3 x49_2).f0))).trans hx243_1; replace hx243_0 := (cell_far (p := ⟨gb242, 1, none⟩) (by first | (rw [add_block]; exact hn243_1) | (show (Addr.add _ _).block ≠ _; rw [add_block]; exact hn243_1) | exact hn243_1) (.int .i8 ((rd_T75 l3 x49_2).f1))).trans hx243_0; replace hx243_1 := (cell_far (p := ⟨gb242, 1, none⟩) (by first | (rw [add_block]; exact hn243_1) | (show (Addr.add _ _).block ≠ _; rw [add_block]; exact hn243_1) | exact hn243_1) (.int .i8 ((rd_T75 l3 x49_2).f1))).trans hx243_1; replace hx243_0 := (cell_far (p := ⟨gb242, 2, none⟩) (by first | (rw [add_block]; exact hn243_2) | (show (Addr.add _ _).block ≠ _; rw [add_block]; exact hn243_2) | exact hn243_2) (.int .i8 ((rd_T75 l3 x49_2).f2))).trans hx243_0; replace hx243_1 := (cell_far (p := ⟨gb242, 2, none⟩) (by first | (rw [add_block]; exact hn243_2) | (show (Addr.add _ _).block ≠ _; rw [add_block]; exact hn243_2) | exact hn243_2) (.int .i8 ((rd_T75 l3 x49_2).f2))).trans hx243_1; replace hx243_0 := (cell_far (p := ⟨gb242, 3, none⟩) (by first | (rw [add_block]; exact hn243_3) | (show (Addr.add _ _).block ≠ _; rw [add_block]; exact hn243_3) | exact hn243_3) (.int .i8 ((rd_T75 l3 x49_2).f3))).trans hx243_0; replace hx243_1 := (cell_far (p := ⟨gb242, 3, none⟩) (by first | (rw [add_block]; exact hn243_3) | (show (Addr.add _ _).block ≠ _; rw [add_block]; exact hn243_3) | exact hn243_3) (.int .i8 ((rd_T75 l3 x49_2).f3))).trans hx243_1; clear hn243_0; clear hn243_1; clear hn243_2; clear hn243_3; replace p243 := eq_true p243; replace q243 := eq_true q243) | ((with_reducible refine gate_dst (N := 14) rfl ?_); (try (refine gate_guard (by rfl) ?_; dsimp only)); refine box_event ?hg (N := 14) ?hd (cs := #[.int .i64 0, .int .i64 0]) (t := 79) ?hr ?_; (case hd => rfl); (case hg => rfl); (case hr => first | (go_simp; done) | (go_simp; rfl)); intro gb244 hg w206 hbox hb; have n0_ := Aside0.mk (Kd.R_below (Kd.R_elderB (by (with_reducible repeat (first | apply Kd.R_alloc | apply Kd.R_drewN | apply Kd.R_drew)); exact (Kd.R_mono (Kd.R_far (p := ⟨gb242, 3, none⟩) (Kd.R_far (p := ⟨gb242, 2, none⟩) (Kd.R_far (p := ⟨gb242, 1, none⟩) (Kd.R_far (p := ⟨gb242, 0, none⟩) (Kd.R_types HO_10.out BK242.out (by decide)) (fun _ hk => hk.2) (.int .i8 ((rd_T75 l3 x49_2).f0))) (fun _ hk => hk.2) (.int .i8 ((rd_T75 l3 x49_2).f1))) (fun _ hk => hk.2) (.int .i8 ((rd_T75 l3 x49_2).f2))) (fun _ hk => hk.2) (.int .i8 ((rd_T75 l3 x49_2).f3))) (fun _ h_ => h_.1))) gb244 (Nat.le_of_eq hg.symm)) hb); have n1_ := Aside0.mk (Kd.R_below (by (with_reducible repeat (first | apply Kd.R_alloc | apply Kd.R_drewN | apply Kd.R_drew)); exact (Kd.R_mono (Kd.R_far (p := ⟨gb242, 3, none⟩) (Kd.R_far (p := ⟨gb242, 2, none⟩) (Kd.R_far (p := ⟨gb242, 1, none⟩) (Kd.R_far (p := ⟨gb242, 0, none⟩) (Kd.R_types HO_11.out BK242.out (by decide)) (fun _ hk => hk.2) (.int .i8 ((rd_T75 l3 x49_2).f0))) (fun _ hk => hk.2) (.int .i8 ((rd_T75 l3 x49_2).f1))) (fun _ hk => hk.2) (.int .i8 ((rd_T75 l3 x49_2).f2))) (fun _ hk => hk.2) (.int .i8 ((rd_T75 l3 x49_2).f3))) (fun _ h_ => h_.1))) hb); have n2_ := Aside0.mk (blk_below (g := gb242) (o := .cells #[.int .i8 ((rd_T75 l3 x49_2).f0), .int .i8 ((rd_T75 l3 x49_2).f1), .int .i8 ((rd_T75 l3 x49_2).f2), .int .i8 ((rd_T75 l3 x49_2).f3)] 75 (0, 0)) (by (with_reducible repeat (first | refine blk_drewN ?_ _ | refine blk_drew ?_ | refine blk_alloc ?_ _)); refine blk_put (cs := #[.int .i8 ((rd_T75 l3 x49_2).f0), .int .i8 ((rd_T75 l3 x49_2).f1), .int .i8 ((rd_T75 l3 x49_2).f2), .int .i8 0]) ?_ 3 _ rfl; (with_reducible repeat (first | refine blk_drewN ?_ _ | refine blk_drew ?_ | refine blk_alloc ?_ _)); refine blk_put (cs := #[.int .i8 ((rd_T75 l3 x49_2).f0), .int .i8 ((rd_T75 l3 x49_2).f1), .int .i8 0, .int .i8 0]) ?_ 2 _ rfl; (with_reducible repeat (first | refine blk_drewN ?_ _ | refine blk_drew ?_ | refine blk_alloc ?_ _)); refine blk_put (cs := #[.int .i8 ((rd_T75 l3 x49_2).f0), .int .i8 0, .int .i8 0, .int .i8 0]) ?_ 1 _ rfl; (with_reducible repeat (first | refine blk_drewN ?_ _ | refine blk_drew ?_ | refine blk_alloc ?_ _)); refine blk_put (cs := #[.int .i8 0, .int .i8 0, .int .i8 0, .int .i8 0]) ?_ 0 _ rfl; (with_reducible repeat (first | refine blk_drewN ?_ _ | refine blk_drew ?_ | refine blk_alloc ?_ _)); exact BK242.out) hb); have n3_ := Aside0.mk (below_step (by repeat (first | (with_reducible first | exact HB.out | apply below_alloc | apply pw_below_drewN | apply below_drew1 | refine below_set ?_ GE242.out) | exact HB.out)) hb); have n4_ := Aside0.mk (hbox); have n5_ := Aside0.mk ((by rw [hg]; exact (below_size (by repeat (first | (with_reducible first | exact HB.out | apply below_alloc | apply pw_below_drewN | apply below_drew1 | refine below_set ?_ GE242.out) | exact HB.out))) : w.heap.size ≤ gb244)); have n6_ := Aside0.mk ((by rw [hg]; exact (below_size (by repeat (first | (with_reducible first | exact HB.out | apply below_alloc | apply pw_below_drewN | apply below_drew1 | refine below_set ?_ GE242.out) | exact HB.out))) : w.heap.size ≤ gb244)); have n7_ := Aside0.mk ((by rw [hg]; exact Nat.ne_of_lt (blk_lt (g := gb242) (o := .cells #[.int .i8 ((rd_T75 l3 x49_2).f0), .int .i8 ((rd_T75 l3 x49_2).f1), .int .i8 ((rd_T75 l3 x49_2).f2), .int .i8 ((rd_T75 l3 x49_2).f3)] 75 (0, 0)) (by (with_reducible repeat (first | refine blk_drewN ?_ _ | refine blk_drew ?_ | refine blk_alloc ?_ _)); refine blk_put (cs := #[.int .i8 ((rd_T75 l3 x49_2).f0), .int .i8 ((rd_T75 l3 x49_2).f1), .int .i8 ((rd_T75 l3 x49_2).f2), .int .i8 0]) ?_ 3 _ rfl; (with_reducible repeat (first | refine blk_drewN ?_ _ | refine blk_drew ?_ | refine blk_alloc ?_ _)); refine blk_put (cs := #[.int .i8 ((rd_T75 l3 x49_2).f0), .int .i8 ((rd_T75 l3 x49_2).f1), .int .i8 0, .int .i8 0]) ?_ 2 _ rfl; (with_reducible repeat (first | refine blk_drewN ?_ _ | refine blk_drew ?_ | refine blk_alloc ?_ _)); refine blk_put (cs := #[.int .i8 ((rd_T75 l3 x49_2).f0), .int .i8 0, .int .i8 0, .int .i8 0]) ?_ 1 _ rfl; (with_reducible repeat (first | refine blk_drewN ?_ _ | refine blk_drew ?_ | refine blk_alloc ?_ _)); refine blk_put (cs := #[.int .i8 0, .int .i8 0, .int .i8 0, .int .i8 0]) ?_ 0 _ rfl; (with_reducible repeat (first | refine blk_drewN ?_ _ | refine blk_drew ?_ | refine blk_alloc ?_ _)); exact BK242.out)) : gb242 ≠ gb244)); have n8_ := Aside0.mk ((by rw [hg]; exact Nat.ne_of_gt (blk_lt (g := gb242) (o := .cells #[.int .i8 ((rd_T75 l3 x49_2).f0), .int .i8 ((rd_T75 l3 x49_2).f1), .int .i8 ((rd_T75 l3 x49_2).f2), .int .i8 ((rd_T75 l3 x49_2).f3)] 75 (0, 0)) (by (with_reducible repeat (first | refine blk_drewN ?_ _ | refine blk_drew ?_ | refine blk_alloc ?_ _)); refine blk_put (cs := #[.int .i8 ((rd_T75 l3 x49_2).f0), .int .i8 ((rd_T75 l3 x49_2).f1), .int .i8 ((rd_T75 l3 x49_2).f2), .int .i8 0]) ?_ 3 _ rfl; (with_reducible repeat (first | refine blk_drewN ?_ _ | refine blk_drew ?_ | refine blk_alloc ?_ _)); refine blk_put (cs := #[.int .i8 ((rd_T75 l3 x49_2).f0), .int .i8 ((rd_T75 l3 x49_2).f1), .int .i8 0, .int .i8 0]) ?_ 2 _ rfl; (with_reducible repeat (first | refine blk_drewN ?_ _ | refine blk_drew ?_ | refine blk_alloc ?_ _)); refine blk_put (cs := #[.int .i8 ((rd_T75 l3 x49_2).f0), .int .i8 0, .int .i8 0, .int .i8 0]) ?_ 1 _ rfl; (with_reducible repeat (first | refine blk_drewN ?_ _ | refine blk_drew ?_ | refine blk_alloc ?_ _)); refine blk_put (cs := #[.int .i8 0, .int .i8 0, .int .i8 0, .int .i8 0]) ?_ 0 _ rfl; (with_reducible repeat (first | refine blk_drewN ?_ _ | refine blk_drew ?_ | refine blk_alloc ?_ _)); exact BK242.out)) : gb244 ≠ gb242)); clear HO_10; clear HO_11; clear BK242; clear HB; have HO_10 := n0_; have HO_11 := n1_; have BK242 := n2_; have HB := n3_; have BK244 := n4_; have GW244 := n5_; have GE244 := n6_; have NB242_244 := n7_; have NB244_242 := n8_; clear n0_ n1_ n2_ n3_ n4_ n5_ n6_ n7_ n8_; clear hb hbox hg; have hnb207 := NB244_242.out; have hnc207 := NB242_244.out; have hcz208_0 : w206.cell? ⟨gb244, 0, none⟩ = some (.int .i64 0) := (blk_cell BK244.out 0).trans rfl; have hcz208_1 : w206.cell? ⟨gb244, 1, none⟩ = some (.int .i64 0) := (blk_cell BK244.out 1).trans rfl; have hfz208_0 := blk_frozen BK244.out 0; have hfz208_1 := blk_frozen BK244.out 1; have p245 : 0 ≤ (x49_2 : Int) := od_; have q245 : x49_2 < (x11_2.length : Int) := od_; obtain ⟨ad245, e245, hx245_0⟩ := Kd.at_bool (Kd.R_reads' HO_11.out).2.2 x49_2 p245 q245; (try rw [← Nbq36.out] at hx245_0); obtain rfl : (⟨go20, 0, none⟩ : Addr) = ad245 := (by injection e245); (first | simp only [add_plain] at hx245_0 | simp only [add_at] at hx245_0 | simp only [Addr.add, Nat.zero_add] at hx245_0 | skip); have hn245_0 : (⟨go20, 0, none⟩ : Addr).block ≠ gb244 := Kd.own_blk (Kd.R_ne HO_11.out BK244.out (by decide)); have hn245_1 : (⟨go20, 0, none⟩ : Addr).block ≠ gb244 := Kd.own_blk (Kd.R_ne HO_11.out BK244.out (by decide)); replace hx245_0 := (cell_far (p := ⟨gb244, 0, none⟩) (by first | (rw [add_block]; exact hn245_0) | (show (Addr.add _ _).block ≠ _; rw [add_block]; exact hn245_0) | exact hn245_0) (.int .i64 ((rd_T79 x10_2 x49_2).f0))).trans hx245_0; replace hx245_0 := (cell_far (p := ⟨gb244, 1, none⟩) (by first | (rw [add_block]; exact hn245_1) | (show (Addr.add _ _).block ≠ _; rw [add_block]; exact hn245_1) | exact hn245_1) (.int .i64 ((rd_T79 x10_2 x49_2).f1))).trans hx245_0; clear hn245_0; clear hn245_1; replace p245 := eq_true p245; replace q245 := eq_true q245))
      go_ret2
      exact ⟨_, by first | rfl | (simp [errW_none, errW_some] <;> rfl) | (simp [*, errW_none, errW_some] <;> rfl), by first | exact Kd.R_nil _ _ _ _ _ | exact Kd.N_nil _ _ _ _ _ | exact Kd.V_nil _ _ _ _ _ | exact Kd.Q_nil _ _ _ _ _ | exact Kd.S_nil _ _ _ _ _, kS_ HB GE242 GE244⟩
     subst c37
     have H1 : (if ((rd_T75 l3 x49_2).f0) = 0 then (if (!(((rd_T75 l3 x49_2).f0) == 0) || (!(((rd_T75 l3 x49_2).f1) == 0) || (!(((rd_T75 l3 x49_2).f2) == 0) || (!(((rd_T75 l3 x49_2).f3) == 0))))) = true then (some (([] : List (S79)), false)) else (impl_sizes.l0 k2 l2 l3 x10_2 x11_2 l3 (l3.length : Int) (wrap64 (x49_2 + 1)))) else (if ((rd_T75 l3 x49_2).f0) = 1 then (if ((rd_T75 l3 x49_2).f1) = 0 then (if ((rd_T75 l3 x49_2).f3) = 0 then ((impl_within.f (wrap64 ((rd_T75 l3 x49_2).f2)) 0 (wrap64 ((l2.length : Int) - 1))).bind fun t246 => (if t246 = true then (if 0 ≤ (wrap64 ((rd_T75 l3 x49_2).f2)) then (if (wrap64 ((rd_T75 l3 x49_2).f2)) < (l2.length : Int) then (if (wrap64 ((rd_T57 l2 (wrap64 ((rd_T75 l3 x49_2).f2))).f0)) = ((rd_T79 x10_2 x49_2).f0) then (if (wrap64 ((rd_T57 l2 (wrap64 ((rd_T75 l3 x49_2).f2))).f1)) = ((rd_T79 x10_2 x49_2).f1) then (impl_sizes.l0 k2 l2 l3 x10_2 x11_2 l3 (l3.length : Int) (wrap64 (x49_2 + 1))) else (some (([] : List (S79)), false))) else (some (([] : List (S79)), false))) else (none)) else (none)) else (some (([] : List (S79)), false)))) else (some (([] : List (S79)), false))) else (some (([] : List (S79)), false))) else (if ((rd_T75 l3 x49_2).f0) = 2 then (impl_sizes.j2 k2 l2 l3 x10_2 x11_2 x49_2 l3 (l3.length : Int) x49_2 (((rd_T75 l3 x49_2).f0) == 2) ((rd_T75 l3 x49_2).f0) ((rd_T75 l3 x49_2).f1) ((rd_T75 l3 x49_2).f2) ((rd_T75 l3 x49_2).f3) ((rd_T79 x10_2 x49_2).f0) ((rd_T79 x10_2 x49_2).f1)) else (impl_sizes.j2 k2 l2 l3 x10_2 x11_2 x49_2 l3 (l3.length : Int) x49_2 (((rd_T75 l3 x49_2).f0) == 3) ((rd_T75 l3 x49_2).f0) ((rd_T75 l3 x49_2).f1) ((rd_T75 l3 x49_2).f2) ((rd_T75 l3 x49_2).f3) ((rd_T79 x10_2 x49_2).f0) ((rd_T79 x10_2 x49_2).f1))))) = some (r1, r2) := by rw [if_pos rfl] at H; exact H
     clear H
     have H := H1
     clear H1
     have p241 : 0 ≤ (x49_2 : Int) := od_
     have q241 : x49_2 < (l3.length : Int) := od_
     obtain ⟨ad241, e241, hx241_0, hx241_1, hx241_2, hx241_3⟩ := at_T75 HR3.out x49_2 p241 q241
     cases e241
     replace hx241_0 := (HB.out.cell (World.block_lt_of_cell? w _ hx241_0)).trans hx241_0
     replace hx241_1 := (HB.out.cell (World.block_lt_of_cell? w _ hx241_1)).trans hx241_1
     replace hx241_2 := (HB.out.cell (World.block_lt_of_cell? w _ hx241_2)).trans hx241_2
     replace hx241_3 := (HB.out.cell (World.block_lt_of_cell? w _ hx241_3)).trans hx241_3
     replace p241 := eq_true p241
     replace q241 := eq_true q241
     go_upto_region 13 with (first | ((with_reducible refine gate_dst (N := 13) rfl ?_); (try (refine gate_guard (by rfl) ?_; dsimp only)); refine box_event ?hg (N := 13) ?hd (cs := #[.int .i8 0, .int .i8 0, .int .i8 0, .int .i8 0]) (t := 75) ?hr ?_; (case hd => rfl); (case hg => rfl); (case hr => first | (go_simp; done) | (go_simp; rfl)); intro gb242 hg w40 hbox hb; have n0_ := Aside0.mk (Kd.R_below (kp_ HO_10) hb); have n1_ := Aside0.mk (Kd.R_below (kp_ HO_11) hb); have n2_ := Aside0.mk (below_step (kB_ HB) hb); have n3_ := Aside0.mk (hbox); have n4_ := Aside0.mk ((by rw [hg]; exact (below_size (kB_ HB)) : w.heap.size ≤ gb242)); have n5_ := Aside0.mk ((by rw [hg]; exact (below_size (kB_ HB)) : w.heap.size ≤ gb242)); clear HO_10; clear HO_11; clear HB; have HO_10 := n0_; have HO_11 := n1_; have HB := n2_; have BK242 := n3_; have GW242 := n4_; have GE242 := n5_; clear n0_ n1_ n2_ n3_ n4_ n5_; clear hb hbox hg; have hcz41_0 : w40.cell? ⟨gb242, 0, none⟩ = some (.int .i8 0) := (blk_cell BK242.out 0).trans rfl; have hcz41_1 : w40.cell? ⟨gb242, 1, none⟩ = some (.int .i8 0) := (blk_cell BK242.out 1).trans rfl; have hcz41_2 : w40.cell? ⟨gb242, 2, none⟩ = some (.int .i8 0) := (blk_cell BK242.out 2).trans rfl; have hcz41_3 : w40.cell? ⟨gb242, 3, none⟩ = some (.int .i8 0) := (blk_cell BK242.out 3).trans rfl; have hfz41_0 := blk_frozen BK242.out 0; have hfz41_1 := blk_frozen BK242.out 1; have hfz41_2 := blk_frozen BK242.out 2; have hfz41_3 := blk_frozen BK242.out 3; have p243 : 0 ≤ (x49_2 : Int) := od_; have q243 : x49_2 < (x10_2.length : Int) := od_; obtain ⟨ad243, e243, hx243_0, hx243_1⟩ := at_T79 (Kd.R_reads' HO_10.out).2.2 x49_2 p243 q243; obtain rfl : (⟨go18, 0, none⟩ : Addr) = ad243 := (by injection e243); (first | simp only [add_plain] at hx243_0 | simp only [add_at] at hx243_0 | simp only [Addr.add, Nat.zero_add] at hx243_0 | skip); (first | simp only [add_plain] at hx243_1 | simp only [add_at] at hx243_1 | simp only [Addr.add, Nat.zero_add] at hx243_1 | skip); have hn243_0 : (⟨go18, 0, none⟩ : Addr).block ≠ gb242 := Kd.own_blk (Kd.R_ne HO_10.out BK242.out (by decide)); have hn243_1 : (⟨go18, 0, none⟩ : Addr).block ≠ gb242 := Kd.own_blk (Kd.R_ne HO_10.out BK242.out (by decide)); have hn243_2 : (⟨go18, 0, none⟩ : Addr).block ≠ gb242 := Kd.own_blk (Kd.R_ne HO_10.out BK242.out (by decide)); have hn243_3 : (⟨go18, 0, none⟩ : Addr).block ≠ gb242 := Kd.own_blk (Kd.R_ne HO_10.out BK242.out (by decide)); replace hx243_0 := (cell_far (p := ⟨gb242, 0, none⟩) (by first | (rw [add_block]; exact hn243_0) | (show (Addr.add _ _).block ≠ _; rw [add_block]; exact hn243_0) | exact hn243_0) (.int .i8 ((rd_T75 l3 x49_2).f0))).trans hx243_0; replace hx243_1 := (cell_far (p := ⟨gb242, 0, none⟩) (by first | (rw [add_block]; exact hn243_0) | (show (Addr.add _ _).block ≠ _; rw [add_block]; exact hn243_0) | exact hn243_0) (.int .i8 ((rd_T75 l3 x49_2).f0))).trans hx243_1; replace hx243_0 := (cell_far (p := ⟨gb242, 1, none⟩) (by first | (rw [add_block]; exact hn243_1) | (show (Addr.add _ _).block ≠ _; rw [add_block]; exact hn243_1) | exact hn243_1) (.int .i8 ((rd_T75 l3 x49_2).f1))).trans hx243_0; replace hx243_1 := (cell_far (p := ⟨gb242, 1, none⟩) (by first | (rw [add_block]; exact hn243_1) | (show (Addr.add _ _).block ≠ _; rw [add_block]; exact hn243_1) | exact hn243_1) (.int .i8 ((rd_T75 l3 x49_2).f1))).trans hx243_1; replace hx243_0 := (cell_far (p := ⟨gb242, 2, none⟩) (by first | (rw [add_block]; exact hn243_2) | (show (Addr.add _ _).block ≠ _; rw [add_block]; exact hn243_2) | exact hn243_2) (.int .i8 ((rd_T75 l3 x49_2).f2))).trans hx243_0; replace hx243_1 := (cell_far (p := ⟨gb242, 2, none⟩) (by first | (rw [add_block]; exact hn243_2) | (show (Addr.add _ _).block ≠ _; rw [add_block]; exact hn243_2) | exact hn243_2) (.int .i8 ((rd_T75 l3 x49_2).f2))).trans hx243_1; replace hx243_0 := (cell_far (p := ⟨gb242, 3, none⟩) (by first | (rw [add_block]; exact hn243_3) | (show (Addr.add _ _).block ≠ _; rw [add_block]; exact hn243_3) | exact hn243_3) (.int .i8 ((rd_T75 l3 x49_2).f3))).trans hx243_0; replace hx243_1 := (cell_far (p := ⟨gb242, 3, none⟩) (by first | (rw [add_block]; exact hn243_3) | (show (Addr.add _ _).block ≠ _; rw [add_block]; exact hn243_3) | exact hn243_3) (.int .i8 ((rd_T75 l3 x49_2).f3))).trans hx243_1; clear hn243_0; clear hn243_1; clear hn243_2; clear hn243_3; replace p243 := eq_true p243; replace q243 := eq_true q243) | ((with_reducible refine gate_dst (N := 14) rfl ?_); (try (refine gate_guard (by rfl) ?_; dsimp only)); refine box_event ?hg (N := 14) ?hd (cs := #[.int .i64 0, .int .i64 0]) (t := 79) ?hr ?_; (case hd => rfl); (case hg => rfl); (case hr => first | (go_simp; done) | (go_simp; rfl)); intro gb244 hg w42 hbox hb; have n0_ := Aside0.mk (Kd.R_below (Kd.R_elderB (by (with_reducible repeat (first | apply Kd.R_alloc | apply Kd.R_drewN | apply Kd.R_drew)); exact (Kd.R_mono (Kd.R_far (p := ⟨gb242, 3, none⟩) (Kd.R_far (p := ⟨gb242, 2, none⟩) (Kd.R_far (p := ⟨gb242, 1, none⟩) (Kd.R_far (p := ⟨gb242, 0, none⟩) (Kd.R_types HO_10.out BK242.out (by decide)) (fun _ hk => hk.2) (.int .i8 ((rd_T75 l3 x49_2).f0))) (fun _ hk => hk.2) (.int .i8 ((rd_T75 l3 x49_2).f1))) (fun _ hk => hk.2) (.int .i8 ((rd_T75 l3 x49_2).f2))) (fun _ hk => hk.2) (.int .i8 ((rd_T75 l3 x49_2).f3))) (fun _ h_ => h_.1))) gb244 (Nat.le_of_eq hg.symm)) hb); have n1_ := Aside0.mk (Kd.R_below (by (with_reducible repeat (first | apply Kd.R_alloc | apply Kd.R_drewN | apply Kd.R_drew)); exact (Kd.R_mono (Kd.R_far (p := ⟨gb242, 3, none⟩) (Kd.R_far (p := ⟨gb242, 2, none⟩) (Kd.R_far (p := ⟨gb242, 1, none⟩) (Kd.R_far (p := ⟨gb242, 0, none⟩) (Kd.R_types HO_11.out BK242.out (by decide)) (fun _ hk => hk.2) (.int .i8 ((rd_T75 l3 x49_2).f0))) (fun _ hk => hk.2) (.int .i8 ((rd_T75 l3 x49_2).f1))) (fun _ hk => hk.2) (.int .i8 ((rd_T75 l3 x49_2).f2))) (fun _ hk => hk.2) (.int .i8 ((rd_T75 l3 x49_2).f3))) (fun _ h_ => h_.1))) hb); have n2_ := Aside0.mk (blk_below (g := gb242) (o := .cells #[.int .i8 ((rd_T75 l3 x49_2).f0), .int .i8 ((rd_T75 l3 x49_2).f1), .int .i8 ((rd_T75 l3 x49_2).f2), .int .i8 ((rd_T75 l3 x49_2).f3)] 75 (0, 0)) (by (with_reducible repeat (first | refine blk_drewN ?_ _ | refine blk_drew ?_ | refine blk_alloc ?_ _)); refine blk_put (cs := #[.int .i8 ((rd_T75 l3 x49_2).f0), .int .i8 ((rd_T75 l3 x49_2).f1), .int .i8 ((rd_T75 l3 x49_2).f2), .int .i8 0]) ?_ 3 _ rfl; (with_reducible repeat (first | refine blk_drewN ?_ _ | refine blk_drew ?_ | refine blk_alloc ?_ _)); refine blk_put (cs := #[.int .i8 ((rd_T75 l3 x49_2).f0), .int .i8 ((rd_T75 l3 x49_2).f1), .int .i8 0, .int .i8 0]) ?_ 2 _ rfl; (with_reducible repeat (first | refine blk_drewN ?_ _ | refine blk_drew ?_ | refine blk_alloc ?_ _)); refine blk_put (cs := #[.int .i8 ((rd_T75 l3 x49_2).f0), .int .i8 0, .int .i8 0, .int .i8 0]) ?_ 1 _ rfl; (with_reducible repeat (first | refine blk_drewN ?_ _ | refine blk_drew ?_ | refine blk_alloc ?_ _)); refine blk_put (cs := #[.int .i8 0, .int .i8 0, .int .i8 0, .int .i8 0]) ?_ 0 _ rfl; (with_reducible repeat (first | refine blk_drewN ?_ _ | refine blk_drew ?_ | refine blk_alloc ?_ _)); exact BK242.out) hb); have n3_ := Aside0.mk (below_step (by repeat (first | (with_reducible first | exact HB.out | apply below_alloc | apply pw_below_drewN | apply below_drew1 | refine below_set ?_ GE242.out) | exact HB.out)) hb); have n4_ := Aside0.mk (hbox); have n5_ := Aside0.mk ((by rw [hg]; exact (below_size (by repeat (first | (with_reducible first | exact HB.out | apply below_alloc | apply pw_below_drewN | apply below_drew1 | refine below_set ?_ GE242.out) | exact HB.out))) : w.heap.size ≤ gb244)); have n6_ := Aside0.mk ((by rw [hg]; exact (below_size (by repeat (first | (with_reducible first | exact HB.out | apply below_alloc | apply pw_below_drewN | apply below_drew1 | refine below_set ?_ GE242.out) | exact HB.out))) : w.heap.size ≤ gb244)); have n7_ := Aside0.mk ((by rw [hg]; exact Nat.ne_of_lt (blk_lt (g := gb242) (o := .cells #[.int .i8 ((rd_T75 l3 x49_2).f0), .int .i8 ((rd_T75 l3 x49_2).f1), .int .i8 ((rd_T75 l3 x49_2).f2), .int .i8 ((rd_T75 l3 x49_2).f3)] 75 (0, 0)) (by (with_reducible repeat (first | refine blk_drewN ?_ _ | refine blk_drew ?_ | refine blk_alloc ?_ _)); refine blk_put (cs := #[.int .i8 ((rd_T75 l3 x49_2).f0), .int .i8 ((rd_T75 l3 x49_2).f1), .int .i8 ((rd_T75 l3 x49_2).f2), .int .i8 0]) ?_ 3 _ rfl; (with_reducible repeat (first | refine blk_drewN ?_ _ | refine blk_drew ?_ | refine blk_alloc ?_ _)); refine blk_put (cs := #[.int .i8 ((rd_T75 l3 x49_2).f0), .int .i8 ((rd_T75 l3 x49_2).f1), .int .i8 0, .int .i8 0]) ?_ 2 _ rfl; (with_reducible repeat (first | refine blk_drewN ?_ _ | refine blk_drew ?_ | refine blk_alloc ?_ _)); refine blk_put (cs := #[.int .i8 ((rd_T75 l3 x49_2).f0), .int .i8 0, .int .i8 0, .int .i8 0]) ?_ 1 _ rfl; (with_reducible repeat (first | refine blk_drewN ?_ _ | refine blk_drew ?_ | refine blk_alloc ?_ _)); refine blk_put (cs := #[.int .i8 0, .int .i8 0, .int .i8 0, .int .i8 0]) ?_ 0 _ rfl; (with_reducible repeat (first | refine blk_drewN ?_ _ | refine blk_drew ?_ | refine blk_alloc ?_ _)); exact BK242.out)) : gb242 ≠ gb244)); have n8_ := Aside0.mk ((by rw [hg]; exact Nat.ne_of_gt (blk_lt (g := gb242) (o := .cells #[.int .i8 ((rd_T75 l3 x49_2).f0), .int .i8 ((rd_T75 l3 x49_2).f1), .int .i8 ((rd_T75 l3 x49_2).f2), .int .i8 ((rd_T75 l3 x49_2).f3)] 75 (0, 0)) (by (with_reducible repeat (first | refine blk_drewN ?_ _ | refine blk_drew ?_ | refine blk_alloc ?_ _)); refine blk_put (cs := #[.int .i8 ((rd_T75 l3 x49_2).f0), .int .i8 ((rd_T75 l3 x49_2).f1), .int .i8 ((rd_T75 l3 x49_2).f2), .int .i8 0]) ?_ 3 _ rfl; (with_reducible repeat (first | refine blk_drewN ?_ _ | refine blk_drew ?_ | refine blk_alloc ?_ _)); refine blk_put (cs := #[.int .i8 ((rd_T75 l3 x49_2).f0), .int .i8 ((rd_T75 l3 x49_2).f1), .int .i8 0, .int .i8 0]) ?_ 2 _ rfl; (with_reducible repeat (first | refine blk_drewN ?_ _ | refine blk_drew ?_ | refine blk_alloc ?_ _)); refine blk_put (cs := #[.int .i8 ((rd_T75 l3 x49_2).f0), .int .i8 0, .int .i8 0, .int .i8 0]) ?_ 1 _ rfl; (with_reducible repeat (first | refine blk_drewN ?_ _ | refine blk_drew ?_ | refine blk_alloc ?_ _)); refine blk_put (cs := #[.int .i8 0, .int .i8 0, .int .i8 0, .int .i8 0]) ?_ 0 _ rfl; (with_reducible repeat (first | refine blk_drewN ?_ _ | refine blk_drew ?_ | refine blk_alloc ?_ _)); exact BK242.out)) : gb244 ≠ gb242)); clear HO_10; clear HO_11; clear BK242; clear HB; have HO_10 := n0_; have HO_11 := n1_; have BK242 := n2_; have HB := n3_; have BK244 := n4_; have GW244 := n5_; have GE244 := n6_; have NB242_244 := n7_; have NB244_242 := n8_; clear n0_ n1_ n2_ n3_ n4_ n5_ n6_ n7_ n8_; clear hb hbox hg; have hnb43 := NB244_242.out; have hnc43 := NB242_244.out; have hcz44_0 : w42.cell? ⟨gb244, 0, none⟩ = some (.int .i64 0) := (blk_cell BK244.out 0).trans rfl; have hcz44_1 : w42.cell? ⟨gb244, 1, none⟩ = some (.int .i64 0) := (blk_cell BK244.out 1).trans rfl; have hfz44_0 := blk_frozen BK244.out 0; have hfz44_1 := blk_frozen BK244.out 1; have p245 : 0 ≤ (x49_2 : Int) := od_; have q245 : x49_2 < (x11_2.length : Int) := od_; obtain ⟨ad245, e245, hx245_0⟩ := Kd.at_bool (Kd.R_reads' HO_11.out).2.2 x49_2 p245 q245; (try rw [← Nbq36.out] at hx245_0); obtain rfl : (⟨go20, 0, none⟩ : Addr) = ad245 := (by injection e245); (first | simp only [add_plain] at hx245_0 | simp only [add_at] at hx245_0 | simp only [Addr.add, Nat.zero_add] at hx245_0 | skip); have hn245_0 : (⟨go20, 0, none⟩ : Addr).block ≠ gb244 := Kd.own_blk (Kd.R_ne HO_11.out BK244.out (by decide)); have hn245_1 : (⟨go20, 0, none⟩ : Addr).block ≠ gb244 := Kd.own_blk (Kd.R_ne HO_11.out BK244.out (by decide)); replace hx245_0 := (cell_far (p := ⟨gb244, 0, none⟩) (by first | (rw [add_block]; exact hn245_0) | (show (Addr.add _ _).block ≠ _; rw [add_block]; exact hn245_0) | exact hn245_0) (.int .i64 ((rd_T79 x10_2 x49_2).f0))).trans hx245_0; replace hx245_0 := (cell_far (p := ⟨gb244, 1, none⟩) (by first | (rw [add_block]; exact hn245_1) | (show (Addr.add _ _).block ≠ _; rw [add_block]; exact hn245_1) | exact hn245_1) (.int .i64 ((rd_T79 x10_2 x49_2).f1))).trans hx245_0; clear hn245_0; clear hn245_1; replace p245 := eq_true p245; replace q245 := eq_true q245; have hcz45_0 : w42.cell? ⟨gb242, 0, none⟩ = some (.int .i8 ((rd_T75 l3 x49_2).f0)) := (blk_cell BK242.out 0).trans rfl; have hcz45_1 : w42.cell? ⟨gb242, 1, none⟩ = some (.int .i8 ((rd_T75 l3 x49_2).f1)) := (blk_cell BK242.out 1).trans rfl; have hcz45_2 : w42.cell? ⟨gb242, 2, none⟩ = some (.int .i8 ((rd_T75 l3 x49_2).f2)) := (blk_cell BK242.out 2).trans rfl; have hcz45_3 : w42.cell? ⟨gb242, 3, none⟩ = some (.int .i8 ((rd_T75 l3 x49_2).f3)) := (blk_cell BK242.out 3).trans rfl; have hfz45_0 := blk_frozen BK242.out 0; have hfz45_1 := blk_frozen BK242.out 1; have hfz45_2 := blk_frozen BK242.out 2; have hfz45_3 := blk_frozen BK242.out 3))
     as_aux_lemma =>
     by_cases c38 : ((rd_T75 l3 x49_2).f0) = 0
     ·
      rw [if_pos c38] at H
      have c38b0 : (((rd_T75 l3 x49_2).f0) == 0) = true := beq_iff_eq.mpr c38
      have c38b1 : (((rd_T75 l3 x49_2).f0) != 0) = false := bne_eq_false_iff_eq.mpr c38
      clear c38
      by_cases c39 : (!(((rd_T75 l3 x49_2).f0) == 0) || (!(((rd_T75 l3 x49_2).f1) == 0) || (!(((rd_T75 l3 x49_2).f2) == 0) || (!(((rd_T75 l3 x49_2).f3) == 0))))) = true
      ·
       rw [if_pos c39] at H
       have c39b0 : (!(((rd_T75 l3 x49_2).f0) == 0) || (!(((rd_T75 l3 x49_2).f1) == 0) || (!(((rd_T75 l3 x49_2).f2) == 0) || (!(((rd_T75 l3 x49_2).f3) == 0))))) = true := c39
       have c39c0 := c39b0; simp only [c38b0, Bool.not_true, Bool.false_or] at c39c0
       clear c39
       simp only [Option.some.injEq, Prod.mk.injEq] at H
       obtain ⟨rfl, rfl⟩ := H
       go_wp2
       go_ret2
       exact ⟨_, by first | rfl | (simp [errW_none, errW_some] <;> rfl) | (simp [*, errW_none, errW_some] <;> rfl), by first | exact Kd.R_nil _ _ _ _ _ | exact Kd.N_nil _ _ _ _ _ | exact Kd.V_nil _ _ _ _ _ | exact Kd.Q_nil _ _ _ _ _ | exact Kd.S_nil _ _ _ _ _, kS_ HB GE242 GE244⟩
      ·
       rw [if_neg c39] at H
       have c39b0 : (!(((rd_T75 l3 x49_2).f0) == 0) || (!(((rd_T75 l3 x49_2).f1) == 0) || (!(((rd_T75 l3 x49_2).f2) == 0) || (!(((rd_T75 l3 x49_2).f3) == 0))))) = false := by simpa using c39
       have c39c0 := c39b0; simp only [c38b0, Bool.not_true, Bool.false_or] at c39c0
       clear c39
       have H' := Aside0.mk H
       clear H
       go_wp2
       (try simp only [← hl10_2, ← hl11_2])
       go_roundg k2
       case measure => have := HJ4.out; have := HK2.out; omega
       case rel => exact ⟨(x10_2), (x11_2), (wrap64 (x49_2 + 1)), (by first | rfl | (simp; done) | (simp [*]; done)), H', ⟨by have := HJ4.out; have := HK2.out; omega⟩, ⟨by (try simp only [hl10_2]); (try simp only [hl11_2]); (with_reducible repeat (first | apply Kd.R_alloc | apply Kd.R_drewN | apply Kd.R_drew)); exact Kd.R_mono (Kd.R_far (p := ⟨gb244, 1, none⟩) (Kd.R_far (p := ⟨gb244, 0, none⟩) (Kd.R_mono HO_10.out (fun k_ hk => (⟨hk, hk.2⟩ : _ ∧ k_ ≠ gb244))) (fun _ hk => hk.2) (.int .i64 ((rd_T79 x10_2 x49_2).f0))) (fun _ hk => hk.2) (.int .i64 ((rd_T79 x10_2 x49_2).f1))) (fun _ hk => trivial)⟩, ⟨by (try simp only [hl10_2]); (try simp only [hl11_2]); (with_reducible repeat (first | apply Kd.R_alloc | apply Kd.R_drewN | apply Kd.R_drew)); exact Kd.R_mono (Kd.R_far (p := ⟨gb244, 1, none⟩) (Kd.R_far (p := ⟨gb244, 0, none⟩) (Kd.R_types HO_11.out BK244.out (by decide)) (fun _ hk => hk.2) (.int .i64 ((rd_T79 x10_2 x49_2).f0))) (fun _ hk => hk.2) (.int .i64 ((rd_T79 x10_2 x49_2).f1))) (fun _ hk => trivial)⟩, ⟨kS_ HB GE242 GE244⟩⟩
     rw [if_neg c38] at H
     have c38b0 : (((rd_T75 l3 x49_2).f0) == 0) = false := beq_eq_false_iff_ne.mpr c38
     have c38b1 : (((rd_T75 l3 x49_2).f0) != 0) = true := bne_iff_ne.mpr c38
     by_cases c52 : ((rd_T75 l3 x49_2).f0) = 1
     ·
      rw [if_pos c52] at H
      have c52b0 : (((rd_T75 l3 x49_2).f0) == 1) = true := beq_iff_eq.mpr c52
      have c52b1 : (((rd_T75 l3 x49_2).f0) != 1) = false := bne_eq_false_iff_eq.mpr c52
      clear c52
      try go_wp2
      have n0_ : Aside0 (Kd.R k79 79 ((w42.setCell ⟨gb244, 0, none⟩ (.int .i64 ((rd_T79 x10_2 x49_2).f0))).setCell ⟨gb244, 1, none⟩ (.int .i64 ((rd_T79 x10_2 x49_2).f1))) w.heap.size (fun k_ => k_ ≠ gb244) (.slice (some ⟨go18, 0, none⟩) x10_2.length co18) x10_2) := ⟨by (with_reducible repeat (first | apply Kd.R_alloc | apply Kd.R_drewN | apply Kd.R_drew)); exact Kd.R_mono (Kd.R_far (p := ⟨gb244, 1, none⟩) (Kd.R_far (p := ⟨gb244, 0, none⟩) (Kd.R_mono HO_10.out (fun k_ hk => (⟨hk, hk.2⟩ : _ ∧ k_ ≠ gb244))) (fun _ hk => hk.2) (.int .i64 ((rd_T79 x10_2 x49_2).f0))) (fun _ hk => hk.2) (.int .i64 ((rd_T79 x10_2 x49_2).f1))) (fun _ hk => hk.1.2)⟩
      have n1_ : Aside0 (Kd.R Kd.bool 4 ((w42.setCell ⟨gb244, 0, none⟩ (.int .i64 ((rd_T79 x10_2 x49_2).f0))).setCell ⟨gb244, 1, none⟩ (.int .i64 ((rd_T79 x10_2 x49_2).f1))) w.heap.size (fun _ => True) (.slice (some ⟨go20, 0, none⟩) x11_2.length co20) x11_2) := ⟨by (with_reducible repeat (first | apply Kd.R_alloc | apply Kd.R_drewN | apply Kd.R_drew)); exact Kd.R_mono (Kd.R_far (p := ⟨gb244, 1, none⟩) (Kd.R_far (p := ⟨gb244, 0, none⟩) (Kd.R_types HO_11.out BK244.out (by decide)) (fun _ hk => hk.2) (.int .i64 ((rd_T79 x10_2 x49_2).f0))) (fun _ hk => hk.2) (.int .i64 ((rd_T79 x10_2 x49_2).f1))) (fun _ hk => trivial)⟩
      have n2_ : Aside0 (((w42.setCell ⟨gb244, 0, none⟩ (.int .i64 ((rd_T79 x10_2 x49_2).f0))).setCell ⟨gb244, 1, none⟩ (.int .i64 ((rd_T79 x10_2 x49_2).f1))).heap[gb242]? = some (.cells #[.int .i8 ((rd_T75 l3 x49_2).f0), .int .i8 ((rd_T75 l3 x49_2).f1), .int .i8 ((rd_T75 l3 x49_2).f2), .int .i8 ((rd_T75 l3 x49_2).f3)] 75 (0, 0))) := ⟨by (with_reducible repeat (first | refine blk_drewN ?_ _ | refine blk_drew ?_ | refine blk_alloc ?_ _)); refine blk_far ?_ NB242_244.out _; (with_reducible repeat (first | refine blk_drewN ?_ _ | refine blk_drew ?_ | refine blk_alloc ?_ _)); refine blk_far ?_ NB242_244.out _; (with_reducible repeat (first | refine blk_drewN ?_ _ | refine blk_drew ?_ | refine blk_alloc ?_ _)); exact BK242.out⟩
      have n3_ : Aside0 (((w42.setCell ⟨gb244, 0, none⟩ (.int .i64 ((rd_T79 x10_2 x49_2).f0))).setCell ⟨gb244, 1, none⟩ (.int .i64 ((rd_T79 x10_2 x49_2).f1))).heap[gb244]? = some (.cells #[.int .i64 ((rd_T79 x10_2 x49_2).f0), .int .i64 ((rd_T79 x10_2 x49_2).f1)] 79 (0, 0))) := ⟨by (with_reducible repeat (first | refine blk_drewN ?_ _ | refine blk_drew ?_ | refine blk_alloc ?_ _)); refine blk_put (cs := #[.int .i64 ((rd_T79 x10_2 x49_2).f0), .int .i64 0]) ?_ 1 _ rfl; (with_reducible repeat (first | refine blk_drewN ?_ _ | refine blk_drew ?_ | refine blk_alloc ?_ _)); refine blk_put (cs := #[.int .i64 0, .int .i64 0]) ?_ 0 _ rfl; (with_reducible repeat (first | refine blk_drewN ?_ _ | refine blk_drew ?_ | refine blk_alloc ?_ _)); exact BK244.out⟩
      have n4_ : Aside0 (Below w.heap.size w ((w42.setCell ⟨gb244, 0, none⟩ (.int .i64 ((rd_T79 x10_2 x49_2).f0))).setCell ⟨gb244, 1, none⟩ (.int .i64 ((rd_T79 x10_2 x49_2).f1)))) := ⟨kS_ HB GE242 GE244⟩
      (try clear HO_10)
      (try clear HO_11)
      (try clear BK242)
      (try clear BK244)
      (try clear HB)
      generalize ((w42.setCell ⟨gb244, 0, none⟩ (.int .i64 ((rd_T79 x10_2 x49_2).f0))).setCell ⟨gb244, 1, none⟩ (.int .i64 ((rd_T79 x10_2 x49_2).f1))) = w68 at n0_ n1_ n2_ n3_ n4_ ⊢
      have HO_10 := n0_
      have HO_11 := n1_
      have BK242 := n2_
      have BK244 := n3_
      have HB := n4_
      clear n0_ n1_ n2_ n3_ n4_
      replace HO_10 := Aside0.mk (Kd.R_drew HO_10.out)
      replace HO_11 := Aside0.mk (Kd.R_drew HO_11.out)
      replace BK242 := Aside0.mk (blk_drew BK242.out)
      replace BK244 := Aside0.mk (blk_drew BK244.out)
      replace HB := Aside0.mk (below_drew1 HB.out)
      by_cases c53 : ((rd_T75 l3 x49_2).f1) = 0
      ·
       as_aux_lemma =>
       rw [if_pos c53] at H
       have c53b0 : (((rd_T75 l3 x49_2).f1) == 0) = true := beq_iff_eq.mpr c53
       have c53b1 : (((rd_T75 l3 x49_2).f1) != 0) = false := bne_eq_false_iff_eq.mpr c53
       clear c53
       by_cases c54 : ((rd_T75 l3 x49_2).f3) = 0
       ·
        rw [if_pos c54] at H
        have c54b0 : (((rd_T75 l3 x49_2).f3) == 0) = true := beq_iff_eq.mpr c54
        have c54b1 : (((rd_T75 l3 x49_2).f3) != 0) = false := bne_eq_false_iff_eq.mpr c54
        clear c54
        replace H := Option.bind_eq_some_iff.mp H
        obtain ⟨t246, A550, H⟩ := H
        replace H : (if t246 = true then (if 0 ≤ (wrap64 ((rd_T75 l3 x49_2).f2)) then (if (wrap64 ((rd_T75 l3 x49_2).f2)) < (l2.length : Int) then (if (wrap64 ((rd_T57 l2 (wrap64 ((rd_T75 l3 x49_2).f2))).f0)) = ((rd_T79 x10_2 x49_2).f0) then (if (wrap64 ((rd_T57 l2 (wrap64 ((rd_T75 l3 x49_2).f2))).f1)) = ((rd_T79 x10_2 x49_2).f1) then (impl_sizes.l0 k2 l2 l3 x10_2 x11_2 l3 (l3.length : Int) (wrap64 (x49_2 + 1))) else (some (([] : List (S79)), false))) else (some (([] : List (S79)), false))) else (none)) else (none)) else (some (([] : List (S79)), false))) = some (r1, r2) := H
        have A55 := Aside0.mk A550
        clear A550
        by_cases c56 : t246 = true
        ·
         subst c56
         have H1 : (if 0 ≤ (wrap64 ((rd_T75 l3 x49_2).f2)) then (if (wrap64 ((rd_T75 l3 x49_2).f2)) < (l2.length : Int) then (if (wrap64 ((rd_T57 l2 (wrap64 ((rd_T75 l3 x49_2).f2))).f0)) = ((rd_T79 x10_2 x49_2).f0) then (if (wrap64 ((rd_T57 l2 (wrap64 ((rd_T75 l3 x49_2).f2))).f1)) = ((rd_T79 x10_2 x49_2).f1) then (impl_sizes.l0 k2 l2 l3 x10_2 x11_2 l3 (l3.length : Int) (wrap64 (x49_2 + 1))) else (some (([] : List (S79)), false))) else (some (([] : List (S79)), false))) else (none)) else (none)) = some (r1, r2) := by rw [if_pos rfl] at H; exact H
         clear H
         have H := H1
         clear H1
         obtain ⟨ji57, hji57⟩ : ∃ j_ : Int, (wrap64 ((rd_T75 l3 x49_2).f2)) = j_ := ⟨_, rfl⟩
         replace H : (if 0 ≤ (ji57) then (if (ji57) < (l2.length : Int) then (if (wrap64 ((rd_T57 l2 (ji57)).f0)) = ((rd_T79 x10_2 x49_2).f0) then (if (wrap64 ((rd_T57 l2 (ji57)).f1)) = ((rd_T79 x10_2 x49_2).f1) then (impl_sizes.l0 k2 l2 l3 x10_2 x11_2 l3 (l3.length : Int) (wrap64 (x49_2 + 1))) else (some (([] : List (S79)), false))) else (some (([] : List (S79)), false))) else (none)) else (none)) = some (r1, r2) := by first | (rw [hji57] at H; exact H) | (simp only [hji57] at H ⊢; exact H)
         (try rw [hji57] at A55)
         have hji57w : (IntKind.i64.wrap ((rd_T75 l3 x49_2).f2)) = ji57 := (i64_w _).trans hji57
         by_cases c58 : 0 ≤ (ji57)
         rotate_left
         ·
          rw [if_neg c58] at H
          exact absurd H (by simp)
         rw [if_pos c58] at H
         have c58b0 : decide (0 ≤ (ji57)) = true := decide_eq_true c58
         clear c58
         by_cases c59 : (ji57) < (l2.length : Int)
         rotate_left
         ·
          rw [if_neg c59] at H
          exact absurd H (by simp)
         rw [if_pos c59] at H
         have c59b0 : decide ((ji57) < (l2.length : Int)) = true := decide_eq_true c59
         clear c59
         by_cases c60 : (wrap64 ((rd_T57 l2 (ji57)).f0)) = ((rd_T79 x10_2 x49_2).f0)
         ·
          rw [if_pos c60] at H
          have c60b0 : ((wrap64 ((rd_T57 l2 (ji57)).f0)) == ((rd_T79 x10_2 x49_2).f0)) = true := beq_iff_eq.mpr c60
          have c60b1 : ((wrap64 ((rd_T57 l2 (ji57)).f0)) != ((rd_T79 x10_2 x49_2).f0)) = false := bne_eq_false_iff_eq.mpr c60
          clear c60
          by_cases c61 : (wrap64 ((rd_T57 l2 (ji57)).f1)) = ((rd_T79 x10_2 x49_2).f1)
          ·
           rw [if_pos c61] at H
           have c61b0 : ((wrap64 ((rd_T57 l2 (ji57)).f1)) == ((rd_T79 x10_2 x49_2).f1)) = true := beq_iff_eq.mpr c61
           have c61b1 : ((wrap64 ((rd_T57 l2 (ji57)).f1)) != ((rd_T79 x10_2 x49_2).f1)) = false := bne_eq_false_iff_eq.mpr c61
           clear c61
           have H' := Aside0.mk H
           clear H
           have p247 : 0 ≤ ((ji57) : Int) := od_
           have q247 : (ji57) < (l2.length : Int) := od_
           obtain ⟨ad247, e247, hx247_0, hx247_1, hx247_2⟩ := at_T57 HR2.out (ji57) p247 q247
           have hw247_2 := hx247_2
           have hw247_1 := hx247_1
           have hw247_0 := hx247_0
           cases e247
           replace hx247_0 := (HB.out.cell (World.block_lt_of_cell? w _ hx247_0)).trans hx247_0
           replace hx247_1 := (HB.out.cell (World.block_lt_of_cell? w _ hx247_1)).trans hx247_1
           replace hx247_2 := (HB.out.cell (World.block_lt_of_cell? w _ hx247_2)).trans hx247_2
           replace p247 := eq_true p247
           replace q247 := eq_true q247
           have p248 : 0 ≤ ((ji57) : Int) := od_
           have q248 : (ji57) < (l2.length : Int) := od_
           obtain ⟨ad248, e248, hx248_0, hx248_1, hx248_2⟩ := at_T57 HR2.out (ji57) p248 q248
           have hw248_2 := hx248_2
           have hw248_1 := hx248_1
           have hw248_0 := hx248_0
           obtain rfl : ad247 = ad248 := (by injection e248)
           replace hx248_0 := (HB.out.cell (World.block_lt_of_cell? w _ hx248_0)).trans hx248_0
           replace hx248_1 := (HB.out.cell (World.block_lt_of_cell? w _ hx248_1)).trans hx248_1
           replace hx248_2 := (HB.out.cell (World.block_lt_of_cell? w _ hx248_2)).trans hx248_2
           replace p248 := eq_true p248
           replace q248 := eq_true q248
           refine start_ (n := 38) (S := fun w' => w'.cell? ⟨gb242, 0, none⟩ = some (.int .i8 ((rd_T75 l3 x49_2).f0)) ∧ w'.cell? ⟨gb242, 1, none⟩ = some (.int .i8 ((rd_T75 l3 x49_2).f1)) ∧ w'.cell? ⟨gb242, 2, none⟩ = some (.int .i8 ((rd_T75 l3 x49_2).f2)) ∧ w'.cell? ⟨gb242, 3, none⟩ = some (.int .i8 ((rd_T75 l3 x49_2).f3)) ∧ w'.cell? ⟨gb244, 0, none⟩ = some (.int .i64 ((rd_T79 x10_2 x49_2).f0)) ∧ w'.cell? ⟨gb244, 1, none⟩ = some (.int .i64 ((rd_T79 x10_2 x49_2).f1)) ∧ w'.cell? (ad247.add (((ji57)).toNat * 3)) = some (.int .i8 ((rd_T57 l2 (ji57)).f0)) ∧ w'.cell? ⟨(ad247.add (((ji57)).toNat * 3)).block, (ad247.add (((ji57)).toNat * 3)).off + 1, none⟩ = some (.int .i8 ((rd_T57 l2 (ji57)).f1)) ∧ w'.cell? ⟨(ad247.add (((ji57)).toNat * 3)).block, (ad247.add (((ji57)).toNat * 3)).off + 2, none⟩ = some (.int .i16 ((rd_T57 l2 (ji57)).f2)) ∧ w'.cell? (ad247.add (((ji57)).toNat * 3)) = some (.int .i8 ((rd_T57 l2 (ji57)).f0)) ∧ w'.cell? ⟨(ad247.add (((ji57)).toNat * 3)).block, (ad247.add (((ji57)).toNat * 3)).off + 1, none⟩ = some (.int .i8 ((rd_T57 l2 (ji57)).f1)) ∧ w'.cell? ⟨(ad247.add (((ji57)).toNat * 3)).block, (ad247.add (((ji57)).toNat * 3)).off + 2, none⟩ = some (.int .i16 ((rd_T57 l2 (ji57)).f2))) (ds := []) #[false, false, false, false, false, false, false, false, false, false, false, false, false, false, false, false, false, false, false, false, false, false, false, false, false, false, false, false, false, false, false, false, false, false, false, false, false, false] (by kernel_rfl) rfl rfl ⟨(blk_cell BK242.out 0).trans rfl, (blk_cell BK242.out 1).trans rfl, (blk_cell BK242.out 2).trans rfl, (blk_cell BK242.out 3).trans rfl, (blk_cell BK244.out 0).trans rfl, (blk_cell BK244.out 1).trans rfl, ((HB.out.cell (World.block_lt_of_cell? w _ hw247_0)).trans hw247_0), ((HB.out.cell (World.block_lt_of_cell? w _ hw247_1)).trans hw247_1), ((HB.out.cell (World.block_lt_of_cell? w _ hw247_2)).trans hw247_2), ((HB.out.cell (World.block_lt_of_cell? w _ hw248_0)).trans hw248_0), ((HB.out.cell (World.block_lt_of_cell? w _ hw248_1)).trans hw248_1), ((HB.out.cell (World.block_lt_of_cell? w _ hw248_2)).trans hw248_2)⟩ (fun hHeld => ?_); refine with_tabW impl_sizes.tab18 impl_sizes.bits18 (fun HT_ HW_ => ?_)
           generalize w68.drew = w69 at HO_10 HO_11 BK242 BK244 HB hx247_0 hx247_1 hx247_2 hx248_0 hx248_1 hx248_2 hHeld ⊢
           refine pu_ 0 75 (lA 38 1) ?_ ?_ HT_ ?_
           refine tk_ 1 76 (lA 38 3) ?_ ?_ HT_ HW_ hHeld ?_
           refine pu_ 2 77 (lA 38 7) ?_ ?_ HT_ ?_
           refine pu_ 3 78 (lA 38 15) ?_ ?_ HT_ ?_
           refine pu_ 4 79 (lA 38 31) ?_ ?_ HT_ ?_
           refine tk_ 5 80 (lA 38 63) ?_ ?_ HT_ HW_ hHeld ?_
           refine pu_ 6 81 (lA 38 127) ?_ ?_ HT_ ?_
           refine pu_ 7 82 (lA 38 255) ?_ ?_ HT_ ?_
           refine pu_ 8 83 (lA 38 511) ?_ ?_ HT_ ?_
           refine pu_ 9 84 (lA 38 1023) ?_ ?_ HT_ ?_
           refine pu_ 10 85 (lA 38 2047) ?_ ?_ HT_ ?_
           refine pu_ 11 86 (lA 38 4095) ?_ ?_ HT_ ?_
           refine pu_ 12 87 (lA 38 8191) ?_ ?_ HT_ ?_
           refine one_ (i := 13) (N := some 88) (lA 38 16383) rfl rfl (one_of HT_.out (by kernel_rfl)) (by decide) (fun K hK => ?_)
           refine goes_ Try.func49 (by kernel_rfl) rfl #[.int .i64 ji57, .int .i64 0, .int .i64 (wrap64 ((l2.length : Int) - 1))] (by rfl) rfl rfl (by (try simp only [List.map_toArray, List.map_cons, List.map_nil]); first | done | (simp only [hji57]; rfl) | rfl | (simp only [List.length_drop, List.length_take]; rfl)) ?_
           with_reducible refine (impl_within.calls ji57 0 (wrap64 ((l2.length : Int) - 1)) true _ A55.out).mono ?_
           rintro e w' ⟨rfl, ⟨nd, rfl⟩⟩
           refine ⟨_, rfl, ?_⟩
           refine hK.out _ _ ⟨(blk_cell BK242.out 0).trans rfl, (blk_cell BK242.out 1).trans rfl, (blk_cell BK242.out 2).trans rfl, (blk_cell BK242.out 3).trans rfl, (blk_cell BK244.out 0).trans rfl, (blk_cell BK244.out 1).trans rfl, ((HB.out.cell (World.block_lt_of_cell? w _ hw247_0)).trans hw247_0), ((HB.out.cell (World.block_lt_of_cell? w _ hw247_1)).trans hw247_1), ((HB.out.cell (World.block_lt_of_cell? w _ hw247_2)).trans hw247_2), ((HB.out.cell (World.block_lt_of_cell? w _ hw248_0)).trans hw248_0), ((HB.out.cell (World.block_lt_of_cell? w _ hw248_1)).trans hw248_1), ((HB.out.cell (World.block_lt_of_cell? w _ hw248_2)).trans hw248_2)⟩ (fun hHeld => ?_)
           clear hK K
           refine norm_ (a' := ?_) ?_ ?_
           rotate_left
           ·
            show Act.put _ (some 88) _ = _
            simp only [Act.put, List.setIfInBounds_toArray, List.set_cons_zero, List.set_cons_succ, i64_w, i32_w]
            rfl
           refine pu_ 14 89 (lA 38 32767) ?_ ?_ HT_ ?_
           refine pu_ 15 90 (lA 38 65535) ?_ ?_ HT_ ?_
           refine pu_ 16 91 (lA 38 131071) ?_ ?_ HT_ ?_
           refine pu_ 17 92 (lA 38 262143) ?_ ?_ HT_ ?_
           refine pu_ 18 93 (lA 38 524287) ?_ ?_ HT_ ?_
           refine pu_ 19 94 (lA 38 1048575) ?_ ?_ HT_ ?_
           refine pu_ 20 95 (lA 38 2097151) ?_ ?_ HT_ ?_
           refine pu_ 23 98 (lA 38 10485759) ?_ ?_ HT_ ?_
           refine tk_ 21 96 (lA 38 12582911) ?_ ?_ HT_ HW_ hHeld ?_
           refine pu_ 22 97 (lA 38 16777215) ?_ ?_ HT_ ?_
           refine tk_ 24 99 (lA 38 33554431) ?_ ?_ HT_ HW_ hHeld ?_
           refine pu_ 25 100 (lA 38 67108863) ?_ ?_ HT_ ?_
           refine pu_ 26 101 (lA 38 134217727) ?_ ?_ HT_ ?_
           refine pu_ 27 102 (lA 38 268435455) ?_ ?_ HT_ ?_
           refine pu_ 28 103 (lA 38 536870911) ?_ ?_ HT_ ?_
           refine pu_ 29 104 (lA 38 1073741823) ?_ ?_ HT_ ?_
           refine pu_ 30 105 (lA 38 2147483647) ?_ ?_ HT_ ?_
           refine pu_ 31 106 (lA 38 4294967295) ?_ ?_ HT_ ?_
           refine pu_ 34 109 (lA 38 21474836479) ?_ ?_ HT_ ?_
           refine tk_ 32 107 (lA 38 25769803775) ?_ ?_ HT_ HW_ hHeld ?_
           refine pu_ 33 108 (lA 38 34359738367) ?_ ?_ HT_ ?_
           refine tk_ 35 110 (lA 38 68719476735) ?_ ?_ HT_ HW_ hHeld ?_
           refine pu_ 36 111 (lA 38 137438953471) ?_ ?_ HT_ ?_
           refine pu_ 37 112 (lA 38 274877906943) ?_ ?_ HT_ ?_
           refine done_ (done_of HT_.out (by kernel_rfl)) ?_
           try go_wp2
           (try simp only [← hl10_2, ← hl11_2])
           go_roundg k2
           case measure => have := HJ4.out; have := HK2.out; omega
           case rel => exact ⟨(x10_2), (x11_2), (wrap64 (x49_2 + 1)), (by first | rfl | (simp; done) | (simp [*]; done)), H', ⟨by have := HJ4.out; have := HK2.out; omega⟩, ⟨by (try simp only [hl10_2]); (try simp only [hl11_2]); (with_reducible repeat (first | apply Kd.R_alloc | apply Kd.R_drewN | apply Kd.R_drew)); exact Kd.R_mono HO_10.out (fun _ hk => trivial)⟩, ⟨by (try simp only [hl10_2]); (try simp only [hl11_2]); (with_reducible repeat (first | apply Kd.R_alloc | apply Kd.R_drewN | apply Kd.R_drew)); exact HO_11.out⟩, ⟨kS_ HB GE242 GE244⟩⟩
          ·
           rw [if_neg c61] at H
           have c61b0 : ((wrap64 ((rd_T57 l2 (ji57)).f1)) == ((rd_T79 x10_2 x49_2).f1)) = false := beq_eq_false_iff_ne.mpr c61
           have c61b1 : ((wrap64 ((rd_T57 l2 (ji57)).f1)) != ((rd_T79 x10_2 x49_2).f1)) = true := bne_iff_ne.mpr c61
           simp only [Option.some.injEq, Prod.mk.injEq] at H
           obtain ⟨rfl, rfl⟩ := H
           have p247 : 0 ≤ ((ji57) : Int) := od_
           have q247 : (ji57) < (l2.length : Int) := od_
           obtain ⟨ad247, e247, hx247_0, hx247_1, hx247_2⟩ := at_T57 HR2.out (ji57) p247 q247
           have hw247_2 := hx247_2
           have hw247_1 := hx247_1
           have hw247_0 := hx247_0
           cases e247
           replace hx247_0 := (HB.out.cell (World.block_lt_of_cell? w _ hx247_0)).trans hx247_0
           replace hx247_1 := (HB.out.cell (World.block_lt_of_cell? w _ hx247_1)).trans hx247_1
           replace hx247_2 := (HB.out.cell (World.block_lt_of_cell? w _ hx247_2)).trans hx247_2
           replace p247 := eq_true p247
           replace q247 := eq_true q247
           have p248 : 0 ≤ ((ji57) : Int) := od_
           have q248 : (ji57) < (l2.length : Int) := od_
           obtain ⟨ad248, e248, hx248_0, hx248_1, hx248_2⟩ := at_T57 HR2.out (ji57) p248 q248
           have hw248_2 := hx248_2
           have hw248_1 := hx248_1
           have hw248_0 := hx248_0
           obtain rfl : ad247 = ad248 := (by injection e248)
           replace hx248_0 := (HB.out.cell (World.block_lt_of_cell? w _ hx248_0)).trans hx248_0
           replace hx248_1 := (HB.out.cell (World.block_lt_of_cell? w _ hx248_1)).trans hx248_1
           replace hx248_2 := (HB.out.cell (World.block_lt_of_cell? w _ hx248_2)).trans hx248_2
           replace p248 := eq_true p248
           replace q248 := eq_true q248
           refine start_ (n := 38) (S := fun w' => w'.cell? ⟨gb242, 0, none⟩ = some (.int .i8 ((rd_T75 l3 x49_2).f0)) ∧ w'.cell? ⟨gb242, 1, none⟩ = some (.int .i8 ((rd_T75 l3 x49_2).f1)) ∧ w'.cell? ⟨gb242, 2, none⟩ = some (.int .i8 ((rd_T75 l3 x49_2).f2)) ∧ w'.cell? ⟨gb242, 3, none⟩ = some (.int .i8 ((rd_T75 l3 x49_2).f3)) ∧ w'.cell? ⟨gb244, 0, none⟩ = some (.int .i64 ((rd_T79 x10_2 x49_2).f0)) ∧ w'.cell? ⟨gb244, 1, none⟩ = some (.int .i64 ((rd_T79 x10_2 x49_2).f1)) ∧ w'.cell? (ad247.add (((ji57)).toNat * 3)) = some (.int .i8 ((rd_T57 l2 (ji57)).f0)) ∧ w'.cell? ⟨(ad247.add (((ji57)).toNat * 3)).block, (ad247.add (((ji57)).toNat * 3)).off + 1, none⟩ = some (.int .i8 ((rd_T57 l2 (ji57)).f1)) ∧ w'.cell? ⟨(ad247.add (((ji57)).toNat * 3)).block, (ad247.add (((ji57)).toNat * 3)).off + 2, none⟩ = some (.int .i16 ((rd_T57 l2 (ji57)).f2)) ∧ w'.cell? (ad247.add (((ji57)).toNat * 3)) = some (.int .i8 ((rd_T57 l2 (ji57)).f0)) ∧ w'.cell? ⟨(ad247.add (((ji57)).toNat * 3)).block, (ad247.add (((ji57)).toNat * 3)).off + 1, none⟩ = some (.int .i8 ((rd_T57 l2 (ji57)).f1)) ∧ w'.cell? ⟨(ad247.add (((ji57)).toNat * 3)).block, (ad247.add (((ji57)).toNat * 3)).off + 2, none⟩ = some (.int .i16 ((rd_T57 l2 (ji57)).f2))) (ds := []) #[false, false, false, false, false, false, false, false, false, false, false, false, false, false, false, false, false, false, false, false, false, false, false, false, false, false, false, false, false, false, false, false, false, false, false, false, false, false] (by kernel_rfl) rfl rfl ⟨(blk_cell BK242.out 0).trans rfl, (blk_cell BK242.out 1).trans rfl, (blk_cell BK242.out 2).trans rfl, (blk_cell BK242.out 3).trans rfl, (blk_cell BK244.out 0).trans rfl, (blk_cell BK244.out 1).trans rfl, ((HB.out.cell (World.block_lt_of_cell? w _ hw247_0)).trans hw247_0), ((HB.out.cell (World.block_lt_of_cell? w _ hw247_1)).trans hw247_1), ((HB.out.cell (World.block_lt_of_cell? w _ hw247_2)).trans hw247_2), ((HB.out.cell (World.block_lt_of_cell? w _ hw248_0)).trans hw248_0), ((HB.out.cell (World.block_lt_of_cell? w _ hw248_1)).trans hw248_1), ((HB.out.cell (World.block_lt_of_cell? w _ hw248_2)).trans hw248_2)⟩ (fun hHeld => ?_); refine with_tabW impl_sizes.tab18 impl_sizes.bits18 (fun HT_ HW_ => ?_)
           generalize w68.drew = w77 at HO_10 HO_11 BK242 BK244 HB hx247_0 hx247_1 hx247_2 hx248_0 hx248_1 hx248_2 hHeld ⊢
           refine pu_ 0 75 (lA 38 1) ?_ ?_ HT_ ?_
           refine tk_ 1 76 (lA 38 3) ?_ ?_ HT_ HW_ hHeld ?_
           refine pu_ 2 77 (lA 38 7) ?_ ?_ HT_ ?_
           refine pu_ 3 78 (lA 38 15) ?_ ?_ HT_ ?_
           refine pu_ 4 79 (lA 38 31) ?_ ?_ HT_ ?_
           refine tk_ 5 80 (lA 38 63) ?_ ?_ HT_ HW_ hHeld ?_
           refine pu_ 6 81 (lA 38 127) ?_ ?_ HT_ ?_
           refine pu_ 7 82 (lA 38 255) ?_ ?_ HT_ ?_
           refine pu_ 8 83 (lA 38 511) ?_ ?_ HT_ ?_
           refine pu_ 9 84 (lA 38 1023) ?_ ?_ HT_ ?_
           refine pu_ 10 85 (lA 38 2047) ?_ ?_ HT_ ?_
           refine pu_ 11 86 (lA 38 4095) ?_ ?_ HT_ ?_
           refine pu_ 12 87 (lA 38 8191) ?_ ?_ HT_ ?_
           refine one_ (i := 13) (N := some 88) (lA 38 16383) rfl rfl (one_of HT_.out (by kernel_rfl)) (by decide) (fun K hK => ?_)
           refine goes_ Try.func49 (by kernel_rfl) rfl #[.int .i64 ji57, .int .i64 0, .int .i64 (wrap64 ((l2.length : Int) - 1))] (by rfl) rfl rfl (by (try simp only [List.map_toArray, List.map_cons, List.map_nil]); first | done | (simp only [hji57]; rfl) | rfl | (simp only [List.length_drop, List.length_take]; rfl)) ?_
           with_reducible refine (impl_within.calls ji57 0 (wrap64 ((l2.length : Int) - 1)) true _ A55.out).mono ?_
           rintro e w' ⟨rfl, ⟨nd, rfl⟩⟩
           refine ⟨_, rfl, ?_⟩
           refine hK.out _ _ ⟨(blk_cell BK242.out 0).trans rfl, (blk_cell BK242.out 1).trans rfl, (blk_cell BK242.out 2).trans rfl, (blk_cell BK242.out 3).trans rfl, (blk_cell BK244.out 0).trans rfl, (blk_cell BK244.out 1).trans rfl, ((HB.out.cell (World.block_lt_of_cell? w _ hw247_0)).trans hw247_0), ((HB.out.cell (World.block_lt_of_cell? w _ hw247_1)).trans hw247_1), ((HB.out.cell (World.block_lt_of_cell? w _ hw247_2)).trans hw247_2), ((HB.out.cell (World.block_lt_of_cell? w _ hw248_0)).trans hw248_0), ((HB.out.cell (World.block_lt_of_cell? w _ hw248_1)).trans hw248_1), ((HB.out.cell (World.block_lt_of_cell? w _ hw248_2)).trans hw248_2)⟩ (fun hHeld => ?_)
           clear hK K
           refine norm_ (a' := ?_) ?_ ?_
           rotate_left
           ·
            show Act.put _ (some 88) _ = _
            simp only [Act.put, List.setIfInBounds_toArray, List.set_cons_zero, List.set_cons_succ, i64_w, i32_w]
            rfl
           refine pu_ 14 89 (lA 38 32767) ?_ ?_ HT_ ?_
           refine pu_ 15 90 (lA 38 65535) ?_ ?_ HT_ ?_
           refine pu_ 16 91 (lA 38 131071) ?_ ?_ HT_ ?_
           refine pu_ 17 92 (lA 38 262143) ?_ ?_ HT_ ?_
           refine pu_ 18 93 (lA 38 524287) ?_ ?_ HT_ ?_
           refine pu_ 19 94 (lA 38 1048575) ?_ ?_ HT_ ?_
           refine pu_ 20 95 (lA 38 2097151) ?_ ?_ HT_ ?_
           refine pu_ 23 98 (lA 38 10485759) ?_ ?_ HT_ ?_
           refine tk_ 21 96 (lA 38 12582911) ?_ ?_ HT_ HW_ hHeld ?_
           refine pu_ 22 97 (lA 38 16777215) ?_ ?_ HT_ ?_
           refine tk_ 24 99 (lA 38 33554431) ?_ ?_ HT_ HW_ hHeld ?_
           refine pu_ 25 100 (lA 38 67108863) ?_ ?_ HT_ ?_
           refine pu_ 26 101 (lA 38 134217727) ?_ ?_ HT_ ?_
           refine pu_ 27 102 (lA 38 268435455) ?_ ?_ HT_ ?_
           refine pu_ 28 103 (lA 38 536870911) ?_ ?_ HT_ ?_
           refine pu_ 29 104 (lA 38 1073741823) ?_ ?_ HT_ ?_
           refine pu_ 30 105 (lA 38 2147483647) ?_ ?_ HT_ ?_
           refine pu_ 31 106 (lA 38 4294967295) ?_ ?_ HT_ ?_
           refine pu_ 34 109 (lA 38 21474836479) ?_ ?_ HT_ ?_
           refine tk_ 32 107 (lA 38 25769803775) ?_ ?_ HT_ HW_ hHeld ?_
           refine pu_ 33 108 (lA 38 34359738367) ?_ ?_ HT_ ?_
           refine tk_ 35 110 (lA 38 68719476735) ?_ ?_ HT_ HW_ hHeld ?_
           refine pu_ 36 111 (lA 38 137438953471) ?_ ?_ HT_ ?_
           refine pu_ 37 112 (lA 38 274877906943) ?_ ?_ HT_ ?_
           refine done_ (done_of HT_.out (by kernel_rfl)) ?_
           try go_wp2
           go_ret2
           exact ⟨_, by first | rfl | (simp [errW_none, errW_some] <;> rfl) | (simp only [← hji57]; first | rfl | (simp [errW_none, errW_some] <;> rfl)) | (simp [*, errW_none, errW_some] <;> rfl), by first | exact Kd.R_nil _ _ _ _ _ | exact Kd.N_nil _ _ _ _ _ | exact Kd.V_nil _ _ _ _ _ | exact Kd.Q_nil _ _ _ _ _ | exact Kd.S_nil _ _ _ _ _, kS_ HB GE242 GE244⟩
         ·
          rw [if_neg c60] at H
          have c60b0 : ((wrap64 ((rd_T57 l2 (ji57)).f0)) == ((rd_T79 x10_2 x49_2).f0)) = false := beq_eq_false_iff_ne.mpr c60
          have c60b1 : ((wrap64 ((rd_T57 l2 (ji57)).f0)) != ((rd_T79 x10_2 x49_2).f0)) = true := bne_iff_ne.mpr c60
          simp only [Option.some.injEq, Prod.mk.injEq] at H
          obtain ⟨rfl, rfl⟩ := H
          have p247 : 0 ≤ ((ji57) : Int) := od_
          have q247 : (ji57) < (l2.length : Int) := od_
          obtain ⟨ad247, e247, hx247_0, hx247_1, hx247_2⟩ := at_T57 HR2.out (ji57) p247 q247
          have hw247_2 := hx247_2
          have hw247_1 := hx247_1
          have hw247_0 := hx247_0
          cases e247
          replace hx247_0 := (HB.out.cell (World.block_lt_of_cell? w _ hx247_0)).trans hx247_0
          replace hx247_1 := (HB.out.cell (World.block_lt_of_cell? w _ hx247_1)).trans hx247_1
          replace hx247_2 := (HB.out.cell (World.block_lt_of_cell? w _ hx247_2)).trans hx247_2
          replace p247 := eq_true p247
          replace q247 := eq_true q247
          refine start_ (n := 38) (S := fun w' => w'.cell? ⟨gb242, 0, none⟩ = some (.int .i8 ((rd_T75 l3 x49_2).f0)) ∧ w'.cell? ⟨gb242, 1, none⟩ = some (.int .i8 ((rd_T75 l3 x49_2).f1)) ∧ w'.cell? ⟨gb242, 2, none⟩ = some (.int .i8 ((rd_T75 l3 x49_2).f2)) ∧ w'.cell? ⟨gb242, 3, none⟩ = some (.int .i8 ((rd_T75 l3 x49_2).f3)) ∧ w'.cell? ⟨gb244, 0, none⟩ = some (.int .i64 ((rd_T79 x10_2 x49_2).f0)) ∧ w'.cell? ⟨gb244, 1, none⟩ = some (.int .i64 ((rd_T79 x10_2 x49_2).f1)) ∧ w'.cell? (ad247.add (((ji57)).toNat * 3)) = some (.int .i8 ((rd_T57 l2 (ji57)).f0)) ∧ w'.cell? ⟨(ad247.add (((ji57)).toNat * 3)).block, (ad247.add (((ji57)).toNat * 3)).off + 1, none⟩ = some (.int .i8 ((rd_T57 l2 (ji57)).f1)) ∧ w'.cell? ⟨(ad247.add (((ji57)).toNat * 3)).block, (ad247.add (((ji57)).toNat * 3)).off + 2, none⟩ = some (.int .i16 ((rd_T57 l2 (ji57)).f2))) (ds := []) #[false, false, false, false, false, false, false, false, false, false, false, false, false, false, false, false, false, false, false, false, false, false, false, false, false, false, false, false, false, false, false, false, false, false, false, false, false, false] (by kernel_rfl) rfl rfl ⟨(blk_cell BK242.out 0).trans rfl, (blk_cell BK242.out 1).trans rfl, (blk_cell BK242.out 2).trans rfl, (blk_cell BK242.out 3).trans rfl, (blk_cell BK244.out 0).trans rfl, (blk_cell BK244.out 1).trans rfl, ((HB.out.cell (World.block_lt_of_cell? w _ hw247_0)).trans hw247_0), ((HB.out.cell (World.block_lt_of_cell? w _ hw247_1)).trans hw247_1), ((HB.out.cell (World.block_lt_of_cell? w _ hw247_2)).trans hw247_2)⟩ (fun hHeld => ?_); refine with_tabW impl_sizes.tab18 impl_sizes.bits18 (fun HT_ HW_ => ?_)
          generalize w68.drew = w85 at HO_10 HO_11 BK242 BK244 HB hx247_0 hx247_1 hx247_2 hHeld ⊢
          refine pu_ 0 75 (lA 38 1) ?_ ?_ HT_ ?_
          refine tk_ 1 76 (lA 38 3) ?_ ?_ HT_ HW_ hHeld ?_
          refine pu_ 2 77 (lA 38 7) ?_ ?_ HT_ ?_
          refine pu_ 3 78 (lA 38 15) ?_ ?_ HT_ ?_
          refine pu_ 4 79 (lA 38 31) ?_ ?_ HT_ ?_
          refine tk_ 5 80 (lA 38 63) ?_ ?_ HT_ HW_ hHeld ?_
          refine pu_ 6 81 (lA 38 127) ?_ ?_ HT_ ?_
          refine pu_ 7 82 (lA 38 255) ?_ ?_ HT_ ?_
          refine pu_ 8 83 (lA 38 511) ?_ ?_ HT_ ?_
          refine pu_ 9 84 (lA 38 1023) ?_ ?_ HT_ ?_
          refine pu_ 10 85 (lA 38 2047) ?_ ?_ HT_ ?_
          refine pu_ 11 86 (lA 38 4095) ?_ ?_ HT_ ?_
          refine pu_ 12 87 (lA 38 8191) ?_ ?_ HT_ ?_
          refine one_ (i := 13) (N := some 88) (lA 38 16383) rfl rfl (one_of HT_.out (by kernel_rfl)) (by decide) (fun K hK => ?_)
          refine goes_ Try.func49 (by kernel_rfl) rfl #[.int .i64 ji57, .int .i64 0, .int .i64 (wrap64 ((l2.length : Int) - 1))] (by rfl) rfl rfl (by (try simp only [List.map_toArray, List.map_cons, List.map_nil]); first | done | (simp only [hji57]; rfl) | rfl | (simp only [List.length_drop, List.length_take]; rfl)) ?_
          with_reducible refine (impl_within.calls ji57 0 (wrap64 ((l2.length : Int) - 1)) true _ A55.out).mono ?_
          rintro e w' ⟨rfl, ⟨nd, rfl⟩⟩
          refine ⟨_, rfl, ?_⟩
          refine hK.out _ _ ⟨(blk_cell BK242.out 0).trans rfl, (blk_cell BK242.out 1).trans rfl, (blk_cell BK242.out 2).trans rfl, (blk_cell BK242.out 3).trans rfl, (blk_cell BK244.out 0).trans rfl, (blk_cell BK244.out 1).trans rfl, ((HB.out.cell (World.block_lt_of_cell? w _ hw247_0)).trans hw247_0), ((HB.out.cell (World.block_lt_of_cell? w _ hw247_1)).trans hw247_1), ((HB.out.cell (World.block_lt_of_cell? w _ hw247_2)).trans hw247_2)⟩ (fun hHeld => ?_)
          clear hK K
          refine norm_ (a' := ?_) ?_ ?_
          rotate_left
          ·
           show Act.put _ (some 88) _ = _
           simp only [Act.put, List.setIfInBounds_toArray, List.set_cons_zero, List.set_cons_succ, i64_w, i32_w]
           rfl
          refine pu_ 14 89 (lA 38 32767) ?_ ?_ HT_ ?_
          refine pu_ 15 90 (lA 38 65535) ?_ ?_ HT_ ?_
          refine pu_ 16 91 (lA 38 131071) ?_ ?_ HT_ ?_
          refine pu_ 17 92 (lA 38 262143) ?_ ?_ HT_ ?_
          refine pu_ 18 93 (lA 38 524287) ?_ ?_ HT_ ?_
          refine pu_ 19 94 (lA 38 1048575) ?_ ?_ HT_ ?_
          refine pu_ 20 95 (lA 38 2097151) ?_ ?_ HT_ ?_
          refine pu_ 23 98 (lA 38 10485759) ?_ ?_ HT_ ?_
          refine tk_ 21 96 (lA 38 12582911) ?_ ?_ HT_ HW_ hHeld ?_
          refine pu_ 22 97 (lA 38 16777215) ?_ ?_ HT_ ?_
          refine tk_ 24 99 (lA 38 33554431) ?_ ?_ HT_ HW_ hHeld ?_
          refine pu_ 25 100 (lA 38 67108863) ?_ ?_ HT_ ?_
          refine pu_ 26 101 (lA 38 134217727) ?_ ?_ HT_ ?_
          refine pu_ 27 102 (lA 38 268435455) ?_ ?_ HT_ ?_
          refine pn_ 28 103 (lA 38 536870911) ?_ HT_ ?_
          refine pn_ 29 104 (lA 38 1073741823) ?_ HT_ ?_
          refine pn_ 30 105 (lA 38 2147483647) ?_ HT_ ?_
          refine pn_ 31 106 (lA 38 4294967295) ?_ HT_ ?_
          refine pn_ 32 107 (lA 38 8589934591) ?_ HT_ ?_
          refine pn_ 33 108 (lA 38 17179869183) ?_ HT_ ?_
          refine pn_ 34 109 (lA 38 34359738367) ?_ HT_ ?_
          refine pn_ 35 110 (lA 38 68719476735) ?_ HT_ ?_
          refine pn_ 36 111 (lA 38 137438953471) ?_ HT_ ?_
          refine pu_ 37 112 (lA 38 274877906943) ?_ ?_ HT_ ?_
          refine done_ (done_of HT_.out (by kernel_rfl)) ?_
          try go_wp2
          go_ret2
          exact ⟨_, by first | rfl | (simp [errW_none, errW_some] <;> rfl) | (simp only [← hji57]; first | rfl | (simp [errW_none, errW_some] <;> rfl)) | (simp [*, errW_none, errW_some] <;> rfl), by first | exact Kd.R_nil _ _ _ _ _ | exact Kd.N_nil _ _ _ _ _ | exact Kd.V_nil _ _ _ _ _ | exact Kd.Q_nil _ _ _ _ _ | exact Kd.S_nil _ _ _ _ _, kS_ HB GE242 GE244⟩
        ·
         replace c56 := Bool.eq_false_iff.mpr c56
         subst c56
         have H1 : (some (([] : List (S79)), false)) = some (r1, r2) := by rw [if_neg (show ¬ (false = true) by decide)] at H; exact H
         clear H
         have H := H1
         clear H1
         simp only [Option.some.injEq, Prod.mk.injEq] at H
         obtain ⟨rfl, rfl⟩ := H
         refine start_ (n := 38) (S := fun w' => w'.cell? ⟨gb242, 0, none⟩ = some (.int .i8 ((rd_T75 l3 x49_2).f0)) ∧ w'.cell? ⟨gb242, 1, none⟩ = some (.int .i8 ((rd_T75 l3 x49_2).f1)) ∧ w'.cell? ⟨gb242, 2, none⟩ = some (.int .i8 ((rd_T75 l3 x49_2).f2)) ∧ w'.cell? ⟨gb242, 3, none⟩ = some (.int .i8 ((rd_T75 l3 x49_2).f3))) (ds := []) #[false, false, false, false, false, false, false, false, false, false, false, false, false, false, false, false, false, false, false, false, false, false, false, false, false, false, false, false, false, false, false, false, false, false, false, false, false, false] (by kernel_rfl) rfl rfl ⟨(blk_cell BK242.out 0).trans rfl, (blk_cell BK242.out 1).trans rfl, (blk_cell BK242.out 2).trans rfl, (blk_cell BK242.out 3).trans rfl⟩ (fun hHeld => ?_); refine with_tabW impl_sizes.tab18 impl_sizes.bits18 (fun HT_ HW_ => ?_)
         generalize w68.drew = w93 at HO_10 HO_11 BK242 BK244 HB hHeld ⊢
         refine pu_ 0 75 (lA 38 1) ?_ ?_ HT_ ?_
         refine tk_ 1 76 (lA 38 3) ?_ ?_ HT_ HW_ hHeld ?_
         refine pu_ 2 77 (lA 38 7) ?_ ?_ HT_ ?_
         refine pu_ 3 78 (lA 38 15) ?_ ?_ HT_ ?_
         refine pu_ 4 79 (lA 38 31) ?_ ?_ HT_ ?_
         refine tk_ 5 80 (lA 38 63) ?_ ?_ HT_ HW_ hHeld ?_
         refine pu_ 6 81 (lA 38 127) ?_ ?_ HT_ ?_
         refine pu_ 7 82 (lA 38 255) ?_ ?_ HT_ ?_
         refine pu_ 8 83 (lA 38 511) ?_ ?_ HT_ ?_
         refine pu_ 9 84 (lA 38 1023) ?_ ?_ HT_ ?_
         refine pu_ 10 85 (lA 38 2047) ?_ ?_ HT_ ?_
         refine pu_ 11 86 (lA 38 4095) ?_ ?_ HT_ ?_
         refine pu_ 12 87 (lA 38 8191) ?_ ?_ HT_ ?_
         refine one_ (i := 13) (N := some 88) (lA 38 16383) rfl rfl (one_of HT_.out (by kernel_rfl)) (by decide) (fun K hK => ?_)
         refine goes_ Try.func49 (by kernel_rfl) rfl #[.int .i64 (wrap64 ((rd_T75 l3 x49_2).f2)), .int .i64 0, .int .i64 (wrap64 ((l2.length : Int) - 1))] (by rfl) rfl rfl (by (try simp only [List.map_toArray, List.map_cons, List.map_nil]); first | done | rfl | (simp only [List.length_drop, List.length_take]; rfl)) ?_
         with_reducible refine (impl_within.calls (wrap64 ((rd_T75 l3 x49_2).f2)) 0 (wrap64 ((l2.length : Int) - 1)) false _ A55.out).mono ?_
         rintro e w' ⟨rfl, ⟨nd, rfl⟩⟩
         refine ⟨_, rfl, ?_⟩
         refine hK.out _ _ ⟨(blk_cell BK242.out 0).trans rfl, (blk_cell BK242.out 1).trans rfl, (blk_cell BK242.out 2).trans rfl, (blk_cell BK242.out 3).trans rfl⟩ (fun hHeld => ?_)
         clear hK K
         refine norm_ (a' := ?_) ?_ ?_
         rotate_left
         ·
          show Act.put _ (some 88) _ = _
          simp only [Act.put, List.setIfInBounds_toArray, List.set_cons_zero, List.set_cons_succ, i64_w, i32_w]
          rfl
         refine pu_ 14 89 (lA 38 32767) ?_ ?_ HT_ ?_
         refine pu_ 15 90 (lA 38 65535) ?_ ?_ HT_ ?_
         refine pu_ 16 91 (lA 38 131071) ?_ ?_ HT_ ?_
         refine pn_ 17 92 (lA 38 262143) ?_ HT_ ?_
         refine pn_ 18 93 (lA 38 524287) ?_ HT_ ?_
         refine pn_ 19 94 (lA 38 1048575) ?_ HT_ ?_
         refine pn_ 20 95 (lA 38 2097151) ?_ HT_ ?_
         refine pn_ 21 96 (lA 38 4194303) ?_ HT_ ?_
         refine pn_ 22 97 (lA 38 8388607) ?_ HT_ ?_
         refine pn_ 23 98 (lA 38 16777215) ?_ HT_ ?_
         refine pn_ 24 99 (lA 38 33554431) ?_ HT_ ?_
         refine pn_ 25 100 (lA 38 67108863) ?_ HT_ ?_
         refine pu_ 26 101 (lA 38 134217727) ?_ ?_ HT_ ?_
         refine pu_ 27 102 (lA 38 268435455) ?_ ?_ HT_ ?_
         refine pn_ 28 103 (lA 38 536870911) ?_ HT_ ?_
         refine pn_ 29 104 (lA 38 1073741823) ?_ HT_ ?_
         refine pn_ 30 105 (lA 38 2147483647) ?_ HT_ ?_
         refine pn_ 31 106 (lA 38 4294967295) ?_ HT_ ?_
         refine pn_ 32 107 (lA 38 8589934591) ?_ HT_ ?_
         refine pn_ 33 108 (lA 38 17179869183) ?_ HT_ ?_
         refine pn_ 34 109 (lA 38 34359738367) ?_ HT_ ?_
         refine pn_ 35 110 (lA 38 68719476735) ?_ HT_ ?_
         refine pn_ 36 111 (lA 38 137438953471) ?_ HT_ ?_
         refine pu_ 37 112 (lA 38 274877906943) ?_ ?_ HT_ ?_
         refine done_ (done_of HT_.out (by kernel_rfl)) ?_
         try go_wp2
         go_ret2
         exact ⟨_, by first | rfl | (simp [errW_none, errW_some] <;> rfl) | (simp [*, errW_none, errW_some] <;> rfl), by first | exact Kd.R_nil _ _ _ _ _ | exact Kd.N_nil _ _ _ _ _ | exact Kd.V_nil _ _ _ _ _ | exact Kd.Q_nil _ _ _ _ _ | exact Kd.S_nil _ _ _ _ _, kS_ HB GE242 GE244⟩
       ·
        rw [if_neg c54] at H
        have c54b0 : (((rd_T75 l3 x49_2).f3) == 0) = false := beq_eq_false_iff_ne.mpr c54
        have c54b1 : (((rd_T75 l3 x49_2).f3) != 0) = true := bne_iff_ne.mpr c54
        simp only [Option.some.injEq, Prod.mk.injEq] at H
        obtain ⟨rfl, rfl⟩ := H
        refine start_ (n := 38) (S := fun w' => w'.cell? ⟨gb242, 0, none⟩ = some (.int .i8 ((rd_T75 l3 x49_2).f0)) ∧ w'.cell? ⟨gb242, 1, none⟩ = some (.int .i8 ((rd_T75 l3 x49_2).f1)) ∧ w'.cell? ⟨gb242, 2, none⟩ = some (.int .i8 ((rd_T75 l3 x49_2).f2)) ∧ w'.cell? ⟨gb242, 3, none⟩ = some (.int .i8 ((rd_T75 l3 x49_2).f3))) (ds := []) #[false, false, false, false, false, false, false, false, false, false, false, false, false, false, false, false, false, false, false, false, false, false, false, false, false, false, false, false, false, false, false, false, false, false, false, false, false, false] (by kernel_rfl) rfl rfl ⟨(blk_cell BK242.out 0).trans rfl, (blk_cell BK242.out 1).trans rfl, (blk_cell BK242.out 2).trans rfl, (blk_cell BK242.out 3).trans rfl⟩ (fun hHeld => ?_); refine with_tabW impl_sizes.tab18 impl_sizes.bits18 (fun HT_ HW_ => ?_)
        generalize w68.drew = w101 at HO_10 HO_11 BK242 BK244 HB hHeld ⊢
        refine pu_ 0 75 (lA 38 1) ?_ ?_ HT_ ?_
        refine tk_ 1 76 (lA 38 3) ?_ ?_ HT_ HW_ hHeld ?_
        refine pu_ 2 77 (lA 38 7) ?_ ?_ HT_ ?_
        refine pu_ 3 78 (lA 38 15) ?_ ?_ HT_ ?_
        refine pu_ 4 79 (lA 38 31) ?_ ?_ HT_ ?_
        refine tk_ 5 80 (lA 38 63) ?_ ?_ HT_ HW_ hHeld ?_
        refine pu_ 6 81 (lA 38 127) ?_ ?_ HT_ ?_
        refine pu_ 7 82 (lA 38 255) ?_ ?_ HT_ ?_
        refine pu_ 8 83 (lA 38 511) ?_ ?_ HT_ ?_
        refine pn_ 9 84 (lA 38 1023) ?_ HT_ ?_
        refine pn_ 10 85 (lA 38 2047) ?_ HT_ ?_
        refine pn_ 11 86 (lA 38 4095) ?_ HT_ ?_
        refine pn_ 12 87 (lA 38 8191) ?_ HT_ ?_
        refine pn_ 13 88 (lA 38 16383) ?_ HT_ ?_
        refine pn_ 14 89 (lA 38 32767) ?_ HT_ ?_
        refine pu_ 15 90 (lA 38 65535) ?_ ?_ HT_ ?_
        refine pu_ 16 91 (lA 38 131071) ?_ ?_ HT_ ?_
        refine pn_ 17 92 (lA 38 262143) ?_ HT_ ?_
        refine pn_ 18 93 (lA 38 524287) ?_ HT_ ?_
        refine pn_ 19 94 (lA 38 1048575) ?_ HT_ ?_
        refine pn_ 20 95 (lA 38 2097151) ?_ HT_ ?_
        refine pn_ 21 96 (lA 38 4194303) ?_ HT_ ?_
        refine pn_ 22 97 (lA 38 8388607) ?_ HT_ ?_
        refine pn_ 23 98 (lA 38 16777215) ?_ HT_ ?_
        refine pn_ 24 99 (lA 38 33554431) ?_ HT_ ?_
        refine pn_ 25 100 (lA 38 67108863) ?_ HT_ ?_
        refine pu_ 26 101 (lA 38 134217727) ?_ ?_ HT_ ?_
        refine pu_ 27 102 (lA 38 268435455) ?_ ?_ HT_ ?_
        refine pn_ 28 103 (lA 38 536870911) ?_ HT_ ?_
        refine pn_ 29 104 (lA 38 1073741823) ?_ HT_ ?_
        refine pn_ 30 105 (lA 38 2147483647) ?_ HT_ ?_
        refine pn_ 31 106 (lA 38 4294967295) ?_ HT_ ?_
        refine pn_ 32 107 (lA 38 8589934591) ?_ HT_ ?_
        refine pn_ 33 108 (lA 38 17179869183) ?_ HT_ ?_
        refine pn_ 34 109 (lA 38 34359738367) ?_ HT_ ?_
        refine pn_ 35 110 (lA 38 68719476735) ?_ HT_ ?_
        refine pn_ 36 111 (lA 38 137438953471) ?_ HT_ ?_
        refine pu_ 37 112 (lA 38 274877906943) ?_ ?_ HT_ ?_
        refine done_ (done_of HT_.out (by kernel_rfl)) ?_
        try go_wp2
        go_ret2
        exact ⟨_, by first | rfl | (simp [errW_none, errW_some] <;> rfl) | (simp [*, errW_none, errW_some] <;> rfl), by first | exact Kd.R_nil _ _ _ _ _ | exact Kd.N_nil _ _ _ _ _ | exact Kd.V_nil _ _ _ _ _ | exact Kd.Q_nil _ _ _ _ _ | exact Kd.S_nil _ _ _ _ _, kS_ HB GE242 GE244⟩
      ·
       as_aux_lemma =>
       rw [if_neg c53] at H
       have c53b0 : (((rd_T75 l3 x49_2).f1) == 0) = false := beq_eq_false_iff_ne.mpr c53
       have c53b1 : (((rd_T75 l3 x49_2).f1) != 0) = true := bne_iff_ne.mpr c53
       simp only [Option.some.injEq, Prod.mk.injEq] at H
       obtain ⟨rfl, rfl⟩ := H
       refine start_ (n := 38) (S := fun w' => w'.cell? ⟨gb242, 0, none⟩ = some (.int .i8 ((rd_T75 l3 x49_2).f0)) ∧ w'.cell? ⟨gb242, 1, none⟩ = some (.int .i8 ((rd_T75 l3 x49_2).f1)) ∧ w'.cell? ⟨gb242, 2, none⟩ = some (.int .i8 ((rd_T75 l3 x49_2).f2)) ∧ w'.cell? ⟨gb242, 3, none⟩ = some (.int .i8 ((rd_T75 l3 x49_2).f3))) (ds := []) #[false, false, false, false, false, false, false, false, false, false, false, false, false, false, false, false, false, false, false, false, false, false, false, false, false, false, false, false, false, false, false, false, false, false, false, false, false, false] (by kernel_rfl) rfl rfl ⟨(blk_cell BK242.out 0).trans rfl, (blk_cell BK242.out 1).trans rfl, (blk_cell BK242.out 2).trans rfl, (blk_cell BK242.out 3).trans rfl⟩ (fun hHeld => ?_); refine with_tabW impl_sizes.tab18 impl_sizes.bits18 (fun HT_ HW_ => ?_)
       generalize w68.drew = w109 at HO_10 HO_11 BK242 BK244 HB hHeld ⊢
       refine pu_ 0 75 (lA 38 1) ?_ ?_ HT_ ?_
       refine tk_ 1 76 (lA 38 3) ?_ ?_ HT_ HW_ hHeld ?_
       refine pu_ 2 77 (lA 38 7) ?_ ?_ HT_ ?_
       refine pu_ 3 78 (lA 38 15) ?_ ?_ HT_ ?_
       refine pn_ 4 79 (lA 38 31) ?_ HT_ ?_
       refine pn_ 5 80 (lA 38 63) ?_ HT_ ?_
       refine pn_ 6 81 (lA 38 127) ?_ HT_ ?_
       refine pu_ 7 82 (lA 38 255) ?_ ?_ HT_ ?_
       refine pu_ 8 83 (lA 38 511) ?_ ?_ HT_ ?_
       refine pn_ 9 84 (lA 38 1023) ?_ HT_ ?_
       refine pn_ 10 85 (lA 38 2047) ?_ HT_ ?_
       refine pn_ 11 86 (lA 38 4095) ?_ HT_ ?_
       refine pn_ 12 87 (lA 38 8191) ?_ HT_ ?_
       refine pn_ 13 88 (lA 38 16383) ?_ HT_ ?_
       refine pn_ 14 89 (lA 38 32767) ?_ HT_ ?_
       refine pu_ 15 90 (lA 38 65535) ?_ ?_ HT_ ?_
       refine pu_ 16 91 (lA 38 131071) ?_ ?_ HT_ ?_
       refine pn_ 17 92 (lA 38 262143) ?_ HT_ ?_
       refine pn_ 18 93 (lA 38 524287) ?_ HT_ ?_
       refine pn_ 19 94 (lA 38 1048575) ?_ HT_ ?_
       refine pn_ 20 95 (lA 38 2097151) ?_ HT_ ?_
       refine pn_ 21 96 (lA 38 4194303) ?_ HT_ ?_
       refine pn_ 22 97 (lA 38 8388607) ?_ HT_ ?_
       refine pn_ 23 98 (lA 38 16777215) ?_ HT_ ?_
       refine pn_ 24 99 (lA 38 33554431) ?_ HT_ ?_
       refine pn_ 25 100 (lA 38 67108863) ?_ HT_ ?_
       refine pu_ 26 101 (lA 38 134217727) ?_ ?_ HT_ ?_
       refine pu_ 27 102 (lA 38 268435455) ?_ ?_ HT_ ?_
       refine pn_ 28 103 (lA 38 536870911) ?_ HT_ ?_
       refine pn_ 29 104 (lA 38 1073741823) ?_ HT_ ?_
       refine pn_ 30 105 (lA 38 2147483647) ?_ HT_ ?_
       refine pn_ 31 106 (lA 38 4294967295) ?_ HT_ ?_
       refine pn_ 32 107 (lA 38 8589934591) ?_ HT_ ?_
       refine pn_ 33 108 (lA 38 17179869183) ?_ HT_ ?_
       refine pn_ 34 109 (lA 38 34359738367) ?_ HT_ ?_
       refine pn_ 35 110 (lA 38 68719476735) ?_ HT_ ?_
       refine pn_ 36 111 (lA 38 137438953471) ?_ HT_ ?_
       refine pu_ 37 112 (lA 38 274877906943) ?_ ?_ HT_ ?_
       refine done_ (done_of HT_.out (by kernel_rfl)) ?_
       try go_wp2
       go_ret2
       exact ⟨_, by first | rfl | (simp [errW_none, errW_some] <;> rfl) | (simp [*, errW_none, errW_some] <;> rfl), by first | exact Kd.R_nil _ _ _ _ _ | exact Kd.N_nil _ _ _ _ _ | exact Kd.V_nil _ _ _ _ _ | exact Kd.Q_nil _ _ _ _ _ | exact Kd.S_nil _ _ _ _ _, kS_ HB GE242 GE244⟩
     ·
      rw [if_neg c52] at H
      have c52b0 : (((rd_T75 l3 x49_2).f0) == 1) = false := beq_eq_false_iff_ne.mpr c52
      have c52b1 : (((rd_T75 l3 x49_2).f0) != 1) = true := bne_iff_ne.mpr c52
      have HC110 := Aside0.mk H
      clear H
      go_upto_if 113 with fail
      (try simp only [Act.put, List.setIfInBounds_toArray, List.set_cons_zero, List.set_cons_succ])
      go_cut [113] (fun v113 wc => ∃ (kq : Nat) (x113_109 : Bool), v113 = .bool x113_109 ∧ Aside0 (impl_sizes.j2 kq l2 l3 x10_2 x11_2 x49_2 l3 (l3.length : Int) x49_2 x113_109 ((rd_T75 l3 x49_2).f0) ((rd_T75 l3 x49_2).f1) ((rd_T75 l3 x49_2).f2) ((rd_T75 l3 x49_2).f3) ((rd_T79 x10_2 x49_2).f0) ((rd_T79 x10_2 x49_2).f1) = some (r1, r2)) ∧ Aside0 (kq ≤ k2) ∧ Aside0 (Kd.R k79 79 wc w.heap.size (fun k_ => k_ ≠ gb244) (.slice (some ⟨go18, 0, none⟩) x10_2.length co18) x10_2) ∧ Aside0 (Kd.R Kd.bool 4 wc w.heap.size (fun _ => True) (.slice (some ⟨go20, 0, none⟩) x11_2.length co20) x11_2) ∧ Aside0 (wc.heap[gb242]? = some (.cells #[.int .i8 ((rd_T75 l3 x49_2).f0), .int .i8 ((rd_T75 l3 x49_2).f1), .int .i8 ((rd_T75 l3 x49_2).f2), .int .i8 ((rd_T75 l3 x49_2).f3)] 75 (0, 0))) ∧ Aside0 (wc.heap[gb244]? = some (.cells #[.int .i64 ((rd_T79 x10_2 x49_2).f0), .int .i64 ((rd_T79 x10_2 x49_2).f1)] 79 (0, 0))) ∧ Aside0 (Below w.heap.size w wc))
      case first =>
       have H := HC110.out
       clear HC110
       by_cases c117 : ((rd_T75 l3 x49_2).f0) = 2
       ·
        rw [if_pos c117] at H
        have c117b0 : (((rd_T75 l3 x49_2).f0) == 2) = true := beq_iff_eq.mpr c117
        have c117b1 : (((rd_T75 l3 x49_2).f0) != 2) = false := bne_eq_false_iff_eq.mpr c117
        clear c117
        (first | rw [c117b0] | (simp only [i64_w, i32_w]; rw [c117b0]) | skip)
        have H' := Aside0.mk H
        clear H
        go_wp2
        go_meet
        case rel => exact ⟨_, ((((rd_T75 l3 x49_2).f0) == 2)), (by first | rfl | (simp; done) | (simp [*]; done)), H', ⟨by have := HJ4.out; have := HK2.out; first | omega | exact Nat.le_refl _⟩, ⟨by (try simp only [hl10_2]); (try simp only [hl11_2]); (with_reducible repeat (first | apply Kd.R_alloc | apply Kd.R_drewN | apply Kd.R_drew)); exact Kd.R_mono (Kd.R_far (p := ⟨gb244, 1, none⟩) (Kd.R_far (p := ⟨gb244, 0, none⟩) (Kd.R_mono HO_10.out (fun k_ hk => (⟨hk, hk.2⟩ : _ ∧ k_ ≠ gb244))) (fun _ hk => hk.2) (.int .i64 ((rd_T79 x10_2 x49_2).f0))) (fun _ hk => hk.2) (.int .i64 ((rd_T79 x10_2 x49_2).f1))) (fun _ hk => hk.1.2)⟩, ⟨by (try simp only [hl10_2]); (try simp only [hl11_2]); (with_reducible repeat (first | apply Kd.R_alloc | apply Kd.R_drewN | apply Kd.R_drew)); exact Kd.R_mono (Kd.R_far (p := ⟨gb244, 1, none⟩) (Kd.R_far (p := ⟨gb244, 0, none⟩) (Kd.R_types HO_11.out BK244.out (by decide)) (fun _ hk => hk.2) (.int .i64 ((rd_T79 x10_2 x49_2).f0))) (fun _ hk => hk.2) (.int .i64 ((rd_T79 x10_2 x49_2).f1))) (fun _ hk => trivial)⟩, ⟨by (try simp only [hl10_2]); (try simp only [hl11_2]); (with_reducible repeat (first | refine blk_drewN ?_ _ | refine blk_drew ?_ | refine blk_alloc ?_ _)); refine blk_far ?_ NB242_244.out _; (with_reducible repeat (first | refine blk_drewN ?_ _ | refine blk_drew ?_ | refine blk_alloc ?_ _)); refine blk_far ?_ NB242_244.out _; (with_reducible repeat (first | refine blk_drewN ?_ _ | refine blk_drew ?_ | refine blk_alloc ?_ _)); exact BK242.out⟩, ⟨by (try simp only [hl10_2]); (try simp only [hl11_2]); (with_reducible repeat (first | refine blk_drewN ?_ _ | refine blk_drew ?_ | refine blk_alloc ?_ _)); refine blk_put (cs := #[.int .i64 ((rd_T79 x10_2 x49_2).f0), .int .i64 0]) ?_ 1 _ rfl; (with_reducible repeat (first | refine blk_drewN ?_ _ | refine blk_drew ?_ | refine blk_alloc ?_ _)); refine blk_put (cs := #[.int .i64 0, .int .i64 0]) ?_ 0 _ rfl; (with_reducible repeat (first | refine blk_drewN ?_ _ | refine blk_drew ?_ | refine blk_alloc ?_ _)); exact BK244.out⟩, ⟨kS_ HB GE242 GE244⟩⟩
       ·
        rw [if_neg c117] at H
        have c117b0 : (((rd_T75 l3 x49_2).f0) == 2) = false := beq_eq_false_iff_ne.mpr c117
        have c117b1 : (((rd_T75 l3 x49_2).f0) != 2) = true := bne_iff_ne.mpr c117
        (first | rw [c117b0] | (simp only [i64_w, i32_w]; rw [c117b0]) | skip)
        have H' := Aside0.mk H
        clear H
        go_wp2
        go_meet
        case rel => exact ⟨_, ((((rd_T75 l3 x49_2).f0) == 3)), (by first | rfl | (simp; done) | (simp [*]; done)), H', ⟨by have := HJ4.out; have := HK2.out; first | omega | exact Nat.le_refl _⟩, ⟨by (try simp only [hl10_2]); (try simp only [hl11_2]); (with_reducible repeat (first | apply Kd.R_alloc | apply Kd.R_drewN | apply Kd.R_drew)); exact Kd.R_mono (Kd.R_far (p := ⟨gb244, 1, none⟩) (Kd.R_far (p := ⟨gb244, 0, none⟩) (Kd.R_mono HO_10.out (fun k_ hk => (⟨hk, hk.2⟩ : _ ∧ k_ ≠ gb244))) (fun _ hk => hk.2) (.int .i64 ((rd_T79 x10_2 x49_2).f0))) (fun _ hk => hk.2) (.int .i64 ((rd_T79 x10_2 x49_2).f1))) (fun _ hk => hk.1.2)⟩, ⟨by (try simp only [hl10_2]); (try simp only [hl11_2]); (with_reducible repeat (first | apply Kd.R_alloc | apply Kd.R_drewN | apply Kd.R_drew)); exact Kd.R_mono (Kd.R_far (p := ⟨gb244, 1, none⟩) (Kd.R_far (p := ⟨gb244, 0, none⟩) (Kd.R_types HO_11.out BK244.out (by decide)) (fun _ hk => hk.2) (.int .i64 ((rd_T79 x10_2 x49_2).f0))) (fun _ hk => hk.2) (.int .i64 ((rd_T79 x10_2 x49_2).f1))) (fun _ hk => trivial)⟩, ⟨by (try simp only [hl10_2]); (try simp only [hl11_2]); (with_reducible repeat (first | refine blk_drewN ?_ _ | refine blk_drew ?_ | refine blk_alloc ?_ _)); refine blk_far ?_ NB242_244.out _; (with_reducible repeat (first | refine blk_drewN ?_ _ | refine blk_drew ?_ | refine blk_alloc ?_ _)); refine blk_far ?_ NB242_244.out _; (with_reducible repeat (first | refine blk_drewN ?_ _ | refine blk_drew ?_ | refine blk_alloc ?_ _)); exact BK242.out⟩, ⟨by (try simp only [hl10_2]); (try simp only [hl11_2]); (with_reducible repeat (first | refine blk_drewN ?_ _ | refine blk_drew ?_ | refine blk_alloc ?_ _)); refine blk_put (cs := #[.int .i64 ((rd_T79 x10_2 x49_2).f0), .int .i64 0]) ?_ 1 _ rfl; (with_reducible repeat (first | refine blk_drewN ?_ _ | refine blk_drew ?_ | refine blk_alloc ?_ _)); refine blk_put (cs := #[.int .i64 0, .int .i64 0]) ?_ 0 _ rfl; (with_reducible repeat (first | refine blk_drewN ?_ _ | refine blk_drew ?_ | refine blk_alloc ?_ _)); exact BK244.out⟩, ⟨kS_ HB GE242 GE244⟩⟩
      case rest =>
       clear HC110
       try clear c1
       try clear p2
       try clear q2
       try clear hx2
       try clear q3
       try clear c5
       try clear c9
       try clear c10
       try clear c11
       try clear p24
       try clear q24
       try clear hx24
       try clear q36
       try clear c52
       try clear c52b0
       try clear c52b1
       try clear c53
       try clear c53b0
       try clear c53b1
       try clear c54
       try clear c54b0
       try clear c54b1
       try clear c97
       try clear c105
       try clear c114
       try clear c117
       try clear c117b0
       try clear c117b1
       try clear hcz103_0
       try clear hcz103_1
       try clear hcz103_2
       try clear hcz103_3
       try clear hcz106_0
       try clear hcz106_1
       try clear hcz107_0
       try clear hcz107_1
       try clear hcz107_2
       try clear hcz107_3
       try clear hcz41_0
       try clear hcz41_1
       try clear hcz41_2
       try clear hcz41_3
       try clear hcz44_0
       try clear hcz44_1
       try clear hcz45_0
       try clear hcz45_1
       try clear hcz45_2
       try clear hcz45_3
       try clear hcz95_0
       try clear hcz95_1
       try clear hcz95_2
       try clear hcz95_3
       try clear hcz98_0
       try clear hcz98_1
       try clear hcz99_0
       try clear hcz99_1
       try clear hcz99_2
       try clear hcz99_3
       try clear hfz103_0
       try clear hfz103_1
       try clear hfz103_2
       try clear hfz103_3
       try clear hfz106_0
       try clear hfz106_1
       try clear hfz107_0
       try clear hfz107_1
       try clear hfz107_2
       try clear hfz107_3
       try clear hfz41_0
       try clear hfz41_1
       try clear hfz41_2
       try clear hfz41_3
       try clear hfz44_0
       try clear hfz44_1
       try clear hfz45_0
       try clear hfz45_1
       try clear hfz45_2
       try clear hfz45_3
       try clear hfz95_0
       try clear hfz95_1
       try clear hfz95_2
       try clear hfz95_3
       try clear hfz98_0
       try clear hfz98_1
       try clear hfz99_0
       try clear hfz99_1
       try clear hfz99_2
       try clear hfz99_3
       try clear hx241_0
       try clear hx241_1
       try clear hx241_2
       try clear hx241_3
       try clear hx243_0
       try clear hx243_1
       try clear hx245_0
       try clear p241
       try clear p243
       try clear p245
       try clear q241
       try clear q243
       try clear q245
       obtain ⟨kq, x113_109, rfl, HA, HJ109, HO_10, HO_11, BK242, BK244, HB⟩ := hcut
       cases kq with
       | zero => exact absurd HA.out (by simp [impl_sizes.j2])
       | succ kj109 =>
        have H := HA.out
        clear HA
        simp only [impl_sizes.j2] at H
        by_cases c118 : x113_109 = true
        rotate_left
        ·
         replace c118 := Bool.eq_false_iff.mpr c118
         subst c118
         have H1 : (some (([] : List (S79)), false)) = some (r1, r2) := by rw [if_neg (show ¬ (false = true) by decide)] at H; exact H
         clear H
         have H := H1
         clear H1
         simp only [Option.some.injEq, Prod.mk.injEq] at H
         obtain ⟨rfl, rfl⟩ := H
         go_wp2
         go_ret2
         exact ⟨_, by first | rfl | (simp [errW_none, errW_some] <;> rfl) | (simp [*, errW_none, errW_some] <;> rfl), by first | exact Kd.R_nil _ _ _ _ _ | exact Kd.N_nil _ _ _ _ _ | exact Kd.V_nil _ _ _ _ _ | exact Kd.Q_nil _ _ _ _ _ | exact Kd.S_nil _ _ _ _ _, kS_ HB GE242 GE244⟩
        subst c118
        have H1 : (if (wrap64 (((rd_T75 l3 x49_2).f2))) ≤ x49_2 then (some (([] : List (S79)), false)) else (if (wrap64 (((rd_T75 l3 x49_2).f3))) ≤ x49_2 then (some (([] : List (S79)), false)) else (if (wrap64 (((rd_T75 l3 x49_2).f2))) ≥ (l3.length : Int) then (some (([] : List (S79)), false)) else (if (wrap64 (((rd_T75 l3 x49_2).f3))) ≥ (l3.length : Int) then (some (([] : List (S79)), false)) else (if (wrap64 (((rd_T75 l3 x49_2).f2))) = (wrap64 (((rd_T75 l3 x49_2).f3))) then (some (([] : List (S79)), false)) else (if 0 ≤ (wrap64 (((rd_T75 l3 x49_2).f2))) then (if (wrap64 (((rd_T75 l3 x49_2).f2))) < (x11_2.length : Int) then (if rdOf false x11_2 (wrap64 (((rd_T75 l3 x49_2).f2))) = true then (some (([] : List (S79)), false)) else (if 0 ≤ (wrap64 (((rd_T75 l3 x49_2).f3))) then (if (wrap64 (((rd_T75 l3 x49_2).f3))) < (x11_2.length : Int) then (if rdOf false x11_2 (wrap64 (((rd_T75 l3 x49_2).f3))) = true then (some (([] : List (S79)), false)) else (if (wrap64 (IntKind.i8.wrap (((rd_T75 l3 x49_2).f0) - 2))) = (0 : Int) then ((impl_within.f (wrap64 (((rd_T75 l3 x49_2).f1))) 1 (wrap64 (((rd_T79 x10_2 x49_2).f0) - 1))).bind fun t251 => (if t251 = true then (if (wrap64 (((rd_T75 l3 x49_2).f2))) < (x10_2.length : Int) then (if (wrap64 (((rd_T75 l3 x49_2).f3))) < (x10_2.length : Int) then ((some ((x10_2.set ((wrap64 (((rd_T75 l3 x49_2).f2))) : Int).toNat (⟨((rd_T79 x10_2 x49_2).f0), ((rd_T79 x10_2 x49_2).f1)⟩ : S79)).set ((wrap64 (((rd_T75 l3 x49_2).f3))) : Int).toNat (⟨((rd_T79 x10_2 x49_2).f0), ((rd_T79 x10_2 x49_2).f1)⟩ : S79) : List (S79))).bind fun y255 => ((some (y255.set ((wrap64 (((rd_T75 l3 x49_2).f2))) : Int).toNat (⟨wrap64 (((rd_T75 l3 x49_2).f1)), (rd_T79 y255 (wrap64 (((rd_T75 l3 x49_2).f2)))).f1⟩ : S79) : List (S79))).bind fun y256 => (impl_sizes.l0 kj109 l2 l3 (y256.set ((wrap64 (((rd_T75 l3 x49_2).f3))) : Int).toNat (⟨wrap64 (((rd_T79 y256 (wrap64 (((rd_T75 l3 x49_2).f3)))).f0) - (wrap64 (((rd_T75 l3 x49_2).f1)))), (rd_T79 y256 (wrap64 (((rd_T75 l3 x49_2).f3)))).f1⟩ : S79)) ((x11_2.set ((wrap64 (((rd_T75 l3 x49_2).f2))) : Int).toNat true).set ((wrap64 (((rd_T75 l3 x49_2).f3))) : Int).toNat true) l3 (l3.length : Int) (wrap64 (x49_2 + 1))))) else (none)) else (none)) else (some (([] : List (S79)), false)))) else (if (wrap64 (IntKind.i8.wrap (((rd_T75 l3 x49_2).f0) - 2))) = (1 : Int) then ((impl_within.f (wrap64 (((rd_T75 l3 x49_2).f1))) 1 (wrap64 (((rd_T79 x10_2 x49_2).f1) - 1))).bind fun t259 => (if t259 = true then (if (wrap64 (((rd_T75 l3 x49_2).f2))) < (x10_2.length : Int) then (if (wrap64 (((rd_T75 l3 x49_2).f3))) < (x10_2.length : Int) then ((some ((x10_2.set ((wrap64 (((rd_T75 l3 x49_2).f2))) : Int).toNat (⟨((rd_T79 x10_2 x49_2).f0), ((rd_T79 x10_2 x49_2).f1)⟩ : S79)).set ((wrap64 (((rd_T75 l3 x49_2).f3))) : Int).toNat (⟨((rd_T79 x10_2 x49_2).f0), ((rd_T79 x10_2 x49_2).f1)⟩ : S79) : List (S79))).bind fun y263 => ((some (y263.set ((wrap64 (((rd_T75 l3 x49_2).f2))) : Int).toNat (⟨(rd_T79 y263 (wrap64 (((rd_T75 l3 x49_2).f2)))).f0, wrap64 (((rd_T75 l3 x49_2).f1))⟩ : S79) : List (S79))).bind fun y264 => (impl_sizes.l0 kj109 l2 l3 (y264.set ((wrap64 (((rd_T75 l3 x49_2).f3))) : Int).toNat (⟨(rd_T79 y264 (wrap64 (((rd_T75 l3 x49_2).f3)))).f0, wrap64 (((rd_T79 y264 (wrap64 (((rd_T75 l3 x49_2).f3)))).f1) - (wrap64 (((rd_T75 l3 x49_2).f1))))⟩ : S79)) ((x11_2.set ((wrap64 (((rd_T75 l3 x49_2).f2))) : Int).toNat true).set ((wrap64 (((rd_T75 l3 x49_2).f3))) : Int).toNat true) l3 (l3.length : Int) (wrap64 (x49_2 + 1))))) else (none)) else (none)) else (some (([] : List (S79)), false)))) else (none)))) else (none)) else (none))) else (none)) else (none))))))) = some (r1, r2) := by rw [if_pos rfl] at H; exact H
        clear H
        have H := H1
        clear H1
        try go_wp2
        replace HO_10 := Aside0.mk (Kd.R_drew HO_10.out)
        replace HO_11 := Aside0.mk (Kd.R_drew HO_11.out)
        replace BK242 := Aside0.mk (blk_drew BK242.out)
        replace BK244 := Aside0.mk (blk_drew BK244.out)
        replace HB := Aside0.mk (below_drew1 HB.out)
        refine start_ (n := 13) (S := fun w' => w'.cell? ⟨gb242, 0, none⟩ = some (.int .i8 ((rd_T75 l3 x49_2).f0)) ∧ w'.cell? ⟨gb242, 1, none⟩ = some (.int .i8 ((rd_T75 l3 x49_2).f1)) ∧ w'.cell? ⟨gb242, 2, none⟩ = some (.int .i8 ((rd_T75 l3 x49_2).f2)) ∧ w'.cell? ⟨gb242, 3, none⟩ = some (.int .i8 ((rd_T75 l3 x49_2).f3))) (ds := []) #[false, false, false, false, false, false, false, false, false, false, false, false, false] (by kernel_rfl) rfl rfl ⟨(blk_cell BK242.out 0).trans rfl, (blk_cell BK242.out 1).trans rfl, (blk_cell BK242.out 2).trans rfl, (blk_cell BK242.out 3).trans rfl⟩ (fun hHeld => ?_); refine with_tabW impl_sizes.tab22 impl_sizes.bits22 (fun HT_ HW_ => ?_)
        generalize wc.drew = w120 at HO_10 HO_11 BK242 BK244 HB hHeld ⊢
        refine pu_ 0 116 (lA 13 1) ?_ ?_ HT_ ?_
        refine pu_ 3 119 (lA 13 9) ?_ ?_ HT_ ?_
        refine pu_ 6 122 (lA 13 73) ?_ ?_ HT_ ?_
        refine tk_ 1 117 (lA 13 75) ?_ ?_ HT_ HW_ hHeld ?_
        refine pu_ 2 118 (lA 13 79) ?_ ?_ HT_ ?_
        refine pu_ 10 16 (lA 13 1103) ?_ ?_ HT_ ?_
        refine tk_ 4 120 (lA 13 1119) ?_ ?_ HT_ HW_ hHeld ?_
        refine pu_ 5 121 (lA 13 1151) ?_ ?_ HT_ ?_
        refine pu_ 11 17 (lA 13 3199) ?_ ?_ HT_ ?_
        refine tk_ 7 123 (lA 13 3327) ?_ ?_ HT_ HW_ hHeld ?_
        refine pu_ 8 124 (lA 13 3583) ?_ ?_ HT_ ?_
        refine pu_ 9 125 (lA 13 4095) ?_ ?_ HT_ ?_
        refine pu_ 12 18 (lA 13 8191) ?_ ?_ HT_ ?_
        refine done_ (done_of HT_.out (by kernel_rfl)) ?_
        as_aux_lemma =>
        by_cases c119 : (wrap64 (((rd_T75 l3 x49_2).f2))) ≤ x49_2
        ·
         as_aux_lemma =>
         rw [if_pos c119] at H
         have c119b0 : decide ((wrap64 (((rd_T75 l3 x49_2).f2))) ≤ x49_2) = true := decide_eq_true c119
         clear c119
         simp only [Option.some.injEq, Prod.mk.injEq] at H
         obtain ⟨rfl, rfl⟩ := H
         try go_wp2
         replace HO_10 := Aside0.mk (Kd.R_drew HO_10.out)
         replace HO_11 := Aside0.mk (Kd.R_drew HO_11.out)
         replace BK242 := Aside0.mk (blk_drew BK242.out)
         replace BK244 := Aside0.mk (blk_drew BK244.out)
         replace HB := Aside0.mk (below_drew1 HB.out)
         refine start_ (n := 48) (S := fun w' => True) (ds := []) #[false, false, false, false, false, false, false, false, false, false, false, false, false, false, false, false, false, false, false, false, false, false, false, false, false, false, false, false, false, false, false, false, false, false, false, false, false, false, false, false, false, false, false, false, false, false, false, false] (by kernel_rfl) rfl rfl trivial (fun hHeld => ?_); refine with_tabW impl_sizes.tab23 impl_sizes.bits23 (fun HT_ HW_ => ?_)
         generalize w120.drew = w121 at HO_10 HO_11 BK242 BK244 HB hHeld ⊢
         refine pu_ 0 126 (lA 48 1) ?_ ?_ HT_ ?_
         refine pu_ 1 127 (lA 48 3) ?_ ?_ HT_ ?_
         refine pu_ 2 128 (lA 48 7) ?_ ?_ HT_ ?_
         refine pu_ 3 129 (lA 48 15) ?_ ?_ HT_ ?_
         refine pn_ 4 130 (lA 48 31) ?_ HT_ ?_
         refine pn_ 5 131 (lA 48 63) ?_ HT_ ?_
         refine pn_ 6 132 (lA 48 127) ?_ HT_ ?_
         refine pu_ 7 133 (lA 48 255) ?_ ?_ HT_ ?_
         refine pu_ 8 134 (lA 48 511) ?_ ?_ HT_ ?_
         refine pn_ 9 135 (lA 48 1023) ?_ HT_ ?_
         refine pn_ 10 136 (lA 48 2047) ?_ HT_ ?_
         refine pn_ 11 137 (lA 48 4095) ?_ HT_ ?_
         refine pn_ 12 138 (lA 48 8191) ?_ HT_ ?_
         refine pu_ 13 139 (lA 48 16383) ?_ ?_ HT_ ?_
         refine pu_ 14 140 (lA 48 32767) ?_ ?_ HT_ ?_
         refine pn_ 15 141 (lA 48 65535) ?_ HT_ ?_
         refine pn_ 16 142 (lA 48 131071) ?_ HT_ ?_
         refine pn_ 17 143 (lA 48 262143) ?_ HT_ ?_
         refine pn_ 18 144 (lA 48 524287) ?_ HT_ ?_
         refine pu_ 19 145 (lA 48 1048575) ?_ ?_ HT_ ?_
         refine pu_ 20 146 (lA 48 2097151) ?_ ?_ HT_ ?_
         refine pn_ 21 147 (lA 48 4194303) ?_ HT_ ?_
         refine pn_ 22 148 (lA 48 8388607) ?_ HT_ ?_
         refine pn_ 23 149 (lA 48 16777215) ?_ HT_ ?_
         refine pu_ 24 150 (lA 48 33554431) ?_ ?_ HT_ ?_
         refine pu_ 25 151 (lA 48 67108863) ?_ ?_ HT_ ?_
         refine pn_ 26 152 (lA 48 134217727) ?_ HT_ ?_
         refine pn_ 27 153 (lA 48 268435455) ?_ HT_ ?_
         refine pn_ 28 154 (lA 48 536870911) ?_ HT_ ?_
         refine pn_ 29 155 (lA 48 1073741823) ?_ HT_ ?_
         refine pu_ 30 156 (lA 48 2147483647) ?_ ?_ HT_ ?_
         refine pu_ 31 157 (lA 48 4294967295) ?_ ?_ HT_ ?_
         refine pn_ 32 158 (lA 48 8589934591) ?_ HT_ ?_
         refine pn_ 33 159 (lA 48 17179869183) ?_ HT_ ?_
         refine pn_ 34 160 (lA 48 34359738367) ?_ HT_ ?_
         refine pn_ 35 161 (lA 48 68719476735) ?_ HT_ ?_
         refine pu_ 36 162 (lA 48 137438953471) ?_ ?_ HT_ ?_
         refine pu_ 37 163 (lA 48 274877906943) ?_ ?_ HT_ ?_
         refine pn_ 38 164 (lA 48 549755813887) ?_ HT_ ?_
         refine pn_ 39 165 (lA 48 1099511627775) ?_ HT_ ?_
         refine pn_ 40 166 (lA 48 2199023255551) ?_ HT_ ?_
         refine pn_ 41 167 (lA 48 4398046511103) ?_ HT_ ?_
         refine pn_ 42 168 (lA 48 8796093022207) ?_ HT_ ?_
         refine pn_ 43 169 (lA 48 17592186044415) ?_ HT_ ?_
         refine pn_ 44 170 (lA 48 35184372088831) ?_ HT_ ?_
         refine pn_ 45 171 (lA 48 70368744177663) ?_ HT_ ?_
         refine pn_ 46 172 (lA 48 140737488355327) ?_ HT_ ?_
         refine pu_ 47 173 (lA 48 281474976710655) ?_ ?_ HT_ ?_
         refine done_ (done_of HT_.out (by kernel_rfl)) ?_
         try go_wp2
         go_ret2
         exact ⟨_, by first | rfl | (simp [errW_none, errW_some] <;> rfl) | (simp [*, errW_none, errW_some] <;> rfl), by first | exact Kd.R_nil _ _ _ _ _ | exact Kd.N_nil _ _ _ _ _ | exact Kd.V_nil _ _ _ _ _ | exact Kd.Q_nil _ _ _ _ _ | exact Kd.S_nil _ _ _ _ _, kS_ HB GE242 GE244⟩
        ·
         rw [if_neg c119] at H
         have c119b0 : decide ((wrap64 (((rd_T75 l3 x49_2).f2))) ≤ x49_2) = false := decide_eq_false c119
         clear c119
         by_cases c122 : (wrap64 (((rd_T75 l3 x49_2).f3))) ≤ x49_2
         ·
          as_aux_lemma =>
          rw [if_pos c122] at H
          have c122b0 : decide ((wrap64 (((rd_T75 l3 x49_2).f3))) ≤ x49_2) = true := decide_eq_true c122
          clear c122
          simp only [Option.some.injEq, Prod.mk.injEq] at H
          obtain ⟨rfl, rfl⟩ := H
          try go_wp2
          replace HO_10 := Aside0.mk (Kd.R_drew HO_10.out)
          replace HO_11 := Aside0.mk (Kd.R_drew HO_11.out)
          replace BK242 := Aside0.mk (blk_drew BK242.out)
          replace BK244 := Aside0.mk (blk_drew BK244.out)
          replace HB := Aside0.mk (below_drew1 HB.out)
          refine start_ (n := 48) (S := fun w' => True) (ds := []) #[false, false, false, false, false, false, false, false, false, false, false, false, false, false, false, false, false, false, false, false, false, false, false, false, false, false, false, false, false, false, false, false, false, false, false, false, false, false, false, false, false, false, false, false, false, false, false, false] (by kernel_rfl) rfl rfl trivial (fun hHeld => ?_); refine with_tabW impl_sizes.tab23 impl_sizes.bits23 (fun HT_ HW_ => ?_)
          generalize w120.drew = w124 at HO_10 HO_11 BK242 BK244 HB hHeld ⊢
          refine pu_ 0 126 (lA 48 1) ?_ ?_ HT_ ?_
          refine pu_ 1 127 (lA 48 3) ?_ ?_ HT_ ?_
          refine pu_ 2 128 (lA 48 7) ?_ ?_ HT_ ?_
          refine pu_ 3 129 (lA 48 15) ?_ ?_ HT_ ?_
          refine pu_ 4 130 (lA 48 31) ?_ ?_ HT_ ?_
          refine pu_ 5 131 (lA 48 63) ?_ ?_ HT_ ?_
          refine pu_ 6 132 (lA 48 127) ?_ ?_ HT_ ?_
          refine pu_ 7 133 (lA 48 255) ?_ ?_ HT_ ?_
          refine pu_ 8 134 (lA 48 511) ?_ ?_ HT_ ?_
          refine pn_ 9 135 (lA 48 1023) ?_ HT_ ?_
          refine pn_ 10 136 (lA 48 2047) ?_ HT_ ?_
          refine pn_ 11 137 (lA 48 4095) ?_ HT_ ?_
          refine pn_ 12 138 (lA 48 8191) ?_ HT_ ?_
          refine pu_ 13 139 (lA 48 16383) ?_ ?_ HT_ ?_
          refine pu_ 14 140 (lA 48 32767) ?_ ?_ HT_ ?_
          refine pn_ 15 141 (lA 48 65535) ?_ HT_ ?_
          refine pn_ 16 142 (lA 48 131071) ?_ HT_ ?_
          refine pn_ 17 143 (lA 48 262143) ?_ HT_ ?_
          refine pn_ 18 144 (lA 48 524287) ?_ HT_ ?_
          refine pu_ 19 145 (lA 48 1048575) ?_ ?_ HT_ ?_
          refine pu_ 20 146 (lA 48 2097151) ?_ ?_ HT_ ?_
          refine pn_ 21 147 (lA 48 4194303) ?_ HT_ ?_
          refine pn_ 22 148 (lA 48 8388607) ?_ HT_ ?_
          refine pn_ 23 149 (lA 48 16777215) ?_ HT_ ?_
          refine pu_ 24 150 (lA 48 33554431) ?_ ?_ HT_ ?_
          refine pu_ 25 151 (lA 48 67108863) ?_ ?_ HT_ ?_
          refine pn_ 26 152 (lA 48 134217727) ?_ HT_ ?_
          refine pn_ 27 153 (lA 48 268435455) ?_ HT_ ?_
          refine pn_ 28 154 (lA 48 536870911) ?_ HT_ ?_
          refine pn_ 29 155 (lA 48 1073741823) ?_ HT_ ?_
          refine pu_ 30 156 (lA 48 2147483647) ?_ ?_ HT_ ?_
          refine pu_ 31 157 (lA 48 4294967295) ?_ ?_ HT_ ?_
          refine pn_ 32 158 (lA 48 8589934591) ?_ HT_ ?_
          refine pn_ 33 159 (lA 48 17179869183) ?_ HT_ ?_
          refine pn_ 34 160 (lA 48 34359738367) ?_ HT_ ?_
          refine pn_ 35 161 (lA 48 68719476735) ?_ HT_ ?_
          refine pu_ 36 162 (lA 48 137438953471) ?_ ?_ HT_ ?_
          refine pu_ 37 163 (lA 48 274877906943) ?_ ?_ HT_ ?_
          refine pn_ 38 164 (lA 48 549755813887) ?_ HT_ ?_
          refine pn_ 39 165 (lA 48 1099511627775) ?_ HT_ ?_
          refine pn_ 40 166 (lA 48 2199023255551) ?_ HT_ ?_
          refine pn_ 41 167 (lA 48 4398046511103) ?_ HT_ ?_
          refine pn_ 42 168 (lA 48 8796093022207) ?_ HT_ ?_
          refine pn_ 43 169 (lA 48 17592186044415) ?_ HT_ ?_
          refine pn_ 44 170 (lA 48 35184372088831) ?_ HT_ ?_
          refine pn_ 45 171 (lA 48 70368744177663) ?_ HT_ ?_
          refine pn_ 46 172 (lA 48 140737488355327) ?_ HT_ ?_
          refine pu_ 47 173 (lA 48 281474976710655) ?_ ?_ HT_ ?_
          refine done_ (done_of HT_.out (by kernel_rfl)) ?_
          try go_wp2
          go_ret2
          exact ⟨_, by first | rfl | (simp [errW_none, errW_some] <;> rfl) | (simp [*, errW_none, errW_some] <;> rfl), by first | exact Kd.R_nil _ _ _ _ _ | exact Kd.N_nil _ _ _ _ _ | exact Kd.V_nil _ _ _ _ _ | exact Kd.Q_nil _ _ _ _ _ | exact Kd.S_nil _ _ _ _ _, kS_ HB GE242 GE244⟩
         ·
          rw [if_neg c122] at H
          have c122b0 : decide ((wrap64 (((rd_T75 l3 x49_2).f3))) ≤ x49_2) = false := decide_eq_false c122
          clear c122
          by_cases c125 : (wrap64 (((rd_T75 l3 x49_2).f2))) ≥ (l3.length : Int)
          ·
           as_aux_lemma =>
           rw [if_pos c125] at H
           have c125b0 : decide ((l3.length : Int) ≤ (wrap64 (((rd_T75 l3 x49_2).f2)))) = true := decide_eq_true c125
           clear c125
           simp only [Option.some.injEq, Prod.mk.injEq] at H
           obtain ⟨rfl, rfl⟩ := H
           try go_wp2
           replace HO_10 := Aside0.mk (Kd.R_drew HO_10.out)
           replace HO_11 := Aside0.mk (Kd.R_drew HO_11.out)
           replace BK242 := Aside0.mk (blk_drew BK242.out)
           replace BK244 := Aside0.mk (blk_drew BK244.out)
           replace HB := Aside0.mk (below_drew1 HB.out)
           refine start_ (n := 48) (S := fun w' => True) (ds := []) #[false, false, false, false, false, false, false, false, false, false, false, false, false, false, false, false, false, false, false, false, false, false, false, false, false, false, false, false, false, false, false, false, false, false, false, false, false, false, false, false, false, false, false, false, false, false, false, false] (by kernel_rfl) rfl rfl trivial (fun hHeld => ?_); refine with_tabW impl_sizes.tab23 impl_sizes.bits23 (fun HT_ HW_ => ?_)
           generalize w120.drew = w127 at HO_10 HO_11 BK242 BK244 HB hHeld ⊢
           refine pu_ 0 126 (lA 48 1) ?_ ?_ HT_ ?_
           refine pu_ 1 127 (lA 48 3) ?_ ?_ HT_ ?_
           refine pu_ 2 128 (lA 48 7) ?_ ?_ HT_ ?_
           refine pu_ 3 129 (lA 48 15) ?_ ?_ HT_ ?_
           refine pu_ 4 130 (lA 48 31) ?_ ?_ HT_ ?_
           refine pu_ 5 131 (lA 48 63) ?_ ?_ HT_ ?_
           refine pu_ 6 132 (lA 48 127) ?_ ?_ HT_ ?_
           refine pu_ 7 133 (lA 48 255) ?_ ?_ HT_ ?_
           refine pu_ 8 134 (lA 48 511) ?_ ?_ HT_ ?_
           refine pu_ 9 135 (lA 48 1023) ?_ ?_ HT_ ?_
           refine pu_ 10 136 (lA 48 2047) ?_ ?_ HT_ ?_
           refine pu_ 11 137 (lA 48 4095) ?_ ?_ HT_ ?_
           refine pu_ 12 138 (lA 48 8191) ?_ ?_ HT_ ?_
           refine pu_ 13 139 (lA 48 16383) ?_ ?_ HT_ ?_
           refine pu_ 14 140 (lA 48 32767) ?_ ?_ HT_ ?_
           refine pn_ 15 141 (lA 48 65535) ?_ HT_ ?_
           refine pn_ 16 142 (lA 48 131071) ?_ HT_ ?_
           refine pn_ 17 143 (lA 48 262143) ?_ HT_ ?_
           refine pn_ 18 144 (lA 48 524287) ?_ HT_ ?_
           refine pu_ 19 145 (lA 48 1048575) ?_ ?_ HT_ ?_
           refine pu_ 20 146 (lA 48 2097151) ?_ ?_ HT_ ?_
           refine pn_ 21 147 (lA 48 4194303) ?_ HT_ ?_
           refine pn_ 22 148 (lA 48 8388607) ?_ HT_ ?_
           refine pn_ 23 149 (lA 48 16777215) ?_ HT_ ?_
           refine pu_ 24 150 (lA 48 33554431) ?_ ?_ HT_ ?_
           refine pu_ 25 151 (lA 48 67108863) ?_ ?_ HT_ ?_
           refine pn_ 26 152 (lA 48 134217727) ?_ HT_ ?_
           refine pn_ 27 153 (lA 48 268435455) ?_ HT_ ?_
           refine pn_ 28 154 (lA 48 536870911) ?_ HT_ ?_
           refine pn_ 29 155 (lA 48 1073741823) ?_ HT_ ?_
           refine pu_ 30 156 (lA 48 2147483647) ?_ ?_ HT_ ?_
           refine pu_ 31 157 (lA 48 4294967295) ?_ ?_ HT_ ?_
           refine pn_ 32 158 (lA 48 8589934591) ?_ HT_ ?_
           refine pn_ 33 159 (lA 48 17179869183) ?_ HT_ ?_
           refine pn_ 34 160 (lA 48 34359738367) ?_ HT_ ?_
           refine pn_ 35 161 (lA 48 68719476735) ?_ HT_ ?_
           refine pu_ 36 162 (lA 48 137438953471) ?_ ?_ HT_ ?_
           refine pu_ 37 163 (lA 48 274877906943) ?_ ?_ HT_ ?_
           refine pn_ 38 164 (lA 48 549755813887) ?_ HT_ ?_
           refine pn_ 39 165 (lA 48 1099511627775) ?_ HT_ ?_
           refine pn_ 40 166 (lA 48 2199023255551) ?_ HT_ ?_
           refine pn_ 41 167 (lA 48 4398046511103) ?_ HT_ ?_
           refine pn_ 42 168 (lA 48 8796093022207) ?_ HT_ ?_
           refine pn_ 43 169 (lA 48 17592186044415) ?_ HT_ ?_
           refine pn_ 44 170 (lA 48 35184372088831) ?_ HT_ ?_
           refine pn_ 45 171 (lA 48 70368744177663) ?_ HT_ ?_
           refine pn_ 46 172 (lA 48 140737488355327) ?_ HT_ ?_
           refine pu_ 47 173 (lA 48 281474976710655) ?_ ?_ HT_ ?_
           refine done_ (done_of HT_.out (by kernel_rfl)) ?_
           try go_wp2
           go_ret2
           exact ⟨_, by first | rfl | (simp [errW_none, errW_some] <;> rfl) | (simp [*, errW_none, errW_some] <;> rfl), by first | exact Kd.R_nil _ _ _ _ _ | exact Kd.N_nil _ _ _ _ _ | exact Kd.V_nil _ _ _ _ _ | exact Kd.Q_nil _ _ _ _ _ | exact Kd.S_nil _ _ _ _ _, kS_ HB GE242 GE244⟩
          ·
           rw [if_neg c125] at H
           have c125b0 : decide ((l3.length : Int) ≤ (wrap64 (((rd_T75 l3 x49_2).f2)))) = false := decide_eq_false c125
           clear c125
           by_cases c128 : (wrap64 (((rd_T75 l3 x49_2).f3))) ≥ (l3.length : Int)
           ·
            as_aux_lemma =>
            rw [if_pos c128] at H
            have c128b0 : decide ((l3.length : Int) ≤ (wrap64 (((rd_T75 l3 x49_2).f3)))) = true := decide_eq_true c128
            clear c128
            simp only [Option.some.injEq, Prod.mk.injEq] at H
            obtain ⟨rfl, rfl⟩ := H
            try go_wp2
            replace HO_10 := Aside0.mk (Kd.R_drew HO_10.out)
            replace HO_11 := Aside0.mk (Kd.R_drew HO_11.out)
            replace BK242 := Aside0.mk (blk_drew BK242.out)
            replace BK244 := Aside0.mk (blk_drew BK244.out)
            replace HB := Aside0.mk (below_drew1 HB.out)
            refine start_ (n := 48) (S := fun w' => True) (ds := []) #[false, false, false, false, false, false, false, false, false, false, false, false, false, false, false, false, false, false, false, false, false, false, false, false, false, false, false, false, false, false, false, false, false, false, false, false, false, false, false, false, false, false, false, false, false, false, false, false] (by kernel_rfl) rfl rfl trivial (fun hHeld => ?_); refine with_tabW impl_sizes.tab23 impl_sizes.bits23 (fun HT_ HW_ => ?_)
            generalize w120.drew = w130 at HO_10 HO_11 BK242 BK244 HB hHeld ⊢
            refine pu_ 0 126 (lA 48 1) ?_ ?_ HT_ ?_
            refine pu_ 1 127 (lA 48 3) ?_ ?_ HT_ ?_
            refine pu_ 2 128 (lA 48 7) ?_ ?_ HT_ ?_
            refine pu_ 3 129 (lA 48 15) ?_ ?_ HT_ ?_
            refine pu_ 4 130 (lA 48 31) ?_ ?_ HT_ ?_
            refine pu_ 5 131 (lA 48 63) ?_ ?_ HT_ ?_
            refine pu_ 6 132 (lA 48 127) ?_ ?_ HT_ ?_
            refine pu_ 7 133 (lA 48 255) ?_ ?_ HT_ ?_
            refine pu_ 8 134 (lA 48 511) ?_ ?_ HT_ ?_
            refine pu_ 9 135 (lA 48 1023) ?_ ?_ HT_ ?_
            refine pu_ 10 136 (lA 48 2047) ?_ ?_ HT_ ?_
            refine pu_ 11 137 (lA 48 4095) ?_ ?_ HT_ ?_
            refine pu_ 12 138 (lA 48 8191) ?_ ?_ HT_ ?_
            refine pu_ 13 139 (lA 48 16383) ?_ ?_ HT_ ?_
            refine pu_ 14 140 (lA 48 32767) ?_ ?_ HT_ ?_
            refine pu_ 15 141 (lA 48 65535) ?_ ?_ HT_ ?_
            refine pu_ 16 142 (lA 48 131071) ?_ ?_ HT_ ?_
            refine pu_ 17 143 (lA 48 262143) ?_ ?_ HT_ ?_
            refine pu_ 18 144 (lA 48 524287) ?_ ?_ HT_ ?_
            refine pu_ 19 145 (lA 48 1048575) ?_ ?_ HT_ ?_
            refine pu_ 20 146 (lA 48 2097151) ?_ ?_ HT_ ?_
            refine pn_ 21 147 (lA 48 4194303) ?_ HT_ ?_
            refine pn_ 22 148 (lA 48 8388607) ?_ HT_ ?_
            refine pn_ 23 149 (lA 48 16777215) ?_ HT_ ?_
            refine pu_ 24 150 (lA 48 33554431) ?_ ?_ HT_ ?_
            refine pu_ 25 151 (lA 48 67108863) ?_ ?_ HT_ ?_
            refine pn_ 26 152 (lA 48 134217727) ?_ HT_ ?_
            refine pn_ 27 153 (lA 48 268435455) ?_ HT_ ?_
            refine pn_ 28 154 (lA 48 536870911) ?_ HT_ ?_
            refine pn_ 29 155 (lA 48 1073741823) ?_ HT_ ?_
            refine pu_ 30 156 (lA 48 2147483647) ?_ ?_ HT_ ?_
            refine pu_ 31 157 (lA 48 4294967295) ?_ ?_ HT_ ?_
            refine pn_ 32 158 (lA 48 8589934591) ?_ HT_ ?_
            refine pn_ 33 159 (lA 48 17179869183) ?_ HT_ ?_
            refine pn_ 34 160 (lA 48 34359738367) ?_ HT_ ?_
            refine pn_ 35 161 (lA 48 68719476735) ?_ HT_ ?_
            refine pu_ 36 162 (lA 48 137438953471) ?_ ?_ HT_ ?_
            refine pu_ 37 163 (lA 48 274877906943) ?_ ?_ HT_ ?_
            refine pn_ 38 164 (lA 48 549755813887) ?_ HT_ ?_
            refine pn_ 39 165 (lA 48 1099511627775) ?_ HT_ ?_
            refine pn_ 40 166 (lA 48 2199023255551) ?_ HT_ ?_
            refine pn_ 41 167 (lA 48 4398046511103) ?_ HT_ ?_
            refine pn_ 42 168 (lA 48 8796093022207) ?_ HT_ ?_
            refine pn_ 43 169 (lA 48 17592186044415) ?_ HT_ ?_
            refine pn_ 44 170 (lA 48 35184372088831) ?_ HT_ ?_
            refine pn_ 45 171 (lA 48 70368744177663) ?_ HT_ ?_
            refine pn_ 46 172 (lA 48 140737488355327) ?_ HT_ ?_
            refine pu_ 47 173 (lA 48 281474976710655) ?_ ?_ HT_ ?_
            refine done_ (done_of HT_.out (by kernel_rfl)) ?_
            try go_wp2
            go_ret2
            exact ⟨_, by first | rfl | (simp [errW_none, errW_some] <;> rfl) | (simp [*, errW_none, errW_some] <;> rfl), by first | exact Kd.R_nil _ _ _ _ _ | exact Kd.N_nil _ _ _ _ _ | exact Kd.V_nil _ _ _ _ _ | exact Kd.Q_nil _ _ _ _ _ | exact Kd.S_nil _ _ _ _ _, kS_ HB GE242 GE244⟩
           ·
            rw [if_neg c128] at H
            have c128b0 : decide ((l3.length : Int) ≤ (wrap64 (((rd_T75 l3 x49_2).f3)))) = false := decide_eq_false c128
            clear c128
            by_cases c131 : (wrap64 (((rd_T75 l3 x49_2).f2))) = (wrap64 (((rd_T75 l3 x49_2).f3)))
            ·
             as_aux_lemma =>
             rw [if_pos c131] at H
             have c131b0 : ((wrap64 (((rd_T75 l3 x49_2).f2))) == (wrap64 (((rd_T75 l3 x49_2).f3)))) = true := beq_iff_eq.mpr c131
             have c131b1 : ((wrap64 (((rd_T75 l3 x49_2).f2))) != (wrap64 (((rd_T75 l3 x49_2).f3)))) = false := bne_eq_false_iff_eq.mpr c131
             clear c131
             simp only [Option.some.injEq, Prod.mk.injEq] at H
             obtain ⟨rfl, rfl⟩ := H
             try go_wp2
             replace HO_10 := Aside0.mk (Kd.R_drew HO_10.out)
             replace HO_11 := Aside0.mk (Kd.R_drew HO_11.out)
             replace BK242 := Aside0.mk (blk_drew BK242.out)
             replace BK244 := Aside0.mk (blk_drew BK244.out)
             replace HB := Aside0.mk (below_drew1 HB.out)
             refine start_ (n := 48) (S := fun w' => True) (ds := []) #[false, false, false, false, false, false, false, false, false, false, false, false, false, false, false, false, false, false, false, false, false, false, false, false, false, false, false, false, false, false, false, false, false, false, false, false, false, false, false, false, false, false, false, false, false, false, false, false] (by kernel_rfl) rfl rfl trivial (fun hHeld => ?_); refine with_tabW impl_sizes.tab23 impl_sizes.bits23 (fun HT_ HW_ => ?_)
             generalize w120.drew = w133 at HO_10 HO_11 BK242 BK244 HB hHeld ⊢
             refine pu_ 0 126 (lA 48 1) ?_ ?_ HT_ ?_
             refine pu_ 1 127 (lA 48 3) ?_ ?_ HT_ ?_
             refine pu_ 2 128 (lA 48 7) ?_ ?_ HT_ ?_
             refine pu_ 3 129 (lA 48 15) ?_ ?_ HT_ ?_
             refine pu_ 4 130 (lA 48 31) ?_ ?_ HT_ ?_
             refine pu_ 5 131 (lA 48 63) ?_ ?_ HT_ ?_
             refine pu_ 6 132 (lA 48 127) ?_ ?_ HT_ ?_
             refine pu_ 7 133 (lA 48 255) ?_ ?_ HT_ ?_
             refine pu_ 8 134 (lA 48 511) ?_ ?_ HT_ ?_
             refine pu_ 9 135 (lA 48 1023) ?_ ?_ HT_ ?_
             refine pu_ 10 136 (lA 48 2047) ?_ ?_ HT_ ?_
             refine pu_ 11 137 (lA 48 4095) ?_ ?_ HT_ ?_
             refine pu_ 12 138 (lA 48 8191) ?_ ?_ HT_ ?_
             refine pu_ 13 139 (lA 48 16383) ?_ ?_ HT_ ?_
             refine pu_ 14 140 (lA 48 32767) ?_ ?_ HT_ ?_
             refine pu_ 15 141 (lA 48 65535) ?_ ?_ HT_ ?_
             refine pu_ 16 142 (lA 48 131071) ?_ ?_ HT_ ?_
             refine pu_ 17 143 (lA 48 262143) ?_ ?_ HT_ ?_
             refine pu_ 18 144 (lA 48 524287) ?_ ?_ HT_ ?_
             refine pu_ 19 145 (lA 48 1048575) ?_ ?_ HT_ ?_
             refine pu_ 20 146 (lA 48 2097151) ?_ ?_ HT_ ?_
             refine pu_ 21 147 (lA 48 4194303) ?_ ?_ HT_ ?_
             refine pu_ 22 148 (lA 48 8388607) ?_ ?_ HT_ ?_
             refine pu_ 23 149 (lA 48 16777215) ?_ ?_ HT_ ?_
             refine pu_ 24 150 (lA 48 33554431) ?_ ?_ HT_ ?_
             refine pu_ 25 151 (lA 48 67108863) ?_ ?_ HT_ ?_
             refine pn_ 26 152 (lA 48 134217727) ?_ HT_ ?_
             refine pn_ 27 153 (lA 48 268435455) ?_ HT_ ?_
             refine pn_ 28 154 (lA 48 536870911) ?_ HT_ ?_
             refine pn_ 29 155 (lA 48 1073741823) ?_ HT_ ?_
             refine pu_ 30 156 (lA 48 2147483647) ?_ ?_ HT_ ?_
             refine pu_ 31 157 (lA 48 4294967295) ?_ ?_ HT_ ?_
             refine pn_ 32 158 (lA 48 8589934591) ?_ HT_ ?_
             refine pn_ 33 159 (lA 48 17179869183) ?_ HT_ ?_
             refine pn_ 34 160 (lA 48 34359738367) ?_ HT_ ?_
             refine pn_ 35 161 (lA 48 68719476735) ?_ HT_ ?_
             refine pu_ 36 162 (lA 48 137438953471) ?_ ?_ HT_ ?_
             refine pu_ 37 163 (lA 48 274877906943) ?_ ?_ HT_ ?_
             refine pn_ 38 164 (lA 48 549755813887) ?_ HT_ ?_
             refine pn_ 39 165 (lA 48 1099511627775) ?_ HT_ ?_
             refine pn_ 40 166 (lA 48 2199023255551) ?_ HT_ ?_
             refine pn_ 41 167 (lA 48 4398046511103) ?_ HT_ ?_
             refine pn_ 42 168 (lA 48 8796093022207) ?_ HT_ ?_
             refine pn_ 43 169 (lA 48 17592186044415) ?_ HT_ ?_
             refine pn_ 44 170 (lA 48 35184372088831) ?_ HT_ ?_
             refine pn_ 45 171 (lA 48 70368744177663) ?_ HT_ ?_
             refine pn_ 46 172 (lA 48 140737488355327) ?_ HT_ ?_
             refine pu_ 47 173 (lA 48 281474976710655) ?_ ?_ HT_ ?_
             refine done_ (done_of HT_.out (by kernel_rfl)) ?_
             try go_wp2
             go_ret2
             exact ⟨_, by first | rfl | (simp [errW_none, errW_some] <;> rfl) | (simp [*, errW_none, errW_some] <;> rfl), by first | exact Kd.R_nil _ _ _ _ _ | exact Kd.N_nil _ _ _ _ _ | exact Kd.V_nil _ _ _ _ _ | exact Kd.Q_nil _ _ _ _ _ | exact Kd.S_nil _ _ _ _ _, kS_ HB GE242 GE244⟩
            ·
             rw [if_neg c131] at H
             have c131b0 : ((wrap64 (((rd_T75 l3 x49_2).f2))) == (wrap64 (((rd_T75 l3 x49_2).f3)))) = false := beq_eq_false_iff_ne.mpr c131
             have c131b1 : ((wrap64 (((rd_T75 l3 x49_2).f2))) != (wrap64 (((rd_T75 l3 x49_2).f3)))) = true := bne_iff_ne.mpr c131
             obtain ⟨ji134, hji134⟩ : ∃ j_ : Int, (wrap64 (((rd_T75 l3 x49_2).f2))) = j_ := ⟨_, rfl⟩
             replace H : (if 0 ≤ (ji134) then (if (ji134) < (x11_2.length : Int) then (if rdOf false x11_2 (ji134) = true then (some (([] : List (S79)), false)) else (if 0 ≤ (wrap64 (((rd_T75 l3 x49_2).f3))) then (if (wrap64 (((rd_T75 l3 x49_2).f3))) < (x11_2.length : Int) then (if rdOf false x11_2 (wrap64 (((rd_T75 l3 x49_2).f3))) = true then (some (([] : List (S79)), false)) else (if (wrap64 (IntKind.i8.wrap (((rd_T75 l3 x49_2).f0) - 2))) = (0 : Int) then ((impl_within.f (wrap64 (((rd_T75 l3 x49_2).f1))) 1 (wrap64 (((rd_T79 x10_2 x49_2).f0) - 1))).bind fun t251 => (if t251 = true then (if (ji134) < (x10_2.length : Int) then (if (wrap64 (((rd_T75 l3 x49_2).f3))) < (x10_2.length : Int) then ((some ((x10_2.set ((ji134) : Int).toNat (⟨((rd_T79 x10_2 x49_2).f0), ((rd_T79 x10_2 x49_2).f1)⟩ : S79)).set ((wrap64 (((rd_T75 l3 x49_2).f3))) : Int).toNat (⟨((rd_T79 x10_2 x49_2).f0), ((rd_T79 x10_2 x49_2).f1)⟩ : S79) : List (S79))).bind fun y255 => ((some (y255.set ((ji134) : Int).toNat (⟨wrap64 (((rd_T75 l3 x49_2).f1)), (rd_T79 y255 (ji134)).f1⟩ : S79) : List (S79))).bind fun y256 => (impl_sizes.l0 kj109 l2 l3 (y256.set ((wrap64 (((rd_T75 l3 x49_2).f3))) : Int).toNat (⟨wrap64 (((rd_T79 y256 (wrap64 (((rd_T75 l3 x49_2).f3)))).f0) - (wrap64 (((rd_T75 l3 x49_2).f1)))), (rd_T79 y256 (wrap64 (((rd_T75 l3 x49_2).f3)))).f1⟩ : S79)) ((x11_2.set ((ji134) : Int).toNat true).set ((wrap64 (((rd_T75 l3 x49_2).f3))) : Int).toNat true) l3 (l3.length : Int) (wrap64 (x49_2 + 1))))) else (none)) else (none)) else (some (([] : List (S79)), false)))) else (if (wrap64 (IntKind.i8.wrap (((rd_T75 l3 x49_2).f0) - 2))) = (1 : Int) then ((impl_within.f (wrap64 (((rd_T75 l3 x49_2).f1))) 1 (wrap64 (((rd_T79 x10_2 x49_2).f1) - 1))).bind fun t259 => (if t259 = true then (if (ji134) < (x10_2.length : Int) then (if (wrap64 (((rd_T75 l3 x49_2).f3))) < (x10_2.length : Int) then ((some ((x10_2.set ((ji134) : Int).toNat (⟨((rd_T79 x10_2 x49_2).f0), ((rd_T79 x10_2 x49_2).f1)⟩ : S79)).set ((wrap64 (((rd_T75 l3 x49_2).f3))) : Int).toNat (⟨((rd_T79 x10_2 x49_2).f0), ((rd_T79 x10_2 x49_2).f1)⟩ : S79) : List (S79))).bind fun y263 => ((some (y263.set ((ji134) : Int).toNat (⟨(rd_T79 y263 (ji134)).f0, wrap64 (((rd_T75 l3 x49_2).f1))⟩ : S79) : List (S79))).bind fun y264 => (impl_sizes.l0 kj109 l2 l3 (y264.set ((wrap64 (((rd_T75 l3 x49_2).f3))) : Int).toNat (⟨(rd_T79 y264 (wrap64 (((rd_T75 l3 x49_2).f3)))).f0, wrap64 (((rd_T79 y264 (wrap64 (((rd_T75 l3 x49_2).f3)))).f1) - (wrap64 (((rd_T75 l3 x49_2).f1))))⟩ : S79)) ((x11_2.set ((ji134) : Int).toNat true).set ((wrap64 (((rd_T75 l3 x49_2).f3))) : Int).toNat true) l3 (l3.length : Int) (wrap64 (x49_2 + 1))))) else (none)) else (none)) else (some (([] : List (S79)), false)))) else (none)))) else (none)) else (none))) else (none)) else (none)) = some (r1, r2) := by first | (rw [hji134] at H; exact H) | (simp only [hji134] at H ⊢; exact H)
             (try rw [hji134] at c119b0)
             (try rw [hji134] at c125b0)
             (try rw [hji134] at c131b0)
             (try rw [hji134] at c131b1)
             have hji134w : (IntKind.i64.wrap (((rd_T75 l3 x49_2).f2))) = ji134 := (i64_w _).trans hji134
             by_cases c135 : 0 ≤ (ji134)
             rotate_left
             ·
              rw [if_neg c135] at H
              exact absurd H (by simp)
             rw [if_pos c135] at H
             have c135b0 : decide (0 ≤ (ji134)) = true := decide_eq_true c135
             clear c135
             by_cases c136 : (ji134) < (x11_2.length : Int)
             rotate_left
             ·
              rw [if_neg c136] at H
              exact absurd H (by simp)
             rw [if_pos c136] at H
             have c136b0 : decide ((ji134) < (x11_2.length : Int)) = true := decide_eq_true c136
             clear c136
             obtain ⟨bq137, hbq137⟩ : ∃ b_ : Bool, b_ = (rdOf false x11_2 (ji134)) := ⟨_, rfl⟩
             replace H : (if bq137 = true then (some (([] : List (S79)), false)) else (if 0 ≤ (wrap64 (((rd_T75 l3 x49_2).f3))) then (if (wrap64 (((rd_T75 l3 x49_2).f3))) < (x11_2.length : Int) then (if rdOf false x11_2 (wrap64 (((rd_T75 l3 x49_2).f3))) = true then (some (([] : List (S79)), false)) else (if (wrap64 (IntKind.i8.wrap (((rd_T75 l3 x49_2).f0) - 2))) = (0 : Int) then ((impl_within.f (wrap64 (((rd_T75 l3 x49_2).f1))) 1 (wrap64 (((rd_T79 x10_2 x49_2).f0) - 1))).bind fun t251 => (if t251 = true then (if (ji134) < (x10_2.length : Int) then (if (wrap64 (((rd_T75 l3 x49_2).f3))) < (x10_2.length : Int) then ((some ((x10_2.set ((ji134) : Int).toNat (⟨((rd_T79 x10_2 x49_2).f0), ((rd_T79 x10_2 x49_2).f1)⟩ : S79)).set ((wrap64 (((rd_T75 l3 x49_2).f3))) : Int).toNat (⟨((rd_T79 x10_2 x49_2).f0), ((rd_T79 x10_2 x49_2).f1)⟩ : S79) : List (S79))).bind fun y255 => ((some (y255.set ((ji134) : Int).toNat (⟨wrap64 (((rd_T75 l3 x49_2).f1)), (rd_T79 y255 (ji134)).f1⟩ : S79) : List (S79))).bind fun y256 => (impl_sizes.l0 kj109 l2 l3 (y256.set ((wrap64 (((rd_T75 l3 x49_2).f3))) : Int).toNat (⟨wrap64 (((rd_T79 y256 (wrap64 (((rd_T75 l3 x49_2).f3)))).f0) - (wrap64 (((rd_T75 l3 x49_2).f1)))), (rd_T79 y256 (wrap64 (((rd_T75 l3 x49_2).f3)))).f1⟩ : S79)) ((x11_2.set ((ji134) : Int).toNat true).set ((wrap64 (((rd_T75 l3 x49_2).f3))) : Int).toNat true) l3 (l3.length : Int) (wrap64 (x49_2 + 1))))) else (none)) else (none)) else (some (([] : List (S79)), false)))) else (if (wrap64 (IntKind.i8.wrap (((rd_T75 l3 x49_2).f0) - 2))) = (1 : Int) then ((impl_within.f (wrap64 (((rd_T75 l3 x49_2).f1))) 1 (wrap64 (((rd_T79 x10_2 x49_2).f1) - 1))).bind fun t259 => (if t259 = true then (if (ji134) < (x10_2.length : Int) then (if (wrap64 (((rd_T75 l3 x49_2).f3))) < (x10_2.length : Int) then ((some ((x10_2.set ((ji134) : Int).toNat (⟨((rd_T79 x10_2 x49_2).f0), ((rd_T79 x10_2 x49_2).f1)⟩ : S79)).set ((wrap64 (((rd_T75 l3 x49_2).f3))) : Int).toNat (⟨((rd_T79 x10_2 x49_2).f0), ((rd_T79 x10_2 x49_2).f1)⟩ : S79) : List (S79))).bind fun y263 => ((some (y263.set ((ji134) : Int).toNat (⟨(rd_T79 y263 (ji134)).f0, wrap64 (((rd_T75 l3 x49_2).f1))⟩ : S79) : List (S79))).bind fun y264 => (impl_sizes.l0 kj109 l2 l3 (y264.set ((wrap64 (((rd_T75 l3 x49_2).f3))) : Int).toNat (⟨(rd_T79 y264 (wrap64 (((rd_T75 l3 x49_2).f3)))).f0, wrap64 (((rd_T79 y264 (wrap64 (((rd_T75 l3 x49_2).f3)))).f1) - (wrap64 (((rd_T75 l3 x49_2).f1))))⟩ : S79)) ((x11_2.set ((ji134) : Int).toNat true).set ((wrap64 (((rd_T75 l3 x49_2).f3))) : Int).toNat true) l3 (l3.length : Int) (wrap64 (x49_2 + 1))))) else (none)) else (none)) else (some (([] : List (S79)), false)))) else (none)))) else (none)) else (none))) = some (r1, r2) := by rw [← hbq137] at H; exact H
             have Nbq137 := Aside0.mk hbq137
             clear hbq137
             by_cases c138 : bq137 = true
             ·
              subst c138
              have H1 : (some (([] : List (S79)), false)) = some (r1, r2) := by rw [if_pos rfl] at H; exact H
              clear H
              have H := H1
              clear H1
              simp only [Option.some.injEq, Prod.mk.injEq] at H
              obtain ⟨rfl, rfl⟩ := H
              try go_wp2
              replace HO_10 := Aside0.mk (Kd.R_drew HO_10.out)
              replace HO_11 := Aside0.mk (Kd.R_drew HO_11.out)
              replace BK242 := Aside0.mk (blk_drew BK242.out)
              replace BK244 := Aside0.mk (blk_drew BK244.out)
              replace HB := Aside0.mk (below_drew1 HB.out)
              have p249 : 0 ≤ ((ji134) : Int) := od_
              have q249 : (ji134) < (x11_2.length : Int) := od_
              obtain ⟨ad249, e249, hx249_0⟩ := Kd.at_bool (Kd.R_reads' HO_11.out).2.2 (ji134) p249 q249
              (try rw [← Nbq36.out] at hx249_0)
              (try rw [← Nbq137.out] at hx249_0)
              obtain rfl : (⟨go20, 0, none⟩ : Addr) = ad249 := (by injection e249)
              (first | simp only [add_plain] at hx249_0 | simp only [add_at] at hx249_0 | simp only [Addr.add, Nat.zero_add] at hx249_0 | skip)
              replace p249 := eq_true p249
              replace q249 := eq_true q249
              refine start_ (n := 48) (S := fun w' => w'.cell? ⟨go20, ((ji134)).toNat, none⟩ = some (.bool true)) (ds := []) #[false, false, false, false, false, false, false, false, false, false, false, false, false, false, false, false, false, false, false, false, false, false, false, false, false, false, false, false, false, false, false, false, false, false, false, false, false, false, false, false, false, false, false, false, false, false, false, false] (by kernel_rfl) rfl rfl (hx249_0) (fun hHeld => ?_); refine with_tabW impl_sizes.tab23 impl_sizes.bits23 (fun HT_ HW_ => ?_)
              generalize w120.drew = w140 at HO_10 HO_11 BK242 BK244 HB hx249_0 hHeld ⊢
              refine pu_ 0 126 (lA 48 1) ?_ ?_ HT_ ?_
              refine pu_ 1 127 (lA 48 3) ?_ ?_ HT_ ?_
              refine pu_ 2 128 (lA 48 7) ?_ ?_ HT_ ?_
              refine pu_ 3 129 (lA 48 15) ?_ ?_ HT_ ?_
              refine pu_ 4 130 (lA 48 31) ?_ ?_ HT_ ?_
              refine pu_ 5 131 (lA 48 63) ?_ ?_ HT_ ?_
              refine pu_ 6 132 (lA 48 127) ?_ ?_ HT_ ?_
              refine pu_ 7 133 (lA 48 255) ?_ ?_ HT_ ?_
              refine pu_ 8 134 (lA 48 511) ?_ ?_ HT_ ?_
              refine pu_ 9 135 (lA 48 1023) ?_ ?_ HT_ ?_
              refine pu_ 10 136 (lA 48 2047) ?_ ?_ HT_ ?_
              refine pu_ 11 137 (lA 48 4095) ?_ ?_ HT_ ?_
              refine pu_ 12 138 (lA 48 8191) ?_ ?_ HT_ ?_
              refine pu_ 13 139 (lA 48 16383) ?_ ?_ HT_ ?_
              refine pu_ 14 140 (lA 48 32767) ?_ ?_ HT_ ?_
              refine pu_ 15 141 (lA 48 65535) ?_ ?_ HT_ ?_
              refine pu_ 16 142 (lA 48 131071) ?_ ?_ HT_ ?_
              refine pu_ 17 143 (lA 48 262143) ?_ ?_ HT_ ?_
              refine pu_ 18 144 (lA 48 524287) ?_ ?_ HT_ ?_
              refine pu_ 19 145 (lA 48 1048575) ?_ ?_ HT_ ?_
              refine pu_ 20 146 (lA 48 2097151) ?_ ?_ HT_ ?_
              refine pu_ 21 147 (lA 48 4194303) ?_ ?_ HT_ ?_
              refine pu_ 22 148 (lA 48 8388607) ?_ ?_ HT_ ?_
              refine pu_ 23 149 (lA 48 16777215) ?_ ?_ HT_ ?_
              refine pu_ 24 150 (lA 48 33554431) ?_ ?_ HT_ ?_
              refine pu_ 25 151 (lA 48 67108863) ?_ ?_ HT_ ?_
              refine pu_ 26 152 (lA 48 134217727) ?_ ?_ HT_ ?_
              refine pu_ 27 153 (lA 48 268435455) ?_ ?_ HT_ ?_
              refine pu_ 28 154 (lA 48 536870911) ?_ ?_ HT_ ?_
              refine tk_ 29 155 (lA 48 1073741823) ?_ ?_ HT_ HW_ hHeld ?_
              refine pu_ 30 156 (lA 48 2147483647) ?_ ?_ HT_ ?_
              refine pu_ 31 157 (lA 48 4294967295) ?_ ?_ HT_ ?_
              refine pn_ 32 158 (lA 48 8589934591) ?_ HT_ ?_
              refine pn_ 33 159 (lA 48 17179869183) ?_ HT_ ?_
              refine pn_ 34 160 (lA 48 34359738367) ?_ HT_ ?_
              refine pn_ 35 161 (lA 48 68719476735) ?_ HT_ ?_
              refine pu_ 36 162 (lA 48 137438953471) ?_ ?_ HT_ ?_
              refine pu_ 37 163 (lA 48 274877906943) ?_ ?_ HT_ ?_
              refine pn_ 38 164 (lA 48 549755813887) ?_ HT_ ?_
              refine pn_ 39 165 (lA 48 1099511627775) ?_ HT_ ?_
              refine pn_ 40 166 (lA 48 2199023255551) ?_ HT_ ?_
              refine pn_ 41 167 (lA 48 4398046511103) ?_ HT_ ?_
              refine pn_ 42 168 (lA 48 8796093022207) ?_ HT_ ?_
              refine pn_ 43 169 (lA 48 17592186044415) ?_ HT_ ?_
              refine pn_ 44 170 (lA 48 35184372088831) ?_ HT_ ?_
              refine pn_ 45 171 (lA 48 70368744177663) ?_ HT_ ?_
              refine pn_ 46 172 (lA 48 140737488355327) ?_ HT_ ?_
              refine pu_ 47 173 (lA 48 281474976710655) ?_ ?_ HT_ ?_
              refine done_ (done_of HT_.out (by kernel_rfl)) ?_
              try go_wp2
              go_ret2
              exact ⟨_, by first | rfl | (simp [errW_none, errW_some] <;> rfl) | (simp only [← hji134]; first | rfl | (simp [errW_none, errW_some] <;> rfl)) | (simp [*, errW_none, errW_some] <;> rfl), by first | exact Kd.R_nil _ _ _ _ _ | exact Kd.N_nil _ _ _ _ _ | exact Kd.V_nil _ _ _ _ _ | exact Kd.Q_nil _ _ _ _ _ | exact Kd.S_nil _ _ _ _ _, kS_ HB GE242 GE244⟩
             ·
              replace c138 := Bool.eq_false_iff.mpr c138
              subst c138
              have H1 : (if 0 ≤ (wrap64 (((rd_T75 l3 x49_2).f3))) then (if (wrap64 (((rd_T75 l3 x49_2).f3))) < (x11_2.length : Int) then (if rdOf false x11_2 (wrap64 (((rd_T75 l3 x49_2).f3))) = true then (some (([] : List (S79)), false)) else (if (wrap64 (IntKind.i8.wrap (((rd_T75 l3 x49_2).f0) - 2))) = (0 : Int) then ((impl_within.f (wrap64 (((rd_T75 l3 x49_2).f1))) 1 (wrap64 (((rd_T79 x10_2 x49_2).f0) - 1))).bind fun t251 => (if t251 = true then (if (ji134) < (x10_2.length : Int) then (if (wrap64 (((rd_T75 l3 x49_2).f3))) < (x10_2.length : Int) then ((some ((x10_2.set ((ji134) : Int).toNat (⟨((rd_T79 x10_2 x49_2).f0), ((rd_T79 x10_2 x49_2).f1)⟩ : S79)).set ((wrap64 (((rd_T75 l3 x49_2).f3))) : Int).toNat (⟨((rd_T79 x10_2 x49_2).f0), ((rd_T79 x10_2 x49_2).f1)⟩ : S79) : List (S79))).bind fun y255 => ((some (y255.set ((ji134) : Int).toNat (⟨wrap64 (((rd_T75 l3 x49_2).f1)), (rd_T79 y255 (ji134)).f1⟩ : S79) : List (S79))).bind fun y256 => (impl_sizes.l0 kj109 l2 l3 (y256.set ((wrap64 (((rd_T75 l3 x49_2).f3))) : Int).toNat (⟨wrap64 (((rd_T79 y256 (wrap64 (((rd_T75 l3 x49_2).f3)))).f0) - (wrap64 (((rd_T75 l3 x49_2).f1)))), (rd_T79 y256 (wrap64 (((rd_T75 l3 x49_2).f3)))).f1⟩ : S79)) ((x11_2.set ((ji134) : Int).toNat true).set ((wrap64 (((rd_T75 l3 x49_2).f3))) : Int).toNat true) l3 (l3.length : Int) (wrap64 (x49_2 + 1))))) else (none)) else (none)) else (some (([] : List (S79)), false)))) else (if (wrap64 (IntKind.i8.wrap (((rd_T75 l3 x49_2).f0) - 2))) = (1 : Int) then ((impl_within.f (wrap64 (((rd_T75 l3 x49_2).f1))) 1 (wrap64 (((rd_T79 x10_2 x49_2).f1) - 1))).bind fun t259 => (if t259 = true then (if (ji134) < (x10_2.length : Int) then (if (wrap64 (((rd_T75 l3 x49_2).f3))) < (x10_2.length : Int) then ((some ((x10_2.set ((ji134) : Int).toNat (⟨((rd_T79 x10_2 x49_2).f0), ((rd_T79 x10_2 x49_2).f1)⟩ : S79)).set ((wrap64 (((rd_T75 l3 x49_2).f3))) : Int).toNat (⟨((rd_T79 x10_2 x49_2).f0), ((rd_T79 x10_2 x49_2).f1)⟩ : S79) : List (S79))).bind fun y263 => ((some (y263.set ((ji134) : Int).toNat (⟨(rd_T79 y263 (ji134)).f0, wrap64 (((rd_T75 l3 x49_2).f1))⟩ : S79) : List (S79))).bind fun y264 => (impl_sizes.l0 kj109 l2 l3 (y264.set ((wrap64 (((rd_T75 l3 x49_2).f3))) : Int).toNat (⟨(rd_T79 y264 (wrap64 (((rd_T75 l3 x49_2).f3)))).f0, wrap64 (((rd_T79 y264 (wrap64 (((rd_T75 l3 x49_2).f3)))).f1) - (wrap64 (((rd_T75 l3 x49_2).f1))))⟩ : S79)) ((x11_2.set ((ji134) : Int).toNat true).set ((wrap64 (((rd_T75 l3 x49_2).f3))) : Int).toNat true) l3 (l3.length : Int) (wrap64 (x49_2 + 1))))) else (none)) else (none)) else (some (([] : List (S79)), false)))) else (none)))) else (none)) else (none)) = some (r1, r2) := by rw [if_neg (show ¬ (false = true) by decide)] at H; exact H
              clear H
              have H := H1
              clear H1
              obtain ⟨ji141, hji141⟩ : ∃ j_ : Int, (wrap64 (((rd_T75 l3 x49_2).f3))) = j_ := ⟨_, rfl⟩
              replace H : (if 0 ≤ (ji141) then (if (ji141) < (x11_2.length : Int) then (if rdOf false x11_2 (ji141) = true then (some (([] : List (S79)), false)) else (if (wrap64 (IntKind.i8.wrap (((rd_T75 l3 x49_2).f0) - 2))) = (0 : Int) then ((impl_within.f (wrap64 (((rd_T75 l3 x49_2).f1))) 1 (wrap64 (((rd_T79 x10_2 x49_2).f0) - 1))).bind fun t251 => (if t251 = true then (if (ji134) < (x10_2.length : Int) then (if (ji141) < (x10_2.length : Int) then ((some ((x10_2.set ((ji134) : Int).toNat (⟨((rd_T79 x10_2 x49_2).f0), ((rd_T79 x10_2 x49_2).f1)⟩ : S79)).set ((ji141) : Int).toNat (⟨((rd_T79 x10_2 x49_2).f0), ((rd_T79 x10_2 x49_2).f1)⟩ : S79) : List (S79))).bind fun y255 => ((some (y255.set ((ji134) : Int).toNat (⟨wrap64 (((rd_T75 l3 x49_2).f1)), (rd_T79 y255 (ji134)).f1⟩ : S79) : List (S79))).bind fun y256 => (impl_sizes.l0 kj109 l2 l3 (y256.set ((ji141) : Int).toNat (⟨wrap64 (((rd_T79 y256 (ji141)).f0) - (wrap64 (((rd_T75 l3 x49_2).f1)))), (rd_T79 y256 (ji141)).f1⟩ : S79)) ((x11_2.set ((ji134) : Int).toNat true).set ((ji141) : Int).toNat true) l3 (l3.length : Int) (wrap64 (x49_2 + 1))))) else (none)) else (none)) else (some (([] : List (S79)), false)))) else (if (wrap64 (IntKind.i8.wrap (((rd_T75 l3 x49_2).f0) - 2))) = (1 : Int) then ((impl_within.f (wrap64 (((rd_T75 l3 x49_2).f1))) 1 (wrap64 (((rd_T79 x10_2 x49_2).f1) - 1))).bind fun t259 => (if t259 = true then (if (ji134) < (x10_2.length : Int) then (if (ji141) < (x10_2.length : Int) then ((some ((x10_2.set ((ji134) : Int).toNat (⟨((rd_T79 x10_2 x49_2).f0), ((rd_T79 x10_2 x49_2).f1)⟩ : S79)).set ((ji141) : Int).toNat (⟨((rd_T79 x10_2 x49_2).f0), ((rd_T79 x10_2 x49_2).f1)⟩ : S79) : List (S79))).bind fun y263 => ((some (y263.set ((ji134) : Int).toNat (⟨(rd_T79 y263 (ji134)).f0, wrap64 (((rd_T75 l3 x49_2).f1))⟩ : S79) : List (S79))).bind fun y264 => (impl_sizes.l0 kj109 l2 l3 (y264.set ((ji141) : Int).toNat (⟨(rd_T79 y264 (ji141)).f0, wrap64 (((rd_T79 y264 (ji141)).f1) - (wrap64 (((rd_T75 l3 x49_2).f1))))⟩ : S79)) ((x11_2.set ((ji134) : Int).toNat true).set ((ji141) : Int).toNat true) l3 (l3.length : Int) (wrap64 (x49_2 + 1))))) else (none)) else (none)) else (some (([] : List (S79)), false)))) else (none)))) else (none)) else (none)) = some (r1, r2) := by first | (rw [hji141] at H; exact H) | (simp only [hji141] at H ⊢; exact H)
              (try rw [hji141] at c122b0)
              (try rw [hji141] at c128b0)
              (try rw [hji141] at c131b0)
              (try rw [hji141] at c131b1)
              have hji141w : (IntKind.i64.wrap (((rd_T75 l3 x49_2).f3))) = ji141 := (i64_w _).trans hji141
              by_cases c142 : 0 ≤ (ji141)
              rotate_left
              ·
               rw [if_neg c142] at H
               exact absurd H (by simp)
              rw [if_pos c142] at H
              have c142b0 : decide (0 ≤ (ji141)) = true := decide_eq_true c142
              clear c142
              by_cases c143 : (ji141) < (x11_2.length : Int)
              rotate_left
              ·
               rw [if_neg c143] at H
               exact absurd H (by simp)
              rw [if_pos c143] at H
              have c143b0 : decide ((ji141) < (x11_2.length : Int)) = true := decide_eq_true c143
              clear c143
              obtain ⟨bq144, hbq144⟩ : ∃ b_ : Bool, b_ = (rdOf false x11_2 (ji141)) := ⟨_, rfl⟩
              replace H : (if bq144 = true then (some (([] : List (S79)), false)) else (if (wrap64 (IntKind.i8.wrap (((rd_T75 l3 x49_2).f0) - 2))) = (0 : Int) then ((impl_within.f (wrap64 (((rd_T75 l3 x49_2).f1))) 1 (wrap64 (((rd_T79 x10_2 x49_2).f0) - 1))).bind fun t251 => (if t251 = true then (if (ji134) < (x10_2.length : Int) then (if (ji141) < (x10_2.length : Int) then ((some ((x10_2.set ((ji134) : Int).toNat (⟨((rd_T79 x10_2 x49_2).f0), ((rd_T79 x10_2 x49_2).f1)⟩ : S79)).set ((ji141) : Int).toNat (⟨((rd_T79 x10_2 x49_2).f0), ((rd_T79 x10_2 x49_2).f1)⟩ : S79) : List (S79))).bind fun y255 => ((some (y255.set ((ji134) : Int).toNat (⟨wrap64 (((rd_T75 l3 x49_2).f1)), (rd_T79 y255 (ji134)).f1⟩ : S79) : List (S79))).bind fun y256 => (impl_sizes.l0 kj109 l2 l3 (y256.set ((ji141) : Int).toNat (⟨wrap64 (((rd_T79 y256 (ji141)).f0) - (wrap64 (((rd_T75 l3 x49_2).f1)))), (rd_T79 y256 (ji141)).f1⟩ : S79)) ((x11_2.set ((ji134) : Int).toNat true).set ((ji141) : Int).toNat true) l3 (l3.length : Int) (wrap64 (x49_2 + 1))))) else (none)) else (none)) else (some (([] : List (S79)), false)))) else (if (wrap64 (IntKind.i8.wrap (((rd_T75 l3 x49_2).f0) - 2))) = (1 : Int) then ((impl_within.f (wrap64 (((rd_T75 l3 x49_2).f1))) 1 (wrap64 (((rd_T79 x10_2 x49_2).f1) - 1))).bind fun t259 => (if t259 = true then (if (ji134) < (x10_2.length : Int) then (if (ji141) < (x10_2.length : Int) then ((some ((x10_2.set ((ji134) : Int).toNat (⟨((rd_T79 x10_2 x49_2).f0), ((rd_T79 x10_2 x49_2).f1)⟩ : S79)).set ((ji141) : Int).toNat (⟨((rd_T79 x10_2 x49_2).f0), ((rd_T79 x10_2 x49_2).f1)⟩ : S79) : List (S79))).bind fun y263 => ((some (y263.set ((ji134) : Int).toNat (⟨(rd_T79 y263 (ji134)).f0, wrap64 (((rd_T75 l3 x49_2).f1))⟩ : S79) : List (S79))).bind fun y264 => (impl_sizes.l0 kj109 l2 l3 (y264.set ((ji141) : Int).toNat (⟨(rd_T79 y264 (ji141)).f0, wrap64 (((rd_T79 y264 (ji141)).f1) - (wrap64 (((rd_T75 l3 x49_2).f1))))⟩ : S79)) ((x11_2.set ((ji134) : Int).toNat true).set ((ji141) : Int).toNat true) l3 (l3.length : Int) (wrap64 (x49_2 + 1))))) else (none)) else (none)) else (some (([] : List (S79)), false)))) else (none)))) = some (r1, r2) := by rw [← hbq144] at H; exact H
              have Nbq144 := Aside0.mk hbq144
              clear hbq144
              by_cases c145 : bq144 = true
              ·
               subst c145
               have H1 : (some (([] : List (S79)), false)) = some (r1, r2) := by rw [if_pos rfl] at H; exact H
               clear H
               have H := H1
               clear H1
               simp only [Option.some.injEq, Prod.mk.injEq] at H
               obtain ⟨rfl, rfl⟩ := H
               try go_wp2
               replace HO_10 := Aside0.mk (Kd.R_drew HO_10.out)
               replace HO_11 := Aside0.mk (Kd.R_drew HO_11.out)
               replace BK242 := Aside0.mk (blk_drew BK242.out)
               replace BK244 := Aside0.mk (blk_drew BK244.out)
               replace HB := Aside0.mk (below_drew1 HB.out)
               have p249 : 0 ≤ ((ji134) : Int) := od_
               have q249 : (ji134) < (x11_2.length : Int) := od_
               obtain ⟨ad249, e249, hx249_0⟩ := Kd.at_bool (Kd.R_reads' HO_11.out).2.2 (ji134) p249 q249
               (try rw [← Nbq36.out] at hx249_0)
               (try rw [← Nbq137.out] at hx249_0)
               (try rw [← Nbq144.out] at hx249_0)
               obtain rfl : (⟨go20, 0, none⟩ : Addr) = ad249 := (by injection e249)
               (first | simp only [add_plain] at hx249_0 | simp only [add_at] at hx249_0 | simp only [Addr.add, Nat.zero_add] at hx249_0 | skip)
               replace p249 := eq_true p249
               replace q249 := eq_true q249
               have p250 : 0 ≤ ((ji141) : Int) := od_
               have q250 : (ji141) < (x11_2.length : Int) := od_
               obtain ⟨ad250, e250, hx250_0⟩ := Kd.at_bool (Kd.R_reads' HO_11.out).2.2 (ji141) p250 q250
               (try rw [← Nbq36.out] at hx250_0)
               (try rw [← Nbq137.out] at hx250_0)
               (try rw [← Nbq144.out] at hx250_0)
               obtain rfl : (⟨go20, 0, none⟩ : Addr) = ad250 := (by injection e250)
               (first | simp only [add_plain] at hx250_0 | simp only [add_at] at hx250_0 | simp only [Addr.add, Nat.zero_add] at hx250_0 | skip)
               replace p250 := eq_true p250
               replace q250 := eq_true q250
               refine start_ (n := 48) (S := fun w' => w'.cell? ⟨go20, ((ji134)).toNat, none⟩ = some (.bool false) ∧ w'.cell? ⟨go20, ((ji141)).toNat, none⟩ = some (.bool true)) (ds := []) #[false, false, false, false, false, false, false, false, false, false, false, false, false, false, false, false, false, false, false, false, false, false, false, false, false, false, false, false, false, false, false, false, false, false, false, false, false, false, false, false, false, false, false, false, false, false, false, false] (by kernel_rfl) rfl rfl ⟨hx249_0, hx250_0⟩ (fun hHeld => ?_); refine with_tabW impl_sizes.tab23 impl_sizes.bits23 (fun HT_ HW_ => ?_)
               generalize w120.drew = w147 at HO_10 HO_11 BK242 BK244 HB hx249_0 hx250_0 hHeld ⊢
               refine pu_ 0 126 (lA 48 1) ?_ ?_ HT_ ?_
               refine pu_ 1 127 (lA 48 3) ?_ ?_ HT_ ?_
               refine pu_ 2 128 (lA 48 7) ?_ ?_ HT_ ?_
               refine pu_ 3 129 (lA 48 15) ?_ ?_ HT_ ?_
               refine pu_ 4 130 (lA 48 31) ?_ ?_ HT_ ?_
               refine pu_ 5 131 (lA 48 63) ?_ ?_ HT_ ?_
               refine pu_ 6 132 (lA 48 127) ?_ ?_ HT_ ?_
               refine pu_ 7 133 (lA 48 255) ?_ ?_ HT_ ?_
               refine pu_ 8 134 (lA 48 511) ?_ ?_ HT_ ?_
               refine pu_ 9 135 (lA 48 1023) ?_ ?_ HT_ ?_
               refine pu_ 10 136 (lA 48 2047) ?_ ?_ HT_ ?_
               refine pu_ 11 137 (lA 48 4095) ?_ ?_ HT_ ?_
               refine pu_ 12 138 (lA 48 8191) ?_ ?_ HT_ ?_
               refine pu_ 13 139 (lA 48 16383) ?_ ?_ HT_ ?_
               refine pu_ 14 140 (lA 48 32767) ?_ ?_ HT_ ?_
               refine pu_ 15 141 (lA 48 65535) ?_ ?_ HT_ ?_
               refine pu_ 16 142 (lA 48 131071) ?_ ?_ HT_ ?_
               refine pu_ 17 143 (lA 48 262143) ?_ ?_ HT_ ?_
               refine pu_ 18 144 (lA 48 524287) ?_ ?_ HT_ ?_
               refine pu_ 19 145 (lA 48 1048575) ?_ ?_ HT_ ?_
               refine pu_ 20 146 (lA 48 2097151) ?_ ?_ HT_ ?_
               refine pu_ 21 147 (lA 48 4194303) ?_ ?_ HT_ ?_
               refine pu_ 22 148 (lA 48 8388607) ?_ ?_ HT_ ?_
               refine pu_ 23 149 (lA 48 16777215) ?_ ?_ HT_ ?_
               refine pu_ 24 150 (lA 48 33554431) ?_ ?_ HT_ ?_
               refine pu_ 25 151 (lA 48 67108863) ?_ ?_ HT_ ?_
               refine pu_ 26 152 (lA 48 134217727) ?_ ?_ HT_ ?_
               refine pu_ 27 153 (lA 48 268435455) ?_ ?_ HT_ ?_
               refine pu_ 28 154 (lA 48 536870911) ?_ ?_ HT_ ?_
               refine tk_ 29 155 (lA 48 1073741823) ?_ ?_ HT_ HW_ hHeld ?_
               refine pu_ 30 156 (lA 48 2147483647) ?_ ?_ HT_ ?_
               refine pu_ 31 157 (lA 48 4294967295) ?_ ?_ HT_ ?_
               refine pu_ 32 158 (lA 48 8589934591) ?_ ?_ HT_ ?_
               refine pu_ 33 159 (lA 48 17179869183) ?_ ?_ HT_ ?_
               refine pu_ 34 160 (lA 48 34359738367) ?_ ?_ HT_ ?_
               refine tk_ 35 161 (lA 48 68719476735) ?_ ?_ HT_ HW_ hHeld ?_
               refine pu_ 36 162 (lA 48 137438953471) ?_ ?_ HT_ ?_
               refine pu_ 37 163 (lA 48 274877906943) ?_ ?_ HT_ ?_
               refine pn_ 38 164 (lA 48 549755813887) ?_ HT_ ?_
               refine pn_ 39 165 (lA 48 1099511627775) ?_ HT_ ?_
               refine pn_ 40 166 (lA 48 2199023255551) ?_ HT_ ?_
               refine pn_ 41 167 (lA 48 4398046511103) ?_ HT_ ?_
               refine pn_ 42 168 (lA 48 8796093022207) ?_ HT_ ?_
               refine pn_ 43 169 (lA 48 17592186044415) ?_ HT_ ?_
               refine pn_ 44 170 (lA 48 35184372088831) ?_ HT_ ?_
               refine pn_ 45 171 (lA 48 70368744177663) ?_ HT_ ?_
               refine pn_ 46 172 (lA 48 140737488355327) ?_ HT_ ?_
               refine pu_ 47 173 (lA 48 281474976710655) ?_ ?_ HT_ ?_
               refine done_ (done_of HT_.out (by kernel_rfl)) ?_
               try go_wp2
               go_ret2
               exact ⟨_, by first | rfl | (simp [errW_none, errW_some] <;> rfl) | (simp only [← hji134, ← hji141]; first | rfl | (simp [errW_none, errW_some] <;> rfl)) | (simp [*, errW_none, errW_some] <;> rfl), by first | exact Kd.R_nil _ _ _ _ _ | exact Kd.N_nil _ _ _ _ _ | exact Kd.V_nil _ _ _ _ _ | exact Kd.Q_nil _ _ _ _ _ | exact Kd.S_nil _ _ _ _ _, kS_ HB GE242 GE244⟩
              ·
               replace c145 := Bool.eq_false_iff.mpr c145
               subst c145
               have H1 : (if (wrap64 (IntKind.i8.wrap (((rd_T75 l3 x49_2).f0) - 2))) = (0 : Int) then ((impl_within.f (wrap64 (((rd_T75 l3 x49_2).f1))) 1 (wrap64 (((rd_T79 x10_2 x49_2).f0) - 1))).bind fun t251 => (if t251 = true then (if (ji134) < (x10_2.length : Int) then (if (ji141) < (x10_2.length : Int) then ((some ((x10_2.set ((ji134) : Int).toNat (⟨((rd_T79 x10_2 x49_2).f0), ((rd_T79 x10_2 x49_2).f1)⟩ : S79)).set ((ji141) : Int).toNat (⟨((rd_T79 x10_2 x49_2).f0), ((rd_T79 x10_2 x49_2).f1)⟩ : S79) : List (S79))).bind fun y255 => ((some (y255.set ((ji134) : Int).toNat (⟨wrap64 (((rd_T75 l3 x49_2).f1)), (rd_T79 y255 (ji134)).f1⟩ : S79) : List (S79))).bind fun y256 => (impl_sizes.l0 kj109 l2 l3 (y256.set ((ji141) : Int).toNat (⟨wrap64 (((rd_T79 y256 (ji141)).f0) - (wrap64 (((rd_T75 l3 x49_2).f1)))), (rd_T79 y256 (ji141)).f1⟩ : S79)) ((x11_2.set ((ji134) : Int).toNat true).set ((ji141) : Int).toNat true) l3 (l3.length : Int) (wrap64 (x49_2 + 1))))) else (none)) else (none)) else (some (([] : List (S79)), false)))) else (if (wrap64 (IntKind.i8.wrap (((rd_T75 l3 x49_2).f0) - 2))) = (1 : Int) then ((impl_within.f (wrap64 (((rd_T75 l3 x49_2).f1))) 1 (wrap64 (((rd_T79 x10_2 x49_2).f1) - 1))).bind fun t259 => (if t259 = true then (if (ji134) < (x10_2.length : Int) then (if (ji141) < (x10_2.length : Int) then ((some ((x10_2.set ((ji134) : Int).toNat (⟨((rd_T79 x10_2 x49_2).f0), ((rd_T79 x10_2 x49_2).f1)⟩ : S79)).set ((ji141) : Int).toNat (⟨((rd_T79 x10_2 x49_2).f0), ((rd_T79 x10_2 x49_2).f1)⟩ : S79) : List (S79))).bind fun y263 => ((some (y263.set ((ji134) : Int).toNat (⟨(rd_T79 y263 (ji134)).f0, wrap64 (((rd_T75 l3 x49_2).f1))⟩ : S79) : List (S79))).bind fun y264 => (impl_sizes.l0 kj109 l2 l3 (y264.set ((ji141) : Int).toNat (⟨(rd_T79 y264 (ji141)).f0, wrap64 (((rd_T79 y264 (ji141)).f1) - (wrap64 (((rd_T75 l3 x49_2).f1))))⟩ : S79)) ((x11_2.set ((ji134) : Int).toNat true).set ((ji141) : Int).toNat true) l3 (l3.length : Int) (wrap64 (x49_2 + 1))))) else (none)) else (none)) else (some (([] : List (S79)), false)))) else (none))) = some (r1, r2) := by rw [if_neg (show ¬ (false = true) by decide)] at H; exact H
               clear H
               have H := H1
               clear H1
               by_cases c148 : (wrap64 (IntKind.i8.wrap (((rd_T75 l3 x49_2).f0) - 2))) = (0 : Int)
               ·
                rw [if_pos c148] at H
                (try (have c148b0 : (wrap64 (IntKind.i8.wrap (((rd_T75 l3 x49_2).f0) - 2))) = (0 : Int) := c148))
                clear c148
                replace H := Option.bind_eq_some_iff.mp H
                obtain ⟨t251, A1490, H⟩ := H
                replace H : (if t251 = true then (if (ji134) < (x10_2.length : Int) then (if (ji141) < (x10_2.length : Int) then ((some ((x10_2.set ((ji134) : Int).toNat (⟨((rd_T79 x10_2 x49_2).f0), ((rd_T79 x10_2 x49_2).f1)⟩ : S79)).set ((ji141) : Int).toNat (⟨((rd_T79 x10_2 x49_2).f0), ((rd_T79 x10_2 x49_2).f1)⟩ : S79) : List (S79))).bind fun y255 => ((some (y255.set ((ji134) : Int).toNat (⟨wrap64 (((rd_T75 l3 x49_2).f1)), (rd_T79 y255 (ji134)).f1⟩ : S79) : List (S79))).bind fun y256 => (impl_sizes.l0 kj109 l2 l3 (y256.set ((ji141) : Int).toNat (⟨wrap64 (((rd_T79 y256 (ji141)).f0) - (wrap64 (((rd_T75 l3 x49_2).f1)))), (rd_T79 y256 (ji141)).f1⟩ : S79)) ((x11_2.set ((ji134) : Int).toNat true).set ((ji141) : Int).toNat true) l3 (l3.length : Int) (wrap64 (x49_2 + 1))))) else (none)) else (none)) else (some (([] : List (S79)), false))) = some (r1, r2) := H
                have A149 := Aside0.mk A1490
                clear A1490
                by_cases c150 : t251 = true
                ·
                 subst c150
                 have H1 : (if (ji134) < (x10_2.length : Int) then (if (ji141) < (x10_2.length : Int) then ((some ((x10_2.set ((ji134) : Int).toNat (⟨((rd_T79 x10_2 x49_2).f0), ((rd_T79 x10_2 x49_2).f1)⟩ : S79)).set ((ji141) : Int).toNat (⟨((rd_T79 x10_2 x49_2).f0), ((rd_T79 x10_2 x49_2).f1)⟩ : S79) : List (S79))).bind fun y255 => ((some (y255.set ((ji134) : Int).toNat (⟨wrap64 (((rd_T75 l3 x49_2).f1)), (rd_T79 y255 (ji134)).f1⟩ : S79) : List (S79))).bind fun y256 => (impl_sizes.l0 kj109 l2 l3 (y256.set ((ji141) : Int).toNat (⟨wrap64 (((rd_T79 y256 (ji141)).f0) - (wrap64 (((rd_T75 l3 x49_2).f1)))), (rd_T79 y256 (ji141)).f1⟩ : S79)) ((x11_2.set ((ji134) : Int).toNat true).set ((ji141) : Int).toNat true) l3 (l3.length : Int) (wrap64 (x49_2 + 1))))) else (none)) else (none)) = some (r1, r2) := by rw [if_pos rfl] at H; exact H
                 clear H
                 have H := H1
                 clear H1
                 obtain ⟨y252, hy252⟩ : ∃ y_ : List Bool, y_ = (x11_2.set ((ji134) : Int).toNat true) := ⟨_, rfl⟩
                 replace H : (if (ji134) < (x10_2.length : Int) then (if (ji141) < (x10_2.length : Int) then ((some ((x10_2.set ((ji134) : Int).toNat (⟨((rd_T79 x10_2 x49_2).f0), ((rd_T79 x10_2 x49_2).f1)⟩ : S79)).set ((ji141) : Int).toNat (⟨((rd_T79 x10_2 x49_2).f0), ((rd_T79 x10_2 x49_2).f1)⟩ : S79) : List (S79))).bind fun y255 => ((some (y255.set ((ji134) : Int).toNat (⟨wrap64 (((rd_T75 l3 x49_2).f1)), (rd_T79 y255 (ji134)).f1⟩ : S79) : List (S79))).bind fun y256 => (impl_sizes.l0 kj109 l2 l3 (y256.set ((ji141) : Int).toNat (⟨wrap64 (((rd_T79 y256 (ji141)).f0) - (wrap64 (((rd_T75 l3 x49_2).f1)))), (rd_T79 y256 (ji141)).f1⟩ : S79)) (y252.set ((ji141) : Int).toNat true) l3 (l3.length : Int) (wrap64 (x49_2 + 1))))) else (none)) else (none)) = some (r1, r2) := by first | (rw [hy252]; with_reducible exact H) | (have H2_ := (Option.bind_some _ _).symm.trans H; rw [hy252]; with_reducible exact H2_) | (have H2_ := (Option.bind_some _ _).symm.trans H; with_reducible exact H2_) | with_reducible exact H | (rw [hy252]; exact H) | exact H
                 have Ny252 := Aside0.mk hy252
                 clear hy252
                 obtain ⟨y253, hy253⟩ : ∃ y_ : List Bool, y_ = (y252.set ((ji141) : Int).toNat true) := ⟨_, rfl⟩
                 replace H : (if (ji134) < (x10_2.length : Int) then (if (ji141) < (x10_2.length : Int) then ((some ((x10_2.set ((ji134) : Int).toNat (⟨((rd_T79 x10_2 x49_2).f0), ((rd_T79 x10_2 x49_2).f1)⟩ : S79)).set ((ji141) : Int).toNat (⟨((rd_T79 x10_2 x49_2).f0), ((rd_T79 x10_2 x49_2).f1)⟩ : S79) : List (S79))).bind fun y255 => ((some (y255.set ((ji134) : Int).toNat (⟨wrap64 (((rd_T75 l3 x49_2).f1)), (rd_T79 y255 (ji134)).f1⟩ : S79) : List (S79))).bind fun y256 => (impl_sizes.l0 kj109 l2 l3 (y256.set ((ji141) : Int).toNat (⟨wrap64 (((rd_T79 y256 (ji141)).f0) - (wrap64 (((rd_T75 l3 x49_2).f1)))), (rd_T79 y256 (ji141)).f1⟩ : S79)) y253 l3 (l3.length : Int) (wrap64 (x49_2 + 1))))) else (none)) else (none)) = some (r1, r2) := by first | (rw [hy253]; with_reducible exact H) | (have H2_ := (Option.bind_some _ _).symm.trans H; rw [hy253]; with_reducible exact H2_) | (have H2_ := (Option.bind_some _ _).symm.trans H; with_reducible exact H2_) | with_reducible exact H | (rw [hy253]; exact H) | exact H
                 have Ny253 := Aside0.mk hy253
                 clear hy253
                 by_cases c153 : (ji134) < (x10_2.length : Int)
                 rotate_left
                 ·
                  rw [if_neg c153] at H
                  exact absurd H (by simp)
                 rw [if_pos c153] at H
                 have c153b0 : decide ((ji134) < (x10_2.length : Int)) = true := decide_eq_true c153
                 clear c153
                 obtain ⟨y254, hy254⟩ : ∃ y_ : List (S79), y_ = (x10_2.set ((ji134) : Int).toNat (⟨((rd_T79 x10_2 x49_2).f0), ((rd_T79 x10_2 x49_2).f1)⟩ : S79)) := ⟨_, rfl⟩
                 replace H : (if (ji141) < (x10_2.length : Int) then ((some (y254.set ((ji141) : Int).toNat (⟨((rd_T79 x10_2 x49_2).f0), ((rd_T79 x10_2 x49_2).f1)⟩ : S79) : List (S79))).bind fun y255 => ((some (y255.set ((ji134) : Int).toNat (⟨wrap64 (((rd_T75 l3 x49_2).f1)), (rd_T79 y255 (ji134)).f1⟩ : S79) : List (S79))).bind fun y256 => (impl_sizes.l0 kj109 l2 l3 (y256.set ((ji141) : Int).toNat (⟨wrap64 (((rd_T79 y256 (ji141)).f0) - (wrap64 (((rd_T75 l3 x49_2).f1)))), (rd_T79 y256 (ji141)).f1⟩ : S79)) y253 l3 (l3.length : Int) (wrap64 (x49_2 + 1))))) else (none)) = some (r1, r2) := by first | (rw [hy254]; with_reducible exact H) | (have H2_ := (Option.bind_some _ _).symm.trans H; rw [hy254]; with_reducible exact H2_) | (have H2_ := (Option.bind_some _ _).symm.trans H; with_reducible exact H2_) | with_reducible exact H | (rw [hy254]; exact H) | exact H
                 have Ny254 := Aside0.mk hy254
                 clear hy254
                 by_cases c155 : (ji141) < (x10_2.length : Int)
                 rotate_left
                 ·
                  rw [if_neg c155] at H
                  exact absurd H (by simp)
                 rw [if_pos c155] at H
                 have c155b0 : decide ((ji141) < (x10_2.length : Int)) = true := decide_eq_true c155
                 clear c155
                 obtain ⟨y255, hy255⟩ : ∃ y_ : List (S79), y_ = (y254.set ((ji141) : Int).toNat (⟨((rd_T79 x10_2 x49_2).f0), ((rd_T79 x10_2 x49_2).f1)⟩ : S79)) := ⟨_, rfl⟩
                 replace H : ((some (y255.set ((ji134) : Int).toNat (⟨wrap64 (((rd_T75 l3 x49_2).f1)), (rd_T79 y255 (ji134)).f1⟩ : S79) : List (S79))).bind fun y256 => (impl_sizes.l0 kj109 l2 l3 (y256.set ((ji141) : Int).toNat (⟨wrap64 (((rd_T79 y256 (ji141)).f0) - (wrap64 (((rd_T75 l3 x49_2).f1)))), (rd_T79 y256 (ji141)).f1⟩ : S79)) y253 l3 (l3.length : Int) (wrap64 (x49_2 + 1)))) = some (r1, r2) := by first | (rw [hy255]; with_reducible exact H) | (have H2_ := (Option.bind_some _ _).symm.trans H; rw [hy255]; with_reducible exact H2_) | (have H2_ := (Option.bind_some _ _).symm.trans H; with_reducible exact H2_) | with_reducible exact H | (rw [hy255]; exact H) | exact H
                 have Ny255 := Aside0.mk hy255
                 clear hy255
                 obtain ⟨y256, hy256⟩ : ∃ y_ : List (S79), y_ = (y255.set ((ji134) : Int).toNat (⟨wrap64 (((rd_T75 l3 x49_2).f1)), (rd_T79 y255 (ji134)).f1⟩ : S79)) := ⟨_, rfl⟩
                 replace H : (impl_sizes.l0 kj109 l2 l3 (y256.set ((ji141) : Int).toNat (⟨wrap64 (((rd_T79 y256 (ji141)).f0) - (wrap64 (((rd_T75 l3 x49_2).f1)))), (rd_T79 y256 (ji141)).f1⟩ : S79)) y253 l3 (l3.length : Int) (wrap64 (x49_2 + 1))) = some (r1, r2) := by first | (rw [hy256]; with_reducible exact H) | (have H2_ := (Option.bind_some _ _).symm.trans H; rw [hy256]; with_reducible exact H2_) | (have H2_ := (Option.bind_some _ _).symm.trans H; with_reducible exact H2_) | with_reducible exact H | (rw [hy256]; exact H) | exact H
                 have Ny256 := Aside0.mk hy256
                 clear hy256
                 obtain ⟨y258, hy258⟩ : ∃ y_ : List (S79), y_ = (y256.set ((ji141) : Int).toNat (⟨wrap64 (((rd_T79 y256 (ji141)).f0) - (wrap64 (((rd_T75 l3 x49_2).f1)))), (rd_T79 y256 (ji141)).f1⟩ : S79)) := ⟨_, rfl⟩
                 replace H : (impl_sizes.l0 kj109 l2 l3 y258 y253 l3 (l3.length : Int) (wrap64 (x49_2 + 1))) = some (r1, r2) := by first | (rw [hy258]; with_reducible exact H) | (have H2_ := (Option.bind_some _ _).symm.trans H; rw [hy258]; with_reducible exact H2_) | (have H2_ := (Option.bind_some _ _).symm.trans H; with_reducible exact H2_) | with_reducible exact H | (rw [hy258]; exact H) | exact H
                 have Ny258 := Aside0.mk hy258
                 clear hy258
                 have H' := Aside0.mk H
                 clear H
                 try go_wp2
                 replace HO_10 := Aside0.mk (Kd.R_drew HO_10.out)
                 replace HO_11 := Aside0.mk (Kd.R_drew HO_11.out)
                 replace BK242 := Aside0.mk (blk_drew BK242.out)
                 replace BK244 := Aside0.mk (blk_drew BK244.out)
                 replace HB := Aside0.mk (below_drew1 HB.out)
                 have p249 : 0 ≤ ((ji134) : Int) := od_
                 have q249 : (ji134) < (x11_2.length : Int) := od_
                 obtain ⟨ad249, e249, hx249_0⟩ := Kd.at_bool (Kd.R_reads' HO_11.out).2.2 (ji134) p249 q249
                 (try rw [← Nbq36.out] at hx249_0)
                 (try rw [← Nbq137.out] at hx249_0)
                 (try rw [← Nbq144.out] at hx249_0)
                 obtain rfl : (⟨go20, 0, none⟩ : Addr) = ad249 := (by injection e249)
                 (first | simp only [add_plain] at hx249_0 | simp only [add_at] at hx249_0 | simp only [Addr.add, Nat.zero_add] at hx249_0 | skip)
                 replace p249 := eq_true p249
                 replace q249 := eq_true q249
                 have p250 : 0 ≤ ((ji141) : Int) := od_
                 have q250 : (ji141) < (x11_2.length : Int) := od_
                 obtain ⟨ad250, e250, hx250_0⟩ := Kd.at_bool (Kd.R_reads' HO_11.out).2.2 (ji141) p250 q250
                 (try rw [← Nbq36.out] at hx250_0)
                 (try rw [← Nbq137.out] at hx250_0)
                 (try rw [← Nbq144.out] at hx250_0)
                 obtain rfl : (⟨go20, 0, none⟩ : Addr) = ad250 := (by injection e250)
                 (first | simp only [add_plain] at hx250_0 | simp only [add_at] at hx250_0 | simp only [Addr.add, Nat.zero_add] at hx250_0 | skip)
                 replace p250 := eq_true p250
                 replace q250 := eq_true q250
                 refine start_ (n := 48) (S := fun w' => w'.cell? ⟨gb242, 0, none⟩ = some (.int .i8 ((rd_T75 l3 x49_2).f0)) ∧ w'.cell? ⟨gb242, 1, none⟩ = some (.int .i8 ((rd_T75 l3 x49_2).f1)) ∧ w'.cell? ⟨gb242, 2, none⟩ = some (.int .i8 ((rd_T75 l3 x49_2).f2)) ∧ w'.cell? ⟨gb242, 3, none⟩ = some (.int .i8 ((rd_T75 l3 x49_2).f3)) ∧ w'.cell? ⟨gb244, 0, none⟩ = some (.int .i64 ((rd_T79 x10_2 x49_2).f0)) ∧ w'.cell? ⟨gb244, 1, none⟩ = some (.int .i64 ((rd_T79 x10_2 x49_2).f1)) ∧ w'.cell? ⟨go20, ((ji134)).toNat, none⟩ = some (.bool false) ∧ w'.cell? ⟨go20, ((ji141)).toNat, none⟩ = some (.bool false)) (ds := []) #[false, false, false, false, false, false, false, false, false, false, false, false, false, false, false, false, false, false, false, false, false, false, false, false, false, false, false, false, false, false, false, false, false, false, false, false, false, false, false, false, false, false, false, false, false, false, false, false] (by kernel_rfl) rfl rfl ⟨(blk_cell BK242.out 0).trans rfl, (blk_cell BK242.out 1).trans rfl, (blk_cell BK242.out 2).trans rfl, (blk_cell BK242.out 3).trans rfl, (blk_cell BK244.out 0).trans rfl, (blk_cell BK244.out 1).trans rfl, hx249_0, hx250_0⟩ (fun hHeld => ?_); refine with_tabW impl_sizes.tab23 impl_sizes.bits23 (fun HT_ HW_ => ?_)
                 generalize w120.drew = w160 at HO_10 HO_11 BK242 BK244 HB hx249_0 hx250_0 hHeld ⊢
                 refine pu_ 0 126 (lA 48 1) ?_ ?_ HT_ ?_
                 refine pu_ 1 127 (lA 48 3) ?_ ?_ HT_ ?_
                 refine pu_ 2 128 (lA 48 7) ?_ ?_ HT_ ?_
                 refine pu_ 3 129 (lA 48 15) ?_ ?_ HT_ ?_
                 refine pu_ 4 130 (lA 48 31) ?_ ?_ HT_ ?_
                 refine pu_ 5 131 (lA 48 63) ?_ ?_ HT_ ?_
                 refine pu_ 6 132 (lA 48 127) ?_ ?_ HT_ ?_
                 refine pu_ 7 133 (lA 48 255) ?_ ?_ HT_ ?_
                 refine pu_ 8 134 (lA 48 511) ?_ ?_ HT_ ?_
                 refine pu_ 9 135 (lA 48 1023) ?_ ?_ HT_ ?_
                 refine pu_ 10 136 (lA 48 2047) ?_ ?_ HT_ ?_
                 refine pu_ 11 137 (lA 48 4095) ?_ ?_ HT_ ?_
                 refine pu_ 12 138 (lA 48 8191) ?_ ?_ HT_ ?_
                 refine pu_ 13 139 (lA 48 16383) ?_ ?_ HT_ ?_
                 refine pu_ 14 140 (lA 48 32767) ?_ ?_ HT_ ?_
                 refine pu_ 15 141 (lA 48 65535) ?_ ?_ HT_ ?_
                 refine pu_ 16 142 (lA 48 131071) ?_ ?_ HT_ ?_
                 refine pu_ 17 143 (lA 48 262143) ?_ ?_ HT_ ?_
                 refine pu_ 18 144 (lA 48 524287) ?_ ?_ HT_ ?_
                 refine pu_ 19 145 (lA 48 1048575) ?_ ?_ HT_ ?_
                 refine pu_ 20 146 (lA 48 2097151) ?_ ?_ HT_ ?_
                 refine pu_ 21 147 (lA 48 4194303) ?_ ?_ HT_ ?_
                 refine pu_ 22 148 (lA 48 8388607) ?_ ?_ HT_ ?_
                 refine pu_ 23 149 (lA 48 16777215) ?_ ?_ HT_ ?_
                 refine pu_ 24 150 (lA 48 33554431) ?_ ?_ HT_ ?_
                 refine pu_ 25 151 (lA 48 67108863) ?_ ?_ HT_ ?_
                 refine pu_ 26 152 (lA 48 134217727) ?_ ?_ HT_ ?_
                 refine pu_ 27 153 (lA 48 268435455) ?_ ?_ HT_ ?_
                 refine pu_ 28 154 (lA 48 536870911) ?_ ?_ HT_ ?_
                 refine tk_ 29 155 (lA 48 1073741823) ?_ ?_ HT_ HW_ hHeld ?_
                 refine pu_ 30 156 (lA 48 2147483647) ?_ ?_ HT_ ?_
                 refine pu_ 31 157 (lA 48 4294967295) ?_ ?_ HT_ ?_
                 refine pu_ 32 158 (lA 48 8589934591) ?_ ?_ HT_ ?_
                 refine pu_ 33 159 (lA 48 17179869183) ?_ ?_ HT_ ?_
                 refine pu_ 34 160 (lA 48 34359738367) ?_ ?_ HT_ ?_
                 refine tk_ 35 161 (lA 48 68719476735) ?_ ?_ HT_ HW_ hHeld ?_
                 refine pu_ 36 162 (lA 48 137438953471) ?_ ?_ HT_ ?_
                 refine pu_ 37 163 (lA 48 274877906943) ?_ ?_ HT_ ?_
                 refine pu_ 38 164 (lA 48 549755813887) ?_ ?_ HT_ ?_
                 refine pu_ 41 167 (lA 48 2748779069439) ?_ ?_ HT_ ?_
                 refine pu_ 42 168 (lA 48 7146825580543) ?_ ?_ HT_ ?_
                 refine tk_ 39 165 (lA 48 7696581394431) ?_ ?_ HT_ HW_ hHeld ?_
                 refine pu_ 40 166 (lA 48 8796093022207) ?_ ?_ HT_ ?_
                 refine tk_ 43 169 (lA 48 17592186044415) ?_ ?_ HT_ HW_ hHeld ?_
                 refine pu_ 44 170 (lA 48 35184372088831) ?_ ?_ HT_ ?_
                 refine one_ (i := 45) (N := some 171) (lA 48 70368744177663) rfl rfl (one_of HT_.out (by kernel_rfl)) (by decide) (fun K hK => ?_)
                 refine goes_ Try.func49 (by kernel_rfl) rfl #[.int .i64 (wrap64 (((rd_T75 l3 x49_2).f1))), .int .i64 1, .int .i64 (wrap64 (((rd_T79 x10_2 x49_2).f0) - 1))] (by rfl) rfl rfl (by (try simp only [List.map_toArray, List.map_cons, List.map_nil]); first | done | rfl | (simp only [List.length_drop, List.length_take]; rfl)) ?_
                 with_reducible refine (impl_within.calls (wrap64 (((rd_T75 l3 x49_2).f1))) 1 (wrap64 (((rd_T79 x10_2 x49_2).f0) - 1)) true _ A149.out).mono ?_
                 rintro e w' ⟨rfl, ⟨nd, rfl⟩⟩
                 refine ⟨_, rfl, ?_⟩
                 refine hK.out _ _ ⟨(blk_cell BK242.out 0).trans rfl, (blk_cell BK242.out 1).trans rfl, (blk_cell BK242.out 2).trans rfl, (blk_cell BK242.out 3).trans rfl, (blk_cell BK244.out 0).trans rfl, (blk_cell BK244.out 1).trans rfl, hHeld.2.2.2.2.2.2.1, hHeld.2.2.2.2.2.2.2⟩ (fun hHeld => ?_)
                 clear hK K
                 refine norm_ (a' := ?_) ?_ ?_
                 rotate_left
                 ·
                  show Act.put _ (some 171) _ = _
                  simp only [Act.put, List.setIfInBounds_toArray, List.set_cons_zero, List.set_cons_succ, i64_w, i32_w]
                  rfl
                 refine pu_ 46 172 (lA 48 140737488355327) ?_ ?_ HT_ ?_
                 refine pu_ 47 173 (lA 48 281474976710655) ?_ ?_ HT_ ?_
                 refine done_ (done_of HT_.out (by kernel_rfl)) ?_
                 (try (rw [drewN_self w160]; generalize hq_ : World.drewN w160 _ = w160; have n0_ : Aside0 (Kd.R k79 79 w160 w.heap.size (fun k_ => k_ ≠ gb244) (.slice (some ⟨go18, 0, none⟩) x10_2.length co18) x10_2) := ⟨by rw [← hq_]; exact (kp_ HO_10)⟩; have n1_ : Aside0 (Kd.R Kd.bool 4 w160 w.heap.size (fun _ => True) (.slice (some ⟨go20, 0, none⟩) x11_2.length co20) x11_2) := ⟨by rw [← hq_]; exact (kp_ HO_11)⟩; have n2_ : Aside0 (w160.heap[gb242]? = some (.cells #[.int .i8 ((rd_T75 l3 x49_2).f0), .int .i8 ((rd_T75 l3 x49_2).f1), .int .i8 ((rd_T75 l3 x49_2).f2), .int .i8 ((rd_T75 l3 x49_2).f3)] 75 (0, 0))) := ⟨by rw [← hq_]; exact (kb_ BK242)⟩; have n3_ : Aside0 (w160.heap[gb244]? = some (.cells #[.int .i64 ((rd_T79 x10_2 x49_2).f0), .int .i64 ((rd_T79 x10_2 x49_2).f1)] 79 (0, 0))) := ⟨by rw [← hq_]; exact (kb_ BK244)⟩; have n4_ : Aside0 (Below w.heap.size w w160) := ⟨by rw [← hq_]; exact (kS_ HB GE242 GE244)⟩; clear HO_10 HO_11 BK242 BK244 HB hq_; have HO_10 := n0_; have HO_11 := n1_; have BK242 := n2_; have BK244 := n3_; have HB := n4_; clear n0_ n1_ n2_ n3_ n4_))
                 have p151 : 0 ≤ ((ji134) : Int) := od_
                 have q151 : ((ji134) : Int) < ((x11_2.length : Int) : Int) := od_
                 obtain ⟨hx151_0, hf151_0⟩ := Kd.R_celln false HO_11.out ((ji134) : Int) p151 q151
                 replace p151 := eq_true p151
                 replace q151 := eq_true q151
                 obtain ⟨hy161_, hz161_⟩ := Kd.R_celln false HO_11.out ((ji134) : Int) od_ od_
                 have HP161 := Kd.R_putg HO_11.out ((ji134) : Int) true
                 try go_wp2_with (first | ((with_reducible refine gate_store (t := 4) (p := 178) rfl ?_); refine store_event (t := 4) (p := 178) (v := ?vo_w162) (w1 := (w160.setCell ⟨go20, ((ji134) : Int).toNat, none⟩ (.bool true))) ?hg ?ho ?hn ?hr ?_; (case ho => rfl); (case hg => rfl); (case hn => rfl); (case hr => first | (go_simp; done) | (go_simp; rfl)); intro w162 hw; have hg : w160.grownBy w162 (some go20) := (by rw [hw]; exact HP161.2); have hp_ : Kd.R Kd.bool 4 w162 w.heap.size (fun _ => True) (.slice (some ⟨go20, 0, none⟩) x11_2.length co20) y252 := (by rw [hw, Ny252.out]; exact HP161.1); clear HP161; have n0_ := Aside0.mk (Kd.R_over' (v := (.slice (some ⟨go20, 0, none⟩) x11_2.length co20)) (kp_ HO_10) (Kd.R_typed HO_11.out) (by decide) hg); have n1_ := Aside0.mk (hp_); have n2_ := Aside0.mk (blk_grown (g := gb242) (o := .cells #[.int .i8 ((rd_T75 l3 x49_2).f0), .int .i8 ((rd_T75 l3 x49_2).f1), .int .i8 ((rd_T75 l3 x49_2).f2), .int .i8 ((rd_T75 l3 x49_2).f3)] 75 (0, 0)) (kb_ BK242) hg (Kd.R_ne HO_11.out BK242.out (by decide))); have n3_ := Aside0.mk (blk_grown (g := gb244) (o := .cells #[.int .i64 ((rd_T79 x10_2 x49_2).f0), .int .i64 ((rd_T79 x10_2 x49_2).f1)] 79 (0, 0)) (kb_ BK244) hg (Kd.R_ne HO_11.out BK244.out (by decide))); have n4_ := Aside0.mk ((by rw [hw]; exact below_set (HB.out) GB20.out : Below w.heap.size w w162)); clear HO_10; clear HO_11; clear BK242; clear BK244; clear HB; have HO_10 := n0_; have HO_11 := n1_; have BK242 := n2_; have BK244 := n3_; have HB := n4_; clear n0_ n1_ n2_ n3_ n4_; clear hg hw hp_; have p152 : 0 ≤ ((ji141) : Int) := od_; have q152 : ((ji141) : Int) < ((x11_2.length : Int) : Int) := od_; obtain ⟨hx152_0, hf152_0⟩ := Kd.R_celln false HO_11.out ((ji141) : Int) p152 q152; replace p152 := eq_true p152; replace q152 := eq_true q152; obtain ⟨hy163_, hz163_⟩ := Kd.R_celln false HO_11.out ((ji141) : Int) od_ od_; have HP163 := Kd.R_putg HO_11.out ((ji141) : Int) true) | ((with_reducible refine gate_store (t := 4) (p := 179) rfl ?_); refine store_event (t := 4) (p := 179) (v := ?vo_w164) (w1 := (w162.setCell ⟨go20, ((ji141) : Int).toNat, none⟩ (.bool true))) ?hg ?ho ?hn ?hr ?_; (case ho => rfl); (case hg => rfl); (case hn => rfl); (case hr => first | (go_simp; done) | (go_simp; rfl)); intro w164 hw; have hg : w162.grownBy w164 (some go20) := (by rw [hw]; exact HP163.2); have hp_ : Kd.R Kd.bool 4 w164 w.heap.size (fun _ => True) (.slice (some ⟨go20, 0, none⟩) x11_2.length co20) y253 := (by rw [hw, Ny253.out]; exact HP163.1); clear HP163; have n0_ := Aside0.mk (Kd.R_over' (v := (.slice (some ⟨go20, 0, none⟩) x11_2.length co20)) (kp_ HO_10) (Kd.R_typed HO_11.out) (by decide) hg); have n1_ := Aside0.mk (hp_); have n2_ := Aside0.mk (blk_grown (g := gb242) (o := .cells #[.int .i8 ((rd_T75 l3 x49_2).f0), .int .i8 ((rd_T75 l3 x49_2).f1), .int .i8 ((rd_T75 l3 x49_2).f2), .int .i8 ((rd_T75 l3 x49_2).f3)] 75 (0, 0)) (kb_ BK242) hg (Kd.R_ne HO_11.out BK242.out (by decide))); have n3_ := Aside0.mk (blk_grown (g := gb244) (o := .cells #[.int .i64 ((rd_T79 x10_2 x49_2).f0), .int .i64 ((rd_T79 x10_2 x49_2).f1)] 79 (0, 0)) (kb_ BK244) hg (Kd.R_ne HO_11.out BK244.out (by decide))); have n4_ := Aside0.mk ((by rw [hw]; exact below_set (HB.out) GB20.out : Below w.heap.size w w164)); clear HO_10; clear HO_11; clear BK242; clear BK244; clear HB; have HO_10 := n0_; have HO_11 := n1_; have BK242 := n2_; have BK244 := n3_; have HB := n4_; clear n0_ n1_ n2_ n3_ n4_; clear hg hw hp_))
                 replace HO_10 := Aside0.mk (Kd.R_drew HO_10.out)
                 replace HO_11 := Aside0.mk (Kd.R_drew HO_11.out)
                 replace BK242 := Aside0.mk (blk_drew BK242.out)
                 replace BK244 := Aside0.mk (blk_drew BK244.out)
                 replace HB := Aside0.mk (below_drew1 HB.out)
                 have p154 : 0 ≤ ((ji134) : Int) := od_
                 have q154 : ((ji134) : Int) < ((x10_2.length : Int) : Int) := od_
                 obtain ⟨ce154, hcl154, hM154, hcc154, hfr154⟩ := Kd.R_elem HO_10.out z79 ((ji134) : Int) p154 q154
                 obtain rfl := k79_openM hM154
                 have hx154_0 : World.cell? _ ⟨go18, ((ji134) : Int).toNat * 2, none⟩ = some (.int .i64 ((rd_T79 x10_2 (ji134)).f0)) := hcc154 0 _ rfl
                 have hx154_1 : World.cell? _ ⟨go18, ((ji134) : Int).toNat * 2 + 1, none⟩ = some (.int .i64 ((rd_T79 x10_2 (ji134)).f1)) := hcc154 1 _ rfl
                 have hf154_0 : World.frozen? _ ⟨go18, ((ji134) : Int).toNat * 2, none⟩ = false := hfr154 0
                 have hf154_1 : World.frozen? _ ⟨go18, ((ji134) : Int).toNat * 2 + 1, none⟩ = false := hfr154 1
                 clear hcl154 hcc154 hfr154; (try clear hM154)
                 replace p154 := eq_true p154
                 replace q154 := eq_true q154
                 obtain ⟨ce166, hcl166, hM166, hcc166, hfr166⟩ := Kd.R_elem HO_10.out z79 ((ji134) : Int) od_ (by have h_ : ((ji134) : Int) < ((x10_2.length : Int) : Int) := od_; first | exact h_ | (have e_ := (Kd.R_reads' HO_10.out).1; omega) | simpa using h_)
                 obtain rfl := k79_openM hM166
                 have HP166 := (Kd.R_seg HO_10.out ((ji134) : Int) od_ (by have h_ : ((ji134) : Int) < ((x10_2.length : Int) : Int) := od_; first | exact h_ | (have e_ := (Kd.R_reads' HO_10.out).1; omega) | simpa using h_) (seg := [.int .i64 ((rd_T79 x10_2 x49_2).f0), .int .i64 ((rd_T79 x10_2 x49_2).f1)]) (j := 0) hcl166 hcc166 (show 2 ≤ 2 from by decide) (x' := (⟨((rd_T79 x10_2 x49_2).f0), ((rd_T79 x10_2 x49_2).f1)⟩ : S79)) (k79_mkM _ _ _ (⟨((rd_T79 x10_2 x49_2).f0), ((rd_T79 x10_2 x49_2).f1)⟩ : S79) ) (fun _ hk => hk)).1
                 rw [← Ny254.out] at HP166
                 have HQ166 := Aside0.mk HP166
                 clear hcl166 hcc166 hfr166; (try clear hM166); clear HP166
                 have p156 : 0 ≤ ((ji141) : Int) := od_
                 have q156 : ((ji141) : Int) < ((x10_2.length : Int) : Int) := od_
                 obtain ⟨ce156, hcl156, hM156, hcc156, hfr156⟩ := Kd.R_elem HQ166.out z79 ((ji141) : Int) p156 q156
                 obtain rfl := k79_openM hM156
                 have hx156_0 : World.cell? _ ⟨go18, ((ji141) : Int).toNat * 2, none⟩ = some (.int .i64 ((rd_T79 y254 (ji141)).f0)) := hcc156 0 _ rfl
                 have hx156_1 : World.cell? _ ⟨go18, ((ji141) : Int).toNat * 2 + 1, none⟩ = some (.int .i64 ((rd_T79 y254 (ji141)).f1)) := hcc156 1 _ rfl
                 have hf156_0 : World.frozen? _ ⟨go18, ((ji141) : Int).toNat * 2, none⟩ = false := hfr156 0
                 have hf156_1 : World.frozen? _ ⟨go18, ((ji141) : Int).toNat * 2 + 1, none⟩ = false := hfr156 1
                 clear hcl156 hcc156 hfr156; (try clear hM156)
                 replace p156 := eq_true p156
                 replace q156 := eq_true q156
                 obtain ⟨ce167, hcl167, hM167, hcc167, hfr167⟩ := Kd.R_elem HQ166.out z79 ((ji141) : Int) od_ (by have h_ : ((ji141) : Int) < ((x10_2.length : Int) : Int) := od_; first | exact h_ | (have e_ := (Kd.R_reads' HO_10.out).1; omega) | simpa using h_)
                 obtain rfl := k79_openM hM167
                 have HP167 := (Kd.R_seg HQ166.out ((ji141) : Int) od_ (by have h_ : ((ji141) : Int) < ((x10_2.length : Int) : Int) := od_; first | exact h_ | (have e_ := (Kd.R_reads' HO_10.out).1; omega) | simpa using h_) (seg := [.int .i64 ((rd_T79 x10_2 x49_2).f0), .int .i64 ((rd_T79 x10_2 x49_2).f1)]) (j := 0) hcl167 hcc167 (show 2 ≤ 2 from by decide) (x' := (⟨((rd_T79 x10_2 x49_2).f0), ((rd_T79 x10_2 x49_2).f1)⟩ : S79)) (k79_mkM _ _ _ (⟨((rd_T79 x10_2 x49_2).f0), ((rd_T79 x10_2 x49_2).f1)⟩ : S79) ) (fun _ hk => hk)).1
                 rw [← Ny255.out] at HP167
                 have HQ167 := Aside0.mk HP167
                 clear hcl167 hcc167 hfr167; (try clear hM167); clear HP167
                 refine start_ (n := 10) (S := fun w' => w'.cell? ⟨gb244, 0, none⟩ = some (.int .i64 ((rd_T79 x10_2 x49_2).f0)) ∧ w'.cell? ⟨gb244, 1, none⟩ = some (.int .i64 ((rd_T79 x10_2 x49_2).f1))) (ds := [9]) #[false, false, false, false, false, false, false, false, false, false] (by kernel_rfl) rfl rfl ⟨(blk_cell BK244.out 0).trans rfl, (blk_cell BK244.out 1).trans rfl⟩ (fun hHeld => ?_); refine with_tabW impl_sizes.tab26 impl_sizes.bits26 (fun HT_ HW_ => ?_)
                 generalize w164.drew = w165 at HO_10 HO_11 BK242 BK244 HB HQ166 HQ167 hf154_0 hf154_1 hf156_0 hf156_1 hx154_0 hx154_1 hx156_0 hx156_1 hHeld ⊢
                 (try (have shf154_0 := hf154_0; simp [World.setCells, show (k79).sz = 2 from rfl, go_sem] at shf154_0))
                 (try (have shf154_1 := hf154_1; simp [World.setCells, show (k79).sz = 2 from rfl, go_sem] at shf154_1))
                 (try (have shf156_0 := hf156_0; simp [World.setCells, show (k79).sz = 2 from rfl, go_sem] at shf156_0))
                 (try (have shf156_1 := hf156_1; simp [World.setCells, show (k79).sz = 2 from rfl, go_sem] at shf156_1))
                 (try (have shx154_0 := hx154_0; simp [World.setCells, show (k79).sz = 2 from rfl, go_sem] at shx154_0))
                 (try (have shx154_1 := hx154_1; simp [World.setCells, show (k79).sz = 2 from rfl, go_sem] at shx154_1))
                 (try (have shx156_0 := hx156_0; simp [World.setCells, show (k79).sz = 2 from rfl, go_sem] at shx156_0))
                 (try (have shx156_1 := hx156_1; simp [World.setCells, show (k79).sz = 2 from rfl, go_sem] at shx156_1))
                 refine pu_ 0 180 (lA 10 1) ?_ ?_ HT_ ?_
                 refine pu_ 1 181 (lA 10 3) ?_ ?_ HT_ ?_
                 refine pu_ 2 182 (lA 10 7) ?_ ?_ HT_ ?_
                 refine pu_ 3 183 (lA 10 15) ?_ ?_ HT_ ?_
                 refine tk_ 4 184 (lA 10 31) ?_ ?_ HT_ HW_ hHeld ?_
                 refine pu_ 6 186 (lA 10 95) ?_ ?_ HT_ ?_
                 refine tk_ 5 185 (lA 10 127) ?_ ?_ HT_ HW_ hHeld ?_
                 refine one_ (i := 7) (N := none) (lA 10 255) rfl rfl (one_of HT_.out (by kernel_rfl)) (by decide) (fun K hK => ?_)
                 refine skip_ (w1 := ?_) (by rfl) rfl ?_ ?_
                 rotate_left
                 ·
                  go_simp
                  rfl
                 refine hK.out _ _ ⟨((cell_far (p := ⟨go18, _, none⟩) (show gb244 ≠ go18 from (by have h_ := Kd.R_away HO_10.out (fun _ hk => hk); intro e_; exact h_ (by rw [e_]; rfl))) _).trans (((cell_far (p := ⟨go18, _, none⟩) (show gb244 ≠ go18 from (by have h_ := Kd.R_away HO_10.out (fun _ hk => hk); intro e_; exact h_ (by rw [e_]; rfl))) _).trans (hHeld.1)))), ((cell_far (p := ⟨go18, _, none⟩) (show gb244 ≠ go18 from (by have h_ := Kd.R_away HO_10.out (fun _ hk => hk); intro e_; exact h_ (by rw [e_]; rfl))) _).trans (((cell_far (p := ⟨go18, _, none⟩) (show gb244 ≠ go18 from (by have h_ := Kd.R_away HO_10.out (fun _ hk => hk); intro e_; exact h_ (by rw [e_]; rfl))) _).trans (hHeld.2))))⟩ (fun hHeld => ?_)
                 clear hK K
                 refine pu_ 8 187 (lA 10 511) ?_ ?_ HT_ ?_
                 refine last_ (i := 9) (N := none) (lA 10 1023) rfl rfl (one_of HT_.out (by kernel_rfl)) (by decide) (fun K hK => ?_)
                 refine skip_ (w1 := ?_) (by rfl) rfl ?_ ?_
                 rotate_left
                 ·
                  go_simp
                  rfl
                 refine hK.out _ _ ?_
                 clear hK K
                 refine done_ (done_of HT_.out (by kernel_rfl)) ?_
                 try go_wp2
                 have n0_ : Aside0 (Kd.R k79 79 ((((w165.setCell ⟨go18, ((ji134) : Int).toNat * 2, none⟩ (.int .i64 ((rd_T79 x10_2 x49_2).f0))).setCell ⟨go18, ((ji134) : Int).toNat * 2 + 1, none⟩ (.int .i64 ((rd_T79 x10_2 x49_2).f1))).setCell ⟨go18, ((ji141) : Int).toNat * 2, none⟩ (.int .i64 ((rd_T79 x10_2 x49_2).f0))).setCell ⟨go18, ((ji141) : Int).toNat * 2 + 1, none⟩ (.int .i64 ((rd_T79 x10_2 x49_2).f1))) w.heap.size (fun k_ => k_ ≠ gb244) (.slice (some ⟨go18, 0, none⟩) x10_2.length co18) y255) := ⟨kp_ HQ167⟩
                 have n1_ : Aside0 (Kd.R Kd.bool 4 ((((w165.setCell ⟨go18, ((ji134) : Int).toNat * 2, none⟩ (.int .i64 ((rd_T79 x10_2 x49_2).f0))).setCell ⟨go18, ((ji134) : Int).toNat * 2 + 1, none⟩ (.int .i64 ((rd_T79 x10_2 x49_2).f1))).setCell ⟨go18, ((ji141) : Int).toNat * 2, none⟩ (.int .i64 ((rd_T79 x10_2 x49_2).f0))).setCell ⟨go18, ((ji141) : Int).toNat * 2 + 1, none⟩ (.int .i64 ((rd_T79 x10_2 x49_2).f1))) w.heap.size (fun _ => True) (.slice (some ⟨go20, 0, none⟩) x11_2.length co20) y253) := ⟨by (with_reducible repeat (first | apply Kd.R_alloc | apply Kd.R_drewN | apply Kd.R_drew)); exact Kd.R_mono (Kd.R_far (p := ⟨go18, ((ji141) : Int).toNat * 2 + 1, none⟩) (Kd.R_far (p := ⟨go18, ((ji141) : Int).toNat * 2, none⟩) (Kd.R_far (p := ⟨go18, ((ji134) : Int).toNat * 2 + 1, none⟩) (Kd.R_far (p := ⟨go18, ((ji134) : Int).toNat * 2, none⟩) (Kd.R_types HO_11.out (Kd.R_typed HO_10.out go18 rfl).choose_spec (by decide)) (fun _ hk => hk.2) (.int .i64 ((rd_T79 x10_2 x49_2).f0))) (fun _ hk => hk.2) (.int .i64 ((rd_T79 x10_2 x49_2).f1))) (fun _ hk => hk.2) (.int .i64 ((rd_T79 x10_2 x49_2).f0))) (fun _ hk => hk.2) (.int .i64 ((rd_T79 x10_2 x49_2).f1))) (fun _ hk => trivial)⟩
                 have n2_ : Aside0 (((((w165.setCell ⟨go18, ((ji134) : Int).toNat * 2, none⟩ (.int .i64 ((rd_T79 x10_2 x49_2).f0))).setCell ⟨go18, ((ji134) : Int).toNat * 2 + 1, none⟩ (.int .i64 ((rd_T79 x10_2 x49_2).f1))).setCell ⟨go18, ((ji141) : Int).toNat * 2, none⟩ (.int .i64 ((rd_T79 x10_2 x49_2).f0))).setCell ⟨go18, ((ji141) : Int).toNat * 2 + 1, none⟩ (.int .i64 ((rd_T79 x10_2 x49_2).f1))).heap[gb242]? = some (.cells #[.int .i8 ((rd_T75 l3 x49_2).f0), .int .i8 ((rd_T75 l3 x49_2).f1), .int .i8 ((rd_T75 l3 x49_2).f2), .int .i8 ((rd_T75 l3 x49_2).f3)] 75 (0, 0))) := ⟨by (with_reducible repeat (first | refine blk_drewN ?_ _ | refine blk_drew ?_ | refine blk_alloc ?_ _)); refine blk_far ?_ (by have h_ := Kd.R_ne HO_10.out BK242.out (by decide); intro e_; exact h_ (by rw [e_]; rfl)) _; (with_reducible repeat (first | refine blk_drewN ?_ _ | refine blk_drew ?_ | refine blk_alloc ?_ _)); refine blk_far ?_ (by have h_ := Kd.R_ne HO_10.out BK242.out (by decide); intro e_; exact h_ (by rw [e_]; rfl)) _; (with_reducible repeat (first | refine blk_drewN ?_ _ | refine blk_drew ?_ | refine blk_alloc ?_ _)); refine blk_far ?_ (by have h_ := Kd.R_ne HO_10.out BK242.out (by decide); intro e_; exact h_ (by rw [e_]; rfl)) _; (with_reducible repeat (first | refine blk_drewN ?_ _ | refine blk_drew ?_ | refine blk_alloc ?_ _)); refine blk_far ?_ (by have h_ := Kd.R_ne HO_10.out BK242.out (by decide); intro e_; exact h_ (by rw [e_]; rfl)) _; (with_reducible repeat (first | refine blk_drewN ?_ _ | refine blk_drew ?_ | refine blk_alloc ?_ _)); exact BK242.out⟩
                 have n3_ : Aside0 (((((w165.setCell ⟨go18, ((ji134) : Int).toNat * 2, none⟩ (.int .i64 ((rd_T79 x10_2 x49_2).f0))).setCell ⟨go18, ((ji134) : Int).toNat * 2 + 1, none⟩ (.int .i64 ((rd_T79 x10_2 x49_2).f1))).setCell ⟨go18, ((ji141) : Int).toNat * 2, none⟩ (.int .i64 ((rd_T79 x10_2 x49_2).f0))).setCell ⟨go18, ((ji141) : Int).toNat * 2 + 1, none⟩ (.int .i64 ((rd_T79 x10_2 x49_2).f1))).heap[gb244]? = some (.cells #[.int .i64 ((rd_T79 x10_2 x49_2).f0), .int .i64 ((rd_T79 x10_2 x49_2).f1)] 79 (0, 0))) := ⟨by (with_reducible repeat (first | refine blk_drewN ?_ _ | refine blk_drew ?_ | refine blk_alloc ?_ _)); refine blk_far ?_ (by have h_ := Kd.R_away HO_10.out (fun _ hk => hk); intro e_; exact h_ (by rw [e_]; rfl)) _; (with_reducible repeat (first | refine blk_drewN ?_ _ | refine blk_drew ?_ | refine blk_alloc ?_ _)); refine blk_far ?_ (by have h_ := Kd.R_away HO_10.out (fun _ hk => hk); intro e_; exact h_ (by rw [e_]; rfl)) _; (with_reducible repeat (first | refine blk_drewN ?_ _ | refine blk_drew ?_ | refine blk_alloc ?_ _)); refine blk_far ?_ (by have h_ := Kd.R_away HO_10.out (fun _ hk => hk); intro e_; exact h_ (by rw [e_]; rfl)) _; (with_reducible repeat (first | refine blk_drewN ?_ _ | refine blk_drew ?_ | refine blk_alloc ?_ _)); refine blk_far ?_ (by have h_ := Kd.R_away HO_10.out (fun _ hk => hk); intro e_; exact h_ (by rw [e_]; rfl)) _; (with_reducible repeat (first | refine blk_drewN ?_ _ | refine blk_drew ?_ | refine blk_alloc ?_ _)); exact BK244.out⟩
                 have n4_ : Aside0 (Below w.heap.size w ((((w165.setCell ⟨go18, ((ji134) : Int).toNat * 2, none⟩ (.int .i64 ((rd_T79 x10_2 x49_2).f0))).setCell ⟨go18, ((ji134) : Int).toNat * 2 + 1, none⟩ (.int .i64 ((rd_T79 x10_2 x49_2).f1))).setCell ⟨go18, ((ji141) : Int).toNat * 2, none⟩ (.int .i64 ((rd_T79 x10_2 x49_2).f0))).setCell ⟨go18, ((ji141) : Int).toNat * 2 + 1, none⟩ (.int .i64 ((rd_T79 x10_2 x49_2).f1)))) := ⟨by repeat (first | (with_reducible first | exact HB.out | apply below_alloc | apply pw_below_drewN | apply below_drew1 | refine below_set ?_ GB18.out | refine below_set ?_ GB18.out | refine below_set ?_ GB18.out | refine below_set ?_ GB18.out | refine below_set ?_ GE242.out | refine below_set ?_ GE244.out) | exact HB.out)⟩
                 (try clear HO_10)
                 (try clear HO_11)
                 (try clear BK242)
                 (try clear BK244)
                 (try clear HB)
                 generalize ((((w165.setCell ⟨go18, ((ji134) : Int).toNat * 2, none⟩ (.int .i64 ((rd_T79 x10_2 x49_2).f0))).setCell ⟨go18, ((ji134) : Int).toNat * 2 + 1, none⟩ (.int .i64 ((rd_T79 x10_2 x49_2).f1))).setCell ⟨go18, ((ji141) : Int).toNat * 2, none⟩ (.int .i64 ((rd_T79 x10_2 x49_2).f0))).setCell ⟨go18, ((ji141) : Int).toNat * 2 + 1, none⟩ (.int .i64 ((rd_T79 x10_2 x49_2).f1))) = w168 at n0_ n1_ n2_ n3_ n4_ ⊢
                 have HO_10 := n0_
                 have HO_11 := n1_
                 have BK242 := n2_
                 have BK244 := n3_
                 have HB := n4_
                 clear n0_ n1_ n2_ n3_ n4_
                 replace HO_10 := Aside0.mk (Kd.R_drew HO_10.out)
                 replace HO_11 := Aside0.mk (Kd.R_drew HO_11.out)
                 replace BK242 := Aside0.mk (blk_drew BK242.out)
                 replace BK244 := Aside0.mk (blk_drew BK244.out)
                 replace HB := Aside0.mk (below_drew1 HB.out)
                 have p157 : 0 ≤ ((ji134) : Int) := od_
                 have q157 : ((ji134) : Int) < ((x10_2.length : Int) : Int) := od_
                 obtain ⟨ce157, hcl157, hM157, hcc157, hfr157⟩ := Kd.R_elem HO_10.out z79 ((ji134) : Int) p157 q157
                 obtain rfl := k79_openM hM157
                 have hx157_0 : World.cell? _ ⟨go18, ((ji134) : Int).toNat * 2, none⟩ = some (.int .i64 ((rd_T79 y255 (ji134)).f0)) := hcc157 0 _ rfl
                 have hx157_1 : World.cell? _ ⟨go18, ((ji134) : Int).toNat * 2 + 1, none⟩ = some (.int .i64 ((rd_T79 y255 (ji134)).f1)) := hcc157 1 _ rfl
                 have hf157_0 : World.frozen? _ ⟨go18, ((ji134) : Int).toNat * 2, none⟩ = false := hfr157 0
                 have hf157_1 : World.frozen? _ ⟨go18, ((ji134) : Int).toNat * 2 + 1, none⟩ = false := hfr157 1
                 clear hcl157 hcc157 hfr157; (try clear hM157)
                 replace p157 := eq_true p157
                 replace q157 := eq_true q157
                 obtain ⟨ce170, hcl170, hM170, hcc170, hfr170⟩ := Kd.R_elem HO_10.out z79 ((ji134) : Int) od_ (by have h_ : ((ji134) : Int) < ((x10_2.length : Int) : Int) := od_; first | exact h_ | (have e_ := (Kd.R_reads' HO_10.out).1; omega) | simpa using h_)
                 obtain rfl := k79_openM hM170
                 have HP170 := (Kd.R_seg HO_10.out ((ji134) : Int) od_ (by have h_ : ((ji134) : Int) < ((x10_2.length : Int) : Int) := od_; first | exact h_ | (have e_ := (Kd.R_reads' HO_10.out).1; omega) | simpa using h_) (seg := [.int .i64 (wrap64 (((rd_T75 l3 x49_2).f1)))]) (j := 0) hcl170 hcc170 (show 1 ≤ 2 from by decide) (x' := (⟨wrap64 (((rd_T75 l3 x49_2).f1)), (rd_T79 y255 (ji134)).f1⟩ : S79)) (k79_mkM _ _ _ (⟨wrap64 (((rd_T75 l3 x49_2).f1)), (rd_T79 y255 (ji134)).f1⟩ : S79) ) (fun _ hk => hk)).1
                 rw [← Ny256.out] at HP170
                 have HQ170 := Aside0.mk HP170
                 clear hcl170 hcc170 hfr170; (try clear hM170); clear HP170
                 refine start_ (n := 9) (S := fun w' => w'.cell? ⟨gb242, 0, none⟩ = some (.int .i8 ((rd_T75 l3 x49_2).f0)) ∧ w'.cell? ⟨gb242, 1, none⟩ = some (.int .i8 ((rd_T75 l3 x49_2).f1)) ∧ w'.cell? ⟨gb242, 2, none⟩ = some (.int .i8 ((rd_T75 l3 x49_2).f2)) ∧ w'.cell? ⟨gb242, 3, none⟩ = some (.int .i8 ((rd_T75 l3 x49_2).f3))) (ds := [8]) #[false, false, false, false, false, false, false, false, false] (by kernel_rfl) rfl rfl ⟨(blk_cell BK242.out 0).trans rfl, (blk_cell BK242.out 1).trans rfl, (blk_cell BK242.out 2).trans rfl, (blk_cell BK242.out 3).trans rfl⟩ (fun hHeld => ?_); refine with_tabW impl_sizes.tab27 impl_sizes.bits27 (fun HT_ HW_ => ?_)
                 generalize w168.drew = w169 at HO_10 HO_11 BK242 BK244 HB HQ167 HQ170 hf157_0 hf157_1 hx157_0 hx157_1 hHeld ⊢
                 (try (have shf157_0 := hf157_0; simp [World.setCells, show (k79).sz = 2 from rfl, go_sem] at shf157_0))
                 (try (have shf157_1 := hf157_1; simp [World.setCells, show (k79).sz = 2 from rfl, go_sem] at shf157_1))
                 (try (have shx157_0 := hx157_0; simp [World.setCells, show (k79).sz = 2 from rfl, go_sem] at shx157_0))
                 (try (have shx157_1 := hx157_1; simp [World.setCells, show (k79).sz = 2 from rfl, go_sem] at shx157_1))
                 refine pu_ 0 188 (lA 9 1) ?_ ?_ HT_ ?_
                 refine pu_ 1 189 (lA 9 3) ?_ ?_ HT_ ?_
                 refine pu_ 2 190 (lA 9 7) ?_ ?_ HT_ ?_
                 refine pu_ 3 191 (lA 9 15) ?_ ?_ HT_ ?_
                 refine pu_ 6 194 (lA 9 79) ?_ ?_ HT_ ?_
                 refine tk_ 4 192 (lA 9 95) ?_ ?_ HT_ HW_ hHeld ?_
                 refine pu_ 5 193 (lA 9 127) ?_ ?_ HT_ ?_
                 refine pu_ 7 195 (lA 9 255) ?_ ?_ HT_ ?_
                 refine last_ (i := 8) (N := none) (lA 9 511) rfl rfl (one_of HT_.out (by kernel_rfl)) (by decide) (fun K hK => ?_)
                 refine skip_ (w1 := ?_) (by rfl) rfl ?_ ?_
                 rotate_left
                 ·
                  go_simp
                  rfl
                 refine hK.out _ _ ?_
                 clear hK K
                 refine done_ (done_of HT_.out (by kernel_rfl)) ?_
                 try go_wp2
                 have n0_ : Aside0 (Kd.R k79 79 (w169.setCell ⟨go18, ((ji134) : Int).toNat * 2, none⟩ (.int .i64 (wrap64 (((rd_T75 l3 x49_2).f1))))) w.heap.size (fun k_ => k_ ≠ gb244) (.slice (some ⟨go18, 0, none⟩) x10_2.length co18) y256) := ⟨kp_ HQ170⟩
                 have n1_ : Aside0 (Kd.R Kd.bool 4 (w169.setCell ⟨go18, ((ji134) : Int).toNat * 2, none⟩ (.int .i64 (wrap64 (((rd_T75 l3 x49_2).f1))))) w.heap.size (fun _ => True) (.slice (some ⟨go20, 0, none⟩) x11_2.length co20) y253) := ⟨by (with_reducible repeat (first | apply Kd.R_alloc | apply Kd.R_drewN | apply Kd.R_drew)); exact Kd.R_mono (Kd.R_far (p := ⟨go18, ((ji134) : Int).toNat * 2, none⟩) (Kd.R_types HO_11.out (Kd.R_typed HO_10.out go18 rfl).choose_spec (by decide)) (fun _ hk => hk.2) (.int .i64 (wrap64 (((rd_T75 l3 x49_2).f1))))) (fun _ hk => trivial)⟩
                 have n2_ : Aside0 ((w169.setCell ⟨go18, ((ji134) : Int).toNat * 2, none⟩ (.int .i64 (wrap64 (((rd_T75 l3 x49_2).f1))))).heap[gb242]? = some (.cells #[.int .i8 ((rd_T75 l3 x49_2).f0), .int .i8 ((rd_T75 l3 x49_2).f1), .int .i8 ((rd_T75 l3 x49_2).f2), .int .i8 ((rd_T75 l3 x49_2).f3)] 75 (0, 0))) := ⟨by (with_reducible repeat (first | refine blk_drewN ?_ _ | refine blk_drew ?_ | refine blk_alloc ?_ _)); refine blk_far ?_ (by have h_ := Kd.R_ne HO_10.out BK242.out (by decide); intro e_; exact h_ (by rw [e_]; rfl)) _; (with_reducible repeat (first | refine blk_drewN ?_ _ | refine blk_drew ?_ | refine blk_alloc ?_ _)); exact BK242.out⟩
                 have n3_ : Aside0 ((w169.setCell ⟨go18, ((ji134) : Int).toNat * 2, none⟩ (.int .i64 (wrap64 (((rd_T75 l3 x49_2).f1))))).heap[gb244]? = some (.cells #[.int .i64 ((rd_T79 x10_2 x49_2).f0), .int .i64 ((rd_T79 x10_2 x49_2).f1)] 79 (0, 0))) := ⟨by (with_reducible repeat (first | refine blk_drewN ?_ _ | refine blk_drew ?_ | refine blk_alloc ?_ _)); refine blk_far ?_ (by have h_ := Kd.R_away HO_10.out (fun _ hk => hk); intro e_; exact h_ (by rw [e_]; rfl)) _; (with_reducible repeat (first | refine blk_drewN ?_ _ | refine blk_drew ?_ | refine blk_alloc ?_ _)); exact BK244.out⟩
                 have n4_ : Aside0 (Below w.heap.size w (w169.setCell ⟨go18, ((ji134) : Int).toNat * 2, none⟩ (.int .i64 (wrap64 (((rd_T75 l3 x49_2).f1)))))) := ⟨by repeat (first | (with_reducible first | exact HB.out | apply below_alloc | apply pw_below_drewN | apply below_drew1 | refine below_set ?_ GB18.out | refine below_set ?_ GE242.out | refine below_set ?_ GE244.out) | exact HB.out)⟩
                 (try clear HO_10)
                 (try clear HO_11)
                 (try clear BK242)
                 (try clear BK244)
                 (try clear HB)
                 generalize (w169.setCell ⟨go18, ((ji134) : Int).toNat * 2, none⟩ (.int .i64 (wrap64 (((rd_T75 l3 x49_2).f1))))) = w171 at n0_ n1_ n2_ n3_ n4_ ⊢
                 have HO_10 := n0_
                 have HO_11 := n1_
                 have BK242 := n2_
                 have BK244 := n3_
                 have HB := n4_
                 clear n0_ n1_ n2_ n3_ n4_
                 replace HO_10 := Aside0.mk (Kd.R_drew HO_10.out)
                 replace HO_11 := Aside0.mk (Kd.R_drew HO_11.out)
                 replace BK242 := Aside0.mk (blk_drew BK242.out)
                 replace BK244 := Aside0.mk (blk_drew BK244.out)
                 replace HB := Aside0.mk (below_drew1 HB.out)
                 have p257 : 0 ≤ ((ji141) : Int) := od_
                 have q257 : (ji141) < (y256.length : Int) := (by have h_ : ((ji141) : Int) < ((x10_2.length : Int) : Int) := od_; first | (have e_ := (Kd.R_reads' HO_10.out).1; omega) | simpa only [Ny254.out, Ny255.out, Ny256.out, List.length_set] using h_)
                 have ql257 : (((ji141) : Int) < ((x10_2.length : Int) : Int)) = True := eq_true od_
                 obtain ⟨ad257, e257, hx257_0, hx257_1⟩ := at_T79 (Kd.R_reads' HO_10.out).2.2 (ji141) p257 q257
                 obtain rfl : (⟨go18, 0, none⟩ : Addr) = ad257 := (by injection e257)
                 (first | simp only [add_plain] at hx257_0 | simp only [add_at] at hx257_0 | simp only [Addr.add, Nat.zero_add] at hx257_0 | skip)
                 (first | simp only [add_plain] at hx257_1 | simp only [add_at] at hx257_1 | simp only [Addr.add, Nat.zero_add] at hx257_1 | skip)
                 replace p257 := eq_true p257
                 replace q257 := eq_true q257
                 have p158 : 0 ≤ ((ji141) : Int) := od_
                 have q158 : ((ji141) : Int) < ((x10_2.length : Int) : Int) := od_
                 obtain ⟨ce158, hcl158, hM158, hcc158, hfr158⟩ := Kd.R_elem HO_10.out z79 ((ji141) : Int) p158 q158
                 obtain rfl := k79_openM hM158
                 have hx158_0 : World.cell? _ ⟨go18, ((ji141) : Int).toNat * 2, none⟩ = some (.int .i64 ((rd_T79 y256 (ji141)).f0)) := hcc158 0 _ rfl
                 have hx158_1 : World.cell? _ ⟨go18, ((ji141) : Int).toNat * 2 + 1, none⟩ = some (.int .i64 ((rd_T79 y256 (ji141)).f1)) := hcc158 1 _ rfl
                 have hf158_0 : World.frozen? _ ⟨go18, ((ji141) : Int).toNat * 2, none⟩ = false := hfr158 0
                 have hf158_1 : World.frozen? _ ⟨go18, ((ji141) : Int).toNat * 2 + 1, none⟩ = false := hfr158 1
                 clear hcl158 hcc158 hfr158; (try clear hM158)
                 replace p158 := eq_true p158
                 replace q158 := eq_true q158
                 obtain ⟨ce173, hcl173, hM173, hcc173, hfr173⟩ := Kd.R_elem HO_10.out z79 ((ji141) : Int) od_ (by have h_ : ((ji141) : Int) < ((x10_2.length : Int) : Int) := od_; first | exact h_ | (have e_ := (Kd.R_reads' HO_10.out).1; omega) | simpa using h_)
                 obtain rfl := k79_openM hM173
                 have HP173 := (Kd.R_seg HO_10.out ((ji141) : Int) od_ (by have h_ : ((ji141) : Int) < ((x10_2.length : Int) : Int) := od_; first | exact h_ | (have e_ := (Kd.R_reads' HO_10.out).1; omega) | simpa using h_) (seg := [.int .i64 (wrap64 (((rd_T79 y256 (ji141)).f0) - (wrap64 (((rd_T75 l3 x49_2).f1)))))]) (j := 0) hcl173 hcc173 (show 1 ≤ 2 from by decide) (x' := (⟨wrap64 (((rd_T79 y256 (ji141)).f0) - (wrap64 (((rd_T75 l3 x49_2).f1)))), (rd_T79 y256 (ji141)).f1⟩ : S79)) (k79_mkM _ _ _ (⟨wrap64 (((rd_T79 y256 (ji141)).f0) - (wrap64 (((rd_T75 l3 x49_2).f1)))), (rd_T79 y256 (ji141)).f1⟩ : S79) ) (fun _ hk => hk)).1
                 rw [← Ny258.out] at HP173
                 have HQ173 := Aside0.mk HP173
                 clear hcl173 hcc173 hfr173; (try clear hM173); clear HP173
                 refine start_ (n := 13) (S := fun w' => w'.cell? ⟨gb242, 0, none⟩ = some (.int .i8 ((rd_T75 l3 x49_2).f0)) ∧ w'.cell? ⟨gb242, 1, none⟩ = some (.int .i8 ((rd_T75 l3 x49_2).f1)) ∧ w'.cell? ⟨gb242, 2, none⟩ = some (.int .i8 ((rd_T75 l3 x49_2).f2)) ∧ w'.cell? ⟨gb242, 3, none⟩ = some (.int .i8 ((rd_T75 l3 x49_2).f3)) ∧ w'.cell? ⟨go18, ((ji141)).toNat * 2, none⟩ = some (.int .i64 ((rd_T79 y256 (ji141)).f0)) ∧ w'.cell? ⟨go18, ((ji141)).toNat * 2 + 1, none⟩ = some (.int .i64 ((rd_T79 y256 (ji141)).f1))) (ds := [12]) #[false, false, false, false, false, false, false, false, false, false, false, false, false] (by kernel_rfl) rfl rfl ⟨(blk_cell BK242.out 0).trans rfl, (blk_cell BK242.out 1).trans rfl, (blk_cell BK242.out 2).trans rfl, (blk_cell BK242.out 3).trans rfl, hx257_0, hx257_1⟩ (fun hHeld => ?_); refine with_tabW impl_sizes.tab28 impl_sizes.bits28 (fun HT_ HW_ => ?_)
                 generalize w171.drew = w172 at HO_10 HO_11 BK242 BK244 HB HQ170 HQ173 hf158_0 hf158_1 hx158_0 hx158_1 hx257_0 hx257_1 hHeld ⊢
                 (try (have shf158_0 := hf158_0; simp [World.setCells, show (k79).sz = 2 from rfl, go_sem] at shf158_0))
                 (try (have shf158_1 := hf158_1; simp [World.setCells, show (k79).sz = 2 from rfl, go_sem] at shf158_1))
                 (try (have shx158_0 := hx158_0; simp [World.setCells, show (k79).sz = 2 from rfl, go_sem] at shx158_0))
                 (try (have shx158_1 := hx158_1; simp [World.setCells, show (k79).sz = 2 from rfl, go_sem] at shx158_1))
                 (try (have shx257_0 := hx257_0; simp [World.setCells, show (k79).sz = 2 from rfl, go_sem] at shx257_0))
                 (try (have shx257_1 := hx257_1; simp [World.setCells, show (k79).sz = 2 from rfl, go_sem] at shx257_1))
                 refine pu_ 0 196 (lA 13 1) ?_ ?_ HT_ ?_
                 refine pu_ 1 197 (lA 13 3) ?_ ?_ HT_ ?_
                 refine pu_ 2 198 (lA 13 7) ?_ ?_ HT_ ?_
                 refine pu_ 3 199 (lA 13 15) ?_ ?_ HT_ ?_
                 refine pu_ 4 200 (lA 13 31) ?_ ?_ HT_ ?_
                 refine pu_ 6 202 (lA 13 95) ?_ ?_ HT_ ?_
                 refine pu_ 10 206 (lA 13 1119) ?_ ?_ HT_ ?_
                 refine tk_ 5 201 (lA 13 1151) ?_ ?_ HT_ HW_ hHeld ?_
                 refine tk_ 7 203 (lA 13 1279) ?_ ?_ HT_ HW_ hHeld ?_
                 refine pu_ 8 204 (lA 13 1535) ?_ ?_ HT_ ?_
                 refine pu_ 9 205 (lA 13 2047) ?_ ?_ HT_ ?_
                 refine pu_ 11 207 (lA 13 4095) ?_ ?_ HT_ ?_
                 refine last_ (i := 12) (N := none) (lA 13 8191) rfl rfl (one_of HT_.out (by kernel_rfl)) (by decide) (fun K hK => ?_)
                 refine skip_ (w1 := ?_) (by rfl) rfl ?_ ?_
                 rotate_left
                 ·
                  go_simp
                  rfl
                 refine hK.out _ _ ?_
                 clear hK K
                 refine done_ (done_of HT_.out (by kernel_rfl)) ?_
                 try go_wp2
                 (try simp only [← hl10_2, ← hl11_2])
                 go_roundg kj109
                 case measure => have := HJ4.out; have := HK2.out; have := HJ109.out; omega
                 case rel => exact ⟨(y258), (y253), (wrap64 (x49_2 + 1)), (by first | rfl | (simp; done) | (simp [*]; done)), H', ⟨by have := HJ4.out; have := HK2.out; have := HJ109.out; omega⟩, ⟨by (try simp only [hl10_2]); (try simp only [hl11_2]); (with_reducible repeat (first | apply Kd.R_alloc | apply Kd.R_drewN | apply Kd.R_drew)); exact Kd.R_mono HQ173.out (fun _ hk => trivial)⟩, ⟨by (try simp only [hl10_2]); (try simp only [hl11_2]); (with_reducible repeat (first | apply Kd.R_alloc | apply Kd.R_drewN | apply Kd.R_drew)); exact Kd.R_mono (Kd.R_far (p := ⟨go18, ((ji141) : Int).toNat * 2, none⟩) (Kd.R_types HO_11.out (Kd.R_typed HO_10.out go18 rfl).choose_spec (by decide)) (fun _ hk => hk.2) (.int .i64 (wrap64 (((rd_T79 y256 (ji141)).f0) - (wrap64 (((rd_T75 l3 x49_2).f1))))))) (fun _ hk => trivial)⟩, ⟨by repeat (first | (with_reducible first | exact HB.out | apply below_alloc | apply pw_below_drewN | apply below_drew1 | refine below_set ?_ GB18.out | refine below_set ?_ GE242.out | refine below_set ?_ GE244.out) | exact HB.out)⟩⟩
                ·
                 as_aux_lemma =>
                 replace c150 := Bool.eq_false_iff.mpr c150
                 subst c150
                 have H1 : (some (([] : List (S79)), false)) = some (r1, r2) := by rw [if_neg (show ¬ (false = true) by decide)] at H; exact H
                 clear H
                 have H := H1
                 clear H1
                 simp only [Option.some.injEq, Prod.mk.injEq] at H
                 obtain ⟨rfl, rfl⟩ := H
                 try go_wp2
                 replace HO_10 := Aside0.mk (Kd.R_drew HO_10.out)
                 replace HO_11 := Aside0.mk (Kd.R_drew HO_11.out)
                 replace BK242 := Aside0.mk (blk_drew BK242.out)
                 replace BK244 := Aside0.mk (blk_drew BK244.out)
                 replace HB := Aside0.mk (below_drew1 HB.out)
                 have p249 : 0 ≤ ((ji134) : Int) := od_
                 have q249 : (ji134) < (x11_2.length : Int) := od_
                 obtain ⟨ad249, e249, hx249_0⟩ := Kd.at_bool (Kd.R_reads' HO_11.out).2.2 (ji134) p249 q249
                 (try rw [← Nbq36.out] at hx249_0)
                 (try rw [← Nbq137.out] at hx249_0)
                 (try rw [← Nbq144.out] at hx249_0)
                 obtain rfl : (⟨go20, 0, none⟩ : Addr) = ad249 := (by injection e249)
                 (first | simp only [add_plain] at hx249_0 | simp only [add_at] at hx249_0 | simp only [Addr.add, Nat.zero_add] at hx249_0 | skip)
                 replace p249 := eq_true p249
                 replace q249 := eq_true q249
                 have p250 : 0 ≤ ((ji141) : Int) := od_
                 have q250 : (ji141) < (x11_2.length : Int) := od_
                 obtain ⟨ad250, e250, hx250_0⟩ := Kd.at_bool (Kd.R_reads' HO_11.out).2.2 (ji141) p250 q250
                 (try rw [← Nbq36.out] at hx250_0)
                 (try rw [← Nbq137.out] at hx250_0)
                 (try rw [← Nbq144.out] at hx250_0)
                 obtain rfl : (⟨go20, 0, none⟩ : Addr) = ad250 := (by injection e250)
                 (first | simp only [add_plain] at hx250_0 | simp only [add_at] at hx250_0 | simp only [Addr.add, Nat.zero_add] at hx250_0 | skip)
                 replace p250 := eq_true p250
                 replace q250 := eq_true q250
                 refine start_ (n := 48) (S := fun w' => w'.cell? ⟨gb242, 0, none⟩ = some (.int .i8 ((rd_T75 l3 x49_2).f0)) ∧ w'.cell? ⟨gb242, 1, none⟩ = some (.int .i8 ((rd_T75 l3 x49_2).f1)) ∧ w'.cell? ⟨gb242, 2, none⟩ = some (.int .i8 ((rd_T75 l3 x49_2).f2)) ∧ w'.cell? ⟨gb242, 3, none⟩ = some (.int .i8 ((rd_T75 l3 x49_2).f3)) ∧ w'.cell? ⟨gb244, 0, none⟩ = some (.int .i64 ((rd_T79 x10_2 x49_2).f0)) ∧ w'.cell? ⟨gb244, 1, none⟩ = some (.int .i64 ((rd_T79 x10_2 x49_2).f1)) ∧ w'.cell? ⟨go20, ((ji134)).toNat, none⟩ = some (.bool false) ∧ w'.cell? ⟨go20, ((ji141)).toNat, none⟩ = some (.bool false)) (ds := []) #[false, false, false, false, false, false, false, false, false, false, false, false, false, false, false, false, false, false, false, false, false, false, false, false, false, false, false, false, false, false, false, false, false, false, false, false, false, false, false, false, false, false, false, false, false, false, false, false] (by kernel_rfl) rfl rfl ⟨(blk_cell BK242.out 0).trans rfl, (blk_cell BK242.out 1).trans rfl, (blk_cell BK242.out 2).trans rfl, (blk_cell BK242.out 3).trans rfl, (blk_cell BK244.out 0).trans rfl, (blk_cell BK244.out 1).trans rfl, hx249_0, hx250_0⟩ (fun hHeld => ?_); refine with_tabW impl_sizes.tab23 impl_sizes.bits23 (fun HT_ HW_ => ?_)
                 generalize w120.drew = w175 at HO_10 HO_11 BK242 BK244 HB hx249_0 hx250_0 hHeld ⊢
                 refine pu_ 0 126 (lA 48 1) ?_ ?_ HT_ ?_
                 refine pu_ 1 127 (lA 48 3) ?_ ?_ HT_ ?_
                 refine pu_ 2 128 (lA 48 7) ?_ ?_ HT_ ?_
                 refine pu_ 3 129 (lA 48 15) ?_ ?_ HT_ ?_
                 refine pu_ 4 130 (lA 48 31) ?_ ?_ HT_ ?_
                 refine pu_ 5 131 (lA 48 63) ?_ ?_ HT_ ?_
                 refine pu_ 6 132 (lA 48 127) ?_ ?_ HT_ ?_
                 refine pu_ 7 133 (lA 48 255) ?_ ?_ HT_ ?_
                 refine pu_ 8 134 (lA 48 511) ?_ ?_ HT_ ?_
                 refine pu_ 9 135 (lA 48 1023) ?_ ?_ HT_ ?_
                 refine pu_ 10 136 (lA 48 2047) ?_ ?_ HT_ ?_
                 refine pu_ 11 137 (lA 48 4095) ?_ ?_ HT_ ?_
                 refine pu_ 12 138 (lA 48 8191) ?_ ?_ HT_ ?_
                 refine pu_ 13 139 (lA 48 16383) ?_ ?_ HT_ ?_
                 refine pu_ 14 140 (lA 48 32767) ?_ ?_ HT_ ?_
                 refine pu_ 15 141 (lA 48 65535) ?_ ?_ HT_ ?_
                 refine pu_ 16 142 (lA 48 131071) ?_ ?_ HT_ ?_
                 refine pu_ 17 143 (lA 48 262143) ?_ ?_ HT_ ?_
                 refine pu_ 18 144 (lA 48 524287) ?_ ?_ HT_ ?_
                 refine pu_ 19 145 (lA 48 1048575) ?_ ?_ HT_ ?_
                 refine pu_ 20 146 (lA 48 2097151) ?_ ?_ HT_ ?_
                 refine pu_ 21 147 (lA 48 4194303) ?_ ?_ HT_ ?_
                 refine pu_ 22 148 (lA 48 8388607) ?_ ?_ HT_ ?_
                 refine pu_ 23 149 (lA 48 16777215) ?_ ?_ HT_ ?_
                 refine pu_ 24 150 (lA 48 33554431) ?_ ?_ HT_ ?_
                 refine pu_ 25 151 (lA 48 67108863) ?_ ?_ HT_ ?_
                 refine pu_ 26 152 (lA 48 134217727) ?_ ?_ HT_ ?_
                 refine pu_ 27 153 (lA 48 268435455) ?_ ?_ HT_ ?_
                 refine pu_ 28 154 (lA 48 536870911) ?_ ?_ HT_ ?_
                 refine tk_ 29 155 (lA 48 1073741823) ?_ ?_ HT_ HW_ hHeld ?_
                 refine pu_ 30 156 (lA 48 2147483647) ?_ ?_ HT_ ?_
                 refine pu_ 31 157 (lA 48 4294967295) ?_ ?_ HT_ ?_
                 refine pu_ 32 158 (lA 48 8589934591) ?_ ?_ HT_ ?_
                 refine pu_ 33 159 (lA 48 17179869183) ?_ ?_ HT_ ?_
                 refine pu_ 34 160 (lA 48 34359738367) ?_ ?_ HT_ ?_
                 refine tk_ 35 161 (lA 48 68719476735) ?_ ?_ HT_ HW_ hHeld ?_
                 refine pu_ 36 162 (lA 48 137438953471) ?_ ?_ HT_ ?_
                 refine pu_ 37 163 (lA 48 274877906943) ?_ ?_ HT_ ?_
                 refine pu_ 38 164 (lA 48 549755813887) ?_ ?_ HT_ ?_
                 refine pu_ 41 167 (lA 48 2748779069439) ?_ ?_ HT_ ?_
                 refine pu_ 42 168 (lA 48 7146825580543) ?_ ?_ HT_ ?_
                 refine tk_ 39 165 (lA 48 7696581394431) ?_ ?_ HT_ HW_ hHeld ?_
                 refine pu_ 40 166 (lA 48 8796093022207) ?_ ?_ HT_ ?_
                 refine tk_ 43 169 (lA 48 17592186044415) ?_ ?_ HT_ HW_ hHeld ?_
                 refine pu_ 44 170 (lA 48 35184372088831) ?_ ?_ HT_ ?_
                 refine one_ (i := 45) (N := some 171) (lA 48 70368744177663) rfl rfl (one_of HT_.out (by kernel_rfl)) (by decide) (fun K hK => ?_)
                 refine goes_ Try.func49 (by kernel_rfl) rfl #[.int .i64 (wrap64 (((rd_T75 l3 x49_2).f1))), .int .i64 1, .int .i64 (wrap64 (((rd_T79 x10_2 x49_2).f0) - 1))] (by rfl) rfl rfl (by (try simp only [List.map_toArray, List.map_cons, List.map_nil]); first | done | rfl | (simp only [List.length_drop, List.length_take]; rfl)) ?_
                 with_reducible refine (impl_within.calls (wrap64 (((rd_T75 l3 x49_2).f1))) 1 (wrap64 (((rd_T79 x10_2 x49_2).f0) - 1)) false _ A149.out).mono ?_
                 rintro e w' ⟨rfl, ⟨nd, rfl⟩⟩
                 refine ⟨_, rfl, ?_⟩
                 refine hK.out _ _ ⟨(blk_cell BK242.out 0).trans rfl, (blk_cell BK242.out 1).trans rfl, (blk_cell BK242.out 2).trans rfl, (blk_cell BK242.out 3).trans rfl, (blk_cell BK244.out 0).trans rfl, (blk_cell BK244.out 1).trans rfl, hHeld.2.2.2.2.2.2.1, hHeld.2.2.2.2.2.2.2⟩ (fun hHeld => ?_)
                 clear hK K
                 refine norm_ (a' := ?_) ?_ ?_
                 rotate_left
                 ·
                  show Act.put _ (some 171) _ = _
                  simp only [Act.put, List.setIfInBounds_toArray, List.set_cons_zero, List.set_cons_succ, i64_w, i32_w]
                  rfl
                 refine pu_ 46 172 (lA 48 140737488355327) ?_ ?_ HT_ ?_
                 refine pu_ 47 173 (lA 48 281474976710655) ?_ ?_ HT_ ?_
                 refine done_ (done_of HT_.out (by kernel_rfl)) ?_
                 try go_wp2
                 go_ret2
                 exact ⟨_, by first | rfl | (simp [errW_none, errW_some] <;> rfl) | (simp only [← hji134, ← hji141]; first | rfl | (simp [errW_none, errW_some] <;> rfl)) | (simp [*, errW_none, errW_some] <;> rfl), by first | exact Kd.R_nil _ _ _ _ _ | exact Kd.N_nil _ _ _ _ _ | exact Kd.V_nil _ _ _ _ _ | exact Kd.Q_nil _ _ _ _ _ | exact Kd.S_nil _ _ _ _ _, kS_ HB GE242 GE244⟩
               ·
                rw [if_neg c148] at H
                have c148b0 : ((wrap64 (IntKind.i8.wrap (((rd_T75 l3 x49_2).f0) - 2))) == (0 : Int)) = false := beq_eq_false_iff_ne.mpr c148
                have c148b1 : ((wrap64 (IntKind.i8.wrap (((rd_T75 l3 x49_2).f0) - 2))) != (0 : Int)) = true := bne_iff_ne.mpr c148
                by_cases c176 : (wrap64 (IntKind.i8.wrap (((rd_T75 l3 x49_2).f0) - 2))) = (1 : Int)
                rotate_left
                ·
                 rw [if_neg c176] at H
                 exact absurd H (by simp)
                rw [if_pos c176] at H
                (try (have c176b0 : (wrap64 (IntKind.i8.wrap (((rd_T75 l3 x49_2).f0) - 2))) = (1 : Int) := c176))
                clear c176
                replace H := Option.bind_eq_some_iff.mp H
                obtain ⟨t259, A1770, H⟩ := H
                replace H : (if t259 = true then (if (ji134) < (x10_2.length : Int) then (if (ji141) < (x10_2.length : Int) then ((some ((x10_2.set ((ji134) : Int).toNat (⟨((rd_T79 x10_2 x49_2).f0), ((rd_T79 x10_2 x49_2).f1)⟩ : S79)).set ((ji141) : Int).toNat (⟨((rd_T79 x10_2 x49_2).f0), ((rd_T79 x10_2 x49_2).f1)⟩ : S79) : List (S79))).bind fun y263 => ((some (y263.set ((ji134) : Int).toNat (⟨(rd_T79 y263 (ji134)).f0, wrap64 (((rd_T75 l3 x49_2).f1))⟩ : S79) : List (S79))).bind fun y264 => (impl_sizes.l0 kj109 l2 l3 (y264.set ((ji141) : Int).toNat (⟨(rd_T79 y264 (ji141)).f0, wrap64 (((rd_T79 y264 (ji141)).f1) - (wrap64 (((rd_T75 l3 x49_2).f1))))⟩ : S79)) ((x11_2.set ((ji134) : Int).toNat true).set ((ji141) : Int).toNat true) l3 (l3.length : Int) (wrap64 (x49_2 + 1))))) else (none)) else (none)) else (some (([] : List (S79)), false))) = some (r1, r2) := H
                have A177 := Aside0.mk A1770
                clear A1770
                by_cases c178 : t259 = true
                ·
                 subst c178
                 have H1 : (if (ji134) < (x10_2.length : Int) then (if (ji141) < (x10_2.length : Int) then ((some ((x10_2.set ((ji134) : Int).toNat (⟨((rd_T79 x10_2 x49_2).f0), ((rd_T79 x10_2 x49_2).f1)⟩ : S79)).set ((ji141) : Int).toNat (⟨((rd_T79 x10_2 x49_2).f0), ((rd_T79 x10_2 x49_2).f1)⟩ : S79) : List (S79))).bind fun y263 => ((some (y263.set ((ji134) : Int).toNat (⟨(rd_T79 y263 (ji134)).f0, wrap64 (((rd_T75 l3 x49_2).f1))⟩ : S79) : List (S79))).bind fun y264 => (impl_sizes.l0 kj109 l2 l3 (y264.set ((ji141) : Int).toNat (⟨(rd_T79 y264 (ji141)).f0, wrap64 (((rd_T79 y264 (ji141)).f1) - (wrap64 (((rd_T75 l3 x49_2).f1))))⟩ : S79)) ((x11_2.set ((ji134) : Int).toNat true).set ((ji141) : Int).toNat true) l3 (l3.length : Int) (wrap64 (x49_2 + 1))))) else (none)) else (none)) = some (r1, r2) := by rw [if_pos rfl] at H; exact H
                 clear H
                 have H := H1
                 clear H1
                 obtain ⟨y260, hy260⟩ : ∃ y_ : List Bool, y_ = (x11_2.set ((ji134) : Int).toNat true) := ⟨_, rfl⟩
                 replace H : (if (ji134) < (x10_2.length : Int) then (if (ji141) < (x10_2.length : Int) then ((some ((x10_2.set ((ji134) : Int).toNat (⟨((rd_T79 x10_2 x49_2).f0), ((rd_T79 x10_2 x49_2).f1)⟩ : S79)).set ((ji141) : Int).toNat (⟨((rd_T79 x10_2 x49_2).f0), ((rd_T79 x10_2 x49_2).f1)⟩ : S79) : List (S79))).bind fun y263 => ((some (y263.set ((ji134) : Int).toNat (⟨(rd_T79 y263 (ji134)).f0, wrap64 (((rd_T75 l3 x49_2).f1))⟩ : S79) : List (S79))).bind fun y264 => (impl_sizes.l0 kj109 l2 l3 (y264.set ((ji141) : Int).toNat (⟨(rd_T79 y264 (ji141)).f0, wrap64 (((rd_T79 y264 (ji141)).f1) - (wrap64 (((rd_T75 l3 x49_2).f1))))⟩ : S79)) (y260.set ((ji141) : Int).toNat true) l3 (l3.length : Int) (wrap64 (x49_2 + 1))))) else (none)) else (none)) = some (r1, r2) := by first | (rw [hy260]; with_reducible exact H) | (have H2_ := (Option.bind_some _ _).symm.trans H; rw [hy260]; with_reducible exact H2_) | (have H2_ := (Option.bind_some _ _).symm.trans H; with_reducible exact H2_) | with_reducible exact H | (rw [hy260]; exact H) | exact H
                 have Ny260 := Aside0.mk hy260
                 clear hy260
                 obtain ⟨y261, hy261⟩ : ∃ y_ : List Bool, y_ = (y260.set ((ji141) : Int).toNat true) := ⟨_, rfl⟩
                 replace H : (if (ji134) < (x10_2.length : Int) then (if (ji141) < (x10_2.length : Int) then ((some ((x10_2.set ((ji134) : Int).toNat (⟨((rd_T79 x10_2 x49_2).f0), ((rd_T79 x10_2 x49_2).f1)⟩ : S79)).set ((ji141) : Int).toNat (⟨((rd_T79 x10_2 x49_2).f0), ((rd_T79 x10_2 x49_2).f1)⟩ : S79) : List (S79))).bind fun y263 => ((some (y263.set ((ji134) : Int).toNat (⟨(rd_T79 y263 (ji134)).f0, wrap64 (((rd_T75 l3 x49_2).f1))⟩ : S79) : List (S79))).bind fun y264 => (impl_sizes.l0 kj109 l2 l3 (y264.set ((ji141) : Int).toNat (⟨(rd_T79 y264 (ji141)).f0, wrap64 (((rd_T79 y264 (ji141)).f1) - (wrap64 (((rd_T75 l3 x49_2).f1))))⟩ : S79)) y261 l3 (l3.length : Int) (wrap64 (x49_2 + 1))))) else (none)) else (none)) = some (r1, r2) := by first | (rw [hy261]; with_reducible exact H) | (have H2_ := (Option.bind_some _ _).symm.trans H; rw [hy261]; with_reducible exact H2_) | (have H2_ := (Option.bind_some _ _).symm.trans H; with_reducible exact H2_) | with_reducible exact H | (rw [hy261]; exact H) | exact H
                 have Ny261 := Aside0.mk hy261
                 clear hy261
                 by_cases c181 : (ji134) < (x10_2.length : Int)
                 rotate_left
                 ·
                  rw [if_neg c181] at H
                  exact absurd H (by simp)
                 rw [if_pos c181] at H
                 have c181b0 : decide ((ji134) < (x10_2.length : Int)) = true := decide_eq_true c181
                 clear c181
                 obtain ⟨y262, hy262⟩ : ∃ y_ : List (S79), y_ = (x10_2.set ((ji134) : Int).toNat (⟨((rd_T79 x10_2 x49_2).f0), ((rd_T79 x10_2 x49_2).f1)⟩ : S79)) := ⟨_, rfl⟩
                 replace H : (if (ji141) < (x10_2.length : Int) then ((some (y262.set ((ji141) : Int).toNat (⟨((rd_T79 x10_2 x49_2).f0), ((rd_T79 x10_2 x49_2).f1)⟩ : S79) : List (S79))).bind fun y263 => ((some (y263.set ((ji134) : Int).toNat (⟨(rd_T79 y263 (ji134)).f0, wrap64 (((rd_T75 l3 x49_2).f1))⟩ : S79) : List (S79))).bind fun y264 => (impl_sizes.l0 kj109 l2 l3 (y264.set ((ji141) : Int).toNat (⟨(rd_T79 y264 (ji141)).f0, wrap64 (((rd_T79 y264 (ji141)).f1) - (wrap64 (((rd_T75 l3 x49_2).f1))))⟩ : S79)) y261 l3 (l3.length : Int) (wrap64 (x49_2 + 1))))) else (none)) = some (r1, r2) := by first | (rw [hy262]; with_reducible exact H) | (have H2_ := (Option.bind_some _ _).symm.trans H; rw [hy262]; with_reducible exact H2_) | (have H2_ := (Option.bind_some _ _).symm.trans H; with_reducible exact H2_) | with_reducible exact H | (rw [hy262]; exact H) | exact H
                 have Ny262 := Aside0.mk hy262
                 clear hy262
                 by_cases c183 : (ji141) < (x10_2.length : Int)
                 rotate_left
                 ·
                  rw [if_neg c183] at H
                  exact absurd H (by simp)
                 rw [if_pos c183] at H
                 have c183b0 : decide ((ji141) < (x10_2.length : Int)) = true := decide_eq_true c183
                 clear c183
                 obtain ⟨y263, hy263⟩ : ∃ y_ : List (S79), y_ = (y262.set ((ji141) : Int).toNat (⟨((rd_T79 x10_2 x49_2).f0), ((rd_T79 x10_2 x49_2).f1)⟩ : S79)) := ⟨_, rfl⟩
                 replace H : ((some (y263.set ((ji134) : Int).toNat (⟨(rd_T79 y263 (ji134)).f0, wrap64 (((rd_T75 l3 x49_2).f1))⟩ : S79) : List (S79))).bind fun y264 => (impl_sizes.l0 kj109 l2 l3 (y264.set ((ji141) : Int).toNat (⟨(rd_T79 y264 (ji141)).f0, wrap64 (((rd_T79 y264 (ji141)).f1) - (wrap64 (((rd_T75 l3 x49_2).f1))))⟩ : S79)) y261 l3 (l3.length : Int) (wrap64 (x49_2 + 1)))) = some (r1, r2) := by first | (rw [hy263]; with_reducible exact H) | (have H2_ := (Option.bind_some _ _).symm.trans H; rw [hy263]; with_reducible exact H2_) | (have H2_ := (Option.bind_some _ _).symm.trans H; with_reducible exact H2_) | with_reducible exact H | (rw [hy263]; exact H) | exact H
                 have Ny263 := Aside0.mk hy263
                 clear hy263
                 obtain ⟨y264, hy264⟩ : ∃ y_ : List (S79), y_ = (y263.set ((ji134) : Int).toNat (⟨(rd_T79 y263 (ji134)).f0, wrap64 (((rd_T75 l3 x49_2).f1))⟩ : S79)) := ⟨_, rfl⟩
                 replace H : (impl_sizes.l0 kj109 l2 l3 (y264.set ((ji141) : Int).toNat (⟨(rd_T79 y264 (ji141)).f0, wrap64 (((rd_T79 y264 (ji141)).f1) - (wrap64 (((rd_T75 l3 x49_2).f1))))⟩ : S79)) y261 l3 (l3.length : Int) (wrap64 (x49_2 + 1))) = some (r1, r2) := by first | (rw [hy264]; with_reducible exact H) | (have H2_ := (Option.bind_some _ _).symm.trans H; rw [hy264]; with_reducible exact H2_) | (have H2_ := (Option.bind_some _ _).symm.trans H; with_reducible exact H2_) | with_reducible exact H | (rw [hy264]; exact H) | exact H
                 have Ny264 := Aside0.mk hy264
                 clear hy264
                 obtain ⟨y266, hy266⟩ : ∃ y_ : List (S79), y_ = (y264.set ((ji141) : Int).toNat (⟨(rd_T79 y264 (ji141)).f0, wrap64 (((rd_T79 y264 (ji141)).f1) - (wrap64 (((rd_T75 l3 x49_2).f1))))⟩ : S79)) := ⟨_, rfl⟩
                 replace H : (impl_sizes.l0 kj109 l2 l3 y266 y261 l3 (l3.length : Int) (wrap64 (x49_2 + 1))) = some (r1, r2) := by first | (rw [hy266]; with_reducible exact H) | (have H2_ := (Option.bind_some _ _).symm.trans H; rw [hy266]; with_reducible exact H2_) | (have H2_ := (Option.bind_some _ _).symm.trans H; with_reducible exact H2_) | with_reducible exact H | (rw [hy266]; exact H) | exact H
                 have Ny266 := Aside0.mk hy266
                 clear hy266
                 have H' := Aside0.mk H
                 clear H
                 try go_wp2
                 replace HO_10 := Aside0.mk (Kd.R_drew HO_10.out)
                 replace HO_11 := Aside0.mk (Kd.R_drew HO_11.out)
                 replace BK242 := Aside0.mk (blk_drew BK242.out)
                 replace BK244 := Aside0.mk (blk_drew BK244.out)
                 replace HB := Aside0.mk (below_drew1 HB.out)
                 have p249 : 0 ≤ ((ji134) : Int) := od_
                 have q249 : (ji134) < (x11_2.length : Int) := od_
                 obtain ⟨ad249, e249, hx249_0⟩ := Kd.at_bool (Kd.R_reads' HO_11.out).2.2 (ji134) p249 q249
                 (try rw [← Nbq36.out] at hx249_0)
                 (try rw [← Nbq137.out] at hx249_0)
                 (try rw [← Nbq144.out] at hx249_0)
                 obtain rfl : (⟨go20, 0, none⟩ : Addr) = ad249 := (by injection e249)
                 (first | simp only [add_plain] at hx249_0 | simp only [add_at] at hx249_0 | simp only [Addr.add, Nat.zero_add] at hx249_0 | skip)
                 replace p249 := eq_true p249
                 replace q249 := eq_true q249
                 have p250 : 0 ≤ ((ji141) : Int) := od_
                 have q250 : (ji141) < (x11_2.length : Int) := od_
                 obtain ⟨ad250, e250, hx250_0⟩ := Kd.at_bool (Kd.R_reads' HO_11.out).2.2 (ji141) p250 q250
                 (try rw [← Nbq36.out] at hx250_0)
                 (try rw [← Nbq137.out] at hx250_0)
                 (try rw [← Nbq144.out] at hx250_0)
                 obtain rfl : (⟨go20, 0, none⟩ : Addr) = ad250 := (by injection e250)
                 (first | simp only [add_plain] at hx250_0 | simp only [add_at] at hx250_0 | simp only [Addr.add, Nat.zero_add] at hx250_0 | skip)
                 replace p250 := eq_true p250
                 replace q250 := eq_true q250
                 refine start_ (n := 48) (S := fun w' => w'.cell? ⟨gb242, 0, none⟩ = some (.int .i8 ((rd_T75 l3 x49_2).f0)) ∧ w'.cell? ⟨gb242, 1, none⟩ = some (.int .i8 ((rd_T75 l3 x49_2).f1)) ∧ w'.cell? ⟨gb242, 2, none⟩ = some (.int .i8 ((rd_T75 l3 x49_2).f2)) ∧ w'.cell? ⟨gb242, 3, none⟩ = some (.int .i8 ((rd_T75 l3 x49_2).f3)) ∧ w'.cell? ⟨gb244, 0, none⟩ = some (.int .i64 ((rd_T79 x10_2 x49_2).f0)) ∧ w'.cell? ⟨gb244, 1, none⟩ = some (.int .i64 ((rd_T79 x10_2 x49_2).f1)) ∧ w'.cell? ⟨go20, ((ji134)).toNat, none⟩ = some (.bool false) ∧ w'.cell? ⟨go20, ((ji141)).toNat, none⟩ = some (.bool false)) (ds := []) #[false, false, false, false, false, false, false, false, false, false, false, false, false, false, false, false, false, false, false, false, false, false, false, false, false, false, false, false, false, false, false, false, false, false, false, false, false, false, false, false, false, false, false, false, false, false, false, false] (by kernel_rfl) rfl rfl ⟨(blk_cell BK242.out 0).trans rfl, (blk_cell BK242.out 1).trans rfl, (blk_cell BK242.out 2).trans rfl, (blk_cell BK242.out 3).trans rfl, (blk_cell BK244.out 0).trans rfl, (blk_cell BK244.out 1).trans rfl, hx249_0, hx250_0⟩ (fun hHeld => ?_); refine with_tabW impl_sizes.tab23 impl_sizes.bits23 (fun HT_ HW_ => ?_)
                 generalize w120.drew = w188 at HO_10 HO_11 BK242 BK244 HB hx249_0 hx250_0 hHeld ⊢
                 refine pu_ 0 126 (lA 48 1) ?_ ?_ HT_ ?_
                 refine pu_ 1 127 (lA 48 3) ?_ ?_ HT_ ?_
                 refine pu_ 2 128 (lA 48 7) ?_ ?_ HT_ ?_
                 refine pu_ 3 129 (lA 48 15) ?_ ?_ HT_ ?_
                 refine pu_ 4 130 (lA 48 31) ?_ ?_ HT_ ?_
                 refine pu_ 5 131 (lA 48 63) ?_ ?_ HT_ ?_
                 refine pu_ 6 132 (lA 48 127) ?_ ?_ HT_ ?_
                 refine pu_ 7 133 (lA 48 255) ?_ ?_ HT_ ?_
                 refine pu_ 8 134 (lA 48 511) ?_ ?_ HT_ ?_
                 refine pu_ 9 135 (lA 48 1023) ?_ ?_ HT_ ?_
                 refine pu_ 10 136 (lA 48 2047) ?_ ?_ HT_ ?_
                 refine pu_ 11 137 (lA 48 4095) ?_ ?_ HT_ ?_
                 refine pu_ 12 138 (lA 48 8191) ?_ ?_ HT_ ?_
                 refine pu_ 13 139 (lA 48 16383) ?_ ?_ HT_ ?_
                 refine pu_ 14 140 (lA 48 32767) ?_ ?_ HT_ ?_
                 refine pu_ 15 141 (lA 48 65535) ?_ ?_ HT_ ?_
                 refine pu_ 16 142 (lA 48 131071) ?_ ?_ HT_ ?_
                 refine pu_ 17 143 (lA 48 262143) ?_ ?_ HT_ ?_
                 refine pu_ 18 144 (lA 48 524287) ?_ ?_ HT_ ?_
                 refine pu_ 19 145 (lA 48 1048575) ?_ ?_ HT_ ?_
                 refine pu_ 20 146 (lA 48 2097151) ?_ ?_ HT_ ?_
                 refine pu_ 21 147 (lA 48 4194303) ?_ ?_ HT_ ?_
                 refine pu_ 22 148 (lA 48 8388607) ?_ ?_ HT_ ?_
                 refine pu_ 23 149 (lA 48 16777215) ?_ ?_ HT_ ?_
                 refine pu_ 24 150 (lA 48 33554431) ?_ ?_ HT_ ?_
                 refine pu_ 25 151 (lA 48 67108863) ?_ ?_ HT_ ?_
                 refine pu_ 26 152 (lA 48 134217727) ?_ ?_ HT_ ?_
                 refine pu_ 27 153 (lA 48 268435455) ?_ ?_ HT_ ?_
                 refine pu_ 28 154 (lA 48 536870911) ?_ ?_ HT_ ?_
                 refine tk_ 29 155 (lA 48 1073741823) ?_ ?_ HT_ HW_ hHeld ?_
                 refine pu_ 30 156 (lA 48 2147483647) ?_ ?_ HT_ ?_
                 refine pu_ 31 157 (lA 48 4294967295) ?_ ?_ HT_ ?_
                 refine pu_ 32 158 (lA 48 8589934591) ?_ ?_ HT_ ?_
                 refine pu_ 33 159 (lA 48 17179869183) ?_ ?_ HT_ ?_
                 refine pu_ 34 160 (lA 48 34359738367) ?_ ?_ HT_ ?_
                 refine tk_ 35 161 (lA 48 68719476735) ?_ ?_ HT_ HW_ hHeld ?_
                 refine pu_ 36 162 (lA 48 137438953471) ?_ ?_ HT_ ?_
                 refine pu_ 37 163 (lA 48 274877906943) ?_ ?_ HT_ ?_
                 refine pu_ 38 164 (lA 48 549755813887) ?_ ?_ HT_ ?_
                 refine pu_ 41 167 (lA 48 2748779069439) ?_ ?_ HT_ ?_
                 refine pu_ 42 168 (lA 48 7146825580543) ?_ ?_ HT_ ?_
                 refine tk_ 39 165 (lA 48 7696581394431) ?_ ?_ HT_ HW_ hHeld ?_
                 refine pu_ 40 166 (lA 48 8796093022207) ?_ ?_ HT_ ?_
                 refine tk_ 43 169 (lA 48 17592186044415) ?_ ?_ HT_ HW_ hHeld ?_
                 refine pu_ 44 170 (lA 48 35184372088831) ?_ ?_ HT_ ?_
                 refine one_ (i := 45) (N := some 171) (lA 48 70368744177663) rfl rfl (one_of HT_.out (by kernel_rfl)) (by decide) (fun K hK => ?_)
                 refine goes_ Try.func49 (by kernel_rfl) rfl #[.int .i64 (wrap64 (((rd_T75 l3 x49_2).f1))), .int .i64 1, .int .i64 (wrap64 (((rd_T79 x10_2 x49_2).f1) - 1))] (by rfl) rfl rfl (by (try simp only [List.map_toArray, List.map_cons, List.map_nil]); first | done | rfl | (simp only [List.length_drop, List.length_take]; rfl)) ?_
                 with_reducible refine (impl_within.calls (wrap64 (((rd_T75 l3 x49_2).f1))) 1 (wrap64 (((rd_T79 x10_2 x49_2).f1) - 1)) true _ A177.out).mono ?_
                 rintro e w' ⟨rfl, ⟨nd, rfl⟩⟩
                 refine ⟨_, rfl, ?_⟩
                 refine hK.out _ _ ⟨(blk_cell BK242.out 0).trans rfl, (blk_cell BK242.out 1).trans rfl, (blk_cell BK242.out 2).trans rfl, (blk_cell BK242.out 3).trans rfl, (blk_cell BK244.out 0).trans rfl, (blk_cell BK244.out 1).trans rfl, hHeld.2.2.2.2.2.2.1, hHeld.2.2.2.2.2.2.2⟩ (fun hHeld => ?_)
                 clear hK K
                 refine norm_ (a' := ?_) ?_ ?_
                 rotate_left
                 ·
                  show Act.put _ (some 171) _ = _
                  simp only [Act.put, List.setIfInBounds_toArray, List.set_cons_zero, List.set_cons_succ, i64_w, i32_w]
                  rfl
                 refine pu_ 46 172 (lA 48 140737488355327) ?_ ?_ HT_ ?_
                 refine pu_ 47 173 (lA 48 281474976710655) ?_ ?_ HT_ ?_
                 refine done_ (done_of HT_.out (by kernel_rfl)) ?_
                 (try (rw [drewN_self w188]; generalize hq_ : World.drewN w188 _ = w188; have n0_ : Aside0 (Kd.R k79 79 w188 w.heap.size (fun k_ => k_ ≠ gb244) (.slice (some ⟨go18, 0, none⟩) x10_2.length co18) x10_2) := ⟨by rw [← hq_]; exact (kp_ HO_10)⟩; have n1_ : Aside0 (Kd.R Kd.bool 4 w188 w.heap.size (fun _ => True) (.slice (some ⟨go20, 0, none⟩) x11_2.length co20) x11_2) := ⟨by rw [← hq_]; exact (kp_ HO_11)⟩; have n2_ : Aside0 (w188.heap[gb242]? = some (.cells #[.int .i8 ((rd_T75 l3 x49_2).f0), .int .i8 ((rd_T75 l3 x49_2).f1), .int .i8 ((rd_T75 l3 x49_2).f2), .int .i8 ((rd_T75 l3 x49_2).f3)] 75 (0, 0))) := ⟨by rw [← hq_]; exact (kb_ BK242)⟩; have n3_ : Aside0 (w188.heap[gb244]? = some (.cells #[.int .i64 ((rd_T79 x10_2 x49_2).f0), .int .i64 ((rd_T79 x10_2 x49_2).f1)] 79 (0, 0))) := ⟨by rw [← hq_]; exact (kb_ BK244)⟩; have n4_ : Aside0 (Below w.heap.size w w188) := ⟨by rw [← hq_]; exact (kS_ HB GE242 GE244)⟩; clear HO_10 HO_11 BK242 BK244 HB hq_; have HO_10 := n0_; have HO_11 := n1_; have BK242 := n2_; have BK244 := n3_; have HB := n4_; clear n0_ n1_ n2_ n3_ n4_))
                 have p179 : 0 ≤ ((ji134) : Int) := od_
                 have q179 : ((ji134) : Int) < ((x11_2.length : Int) : Int) := od_
                 obtain ⟨hx179_0, hf179_0⟩ := Kd.R_celln false HO_11.out ((ji134) : Int) p179 q179
                 replace p179 := eq_true p179
                 replace q179 := eq_true q179
                 obtain ⟨hy189_, hz189_⟩ := Kd.R_celln false HO_11.out ((ji134) : Int) od_ od_
                 have HP189 := Kd.R_putg HO_11.out ((ji134) : Int) true
                 try go_wp2_with (first | ((with_reducible refine gate_store (t := 4) (p := 178) rfl ?_); refine store_event (t := 4) (p := 178) (v := ?vo_w190) (w1 := (w188.setCell ⟨go20, ((ji134) : Int).toNat, none⟩ (.bool true))) ?hg ?ho ?hn ?hr ?_; (case ho => rfl); (case hg => rfl); (case hn => rfl); (case hr => first | (go_simp; done) | (go_simp; rfl)); intro w190 hw; have hg : w188.grownBy w190 (some go20) := (by rw [hw]; exact HP189.2); have hp_ : Kd.R Kd.bool 4 w190 w.heap.size (fun _ => True) (.slice (some ⟨go20, 0, none⟩) x11_2.length co20) y260 := (by rw [hw, Ny260.out]; exact HP189.1); clear HP189; have n0_ := Aside0.mk (Kd.R_over' (v := (.slice (some ⟨go20, 0, none⟩) x11_2.length co20)) (kp_ HO_10) (Kd.R_typed HO_11.out) (by decide) hg); have n1_ := Aside0.mk (hp_); have n2_ := Aside0.mk (blk_grown (g := gb242) (o := .cells #[.int .i8 ((rd_T75 l3 x49_2).f0), .int .i8 ((rd_T75 l3 x49_2).f1), .int .i8 ((rd_T75 l3 x49_2).f2), .int .i8 ((rd_T75 l3 x49_2).f3)] 75 (0, 0)) (kb_ BK242) hg (Kd.R_ne HO_11.out BK242.out (by decide))); have n3_ := Aside0.mk (blk_grown (g := gb244) (o := .cells #[.int .i64 ((rd_T79 x10_2 x49_2).f0), .int .i64 ((rd_T79 x10_2 x49_2).f1)] 79 (0, 0)) (kb_ BK244) hg (Kd.R_ne HO_11.out BK244.out (by decide))); have n4_ := Aside0.mk ((by rw [hw]; exact below_set (HB.out) GB20.out : Below w.heap.size w w190)); clear HO_10; clear HO_11; clear BK242; clear BK244; clear HB; have HO_10 := n0_; have HO_11 := n1_; have BK242 := n2_; have BK244 := n3_; have HB := n4_; clear n0_ n1_ n2_ n3_ n4_; clear hg hw hp_; have p180 : 0 ≤ ((ji141) : Int) := od_; have q180 : ((ji141) : Int) < ((x11_2.length : Int) : Int) := od_; obtain ⟨hx180_0, hf180_0⟩ := Kd.R_celln false HO_11.out ((ji141) : Int) p180 q180; replace p180 := eq_true p180; replace q180 := eq_true q180; obtain ⟨hy191_, hz191_⟩ := Kd.R_celln false HO_11.out ((ji141) : Int) od_ od_; have HP191 := Kd.R_putg HO_11.out ((ji141) : Int) true) | ((with_reducible refine gate_store (t := 4) (p := 179) rfl ?_); refine store_event (t := 4) (p := 179) (v := ?vo_w192) (w1 := (w190.setCell ⟨go20, ((ji141) : Int).toNat, none⟩ (.bool true))) ?hg ?ho ?hn ?hr ?_; (case ho => rfl); (case hg => rfl); (case hn => rfl); (case hr => first | (go_simp; done) | (go_simp; rfl)); intro w192 hw; have hg : w190.grownBy w192 (some go20) := (by rw [hw]; exact HP191.2); have hp_ : Kd.R Kd.bool 4 w192 w.heap.size (fun _ => True) (.slice (some ⟨go20, 0, none⟩) x11_2.length co20) y261 := (by rw [hw, Ny261.out]; exact HP191.1); clear HP191; have n0_ := Aside0.mk (Kd.R_over' (v := (.slice (some ⟨go20, 0, none⟩) x11_2.length co20)) (kp_ HO_10) (Kd.R_typed HO_11.out) (by decide) hg); have n1_ := Aside0.mk (hp_); have n2_ := Aside0.mk (blk_grown (g := gb242) (o := .cells #[.int .i8 ((rd_T75 l3 x49_2).f0), .int .i8 ((rd_T75 l3 x49_2).f1), .int .i8 ((rd_T75 l3 x49_2).f2), .int .i8 ((rd_T75 l3 x49_2).f3)] 75 (0, 0)) (kb_ BK242) hg (Kd.R_ne HO_11.out BK242.out (by decide))); have n3_ := Aside0.mk (blk_grown (g := gb244) (o := .cells #[.int .i64 ((rd_T79 x10_2 x49_2).f0), .int .i64 ((rd_T79 x10_2 x49_2).f1)] 79 (0, 0)) (kb_ BK244) hg (Kd.R_ne HO_11.out BK244.out (by decide))); have n4_ := Aside0.mk ((by rw [hw]; exact below_set (HB.out) GB20.out : Below w.heap.size w w192)); clear HO_10; clear HO_11; clear BK242; clear BK244; clear HB; have HO_10 := n0_; have HO_11 := n1_; have BK242 := n2_; have BK244 := n3_; have HB := n4_; clear n0_ n1_ n2_ n3_ n4_; clear hg hw hp_))
                 replace HO_10 := Aside0.mk (Kd.R_drew HO_10.out)
                 replace HO_11 := Aside0.mk (Kd.R_drew HO_11.out)
                 replace BK242 := Aside0.mk (blk_drew BK242.out)
                 replace BK244 := Aside0.mk (blk_drew BK244.out)
                 replace HB := Aside0.mk (below_drew1 HB.out)
                 have p182 : 0 ≤ ((ji134) : Int) := od_
                 have q182 : ((ji134) : Int) < ((x10_2.length : Int) : Int) := od_
                 obtain ⟨ce182, hcl182, hM182, hcc182, hfr182⟩ := Kd.R_elem HO_10.out z79 ((ji134) : Int) p182 q182
                 obtain rfl := k79_openM hM182
                 have hx182_0 : World.cell? _ ⟨go18, ((ji134) : Int).toNat * 2, none⟩ = some (.int .i64 ((rd_T79 x10_2 (ji134)).f0)) := hcc182 0 _ rfl
                 have hx182_1 : World.cell? _ ⟨go18, ((ji134) : Int).toNat * 2 + 1, none⟩ = some (.int .i64 ((rd_T79 x10_2 (ji134)).f1)) := hcc182 1 _ rfl
                 have hf182_0 : World.frozen? _ ⟨go18, ((ji134) : Int).toNat * 2, none⟩ = false := hfr182 0
                 have hf182_1 : World.frozen? _ ⟨go18, ((ji134) : Int).toNat * 2 + 1, none⟩ = false := hfr182 1
                 clear hcl182 hcc182 hfr182; (try clear hM182)
                 replace p182 := eq_true p182
                 replace q182 := eq_true q182
                 obtain ⟨ce194, hcl194, hM194, hcc194, hfr194⟩ := Kd.R_elem HO_10.out z79 ((ji134) : Int) od_ (by have h_ : ((ji134) : Int) < ((x10_2.length : Int) : Int) := od_; first | exact h_ | (have e_ := (Kd.R_reads' HO_10.out).1; omega) | simpa using h_)
                 obtain rfl := k79_openM hM194
                 have HP194 := (Kd.R_seg HO_10.out ((ji134) : Int) od_ (by have h_ : ((ji134) : Int) < ((x10_2.length : Int) : Int) := od_; first | exact h_ | (have e_ := (Kd.R_reads' HO_10.out).1; omega) | simpa using h_) (seg := [.int .i64 ((rd_T79 x10_2 x49_2).f0), .int .i64 ((rd_T79 x10_2 x49_2).f1)]) (j := 0) hcl194 hcc194 (show 2 ≤ 2 from by decide) (x' := (⟨((rd_T79 x10_2 x49_2).f0), ((rd_T79 x10_2 x49_2).f1)⟩ : S79)) (k79_mkM _ _ _ (⟨((rd_T79 x10_2 x49_2).f0), ((rd_T79 x10_2 x49_2).f1)⟩ : S79) ) (fun _ hk => hk)).1
                 rw [← Ny262.out] at HP194
                 have HQ194 := Aside0.mk HP194
                 clear hcl194 hcc194 hfr194; (try clear hM194); clear HP194
                 have p184 : 0 ≤ ((ji141) : Int) := od_
                 have q184 : ((ji141) : Int) < ((x10_2.length : Int) : Int) := od_
                 obtain ⟨ce184, hcl184, hM184, hcc184, hfr184⟩ := Kd.R_elem HQ194.out z79 ((ji141) : Int) p184 q184
                 obtain rfl := k79_openM hM184
                 have hx184_0 : World.cell? _ ⟨go18, ((ji141) : Int).toNat * 2, none⟩ = some (.int .i64 ((rd_T79 y262 (ji141)).f0)) := hcc184 0 _ rfl
                 have hx184_1 : World.cell? _ ⟨go18, ((ji141) : Int).toNat * 2 + 1, none⟩ = some (.int .i64 ((rd_T79 y262 (ji141)).f1)) := hcc184 1 _ rfl
                 have hf184_0 : World.frozen? _ ⟨go18, ((ji141) : Int).toNat * 2, none⟩ = false := hfr184 0
                 have hf184_1 : World.frozen? _ ⟨go18, ((ji141) : Int).toNat * 2 + 1, none⟩ = false := hfr184 1
                 clear hcl184 hcc184 hfr184; (try clear hM184)
                 replace p184 := eq_true p184
                 replace q184 := eq_true q184
                 obtain ⟨ce195, hcl195, hM195, hcc195, hfr195⟩ := Kd.R_elem HQ194.out z79 ((ji141) : Int) od_ (by have h_ : ((ji141) : Int) < ((x10_2.length : Int) : Int) := od_; first | exact h_ | (have e_ := (Kd.R_reads' HO_10.out).1; omega) | simpa using h_)
                 obtain rfl := k79_openM hM195
                 have HP195 := (Kd.R_seg HQ194.out ((ji141) : Int) od_ (by have h_ : ((ji141) : Int) < ((x10_2.length : Int) : Int) := od_; first | exact h_ | (have e_ := (Kd.R_reads' HO_10.out).1; omega) | simpa using h_) (seg := [.int .i64 ((rd_T79 x10_2 x49_2).f0), .int .i64 ((rd_T79 x10_2 x49_2).f1)]) (j := 0) hcl195 hcc195 (show 2 ≤ 2 from by decide) (x' := (⟨((rd_T79 x10_2 x49_2).f0), ((rd_T79 x10_2 x49_2).f1)⟩ : S79)) (k79_mkM _ _ _ (⟨((rd_T79 x10_2 x49_2).f0), ((rd_T79 x10_2 x49_2).f1)⟩ : S79) ) (fun _ hk => hk)).1
                 rw [← Ny263.out] at HP195
                 have HQ195 := Aside0.mk HP195
                 clear hcl195 hcc195 hfr195; (try clear hM195); clear HP195
                 refine start_ (n := 10) (S := fun w' => w'.cell? ⟨gb244, 0, none⟩ = some (.int .i64 ((rd_T79 x10_2 x49_2).f0)) ∧ w'.cell? ⟨gb244, 1, none⟩ = some (.int .i64 ((rd_T79 x10_2 x49_2).f1))) (ds := [9]) #[false, false, false, false, false, false, false, false, false, false] (by kernel_rfl) rfl rfl ⟨(blk_cell BK244.out 0).trans rfl, (blk_cell BK244.out 1).trans rfl⟩ (fun hHeld => ?_); refine with_tabW impl_sizes.tab26 impl_sizes.bits26 (fun HT_ HW_ => ?_)
                 generalize w192.drew = w193 at HO_10 HO_11 BK242 BK244 HB HQ194 HQ195 hf182_0 hf182_1 hf184_0 hf184_1 hx182_0 hx182_1 hx184_0 hx184_1 hHeld ⊢
                 (try (have shf182_0 := hf182_0; simp [World.setCells, show (k79).sz = 2 from rfl, go_sem] at shf182_0))
                 (try (have shf182_1 := hf182_1; simp [World.setCells, show (k79).sz = 2 from rfl, go_sem] at shf182_1))
                 (try (have shf184_0 := hf184_0; simp [World.setCells, show (k79).sz = 2 from rfl, go_sem] at shf184_0))
                 (try (have shf184_1 := hf184_1; simp [World.setCells, show (k79).sz = 2 from rfl, go_sem] at shf184_1))
                 (try (have shx182_0 := hx182_0; simp [World.setCells, show (k79).sz = 2 from rfl, go_sem] at shx182_0))
                 (try (have shx182_1 := hx182_1; simp [World.setCells, show (k79).sz = 2 from rfl, go_sem] at shx182_1))
                 (try (have shx184_0 := hx184_0; simp [World.setCells, show (k79).sz = 2 from rfl, go_sem] at shx184_0))
                 (try (have shx184_1 := hx184_1; simp [World.setCells, show (k79).sz = 2 from rfl, go_sem] at shx184_1))
                 refine pu_ 0 180 (lA 10 1) ?_ ?_ HT_ ?_
                 refine pu_ 1 181 (lA 10 3) ?_ ?_ HT_ ?_
                 refine pu_ 2 182 (lA 10 7) ?_ ?_ HT_ ?_
                 refine pu_ 3 183 (lA 10 15) ?_ ?_ HT_ ?_
                 refine tk_ 4 184 (lA 10 31) ?_ ?_ HT_ HW_ hHeld ?_
                 refine pu_ 6 186 (lA 10 95) ?_ ?_ HT_ ?_
                 refine tk_ 5 185 (lA 10 127) ?_ ?_ HT_ HW_ hHeld ?_
                 refine one_ (i := 7) (N := none) (lA 10 255) rfl rfl (one_of HT_.out (by kernel_rfl)) (by decide) (fun K hK => ?_)
                 refine skip_ (w1 := ?_) (by rfl) rfl ?_ ?_
                 rotate_left
                 ·
                  go_simp
                  rfl
                 refine hK.out _ _ ⟨((cell_far (p := ⟨go18, _, none⟩) (show gb244 ≠ go18 from (by have h_ := Kd.R_away HO_10.out (fun _ hk => hk); intro e_; exact h_ (by rw [e_]; rfl))) _).trans (((cell_far (p := ⟨go18, _, none⟩) (show gb244 ≠ go18 from (by have h_ := Kd.R_away HO_10.out (fun _ hk => hk); intro e_; exact h_ (by rw [e_]; rfl))) _).trans (hHeld.1)))), ((cell_far (p := ⟨go18, _, none⟩) (show gb244 ≠ go18 from (by have h_ := Kd.R_away HO_10.out (fun _ hk => hk); intro e_; exact h_ (by rw [e_]; rfl))) _).trans (((cell_far (p := ⟨go18, _, none⟩) (show gb244 ≠ go18 from (by have h_ := Kd.R_away HO_10.out (fun _ hk => hk); intro e_; exact h_ (by rw [e_]; rfl))) _).trans (hHeld.2))))⟩ (fun hHeld => ?_)
                 clear hK K
                 refine pu_ 8 187 (lA 10 511) ?_ ?_ HT_ ?_
                 refine last_ (i := 9) (N := none) (lA 10 1023) rfl rfl (one_of HT_.out (by kernel_rfl)) (by decide) (fun K hK => ?_)
                 refine skip_ (w1 := ?_) (by rfl) rfl ?_ ?_
                 rotate_left
                 ·
                  go_simp
                  rfl
                 refine hK.out _ _ ?_
                 clear hK K
                 refine done_ (done_of HT_.out (by kernel_rfl)) ?_
                 try go_wp2
                 have n0_ : Aside0 (Kd.R k79 79 ((((w193.setCell ⟨go18, ((ji134) : Int).toNat * 2, none⟩ (.int .i64 ((rd_T79 x10_2 x49_2).f0))).setCell ⟨go18, ((ji134) : Int).toNat * 2 + 1, none⟩ (.int .i64 ((rd_T79 x10_2 x49_2).f1))).setCell ⟨go18, ((ji141) : Int).toNat * 2, none⟩ (.int .i64 ((rd_T79 x10_2 x49_2).f0))).setCell ⟨go18, ((ji141) : Int).toNat * 2 + 1, none⟩ (.int .i64 ((rd_T79 x10_2 x49_2).f1))) w.heap.size (fun k_ => k_ ≠ gb244) (.slice (some ⟨go18, 0, none⟩) x10_2.length co18) y263) := ⟨kp_ HQ195⟩
                 have n1_ : Aside0 (Kd.R Kd.bool 4 ((((w193.setCell ⟨go18, ((ji134) : Int).toNat * 2, none⟩ (.int .i64 ((rd_T79 x10_2 x49_2).f0))).setCell ⟨go18, ((ji134) : Int).toNat * 2 + 1, none⟩ (.int .i64 ((rd_T79 x10_2 x49_2).f1))).setCell ⟨go18, ((ji141) : Int).toNat * 2, none⟩ (.int .i64 ((rd_T79 x10_2 x49_2).f0))).setCell ⟨go18, ((ji141) : Int).toNat * 2 + 1, none⟩ (.int .i64 ((rd_T79 x10_2 x49_2).f1))) w.heap.size (fun _ => True) (.slice (some ⟨go20, 0, none⟩) x11_2.length co20) y261) := ⟨by (with_reducible repeat (first | apply Kd.R_alloc | apply Kd.R_drewN | apply Kd.R_drew)); exact Kd.R_mono (Kd.R_far (p := ⟨go18, ((ji141) : Int).toNat * 2 + 1, none⟩) (Kd.R_far (p := ⟨go18, ((ji141) : Int).toNat * 2, none⟩) (Kd.R_far (p := ⟨go18, ((ji134) : Int).toNat * 2 + 1, none⟩) (Kd.R_far (p := ⟨go18, ((ji134) : Int).toNat * 2, none⟩) (Kd.R_types HO_11.out (Kd.R_typed HO_10.out go18 rfl).choose_spec (by decide)) (fun _ hk => hk.2) (.int .i64 ((rd_T79 x10_2 x49_2).f0))) (fun _ hk => hk.2) (.int .i64 ((rd_T79 x10_2 x49_2).f1))) (fun _ hk => hk.2) (.int .i64 ((rd_T79 x10_2 x49_2).f0))) (fun _ hk => hk.2) (.int .i64 ((rd_T79 x10_2 x49_2).f1))) (fun _ hk => trivial)⟩
                 have n2_ : Aside0 (((((w193.setCell ⟨go18, ((ji134) : Int).toNat * 2, none⟩ (.int .i64 ((rd_T79 x10_2 x49_2).f0))).setCell ⟨go18, ((ji134) : Int).toNat * 2 + 1, none⟩ (.int .i64 ((rd_T79 x10_2 x49_2).f1))).setCell ⟨go18, ((ji141) : Int).toNat * 2, none⟩ (.int .i64 ((rd_T79 x10_2 x49_2).f0))).setCell ⟨go18, ((ji141) : Int).toNat * 2 + 1, none⟩ (.int .i64 ((rd_T79 x10_2 x49_2).f1))).heap[gb242]? = some (.cells #[.int .i8 ((rd_T75 l3 x49_2).f0), .int .i8 ((rd_T75 l3 x49_2).f1), .int .i8 ((rd_T75 l3 x49_2).f2), .int .i8 ((rd_T75 l3 x49_2).f3)] 75 (0, 0))) := ⟨by (with_reducible repeat (first | refine blk_drewN ?_ _ | refine blk_drew ?_ | refine blk_alloc ?_ _)); refine blk_far ?_ (by have h_ := Kd.R_ne HO_10.out BK242.out (by decide); intro e_; exact h_ (by rw [e_]; rfl)) _; (with_reducible repeat (first | refine blk_drewN ?_ _ | refine blk_drew ?_ | refine blk_alloc ?_ _)); refine blk_far ?_ (by have h_ := Kd.R_ne HO_10.out BK242.out (by decide); intro e_; exact h_ (by rw [e_]; rfl)) _; (with_reducible repeat (first | refine blk_drewN ?_ _ | refine blk_drew ?_ | refine blk_alloc ?_ _)); refine blk_far ?_ (by have h_ := Kd.R_ne HO_10.out BK242.out (by decide); intro e_; exact h_ (by rw [e_]; rfl)) _; (with_reducible repeat (first | refine blk_drewN ?_ _ | refine blk_drew ?_ | refine blk_alloc ?_ _)); refine blk_far ?_ (by have h_ := Kd.R_ne HO_10.out BK242.out (by decide); intro e_; exact h_ (by rw [e_]; rfl)) _; (with_reducible repeat (first | refine blk_drewN ?_ _ | refine blk_drew ?_ | refine blk_alloc ?_ _)); exact BK242.out⟩
                 have n3_ : Aside0 (((((w193.setCell ⟨go18, ((ji134) : Int).toNat * 2, none⟩ (.int .i64 ((rd_T79 x10_2 x49_2).f0))).setCell ⟨go18, ((ji134) : Int).toNat * 2 + 1, none⟩ (.int .i64 ((rd_T79 x10_2 x49_2).f1))).setCell ⟨go18, ((ji141) : Int).toNat * 2, none⟩ (.int .i64 ((rd_T79 x10_2 x49_2).f0))).setCell ⟨go18, ((ji141) : Int).toNat * 2 + 1, none⟩ (.int .i64 ((rd_T79 x10_2 x49_2).f1))).heap[gb244]? = some (.cells #[.int .i64 ((rd_T79 x10_2 x49_2).f0), .int .i64 ((rd_T79 x10_2 x49_2).f1)] 79 (0, 0))) := ⟨by (with_reducible repeat (first | refine blk_drewN ?_ _ | refine blk_drew ?_ | refine blk_alloc ?_ _)); refine blk_far ?_ (by have h_ := Kd.R_away HO_10.out (fun _ hk => hk); intro e_; exact h_ (by rw [e_]; rfl)) _; (with_reducible repeat (first | refine blk_drewN ?_ _ | refine blk_drew ?_ | refine blk_alloc ?_ _)); refine blk_far ?_ (by have h_ := Kd.R_away HO_10.out (fun _ hk => hk); intro e_; exact h_ (by rw [e_]; rfl)) _; (with_reducible repeat (first | refine blk_drewN ?_ _ | refine blk_drew ?_ | refine blk_alloc ?_ _)); refine blk_far ?_ (by have h_ := Kd.R_away HO_10.out (fun _ hk => hk); intro e_; exact h_ (by rw [e_]; rfl)) _; (with_reducible repeat (first | refine blk_drewN ?_ _ | refine blk_drew ?_ | refine blk_alloc ?_ _)); refine blk_far ?_ (by have h_ := Kd.R_away HO_10.out (fun _ hk => hk); intro e_; exact h_ (by rw [e_]; rfl)) _; (with_reducible repeat (first | refine blk_drewN ?_ _ | refine blk_drew ?_ | refine blk_alloc ?_ _)); exact BK244.out⟩
                 have n4_ : Aside0 (Below w.heap.size w ((((w193.setCell ⟨go18, ((ji134) : Int).toNat * 2, none⟩ (.int .i64 ((rd_T79 x10_2 x49_2).f0))).setCell ⟨go18, ((ji134) : Int).toNat * 2 + 1, none⟩ (.int .i64 ((rd_T79 x10_2 x49_2).f1))).setCell ⟨go18, ((ji141) : Int).toNat * 2, none⟩ (.int .i64 ((rd_T79 x10_2 x49_2).f0))).setCell ⟨go18, ((ji141) : Int).toNat * 2 + 1, none⟩ (.int .i64 ((rd_T79 x10_2 x49_2).f1)))) := ⟨by repeat (first | (with_reducible first | exact HB.out | apply below_alloc | apply pw_below_drewN | apply below_drew1 | refine below_set ?_ GB18.out | refine below_set ?_ GB18.out | refine below_set ?_ GB18.out | refine below_set ?_ GB18.out | refine below_set ?_ GE242.out | refine below_set ?_ GE244.out) | exact HB.out)⟩
                 (try clear HO_10)
                 (try clear HO_11)
                 (try clear BK242)
                 (try clear BK244)
                 (try clear HB)
                 generalize ((((w193.setCell ⟨go18, ((ji134) : Int).toNat * 2, none⟩ (.int .i64 ((rd_T79 x10_2 x49_2).f0))).setCell ⟨go18, ((ji134) : Int).toNat * 2 + 1, none⟩ (.int .i64 ((rd_T79 x10_2 x49_2).f1))).setCell ⟨go18, ((ji141) : Int).toNat * 2, none⟩ (.int .i64 ((rd_T79 x10_2 x49_2).f0))).setCell ⟨go18, ((ji141) : Int).toNat * 2 + 1, none⟩ (.int .i64 ((rd_T79 x10_2 x49_2).f1))) = w196 at n0_ n1_ n2_ n3_ n4_ ⊢
                 have HO_10 := n0_
                 have HO_11 := n1_
                 have BK242 := n2_
                 have BK244 := n3_
                 have HB := n4_
                 clear n0_ n1_ n2_ n3_ n4_
                 replace HO_10 := Aside0.mk (Kd.R_drew HO_10.out)
                 replace HO_11 := Aside0.mk (Kd.R_drew HO_11.out)
                 replace BK242 := Aside0.mk (blk_drew BK242.out)
                 replace BK244 := Aside0.mk (blk_drew BK244.out)
                 replace HB := Aside0.mk (below_drew1 HB.out)
                 have p185 : 0 ≤ ((ji134) : Int) := od_
                 have q185 : ((ji134) : Int) < ((x10_2.length : Int) : Int) := od_
                 obtain ⟨ce185, hcl185, hM185, hcc185, hfr185⟩ := Kd.R_elem HO_10.out z79 ((ji134) : Int) p185 q185
                 obtain rfl := k79_openM hM185
                 have hx185_0 : World.cell? _ ⟨go18, ((ji134) : Int).toNat * 2, none⟩ = some (.int .i64 ((rd_T79 y263 (ji134)).f0)) := hcc185 0 _ rfl
                 have hx185_1 : World.cell? _ ⟨go18, ((ji134) : Int).toNat * 2 + 1, none⟩ = some (.int .i64 ((rd_T79 y263 (ji134)).f1)) := hcc185 1 _ rfl
                 have hf185_0 : World.frozen? _ ⟨go18, ((ji134) : Int).toNat * 2, none⟩ = false := hfr185 0
                 have hf185_1 : World.frozen? _ ⟨go18, ((ji134) : Int).toNat * 2 + 1, none⟩ = false := hfr185 1
                 clear hcl185 hcc185 hfr185; (try clear hM185)
                 replace p185 := eq_true p185
                 replace q185 := eq_true q185
                 obtain ⟨ce198, hcl198, hM198, hcc198, hfr198⟩ := Kd.R_elem HO_10.out z79 ((ji134) : Int) od_ (by have h_ : ((ji134) : Int) < ((x10_2.length : Int) : Int) := od_; first | exact h_ | (have e_ := (Kd.R_reads' HO_10.out).1; omega) | simpa using h_)
                 obtain rfl := k79_openM hM198
                 have HP198 := (Kd.R_seg HO_10.out ((ji134) : Int) od_ (by have h_ : ((ji134) : Int) < ((x10_2.length : Int) : Int) := od_; first | exact h_ | (have e_ := (Kd.R_reads' HO_10.out).1; omega) | simpa using h_) (seg := [.int .i64 (wrap64 (((rd_T75 l3 x49_2).f1)))]) (j := 1) hcl198 hcc198 (show 2 ≤ 2 from by decide) (x' := (⟨(rd_T79 y263 (ji134)).f0, wrap64 (((rd_T75 l3 x49_2).f1))⟩ : S79)) (k79_mkM _ _ _ (⟨(rd_T79 y263 (ji134)).f0, wrap64 (((rd_T75 l3 x49_2).f1))⟩ : S79) ) (fun _ hk => hk)).1
                 rw [← Ny264.out] at HP198
                 have HQ198 := Aside0.mk HP198
                 clear hcl198 hcc198 hfr198; (try clear hM198); clear HP198
                 refine start_ (n := 9) (S := fun w' => w'.cell? ⟨gb242, 0, none⟩ = some (.int .i8 ((rd_T75 l3 x49_2).f0)) ∧ w'.cell? ⟨gb242, 1, none⟩ = some (.int .i8 ((rd_T75 l3 x49_2).f1)) ∧ w'.cell? ⟨gb242, 2, none⟩ = some (.int .i8 ((rd_T75 l3 x49_2).f2)) ∧ w'.cell? ⟨gb242, 3, none⟩ = some (.int .i8 ((rd_T75 l3 x49_2).f3))) (ds := [8]) #[false, false, false, false, false, false, false, false, false] (by kernel_rfl) rfl rfl ⟨(blk_cell BK242.out 0).trans rfl, (blk_cell BK242.out 1).trans rfl, (blk_cell BK242.out 2).trans rfl, (blk_cell BK242.out 3).trans rfl⟩ (fun hHeld => ?_); refine with_tabW impl_sizes.tab27 impl_sizes.bits27 (fun HT_ HW_ => ?_)
                 generalize w196.drew = w197 at HO_10 HO_11 BK242 BK244 HB HQ195 HQ198 hf185_0 hf185_1 hx185_0 hx185_1 hHeld ⊢
                 (try (have shf185_0 := hf185_0; simp [World.setCells, show (k79).sz = 2 from rfl, go_sem] at shf185_0))
                 (try (have shf185_1 := hf185_1; simp [World.setCells, show (k79).sz = 2 from rfl, go_sem] at shf185_1))
                 (try (have shx185_0 := hx185_0; simp [World.setCells, show (k79).sz = 2 from rfl, go_sem] at shx185_0))
                 (try (have shx185_1 := hx185_1; simp [World.setCells, show (k79).sz = 2 from rfl, go_sem] at shx185_1))
                 refine pu_ 0 188 (lA 9 1) ?_ ?_ HT_ ?_
                 refine pu_ 1 189 (lA 9 3) ?_ ?_ HT_ ?_
                 refine pu_ 2 190 (lA 9 7) ?_ ?_ HT_ ?_
                 refine pu_ 3 191 (lA 9 15) ?_ ?_ HT_ ?_
                 refine pu_ 6 194 (lA 9 79) ?_ ?_ HT_ ?_
                 refine tk_ 4 192 (lA 9 95) ?_ ?_ HT_ HW_ hHeld ?_
                 refine pu_ 5 193 (lA 9 127) ?_ ?_ HT_ ?_
                 refine pu_ 7 195 (lA 9 255) ?_ ?_ HT_ ?_
                 refine last_ (i := 8) (N := none) (lA 9 511) rfl rfl (one_of HT_.out (by kernel_rfl)) (by decide) (fun K hK => ?_)
                 refine skip_ (w1 := ?_) (by rfl) rfl ?_ ?_
                 rotate_left
                 ·
                  go_simp
                  rfl
                 refine hK.out _ _ ?_
                 clear hK K
                 refine done_ (done_of HT_.out (by kernel_rfl)) ?_
                 try go_wp2
                 have n0_ : Aside0 (Kd.R k79 79 (w197.setCell ⟨go18, ((ji134) : Int).toNat * 2 + 1, none⟩ (.int .i64 (wrap64 (((rd_T75 l3 x49_2).f1))))) w.heap.size (fun k_ => k_ ≠ gb244) (.slice (some ⟨go18, 0, none⟩) x10_2.length co18) y264) := ⟨kp_ HQ198⟩
                 have n1_ : Aside0 (Kd.R Kd.bool 4 (w197.setCell ⟨go18, ((ji134) : Int).toNat * 2 + 1, none⟩ (.int .i64 (wrap64 (((rd_T75 l3 x49_2).f1))))) w.heap.size (fun _ => True) (.slice (some ⟨go20, 0, none⟩) x11_2.length co20) y261) := ⟨by (with_reducible repeat (first | apply Kd.R_alloc | apply Kd.R_drewN | apply Kd.R_drew)); exact Kd.R_mono (Kd.R_far (p := ⟨go18, ((ji134) : Int).toNat * 2 + 1, none⟩) (Kd.R_types HO_11.out (Kd.R_typed HO_10.out go18 rfl).choose_spec (by decide)) (fun _ hk => hk.2) (.int .i64 (wrap64 (((rd_T75 l3 x49_2).f1))))) (fun _ hk => trivial)⟩
                 have n2_ : Aside0 ((w197.setCell ⟨go18, ((ji134) : Int).toNat * 2 + 1, none⟩ (.int .i64 (wrap64 (((rd_T75 l3 x49_2).f1))))).heap[gb242]? = some (.cells #[.int .i8 ((rd_T75 l3 x49_2).f0), .int .i8 ((rd_T75 l3 x49_2).f1), .int .i8 ((rd_T75 l3 x49_2).f2), .int .i8 ((rd_T75 l3 x49_2).f3)] 75 (0, 0))) := ⟨by (with_reducible repeat (first | refine blk_drewN ?_ _ | refine blk_drew ?_ | refine blk_alloc ?_ _)); refine blk_far ?_ (by have h_ := Kd.R_ne HO_10.out BK242.out (by decide); intro e_; exact h_ (by rw [e_]; rfl)) _; (with_reducible repeat (first | refine blk_drewN ?_ _ | refine blk_drew ?_ | refine blk_alloc ?_ _)); exact BK242.out⟩
                 have n3_ : Aside0 ((w197.setCell ⟨go18, ((ji134) : Int).toNat * 2 + 1, none⟩ (.int .i64 (wrap64 (((rd_T75 l3 x49_2).f1))))).heap[gb244]? = some (.cells #[.int .i64 ((rd_T79 x10_2 x49_2).f0), .int .i64 ((rd_T79 x10_2 x49_2).f1)] 79 (0, 0))) := ⟨by (with_reducible repeat (first | refine blk_drewN ?_ _ | refine blk_drew ?_ | refine blk_alloc ?_ _)); refine blk_far ?_ (by have h_ := Kd.R_away HO_10.out (fun _ hk => hk); intro e_; exact h_ (by rw [e_]; rfl)) _; (with_reducible repeat (first | refine blk_drewN ?_ _ | refine blk_drew ?_ | refine blk_alloc ?_ _)); exact BK244.out⟩
                 have n4_ : Aside0 (Below w.heap.size w (w197.setCell ⟨go18, ((ji134) : Int).toNat * 2 + 1, none⟩ (.int .i64 (wrap64 (((rd_T75 l3 x49_2).f1)))))) := ⟨by repeat (first | (with_reducible first | exact HB.out | apply below_alloc | apply pw_below_drewN | apply below_drew1 | refine below_set ?_ GB18.out | refine below_set ?_ GE242.out | refine below_set ?_ GE244.out) | exact HB.out)⟩
                 (try clear HO_10)
                 (try clear HO_11)
                 (try clear BK242)
                 (try clear BK244)
                 (try clear HB)
                 generalize (w197.setCell ⟨go18, ((ji134) : Int).toNat * 2 + 1, none⟩ (.int .i64 (wrap64 (((rd_T75 l3 x49_2).f1))))) = w199 at n0_ n1_ n2_ n3_ n4_ ⊢
                 have HO_10 := n0_
                 have HO_11 := n1_
                 have BK242 := n2_
                 have BK244 := n3_
                 have HB := n4_
                 clear n0_ n1_ n2_ n3_ n4_
                 replace HO_10 := Aside0.mk (Kd.R_drew HO_10.out)
                 replace HO_11 := Aside0.mk (Kd.R_drew HO_11.out)
                 replace BK242 := Aside0.mk (blk_drew BK242.out)
                 replace BK244 := Aside0.mk (blk_drew BK244.out)
                 replace HB := Aside0.mk (below_drew1 HB.out)
                 have p265 : 0 ≤ ((ji141) : Int) := od_
                 have q265 : (ji141) < (y264.length : Int) := (by have h_ : ((ji141) : Int) < ((x10_2.length : Int) : Int) := od_; first | (have e_ := (Kd.R_reads' HO_10.out).1; omega) | simpa only [Ny262.out, Ny263.out, Ny264.out, List.length_set] using h_)
                 have ql265 : (((ji141) : Int) < ((x10_2.length : Int) : Int)) = True := eq_true od_
                 obtain ⟨ad265, e265, hx265_0, hx265_1⟩ := at_T79 (Kd.R_reads' HO_10.out).2.2 (ji141) p265 q265
                 obtain rfl : (⟨go18, 0, none⟩ : Addr) = ad265 := (by injection e265)
                 (first | simp only [add_plain] at hx265_0 | simp only [add_at] at hx265_0 | simp only [Addr.add, Nat.zero_add] at hx265_0 | skip)
                 (first | simp only [add_plain] at hx265_1 | simp only [add_at] at hx265_1 | simp only [Addr.add, Nat.zero_add] at hx265_1 | skip)
                 replace p265 := eq_true p265
                 replace q265 := eq_true q265
                 have p186 : 0 ≤ ((ji141) : Int) := od_
                 have q186 : ((ji141) : Int) < ((x10_2.length : Int) : Int) := od_
                 obtain ⟨ce186, hcl186, hM186, hcc186, hfr186⟩ := Kd.R_elem HO_10.out z79 ((ji141) : Int) p186 q186
                 obtain rfl := k79_openM hM186
                 have hx186_0 : World.cell? _ ⟨go18, ((ji141) : Int).toNat * 2, none⟩ = some (.int .i64 ((rd_T79 y264 (ji141)).f0)) := hcc186 0 _ rfl
                 have hx186_1 : World.cell? _ ⟨go18, ((ji141) : Int).toNat * 2 + 1, none⟩ = some (.int .i64 ((rd_T79 y264 (ji141)).f1)) := hcc186 1 _ rfl
                 have hf186_0 : World.frozen? _ ⟨go18, ((ji141) : Int).toNat * 2, none⟩ = false := hfr186 0
                 have hf186_1 : World.frozen? _ ⟨go18, ((ji141) : Int).toNat * 2 + 1, none⟩ = false := hfr186 1
                 clear hcl186 hcc186 hfr186; (try clear hM186)
                 replace p186 := eq_true p186
                 replace q186 := eq_true q186
                 obtain ⟨ce201, hcl201, hM201, hcc201, hfr201⟩ := Kd.R_elem HO_10.out z79 ((ji141) : Int) od_ (by have h_ : ((ji141) : Int) < ((x10_2.length : Int) : Int) := od_; first | exact h_ | (have e_ := (Kd.R_reads' HO_10.out).1; omega) | simpa using h_)
                 obtain rfl := k79_openM hM201
                 have HP201 := (Kd.R_seg HO_10.out ((ji141) : Int) od_ (by have h_ : ((ji141) : Int) < ((x10_2.length : Int) : Int) := od_; first | exact h_ | (have e_ := (Kd.R_reads' HO_10.out).1; omega) | simpa using h_) (seg := [.int .i64 (wrap64 (((rd_T79 y264 (ji141)).f1) - (wrap64 (((rd_T75 l3 x49_2).f1)))))]) (j := 1) hcl201 hcc201 (show 2 ≤ 2 from by decide) (x' := (⟨(rd_T79 y264 (ji141)).f0, wrap64 (((rd_T79 y264 (ji141)).f1) - (wrap64 (((rd_T75 l3 x49_2).f1))))⟩ : S79)) (k79_mkM _ _ _ (⟨(rd_T79 y264 (ji141)).f0, wrap64 (((rd_T79 y264 (ji141)).f1) - (wrap64 (((rd_T75 l3 x49_2).f1))))⟩ : S79) ) (fun _ hk => hk)).1
                 rw [← Ny266.out] at HP201
                 have HQ201 := Aside0.mk HP201
                 clear hcl201 hcc201 hfr201; (try clear hM201); clear HP201
                 refine start_ (n := 13) (S := fun w' => w'.cell? ⟨gb242, 0, none⟩ = some (.int .i8 ((rd_T75 l3 x49_2).f0)) ∧ w'.cell? ⟨gb242, 1, none⟩ = some (.int .i8 ((rd_T75 l3 x49_2).f1)) ∧ w'.cell? ⟨gb242, 2, none⟩ = some (.int .i8 ((rd_T75 l3 x49_2).f2)) ∧ w'.cell? ⟨gb242, 3, none⟩ = some (.int .i8 ((rd_T75 l3 x49_2).f3)) ∧ w'.cell? ⟨go18, ((ji141)).toNat * 2, none⟩ = some (.int .i64 ((rd_T79 y264 (ji141)).f0)) ∧ w'.cell? ⟨go18, ((ji141)).toNat * 2 + 1, none⟩ = some (.int .i64 ((rd_T79 y264 (ji141)).f1))) (ds := [12]) #[false, false, false, false, false, false, false, false, false, false, false, false, false] (by kernel_rfl) rfl rfl ⟨(blk_cell BK242.out 0).trans rfl, (blk_cell BK242.out 1).trans rfl, (blk_cell BK242.out 2).trans rfl, (blk_cell BK242.out 3).trans rfl, hx265_0, hx265_1⟩ (fun hHeld => ?_); refine with_tabW impl_sizes.tab28 impl_sizes.bits28 (fun HT_ HW_ => ?_)
                 generalize w199.drew = w200 at HO_10 HO_11 BK242 BK244 HB HQ198 HQ201 hf186_0 hf186_1 hx186_0 hx186_1 hx265_0 hx265_1 hHeld ⊢
                 (try (have shf186_0 := hf186_0; simp [World.setCells, show (k79).sz = 2 from rfl, go_sem] at shf186_0))
                 (try (have shf186_1 := hf186_1; simp [World.setCells, show (k79).sz = 2 from rfl, go_sem] at shf186_1))
                 (try (have shx186_0 := hx186_0; simp [World.setCells, show (k79).sz = 2 from rfl, go_sem] at shx186_0))
                 (try (have shx186_1 := hx186_1; simp [World.setCells, show (k79).sz = 2 from rfl, go_sem] at shx186_1))
                 (try (have shx265_0 := hx265_0; simp [World.setCells, show (k79).sz = 2 from rfl, go_sem] at shx265_0))
                 (try (have shx265_1 := hx265_1; simp [World.setCells, show (k79).sz = 2 from rfl, go_sem] at shx265_1))
                 refine pu_ 0 196 (lA 13 1) ?_ ?_ HT_ ?_
                 refine pu_ 1 197 (lA 13 3) ?_ ?_ HT_ ?_
                 refine pu_ 2 198 (lA 13 7) ?_ ?_ HT_ ?_
                 refine pu_ 3 199 (lA 13 15) ?_ ?_ HT_ ?_
                 refine pu_ 4 200 (lA 13 31) ?_ ?_ HT_ ?_
                 refine pu_ 6 202 (lA 13 95) ?_ ?_ HT_ ?_
                 refine pu_ 10 206 (lA 13 1119) ?_ ?_ HT_ ?_
                 refine tk_ 5 201 (lA 13 1151) ?_ ?_ HT_ HW_ hHeld ?_
                 refine tk_ 7 203 (lA 13 1279) ?_ ?_ HT_ HW_ hHeld ?_
                 refine pu_ 8 204 (lA 13 1535) ?_ ?_ HT_ ?_
                 refine pu_ 9 205 (lA 13 2047) ?_ ?_ HT_ ?_
                 refine pu_ 11 207 (lA 13 4095) ?_ ?_ HT_ ?_
                 refine last_ (i := 12) (N := none) (lA 13 8191) rfl rfl (one_of HT_.out (by kernel_rfl)) (by decide) (fun K hK => ?_)
                 refine skip_ (w1 := ?_) (by rfl) rfl ?_ ?_
                 rotate_left
                 ·
                  go_simp
                  rfl
                 refine hK.out _ _ ?_
                 clear hK K
                 refine done_ (done_of HT_.out (by kernel_rfl)) ?_
                 try go_wp2
                 (try simp only [← hl10_2, ← hl11_2])
                 go_roundg kj109
                 case measure => have := HJ4.out; have := HK2.out; have := HJ109.out; omega
                 case rel => exact ⟨(y266), (y261), (wrap64 (x49_2 + 1)), (by first | rfl | (simp; done) | (simp [*]; done)), H', ⟨by have := HJ4.out; have := HK2.out; have := HJ109.out; omega⟩, ⟨by (try simp only [hl10_2]); (try simp only [hl11_2]); (with_reducible repeat (first | apply Kd.R_alloc | apply Kd.R_drewN | apply Kd.R_drew)); exact Kd.R_mono HQ201.out (fun _ hk => trivial)⟩, ⟨by (try simp only [hl10_2]); (try simp only [hl11_2]); (with_reducible repeat (first | apply Kd.R_alloc | apply Kd.R_drewN | apply Kd.R_drew)); exact Kd.R_mono (Kd.R_far (p := ⟨go18, ((ji141) : Int).toNat * 2 + 1, none⟩) (Kd.R_types HO_11.out (Kd.R_typed HO_10.out go18 rfl).choose_spec (by decide)) (fun _ hk => hk.2) (.int .i64 (wrap64 (((rd_T79 y264 (ji141)).f1) - (wrap64 (((rd_T75 l3 x49_2).f1))))))) (fun _ hk => trivial)⟩, ⟨by repeat (first | (with_reducible first | exact HB.out | apply below_alloc | apply pw_below_drewN | apply below_drew1 | refine below_set ?_ GB18.out | refine below_set ?_ GE242.out | refine below_set ?_ GE244.out) | exact HB.out)⟩⟩
                ·
                 as_aux_lemma =>
                 replace c178 := Bool.eq_false_iff.mpr c178
                 subst c178
                 have H1 : (some (([] : List (S79)), false)) = some (r1, r2) := by rw [if_neg (show ¬ (false = true) by decide)] at H; exact H
                 clear H
                 have H := H1
                 clear H1
                 simp only [Option.some.injEq, Prod.mk.injEq] at H
                 obtain ⟨rfl, rfl⟩ := H
                 try go_wp2
                 replace HO_10 := Aside0.mk (Kd.R_drew HO_10.out)
                 replace HO_11 := Aside0.mk (Kd.R_drew HO_11.out)
                 replace BK242 := Aside0.mk (blk_drew BK242.out)
                 replace BK244 := Aside0.mk (blk_drew BK244.out)
                 replace HB := Aside0.mk (below_drew1 HB.out)
                 have p249 : 0 ≤ ((ji134) : Int) := od_
                 have q249 : (ji134) < (x11_2.length : Int) := od_
                 obtain ⟨ad249, e249, hx249_0⟩ := Kd.at_bool (Kd.R_reads' HO_11.out).2.2 (ji134) p249 q249
                 (try rw [← Nbq36.out] at hx249_0)
                 (try rw [← Nbq137.out] at hx249_0)
                 (try rw [← Nbq144.out] at hx249_0)
                 obtain rfl : (⟨go20, 0, none⟩ : Addr) = ad249 := (by injection e249)
                 (first | simp only [add_plain] at hx249_0 | simp only [add_at] at hx249_0 | simp only [Addr.add, Nat.zero_add] at hx249_0 | skip)
                 replace p249 := eq_true p249
                 replace q249 := eq_true q249
                 have p250 : 0 ≤ ((ji141) : Int) := od_
                 have q250 : (ji141) < (x11_2.length : Int) := od_
                 obtain ⟨ad250, e250, hx250_0⟩ := Kd.at_bool (Kd.R_reads' HO_11.out).2.2 (ji141) p250 q250
                 (try rw [← Nbq36.out] at hx250_0)
                 (try rw [← Nbq137.out] at hx250_0)
                 (try rw [← Nbq144.out] at hx250_0)
                 obtain rfl : (⟨go20, 0, none⟩ : Addr) = ad250 := (by injection e250)
                 (first | simp only [add_plain] at hx250_0 | simp only [add_at] at hx250_0 | simp only [Addr.add, Nat.zero_add] at hx250_0 | skip)
                 replace p250 := eq_true p250
                 replace q250 := eq_true q250
                 refine start_ (n := 48) (S := fun w' => w'.cell? ⟨gb242, 0, none⟩ = some (.int .i8 ((rd_T75 l3 x49_2).f0)) ∧ w'.cell? ⟨gb242, 1, none⟩ = some (.int .i8 ((rd_T75 l3 x49_2).f1)) ∧ w'.cell? ⟨gb242, 2, none⟩ = some (.int .i8 ((rd_T75 l3 x49_2).f2)) ∧ w'.cell? ⟨gb242, 3, none⟩ = some (.int .i8 ((rd_T75 l3 x49_2).f3)) ∧ w'.cell? ⟨gb244, 0, none⟩ = some (.int .i64 ((rd_T79 x10_2 x49_2).f0)) ∧ w'.cell? ⟨gb244, 1, none⟩ = some (.int .i64 ((rd_T79 x10_2 x49_2).f1)) ∧ w'.cell? ⟨go20, ((ji134)).toNat, none⟩ = some (.bool false) ∧ w'.cell? ⟨go20, ((ji141)).toNat, none⟩ = some (.bool false)) (ds := []) #[false, false, false, false, false, false, false, false, false, false, false, false, false, false, false, false, false, false, false, false, false, false, false, false, false, false, false, false, false, false, false, false, false, false, false, false, false, false, false, false, false, false, false, false, false, false, false, false] (by kernel_rfl) rfl rfl ⟨(blk_cell BK242.out 0).trans rfl, (blk_cell BK242.out 1).trans rfl, (blk_cell BK242.out 2).trans rfl, (blk_cell BK242.out 3).trans rfl, (blk_cell BK244.out 0).trans rfl, (blk_cell BK244.out 1).trans rfl, hx249_0, hx250_0⟩ (fun hHeld => ?_); refine with_tabW impl_sizes.tab23 impl_sizes.bits23 (fun HT_ HW_ => ?_)
                 generalize w120.drew = w203 at HO_10 HO_11 BK242 BK244 HB hx249_0 hx250_0 hHeld ⊢
                 refine pu_ 0 126 (lA 48 1) ?_ ?_ HT_ ?_
                 refine pu_ 1 127 (lA 48 3) ?_ ?_ HT_ ?_
                 refine pu_ 2 128 (lA 48 7) ?_ ?_ HT_ ?_
                 refine pu_ 3 129 (lA 48 15) ?_ ?_ HT_ ?_
                 refine pu_ 4 130 (lA 48 31) ?_ ?_ HT_ ?_
                 refine pu_ 5 131 (lA 48 63) ?_ ?_ HT_ ?_
                 refine pu_ 6 132 (lA 48 127) ?_ ?_ HT_ ?_
                 refine pu_ 7 133 (lA 48 255) ?_ ?_ HT_ ?_
                 refine pu_ 8 134 (lA 48 511) ?_ ?_ HT_ ?_
                 refine pu_ 9 135 (lA 48 1023) ?_ ?_ HT_ ?_
                 refine pu_ 10 136 (lA 48 2047) ?_ ?_ HT_ ?_
                 refine pu_ 11 137 (lA 48 4095) ?_ ?_ HT_ ?_
                 refine pu_ 12 138 (lA 48 8191) ?_ ?_ HT_ ?_
                 refine pu_ 13 139 (lA 48 16383) ?_ ?_ HT_ ?_
                 refine pu_ 14 140 (lA 48 32767) ?_ ?_ HT_ ?_
                 refine pu_ 15 141 (lA 48 65535) ?_ ?_ HT_ ?_
                 refine pu_ 16 142 (lA 48 131071) ?_ ?_ HT_ ?_
                 refine pu_ 17 143 (lA 48 262143) ?_ ?_ HT_ ?_
                 refine pu_ 18 144 (lA 48 524287) ?_ ?_ HT_ ?_
                 refine pu_ 19 145 (lA 48 1048575) ?_ ?_ HT_ ?_
                 refine pu_ 20 146 (lA 48 2097151) ?_ ?_ HT_ ?_
                 refine pu_ 21 147 (lA 48 4194303) ?_ ?_ HT_ ?_
                 refine pu_ 22 148 (lA 48 8388607) ?_ ?_ HT_ ?_
                 refine pu_ 23 149 (lA 48 16777215) ?_ ?_ HT_ ?_
                 refine pu_ 24 150 (lA 48 33554431) ?_ ?_ HT_ ?_
                 refine pu_ 25 151 (lA 48 67108863) ?_ ?_ HT_ ?_
                 refine pu_ 26 152 (lA 48 134217727) ?_ ?_ HT_ ?_
                 refine pu_ 27 153 (lA 48 268435455) ?_ ?_ HT_ ?_
                 refine pu_ 28 154 (lA 48 536870911) ?_ ?_ HT_ ?_
                 refine tk_ 29 155 (lA 48 1073741823) ?_ ?_ HT_ HW_ hHeld ?_
                 refine pu_ 30 156 (lA 48 2147483647) ?_ ?_ HT_ ?_
                 refine pu_ 31 157 (lA 48 4294967295) ?_ ?_ HT_ ?_
                 refine pu_ 32 158 (lA 48 8589934591) ?_ ?_ HT_ ?_
                 refine pu_ 33 159 (lA 48 17179869183) ?_ ?_ HT_ ?_
                 refine pu_ 34 160 (lA 48 34359738367) ?_ ?_ HT_ ?_
                 refine tk_ 35 161 (lA 48 68719476735) ?_ ?_ HT_ HW_ hHeld ?_
                 refine pu_ 36 162 (lA 48 137438953471) ?_ ?_ HT_ ?_
                 refine pu_ 37 163 (lA 48 274877906943) ?_ ?_ HT_ ?_
                 refine pu_ 38 164 (lA 48 549755813887) ?_ ?_ HT_ ?_
                 refine pu_ 41 167 (lA 48 2748779069439) ?_ ?_ HT_ ?_
                 refine pu_ 42 168 (lA 48 7146825580543) ?_ ?_ HT_ ?_
                 refine tk_ 39 165 (lA 48 7696581394431) ?_ ?_ HT_ HW_ hHeld ?_
                 refine pu_ 40 166 (lA 48 8796093022207) ?_ ?_ HT_ ?_
                 refine tk_ 43 169 (lA 48 17592186044415) ?_ ?_ HT_ HW_ hHeld ?_
                 refine pu_ 44 170 (lA 48 35184372088831) ?_ ?_ HT_ ?_
                 refine one_ (i := 45) (N := some 171) (lA 48 70368744177663) rfl rfl (one_of HT_.out (by kernel_rfl)) (by decide) (fun K hK => ?_)
                 refine goes_ Try.func49 (by kernel_rfl) rfl #[.int .i64 (wrap64 (((rd_T75 l3 x49_2).f1))), .int .i64 1, .int .i64 (wrap64 (((rd_T79 x10_2 x49_2).f1) - 1))] (by rfl) rfl rfl (by (try simp only [List.map_toArray, List.map_cons, List.map_nil]); first | done | rfl | (simp only [List.length_drop, List.length_take]; rfl)) ?_
                 with_reducible refine (impl_within.calls (wrap64 (((rd_T75 l3 x49_2).f1))) 1 (wrap64 (((rd_T79 x10_2 x49_2).f1) - 1)) false _ A177.out).mono ?_
                 rintro e w' ⟨rfl, ⟨nd, rfl⟩⟩
                 refine ⟨_, rfl, ?_⟩
                 refine hK.out _ _ ⟨(blk_cell BK242.out 0).trans rfl, (blk_cell BK242.out 1).trans rfl, (blk_cell BK242.out 2).trans rfl, (blk_cell BK242.out 3).trans rfl, (blk_cell BK244.out 0).trans rfl, (blk_cell BK244.out 1).trans rfl, hHeld.2.2.2.2.2.2.1, hHeld.2.2.2.2.2.2.2⟩ (fun hHeld => ?_)
                 clear hK K
                 refine norm_ (a' := ?_) ?_ ?_
                 rotate_left
                 ·
                  show Act.put _ (some 171) _ = _
                  simp only [Act.put, List.setIfInBounds_toArray, List.set_cons_zero, List.set_cons_succ, i64_w, i32_w]
                  rfl
                 refine pu_ 46 172 (lA 48 140737488355327) ?_ ?_ HT_ ?_
                 refine pu_ 47 173 (lA 48 281474976710655) ?_ ?_ HT_ ?_
                 refine done_ (done_of HT_.out (by kernel_rfl)) ?_
                 try go_wp2
                 go_ret2
                 exact ⟨_, by first | rfl | (simp [errW_none, errW_some] <;> rfl) | (simp only [← hji134, ← hji141]; first | rfl | (simp [errW_none, errW_some] <;> rfl)) | (simp [*, errW_none, errW_some] <;> rfl), by first | exact Kd.R_nil _ _ _ _ _ | exact Kd.N_nil _ _ _ _ _ | exact Kd.V_nil _ _ _ _ _ | exact Kd.Q_nil _ _ _ _ _ | exact Kd.S_nil _ _ _ _ _, kS_ HB GE242 GE244⟩
end Go.Proofs.Ytedbgfjllladkaa.PA
