/- Written by a program of this session out of the translation: pure functions, and that Go's functions come to them. -/
import Derived.Test.YtjkjelfhdhcplaaPAx0
import Derived.Test.YtjkjelfhdhcplaaPAxf42
import Derived.Test.YtjkjelfhdhcplaaPAxf43
import Derived.Test.YtjkjelfhdhcplaaPAxgImpl
namespace Go.Proofs.Ytjkjelfhdhcplaa.PA
open Go.RowKit Go.Proofs.YtjkjelfhdhcplaaW.PrintWords Go.Proofs.YtjkjelfhdhcplaaW.PrintLast Go.Proofs.YtjkjelfhdhcplaaW.PrintMore
attribute [local go_sem] max2_int min2_int max_two min_two max_three min_three max_four min_four   -- for this text's walks alone
set_option linter.unusedVariables false
set_option linter.unusedSimpArgs false

/-! ### impl_FitRow: function 16 -/
mutual
def impl_FitRow.j0 : Nat → Int → Int → Int → Int → Int → Bool → Option (List Int × Int)
  | 0, _, _, _, _, _, _ => none
  | k + 1, x0, x1, x2, x3, x4, x16 => if x16 = true then (some (([] : List Int), 2)) else (if x2 > x3 then (some (([] : List Int), 4)) else (impl_FitRow.l0 k x0 x1 x2 x3 x4 ([] : List Int) 1))
def impl_FitRow.l0 : Nat → Int → Int → Int → Int → Int → List Int → Int → Option (List Int × Int)
  | 0, _, _, _, _, _, _, _ => none
  | k + 1, x0, x1, x2, x3, x4, x12, x13 => if x13 ≤ 60 then ((impl_even.f k (wrap64 (x0 - (wrap64 ((wrap64 (x13 - 1)) * x1)))) x13).bind fun bt328 => (if bt328.2 = true then ((impl_Row_isBetween.f bt328.1 x2 x3).bind fun t332 => (if t332 = true then (if (x12.length : Int) = 0 then (if (bt328.1.length : Int) = 0 then none else (impl_FitRow.l0 k x0 x1 x2 x3 x4 bt328.1 (wrap64 (x13 + 1)))) else ((impl_Row_apart.f k bt328.1 x4).bind fun t333 => ((impl_Row_apart.f k x12 x4).bind fun t334 => (if t333 < t334 then (if (bt328.1.length : Int) = 0 then none else (impl_FitRow.l0 k x0 x1 x2 x3 x4 bt328.1 (wrap64 (x13 + 1)))) else (impl_FitRow.l0 k x0 x1 x2 x3 x4 x12 (wrap64 (x13 + 1))))))) else (impl_FitRow.l0 k x0 x1 x2 x3 x4 x12 (wrap64 (x13 + 1))))) else (impl_FitRow.l0 k x0 x1 x2 x3 x4 x12 (wrap64 (x13 + 1))))) else (if (x12.length : Int) = 0 then (some (([] : List Int), 6)) else (some (x12, 0)))
end
def impl_FitRow.f (k : Nat) (a0 : Int) (a1 : Int) (a2 : Int) (a3 : Int) (a4 : Int) : Option (List Int × Int) := (impl_isLong.f a0).bind fun t322 => (if t322 = true then ((impl_isSeam.f a1).bind fun t323 => (if t323 = true then ((impl_isWidth.f (([a2, a3, a4] : List Int))).bind fun t327 => (impl_FitRow.j0 k a0 a1 a2 a3 a4 (!t327))) else (impl_FitRow.j0 k a0 a1 a2 a3 a4 true))) else (impl_FitRow.j0 k a0 a1 a2 a3 a4 true))
theorem impl_FitRow.mono_l : ∀ k, (∀ y0 y1 y2 y3 y4 y5, LeO (impl_FitRow.j0 k y0 y1 y2 y3 y4 y5) (impl_FitRow.j0 (k + 1) y0 y1 y2 y3 y4 y5)) ∧ (∀ y0 y1 y2 y3 y4 y5 y6, LeO (impl_FitRow.l0 k y0 y1 y2 y3 y4 y5 y6) (impl_FitRow.l0 (k + 1) y0 y1 y2 y3 y4 y5 y6))
  | 0 => ⟨fun _ _ _ _ _ _ r h => by simp [impl_FitRow.j0] at h, fun _ _ _ _ _ _ _ r h => by simp [impl_FitRow.l0] at h⟩
  | k + 1 => by
    obtain ⟨ih0, ih1⟩ := impl_FitRow.mono_l k
    refine ⟨?_, ?_⟩
    · intro y0 y1 y2 y3 y4 y5
      unfold impl_FitRow.j0
      repeat' first
      | (with_reducible exact ih0 _ _ _ _ _ _)
      | (with_reducible exact ih1 _ _ _ _ _ _ _)
      | (with_reducible exact impl_Row_apart.mono _ _ _)
      | (with_reducible exact impl_even.mono _ _ _)
      | (with_reducible exact LeO.refl _)
      | (with_reducible exact LeO.none _)
      | (with_reducible refine LeO.ite ?_ ?_)
      | (with_reducible refine LeO.bind ?_ (fun _ => ?_))
      | exact ih0 _ _ _ _ _ _
      | exact ih1 _ _ _ _ _ _ _
      | exact impl_Row_apart.mono _ _ _
      | exact impl_even.mono _ _ _
      | exact LeO.none _
      | refine LeO.ite ?_ ?_
      | refine LeO.bind ?_ (fun _ => ?_)
    · intro y0 y1 y2 y3 y4 y5 y6
      unfold impl_FitRow.l0
      repeat' first
      | (with_reducible exact ih0 _ _ _ _ _ _)
      | (with_reducible exact ih1 _ _ _ _ _ _ _)
      | (with_reducible exact impl_Row_apart.mono _ _ _)
      | (with_reducible exact impl_even.mono _ _ _)
      | (with_reducible exact LeO.refl _)
      | (with_reducible exact LeO.none _)
      | (with_reducible refine LeO.ite ?_ ?_)
      | (with_reducible refine LeO.bind ?_ (fun _ => ?_))
      | exact ih0 _ _ _ _ _ _
      | exact ih1 _ _ _ _ _ _ _
      | exact impl_Row_apart.mono _ _ _
      | exact impl_even.mono _ _ _
      | exact LeO.none _
      | refine LeO.ite ?_ ?_
      | refine LeO.bind ?_ (fun _ => ?_)
theorem impl_FitRow.mono : ∀ a0 a1 a2 a3 a4 k, LeO (impl_FitRow.f k a0 a1 a2 a3 a4) (impl_FitRow.f (k + 1) a0 a1 a2 a3 a4) := by
  intro a0 a1 a2 a3 a4 k
  obtain ⟨ih0, ih1⟩ := impl_FitRow.mono_l k
  unfold impl_FitRow.f
  repeat' first
      | (with_reducible exact ih0 _ _ _ _ _ _)
      | (with_reducible exact ih1 _ _ _ _ _ _ _)
      | (with_reducible exact impl_Row_apart.mono _ _ _)
      | (with_reducible exact impl_even.mono _ _ _)
      | (with_reducible exact LeO.refl _)
      | (with_reducible exact LeO.none _)
      | (with_reducible refine LeO.ite ?_ ?_)
      | (with_reducible refine LeO.bind ?_ (fun _ => ?_))
      | exact ih0 _ _ _ _ _ _
      | exact ih1 _ _ _ _ _ _ _
      | exact impl_Row_apart.mono _ _ _
      | exact impl_even.mono _ _ _
      | exact LeO.none _
      | refine LeO.ite ?_ ?_
      | refine LeO.bind ?_ (fun _ => ?_)
theorem impl_FitRow.eqn (a : Option Addr) (n c : Nat) (W : World) : (binOp .eql 26 (.slice a n c) (.slice none 0 0)).run Try.prog W = .ok (.bool a.isNone) W := by
  have h : ∀ d : Nat, (Op.equalIn (d + 1) 26 (.slice a n c) (.slice none 0 0)).run Try.prog W = .ok a.isNone W := fun d => by
    cases a <;> simp [Op.equalIn, run_underlying Try.underlying26]
  simp only [binOp]
  simp [Op.equal, Op.maxDepth, h 9999]
theorem impl_FitRow.nilq {w : World} {base : Nat} {ok : Nat → Prop} {v : Value} {xs : List Int} (h : Kd.R (Kd.int .i16) 48 w base ok v xs) (hn : xs = [] → v = .slice none 0 0) (W : World) : (binOp .eql 26 v (.slice none 0 0)).run Try.prog W = .ok (.bool ((xs.length : Int) == 0)) W := by
  cases xs with
  | nil => rw [hn rfl]; exact impl_FitRow.eqn none 0 0 W
  | cons x xs =>
    obtain ⟨g, cap, e, _⟩ := Kd.R_form h (by simp)
    rw [e, impl_FitRow.eqn, show (((x :: xs).length : Int) == 0) = false from by rw [beq_eq_false_iff_ne]; simp only [List.length_cons]; omega]
    rfl
theorem impl_FitRow.guardq {w : World} {base : Nat} {ok : Nat → Prop} {v : Value} {xs : List Int} (h : Kd.R (Kd.int .i16) 48 w base ok v xs) (x y : Operand) (W : World) : (eqGuard .eql 26 x y v (.slice none 0 0)).run Try.prog W = .ok () W := by
  obtain ⟨A, c, e⟩ := Kd.R_slice h
  subst e
  simp [eqGuard]
set_option maxHeartbeats 8000000 in
set_option maxRecDepth 100000 in
theorem impl_FitRow.calls (k : Nat) (a0 : Int) (a1 : Int) (a2 : Int) (a3 : Int) (a4 : Int) (r1 : List Int) (r2 : Int) (w : World) (h : impl_FitRow.f k a0 a1 a2 a3 a4 = some (r1, r2)) :
    Calls Try.prog 16 #[.int .i64 a0, .int .i64 a1, .int .i64 a2, .int .i64 a3, .int .i64 a4] w fun e w' => ∃ v0_ : Value, e = .returned (.tuple #[v0_, .int .i64 r2]) ∧ Kd.R (Kd.int .i16) 48 w' w.heap.size (fun _ => True) v0_ r1 ∧ Below w.heap.size w w' := by
  have HB := Aside0.mk (Below.refl w.heap.size w)
  have H : ((impl_isLong.f a0).bind fun t322 => (if t322 = true then ((impl_isSeam.f a1).bind fun t323 => (if t323 = true then ((impl_isWidth.f (([a2, a3, a4] : List Int))).bind fun t327 => (impl_FitRow.j0 k a0 a1 a2 a3 a4 (!t327))) else (impl_FitRow.j0 k a0 a1 a2 a3 a4 true))) else (impl_FitRow.j0 k a0 a1 a2 a3 a4 true))) = some (r1, r2) := h
  clear h
  have HC6 := Aside0.mk H
  clear H
  go_enter Try.func16, Try.ntmps16
  go_upto_region 1 with (fail)
  go_cut [16] (fun v16 wc => ∃ (kq : Nat) (x16_5 : Bool), v16 = .bool x16_5 ∧ Aside0 (impl_FitRow.j0 kq a0 a1 a2 a3 a4 x16_5 = some (r1, r2)) ∧ Aside0 (kq ≤ k) ∧ Aside0 (Below w.heap.size w wc))
  case first =>
    have H := HC6.out
    clear HC6
    replace H := Option.bind_eq_some_iff.mp H
    obtain ⟨t322, A70, H⟩ := H
    replace H : (if t322 = true then ((impl_isSeam.f a1).bind fun t323 => (if t323 = true then ((impl_isWidth.f (([a2, a3, a4] : List Int))).bind fun t327 => (impl_FitRow.j0 k a0 a1 a2 a3 a4 (!t327))) else (impl_FitRow.j0 k a0 a1 a2 a3 a4 true))) else (impl_FitRow.j0 k a0 a1 a2 a3 a4 true)) = some (r1, r2) := H
    have A7 := Aside0.mk A70
    clear A70
    by_cases c8 : t322 = true
    · subst c8
      have H1 : ((impl_isSeam.f a1).bind fun t323 => (if t323 = true then ((impl_isWidth.f (([a2, a3, a4] : List Int))).bind fun t327 => (impl_FitRow.j0 k a0 a1 a2 a3 a4 (!t327))) else (impl_FitRow.j0 k a0 a1 a2 a3 a4 true))) = some (r1, r2) := by rw [if_pos rfl] at H; exact H
      clear H
      have H := H1
      clear H1
      replace H := Option.bind_eq_some_iff.mp H
      obtain ⟨t323, A90, H⟩ := H
      replace H : (if t323 = true then ((impl_isWidth.f (([a2, a3, a4] : List Int))).bind fun t327 => (impl_FitRow.j0 k a0 a1 a2 a3 a4 (!t327))) else (impl_FitRow.j0 k a0 a1 a2 a3 a4 true)) = some (r1, r2) := H
      have A9 := Aside0.mk A90
      clear A90
      by_cases c10 : t323 = true
      · subst c10
        have H1 : ((impl_isWidth.f (([a2, a3, a4] : List Int))).bind fun t327 => (impl_FitRow.j0 k a0 a1 a2 a3 a4 (!t327))) = some (r1, r2) := by rw [if_pos rfl] at H; exact H
        clear H
        have H := H1
        clear H1
        obtain ⟨y324, hy324⟩ : ∃ y_ : List Int, y_ = (([a2, a3, a4] : List Int)) := ⟨_, rfl⟩
        replace H : ((impl_isWidth.f y324).bind fun t327 => (impl_FitRow.j0 k a0 a1 a2 a3 a4 (!t327))) = some (r1, r2) := by first | (rw [hy324]; with_reducible exact H) | (have H2_ := (Option.bind_some _ _).symm.trans H; rw [hy324]; with_reducible exact H2_) | (have H2_ := (Option.bind_some _ _).symm.trans H; with_reducible exact H2_) | with_reducible exact H | (rw [hy324]; exact H) | exact H
        have Ny324 := Aside0.mk hy324
        clear hy324
        replace H := Option.bind_eq_some_iff.mp H
        obtain ⟨t327, A110, H⟩ := H
        replace H : (impl_FitRow.j0 k a0 a1 a2 a3 a4 (!t327)) = some (r1, r2) := H
        have A11 := Aside0.mk A110
        clear A110
        have H' := Aside0.mk H
        clear H
        go_wp2_with (first | ((with_reducible refine gate_callee (f := 39) rfl ?_); refine goesL_ (some 18) rfl rfl Try.func39 (by kernel_rfl) rfl #[.int .i64 a0] rfl (by (try simp only [List.map_toArray, List.map_cons, List.map_nil]); first | done | rfl | (simp only [List.length_drop, List.length_take]; rfl)) ?_; (with_reducible refine (impl_isLong.calls a0 true _ A7.out).mono ?_); rintro e w' ⟨rfl, ⟨nd, rfl⟩⟩; refine ⟨_, rfl, ?_⟩) | (go_at_call 30; (with_reducible refine (impl_isSeam.calls a1 true _ A9.out).mono ?_); rintro e w' ⟨rfl, ⟨nd, rfl⟩⟩) | ((with_reducible refine gate_dst (N := 29) rfl ?_); (try (refine gate_guard (by rfl) ?_; dsimp only)); refine Kd.R_lit (Kd.int .i64) _ 2 ?hg (N := 29) ?hd (xs := ([a2, a3, a4] : List Int)) (inner := [.int .i64 a2, .int .i64 a3, .int .i64 a4]) (ok := fun _ => True) (okp := fun _ => True) ?hr ?hp (fun _ hk => hk) trivial (Below.refl _ _) (Nat.le_refl _) (by simp) ?_; (case hd => rfl); (case hg => rfl); (case hr => first | (go_simp; done) | (go_simp; rfl)); (case hp => exact (Reps.one (show Kd.M (Kd.int .i64) _ _ _ a2 [.int .i64 a2] from rfl) (Reps.one (show Kd.M (Kd.int .i64) _ _ _ a3 [.int .i64 a3] from rfl) (Reps.one (show Kd.M (Kd.int .i64) _ _ _ a4 [.int .i64 a4] from rfl) (Reps.none _ _))))); intro v325 w12 ho13 hb hg_ hnew_; clear hg_ hnew_; (first | rw [← Ny324.out] at ho13 | (simp only [Int.reduceToNat] at ho13; rw [← Ny324.out] at ho13)); have n0_ := Aside0.mk (Kd.R_lower ho13 (below_size (by repeat (first | (with_reducible first | exact HB.out | apply below_alloc | apply pw_below_drewN | apply below_drew1) | exact HB.out)))); have n1_ := Aside0.mk (below_step (by repeat (first | (with_reducible first | exact HB.out | apply below_alloc | apply pw_below_drewN | apply below_drew1) | exact HB.out)) hb); clear HB; have HO326 := n0_; have HB := n1_; clear n0_ n1_; clear hb ho13; obtain ⟨Ao14, co14, eo14⟩ := Kd.R_slice HO326.out; subst eo14) | (go_at_call 40; (with_reducible refine (impl_isWidth.calls _ _ y324 t327 _ ?side1 ?side2 A11.out).mono ?_); (case side1 => repeat (first | exact (Kd.R_reads' HO326.out).2.2 | (with_reducible refine Kd.C_alloc ?_ _) | (with_reducible refine Kd.C_drewN ?_ _) | (with_reducible refine Kd.C_drew ?_))); (case side2 => exact (Kd.R_reads' HO326.out).2.1); rintro e w' ⟨rfl, ⟨nd, rfl⟩⟩))
        go_meet
        case rel => exact ⟨_, (!t327), (by first | rfl | (simp; done) | (simp [*]; done)), H', ⟨by first | omega | exact Nat.le_refl _⟩, ⟨by repeat (first | (with_reducible first | exact HB.out | apply below_alloc | apply pw_below_drewN | apply below_drew1) | exact HB.out)⟩⟩
      · replace c10 := Bool.eq_false_iff.mpr c10
        subst c10
        have H1 : (impl_FitRow.j0 k a0 a1 a2 a3 a4 true) = some (r1, r2) := by rw [if_neg (show ¬ (false = true) by decide)] at H; exact H
        clear H
        have H := H1
        clear H1
        have H' := Aside0.mk H
        clear H
        go_wp2_with (first | ((with_reducible refine gate_callee (f := 39) rfl ?_); refine goesL_ (some 18) rfl rfl Try.func39 (by kernel_rfl) rfl #[.int .i64 a0] rfl (by (try simp only [List.map_toArray, List.map_cons, List.map_nil]); first | done | rfl | (simp only [List.length_drop, List.length_take]; rfl)) ?_; (with_reducible refine (impl_isLong.calls a0 true _ A7.out).mono ?_); rintro e w' ⟨rfl, ⟨nd, rfl⟩⟩; refine ⟨_, rfl, ?_⟩) | (go_at_call 30; (with_reducible refine (impl_isSeam.calls a1 false _ A9.out).mono ?_); rintro e w' ⟨rfl, ⟨nd, rfl⟩⟩))
        go_meet
        case rel => exact ⟨_, (true), (by first | rfl | (simp; done) | (simp [*]; done)), H', ⟨by first | omega | exact Nat.le_refl _⟩, ⟨by repeat (first | (with_reducible first | exact HB.out | apply below_alloc | apply pw_below_drewN | apply below_drew1) | exact HB.out)⟩⟩
    · replace c8 := Bool.eq_false_iff.mpr c8
      subst c8
      have H1 : (impl_FitRow.j0 k a0 a1 a2 a3 a4 true) = some (r1, r2) := by rw [if_neg (show ¬ (false = true) by decide)] at H; exact H
      clear H
      have H := H1
      clear H1
      have H' := Aside0.mk H
      clear H
      go_wp2_with (first | ((with_reducible refine gate_callee (f := 39) rfl ?_); refine goesL_ (some 18) rfl rfl Try.func39 (by kernel_rfl) rfl #[.int .i64 a0] rfl (by (try simp only [List.map_toArray, List.map_cons, List.map_nil]); first | done | rfl | (simp only [List.length_drop, List.length_take]; rfl)) ?_; (with_reducible refine (impl_isLong.calls a0 false _ A7.out).mono ?_); rintro e w' ⟨rfl, ⟨nd, rfl⟩⟩; refine ⟨_, rfl, ?_⟩))
      go_meet
      case rel => exact ⟨_, (true), (by first | rfl | (simp; done) | (simp [*]; done)), H', ⟨by first | omega | exact Nat.le_refl _⟩, ⟨by repeat (first | (with_reducible first | exact HB.out | apply below_alloc | apply pw_below_drewN | apply below_drew1) | exact HB.out)⟩⟩
  case rest =>
    clear HC6
    try clear c1
    try clear p2
    try clear c3
    try clear c8
    try clear c10
    obtain ⟨kq, x16_5, rfl, HA, HJ5, HB⟩ := hcut
    cases kq with
    | zero => exact absurd HA.out (by simp [impl_FitRow.j0])
    | succ kj5 =>
      have H := HA.out
      clear HA
      simp only [impl_FitRow.j0] at H
      by_cases c15 : x16_5 = true
      · subst c15
        have H1 : (some (([] : List Int), 2)) = some (r1, r2) := by rw [if_pos rfl] at H; exact H
        clear H
        have H := H1
        clear H1
        simp only [Option.some.injEq, Prod.mk.injEq] at H
        obtain ⟨rfl, rfl⟩ := H
        go_wp2
        go_ret2
        exact ⟨_, by first | rfl | (simp [errW_none, errW_some] <;> rfl) | (simp [*, errW_none, errW_some] <;> rfl), by first | exact Kd.R_nil _ _ _ _ _ | exact Kd.N_nil _ _ _ _ _ | exact Kd.V_nil _ _ _ _ _ | exact Kd.Q_nil _ _ _ _ _ | exact Kd.S_nil _ _ _ _ _, by repeat (first | (with_reducible first | exact HB.out | apply below_alloc | apply pw_below_drewN | apply below_drew1) | exact HB.out)⟩
      · replace c15 := Bool.eq_false_iff.mpr c15
        subst c15
        have H1 : (if a2 > a3 then (some (([] : List Int), 4)) else (impl_FitRow.l0 kj5 a0 a1 a2 a3 a4 ([] : List Int) 1)) = some (r1, r2) := by rw [if_neg (show ¬ (false = true) by decide)] at H; exact H
        clear H
        have H := H1
        clear H1
        by_cases c16 : a2 > a3
        · rw [if_pos c16] at H
          have c16b0 : decide (a3 < a2) = true := decide_eq_true c16
          clear c16
          simp only [Option.some.injEq, Prod.mk.injEq] at H
          obtain ⟨rfl, rfl⟩ := H
          go_wp2
          go_ret2
          exact ⟨_, by first | rfl | (simp [errW_none, errW_some] <;> rfl) | (simp [*, errW_none, errW_some] <;> rfl), by first | exact Kd.R_nil _ _ _ _ _ | exact Kd.N_nil _ _ _ _ _ | exact Kd.V_nil _ _ _ _ _ | exact Kd.Q_nil _ _ _ _ _ | exact Kd.S_nil _ _ _ _ _, by repeat (first | (with_reducible first | exact HB.out | apply below_alloc | apply pw_below_drewN | apply below_drew1) | exact HB.out)⟩
        · rw [if_neg c16] at H
          have c16b0 : decide (a3 < a2) = false := decide_eq_false c16
          clear c16
          have H' := Aside0.mk H
          clear H
          go_wp2
          go_loopg [12, 13] kj5 (fun kq v12 v13 w' => ∃ (x12_2 : List Int) (x13_2 : Int), v13 = .int .i64 x13_2 ∧ Aside0 (impl_FitRow.l0 kq a0 a1 a2 a3 a4 x12_2 x13_2 = some (r1, r2)) ∧ Aside0 (kq ≤ kj5) ∧ Aside0 (Kd.R (Kd.int .i16) 48 w' w.heap.size (fun _ => True) v12 x12_2) ∧ Aside0 (Below w.heap.size w w') ∧ Aside0 (x12_2 = [] → v12 = .slice none 0 0))
          case atStart => exact ⟨(([] : List Int)), (1), (by first | rfl | (simp; done) | (simp [*]; done)), H', ⟨Nat.le_refl _⟩, ⟨by first | exact Kd.R_nil _ _ _ _ _ | exact Kd.N_nil _ _ _ _ _ | exact Kd.V_nil _ _ _ _ _ | exact Kd.Q_nil _ _ _ _ _ | exact Kd.S_nil _ _ _ _ _⟩, ⟨by repeat (first | (with_reducible first | exact HB.out | apply below_alloc | apply pw_below_drewN | apply below_drew1) | exact HB.out)⟩, ⟨fun _ => rfl⟩⟩
          case round =>
            clear H'
            try clear c1
            try clear p2
            try clear c3
            try clear c8
            try clear c10
            try clear c15
            try clear c16
            try clear c16b0
            try clear p2
            obtain ⟨x12_2, x13_2, rfl, HA, HK2, HO_12, HB, HN12⟩ := hrel
            have HE12 := impl_FitRow.nilq HO_12.out HN12.out
            have HG12 := impl_FitRow.guardq HO_12.out
            cases gk with
            | zero => exact absurd HA.out (by simp [impl_FitRow.l0])
            | succ k2 =>
              have H := HA.out
              clear HA
              simp only [impl_FitRow.l0] at H
              by_cases c17 : x13_2 ≤ 60
              · rw [if_pos c17] at H
                have c17b0 : decide (x13_2 ≤ 60) = true := decide_eq_true c17
                clear c17
                replace H := Option.bind_eq_some_iff.mp H
                obtain ⟨⟨t328, t329⟩, A180, H⟩ := H
                replace H : (if t329 = true then ((impl_Row_isBetween.f t328 a2 a3).bind fun t332 => (if t332 = true then (if (x12_2.length : Int) = 0 then (if (t328.length : Int) = 0 then none else (impl_FitRow.l0 k2 a0 a1 a2 a3 a4 t328 (wrap64 (x13_2 + 1)))) else ((impl_Row_apart.f k2 t328 a4).bind fun t333 => ((impl_Row_apart.f k2 x12_2 a4).bind fun t334 => (if t333 < t334 then (if (t328.length : Int) = 0 then none else (impl_FitRow.l0 k2 a0 a1 a2 a3 a4 t328 (wrap64 (x13_2 + 1)))) else (impl_FitRow.l0 k2 a0 a1 a2 a3 a4 x12_2 (wrap64 (x13_2 + 1))))))) else (impl_FitRow.l0 k2 a0 a1 a2 a3 a4 x12_2 (wrap64 (x13_2 + 1))))) else (impl_FitRow.l0 k2 a0 a1 a2 a3 a4 x12_2 (wrap64 (x13_2 + 1)))) = some (r1, r2) := H
                have A18 := Aside0.mk A180
                clear A180
                by_cases c19 : t329 = true
                · subst c19
                  have H1 : ((impl_Row_isBetween.f t328 a2 a3).bind fun t332 => (if t332 = true then (if (x12_2.length : Int) = 0 then (if (t328.length : Int) = 0 then none else (impl_FitRow.l0 k2 a0 a1 a2 a3 a4 t328 (wrap64 (x13_2 + 1)))) else ((impl_Row_apart.f k2 t328 a4).bind fun t333 => ((impl_Row_apart.f k2 x12_2 a4).bind fun t334 => (if t333 < t334 then (if (t328.length : Int) = 0 then none else (impl_FitRow.l0 k2 a0 a1 a2 a3 a4 t328 (wrap64 (x13_2 + 1)))) else (impl_FitRow.l0 k2 a0 a1 a2 a3 a4 x12_2 (wrap64 (x13_2 + 1))))))) else (impl_FitRow.l0 k2 a0 a1 a2 a3 a4 x12_2 (wrap64 (x13_2 + 1))))) = some (r1, r2) := by rw [if_pos rfl] at H; exact H
                  clear H
                  have H := H1
                  clear H1
                  replace H := Option.bind_eq_some_iff.mp H
                  obtain ⟨t332, A200, H⟩ := H
                  replace H : (if t332 = true then (if (x12_2.length : Int) = 0 then (if (t328.length : Int) = 0 then none else (impl_FitRow.l0 k2 a0 a1 a2 a3 a4 t328 (wrap64 (x13_2 + 1)))) else ((impl_Row_apart.f k2 t328 a4).bind fun t333 => ((impl_Row_apart.f k2 x12_2 a4).bind fun t334 => (if t333 < t334 then (if (t328.length : Int) = 0 then none else (impl_FitRow.l0 k2 a0 a1 a2 a3 a4 t328 (wrap64 (x13_2 + 1)))) else (impl_FitRow.l0 k2 a0 a1 a2 a3 a4 x12_2 (wrap64 (x13_2 + 1))))))) else (impl_FitRow.l0 k2 a0 a1 a2 a3 a4 x12_2 (wrap64 (x13_2 + 1)))) = some (r1, r2) := H
                  have A20 := Aside0.mk A200
                  clear A200
                  by_cases c21 : t332 = true
                  · subst c21
                    have H1 : (if (x12_2.length : Int) = 0 then (if (t328.length : Int) = 0 then none else (impl_FitRow.l0 k2 a0 a1 a2 a3 a4 t328 (wrap64 (x13_2 + 1)))) else ((impl_Row_apart.f k2 t328 a4).bind fun t333 => ((impl_Row_apart.f k2 x12_2 a4).bind fun t334 => (if t333 < t334 then (if (t328.length : Int) = 0 then none else (impl_FitRow.l0 k2 a0 a1 a2 a3 a4 t328 (wrap64 (x13_2 + 1)))) else (impl_FitRow.l0 k2 a0 a1 a2 a3 a4 x12_2 (wrap64 (x13_2 + 1))))))) = some (r1, r2) := by rw [if_pos rfl] at H; exact H
                    clear H
                    have H := H1
                    clear H1
                    by_cases c22 : (x12_2.length : Int) = 0
                    · rw [if_pos c22] at H
                      have c22b0 : ((x12_2.length : Int) == 0) = true := beq_iff_eq.mpr c22
                      have c22b1 : ((x12_2.length : Int) != 0) = false := bne_eq_false_iff_eq.mpr c22
                      clear c22
                      have NE_t328 : ¬ (t328.length : Int) = 0 := fun h_ => by rw [if_pos h_] at H; cases H
                      rw [if_neg NE_t328] at H
                      have H' := Aside0.mk H
                      clear H
                      go_wp2_with (first | ((with_reducible refine gate_callee (f := 41) rfl ?_); refine goesL_ (some 49) rfl rfl Try.func41 (by kernel_rfl) rfl #[.int .i64 (wrap64 (a0 - (wrap64 ((wrap64 (x13_2 - 1)) * a1)))), .int .i64 x13_2] rfl (by (try simp only [List.map_toArray, List.map_cons, List.map_nil]); first | done | rfl | (simp only [List.length_drop, List.length_take]; rfl)) ?_; (with_reducible refine (impl_even.calls k2 (wrap64 (a0 - (wrap64 ((wrap64 (x13_2 - 1)) * a1)))) x13_2 t328 true _ A18.out).mono ?_); rintro e w23 ⟨v330, rfl, ho0, hb⟩; refine ⟨_, rfl, ?_⟩; have n0_ := Aside0.mk (Kd.R_elder' (by (with_reducible repeat (first | apply Kd.R_alloc | apply Kd.R_drewN | apply Kd.R_drew)); exact HO_12.out) (Kd.R_base ho0) hb); have n1_ := Aside0.mk (Kd.R_lower (Kd.R_new' ho0 (Kd.R_lt (by (with_reducible repeat (first | apply Kd.R_alloc | apply Kd.R_drewN | apply Kd.R_drew)); exact HO_12.out))) (below_size (by repeat (first | (with_reducible first | exact HB.out | apply below_alloc | apply pw_below_drewN | apply below_drew1) | exact HB.out)))); have n2_ := Aside0.mk (below_step (by repeat (first | (with_reducible first | exact HB.out | apply below_alloc | apply pw_below_drewN | apply below_drew1) | exact HB.out)) hb); clear HO_12; clear HB; have HO_12 := n0_; have HO331 := n1_; have HB := n2_; clear n0_ n1_ n2_; (try clear hb); (try clear hb2); (try clear hk); (try clear hi); (try clear ho0); obtain ⟨Ao24, co24, eo24⟩ := Kd.R_slice HO331.out; subst eo24) | (go_at_call 42; (with_reducible refine (impl_Row_isBetween.calls _ _ t328 a2 a3 true _ ?side1 ?side2 A20.out).mono ?_); (case side1 => repeat (first | exact (Kd.R_reads' HO331.out).2.2 | (with_reducible refine Kd.C_alloc ?_ _) | (with_reducible refine Kd.C_drewN ?_ _) | (with_reducible refine Kd.C_drew ?_))); (case side2 => exact (Kd.R_reads' HO331.out).2.1); rintro e w25 ⟨rfl, hb⟩; have n0_ := Aside0.mk (Kd.R_below (by (with_reducible repeat (first | apply Kd.R_alloc | apply Kd.R_drewN | apply Kd.R_drew)); exact HO_12.out) hb); have n1_ := Aside0.mk (Kd.R_below (by (with_reducible repeat (first | apply Kd.R_alloc | apply Kd.R_drewN | apply Kd.R_drew)); exact HO331.out) hb); have n2_ := Aside0.mk (below_step (by repeat (first | (with_reducible first | exact HB.out | apply below_alloc | apply pw_below_drewN | apply below_drew1) | exact HB.out)) hb); clear HO_12; clear HO331; clear HB; have HO_12 := n0_; have HO331 := n1_; have HB := n2_; clear n0_ n1_ n2_; (try clear hb); (try clear hb2); (try clear hk); (try clear hi)))
                      go_roundg k2
                      case measure => have := HJ5.out; have := HK2.out; omega
                      case rel => exact ⟨(t328), (wrap64 (x13_2 + 1)), (by first | rfl | (simp; done) | (simp [*]; done)), H', ⟨by have := HJ5.out; have := HK2.out; omega⟩, ⟨by (with_reducible repeat (first | apply Kd.R_alloc | apply Kd.R_drewN | apply Kd.R_drew)); exact Kd.R_mono HO331.out (fun _ hk => trivial)⟩, ⟨by repeat (first | (with_reducible first | exact HB.out | apply below_alloc | apply pw_below_drewN | apply below_drew1) | exact HB.out)⟩, ⟨fun h_ => absurd (by rw [h_]; rfl) NE_t328⟩⟩
                    · rw [if_neg c22] at H
                      have c22b0 : ((x12_2.length : Int) == 0) = false := beq_eq_false_iff_ne.mpr c22
                      have c22b1 : ((x12_2.length : Int) != 0) = true := bne_iff_ne.mpr c22
                      have c22b2 : ¬ (x12_2 = []) := fun h_ => c22 (by rw [h_]; rfl)
                      replace H := Option.bind_eq_some_iff.mp H
                      obtain ⟨t333, A260, H⟩ := H
                      replace H : ((impl_Row_apart.f k2 x12_2 a4).bind fun t334 => (if t333 < t334 then (if (t328.length : Int) = 0 then none else (impl_FitRow.l0 k2 a0 a1 a2 a3 a4 t328 (wrap64 (x13_2 + 1)))) else (impl_FitRow.l0 k2 a0 a1 a2 a3 a4 x12_2 (wrap64 (x13_2 + 1))))) = some (r1, r2) := H
                      have A26 := Aside0.mk A260
                      clear A260
                      replace H := Option.bind_eq_some_iff.mp H
                      obtain ⟨t334, A270, H⟩ := H
                      replace H : (if t333 < t334 then (if (t328.length : Int) = 0 then none else (impl_FitRow.l0 k2 a0 a1 a2 a3 a4 t328 (wrap64 (x13_2 + 1)))) else (impl_FitRow.l0 k2 a0 a1 a2 a3 a4 x12_2 (wrap64 (x13_2 + 1)))) = some (r1, r2) := H
                      have A27 := Aside0.mk A270
                      clear A270
                      by_cases c28 : t333 < t334
                      · rw [if_pos c28] at H
                        have c28b0 : decide (t333 < t334) = true := decide_eq_true c28
                        clear c28
                        have NE_t328 : ¬ (t328.length : Int) = 0 := fun h_ => by rw [if_pos h_] at H; cases H
                        rw [if_neg NE_t328] at H
                        have H' := Aside0.mk H
                        clear H
                        go_wp2_with (first | ((with_reducible refine gate_callee (f := 41) rfl ?_); refine goesL_ (some 49) rfl rfl Try.func41 (by kernel_rfl) rfl #[.int .i64 (wrap64 (a0 - (wrap64 ((wrap64 (x13_2 - 1)) * a1)))), .int .i64 x13_2] rfl (by (try simp only [List.map_toArray, List.map_cons, List.map_nil]); first | done | rfl | (simp only [List.length_drop, List.length_take]; rfl)) ?_; (with_reducible refine (impl_even.calls k2 (wrap64 (a0 - (wrap64 ((wrap64 (x13_2 - 1)) * a1)))) x13_2 t328 true _ A18.out).mono ?_); rintro e w29 ⟨v330, rfl, ho0, hb⟩; refine ⟨_, rfl, ?_⟩; have n0_ := Aside0.mk (Kd.R_elder' (by (with_reducible repeat (first | apply Kd.R_alloc | apply Kd.R_drewN | apply Kd.R_drew)); exact HO_12.out) (Kd.R_base ho0) hb); have n1_ := Aside0.mk (Kd.R_lower (Kd.R_new' ho0 (Kd.R_lt (by (with_reducible repeat (first | apply Kd.R_alloc | apply Kd.R_drewN | apply Kd.R_drew)); exact HO_12.out))) (below_size (by repeat (first | (with_reducible first | exact HB.out | apply below_alloc | apply pw_below_drewN | apply below_drew1) | exact HB.out)))); have n2_ := Aside0.mk (below_step (by repeat (first | (with_reducible first | exact HB.out | apply below_alloc | apply pw_below_drewN | apply below_drew1) | exact HB.out)) hb); clear HO_12; clear HB; have HO_12 := n0_; have HO331 := n1_; have HB := n2_; clear n0_ n1_ n2_; (try clear hb); (try clear hb2); (try clear hk); (try clear hi); (try clear ho0); obtain ⟨Ao30, co30, eo30⟩ := Kd.R_slice HO331.out; subst eo30) | (go_at_call 42; (with_reducible refine (impl_Row_isBetween.calls _ _ t328 a2 a3 true _ ?side1 ?side2 A20.out).mono ?_); (case side1 => repeat (first | exact (Kd.R_reads' HO331.out).2.2 | (with_reducible refine Kd.C_alloc ?_ _) | (with_reducible refine Kd.C_drewN ?_ _) | (with_reducible refine Kd.C_drew ?_))); (case side2 => exact (Kd.R_reads' HO331.out).2.1); rintro e w31 ⟨rfl, hb⟩; have n0_ := Aside0.mk (Kd.R_below (by (with_reducible repeat (first | apply Kd.R_alloc | apply Kd.R_drewN | apply Kd.R_drew)); exact HO_12.out) hb); have n1_ := Aside0.mk (Kd.R_below (by (with_reducible repeat (first | apply Kd.R_alloc | apply Kd.R_drewN | apply Kd.R_drew)); exact HO331.out) hb); have n2_ := Aside0.mk (below_step (by repeat (first | (with_reducible first | exact HB.out | apply below_alloc | apply pw_below_drewN | apply below_drew1) | exact HB.out)) hb); clear HO_12; clear HO331; clear HB; have HO_12 := n0_; have HO331 := n1_; have HB := n2_; clear n0_ n1_ n2_; (try clear hb); (try clear hb2); (try clear hk); (try clear hi)) | (go_at_call 43; (with_reducible refine (impl_Row_apart.calls k2 _ _ t328 a4 t333 _ ?side1 ?side2 A26.out).mono ?_); (case side1 => repeat (first | exact (Kd.R_reads' HO331.out).2.2 | (with_reducible refine Kd.C_alloc ?_ _) | (with_reducible refine Kd.C_drewN ?_ _) | (with_reducible refine Kd.C_drew ?_))); (case side2 => exact (Kd.R_reads' HO331.out).2.1); rintro e w32 ⟨rfl, hb⟩; have n0_ := Aside0.mk (Kd.R_below (by (with_reducible repeat (first | apply Kd.R_alloc | apply Kd.R_drewN | apply Kd.R_drew)); exact HO_12.out) hb); have n1_ := Aside0.mk (Kd.R_below (by (with_reducible repeat (first | apply Kd.R_alloc | apply Kd.R_drewN | apply Kd.R_drew)); exact HO331.out) hb); have n2_ := Aside0.mk (below_step (by repeat (first | (with_reducible first | exact HB.out | apply below_alloc | apply pw_below_drewN | apply below_drew1) | exact HB.out)) hb); clear HO_12; clear HO331; clear HB; have HO_12 := n0_; have HO331 := n1_; have HB := n2_; clear n0_ n1_ n2_; (try clear hb); (try clear hb2); (try clear hk); (try clear hi); obtain ⟨Ao33, co33, eo33⟩ := Kd.R_slice HO_12.out; subst eo33) | (go_at_call 43; (with_reducible refine (impl_Row_apart.calls k2 _ _ x12_2 a4 t334 _ ?side1 ?side2 A27.out).mono ?_); (case side1 => repeat (first | exact (Kd.R_reads' HO_12.out).2.2 | (with_reducible refine Kd.C_alloc ?_ _) | (with_reducible refine Kd.C_drewN ?_ _) | (with_reducible refine Kd.C_drew ?_))); (case side2 => exact (Kd.R_reads' HO_12.out).2.1); rintro e w34 ⟨rfl, hb⟩; have n0_ := Aside0.mk (Kd.R_below (by (with_reducible repeat (first | apply Kd.R_alloc | apply Kd.R_drewN | apply Kd.R_drew)); exact HO_12.out) hb); have n1_ := Aside0.mk (Kd.R_below (by (with_reducible repeat (first | apply Kd.R_alloc | apply Kd.R_drewN | apply Kd.R_drew)); exact HO331.out) hb); have n2_ := Aside0.mk (below_step (by repeat (first | (with_reducible first | exact HB.out | apply below_alloc | apply pw_below_drewN | apply below_drew1) | exact HB.out)) hb); clear HO_12; clear HO331; clear HB; have HO_12 := n0_; have HO331 := n1_; have HB := n2_; clear n0_ n1_ n2_; (try clear hb); (try clear hb2); (try clear hk); (try clear hi)))
                        go_roundg k2
                        case measure => have := HJ5.out; have := HK2.out; omega
                        case rel => exact ⟨(t328), (wrap64 (x13_2 + 1)), (by first | rfl | (simp; done) | (simp [*]; done)), H', ⟨by have := HJ5.out; have := HK2.out; omega⟩, ⟨by (with_reducible repeat (first | apply Kd.R_alloc | apply Kd.R_drewN | apply Kd.R_drew)); exact Kd.R_mono HO331.out (fun _ hk => trivial)⟩, ⟨by repeat (first | (with_reducible first | exact HB.out | apply below_alloc | apply pw_below_drewN | apply below_drew1) | exact HB.out)⟩, ⟨fun h_ => absurd (by rw [h_]; rfl) NE_t328⟩⟩
                      · rw [if_neg c28] at H
                        have c28b0 : decide (t333 < t334) = false := decide_eq_false c28
                        clear c28
                        have H' := Aside0.mk H
                        clear H
                        go_wp2_with (first | ((with_reducible refine gate_callee (f := 41) rfl ?_); refine goesL_ (some 49) rfl rfl Try.func41 (by kernel_rfl) rfl #[.int .i64 (wrap64 (a0 - (wrap64 ((wrap64 (x13_2 - 1)) * a1)))), .int .i64 x13_2] rfl (by (try simp only [List.map_toArray, List.map_cons, List.map_nil]); first | done | rfl | (simp only [List.length_drop, List.length_take]; rfl)) ?_; (with_reducible refine (impl_even.calls k2 (wrap64 (a0 - (wrap64 ((wrap64 (x13_2 - 1)) * a1)))) x13_2 t328 true _ A18.out).mono ?_); rintro e w35 ⟨v330, rfl, ho0, hb⟩; refine ⟨_, rfl, ?_⟩; have n0_ := Aside0.mk (Kd.R_elder' (by (with_reducible repeat (first | apply Kd.R_alloc | apply Kd.R_drewN | apply Kd.R_drew)); exact HO_12.out) (Kd.R_base ho0) hb); have n1_ := Aside0.mk (Kd.R_lower (Kd.R_new' ho0 (Kd.R_lt (by (with_reducible repeat (first | apply Kd.R_alloc | apply Kd.R_drewN | apply Kd.R_drew)); exact HO_12.out))) (below_size (by repeat (first | (with_reducible first | exact HB.out | apply below_alloc | apply pw_below_drewN | apply below_drew1) | exact HB.out)))); have n2_ := Aside0.mk (below_step (by repeat (first | (with_reducible first | exact HB.out | apply below_alloc | apply pw_below_drewN | apply below_drew1) | exact HB.out)) hb); clear HO_12; clear HB; have HO_12 := n0_; have HO331 := n1_; have HB := n2_; clear n0_ n1_ n2_; (try clear hb); (try clear hb2); (try clear hk); (try clear hi); (try clear ho0); obtain ⟨Ao36, co36, eo36⟩ := Kd.R_slice HO331.out; subst eo36) | (go_at_call 42; (with_reducible refine (impl_Row_isBetween.calls _ _ t328 a2 a3 true _ ?side1 ?side2 A20.out).mono ?_); (case side1 => repeat (first | exact (Kd.R_reads' HO331.out).2.2 | (with_reducible refine Kd.C_alloc ?_ _) | (with_reducible refine Kd.C_drewN ?_ _) | (with_reducible refine Kd.C_drew ?_))); (case side2 => exact (Kd.R_reads' HO331.out).2.1); rintro e w37 ⟨rfl, hb⟩; have n0_ := Aside0.mk (Kd.R_below (by (with_reducible repeat (first | apply Kd.R_alloc | apply Kd.R_drewN | apply Kd.R_drew)); exact HO_12.out) hb); have n1_ := Aside0.mk (Kd.R_below (by (with_reducible repeat (first | apply Kd.R_alloc | apply Kd.R_drewN | apply Kd.R_drew)); exact HO331.out) hb); have n2_ := Aside0.mk (below_step (by repeat (first | (with_reducible first | exact HB.out | apply below_alloc | apply pw_below_drewN | apply below_drew1) | exact HB.out)) hb); clear HO_12; clear HO331; clear HB; have HO_12 := n0_; have HO331 := n1_; have HB := n2_; clear n0_ n1_ n2_; (try clear hb); (try clear hb2); (try clear hk); (try clear hi)) | (go_at_call 43; (with_reducible refine (impl_Row_apart.calls k2 _ _ t328 a4 t333 _ ?side1 ?side2 A26.out).mono ?_); (case side1 => repeat (first | exact (Kd.R_reads' HO331.out).2.2 | (with_reducible refine Kd.C_alloc ?_ _) | (with_reducible refine Kd.C_drewN ?_ _) | (with_reducible refine Kd.C_drew ?_))); (case side2 => exact (Kd.R_reads' HO331.out).2.1); rintro e w38 ⟨rfl, hb⟩; have n0_ := Aside0.mk (Kd.R_below (by (with_reducible repeat (first | apply Kd.R_alloc | apply Kd.R_drewN | apply Kd.R_drew)); exact HO_12.out) hb); have n1_ := Aside0.mk (Kd.R_below (by (with_reducible repeat (first | apply Kd.R_alloc | apply Kd.R_drewN | apply Kd.R_drew)); exact HO331.out) hb); have n2_ := Aside0.mk (below_step (by repeat (first | (with_reducible first | exact HB.out | apply below_alloc | apply pw_below_drewN | apply below_drew1) | exact HB.out)) hb); clear HO_12; clear HO331; clear HB; have HO_12 := n0_; have HO331 := n1_; have HB := n2_; clear n0_ n1_ n2_; (try clear hb); (try clear hb2); (try clear hk); (try clear hi); obtain ⟨Ao39, co39, eo39⟩ := Kd.R_slice HO_12.out; subst eo39) | (go_at_call 43; (with_reducible refine (impl_Row_apart.calls k2 _ _ x12_2 a4 t334 _ ?side1 ?side2 A27.out).mono ?_); (case side1 => repeat (first | exact (Kd.R_reads' HO_12.out).2.2 | (with_reducible refine Kd.C_alloc ?_ _) | (with_reducible refine Kd.C_drewN ?_ _) | (with_reducible refine Kd.C_drew ?_))); (case side2 => exact (Kd.R_reads' HO_12.out).2.1); rintro e w40 ⟨rfl, hb⟩; have n0_ := Aside0.mk (Kd.R_below (by (with_reducible repeat (first | apply Kd.R_alloc | apply Kd.R_drewN | apply Kd.R_drew)); exact HO_12.out) hb); have n1_ := Aside0.mk (Kd.R_below (by (with_reducible repeat (first | apply Kd.R_alloc | apply Kd.R_drewN | apply Kd.R_drew)); exact HO331.out) hb); have n2_ := Aside0.mk (below_step (by repeat (first | (with_reducible first | exact HB.out | apply below_alloc | apply pw_below_drewN | apply below_drew1) | exact HB.out)) hb); clear HO_12; clear HO331; clear HB; have HO_12 := n0_; have HO331 := n1_; have HB := n2_; clear n0_ n1_ n2_; (try clear hb); (try clear hb2); (try clear hk); (try clear hi)))
                        go_roundg k2
                        case measure => have := HJ5.out; have := HK2.out; omega
                        case rel => exact ⟨(x12_2), (wrap64 (x13_2 + 1)), (by first | rfl | (simp; done) | (simp [*]; done)), H', ⟨by have := HJ5.out; have := HK2.out; omega⟩, ⟨by (with_reducible repeat (first | apply Kd.R_alloc | apply Kd.R_drewN | apply Kd.R_drew)); exact Kd.R_mono HO_12.out (fun _ hk => trivial)⟩, ⟨by repeat (first | (with_reducible first | exact HB.out | apply below_alloc | apply pw_below_drewN | apply below_drew1) | exact HB.out)⟩, HN12⟩
                  · replace c21 := Bool.eq_false_iff.mpr c21
                    subst c21
                    have H1 : (impl_FitRow.l0 k2 a0 a1 a2 a3 a4 x12_2 (wrap64 (x13_2 + 1))) = some (r1, r2) := by rw [if_neg (show ¬ (false = true) by decide)] at H; exact H
                    clear H
                    have H := H1
                    clear H1
                    have H' := Aside0.mk H
                    clear H
                    go_wp2_with (first | ((with_reducible refine gate_callee (f := 41) rfl ?_); refine goesL_ (some 49) rfl rfl Try.func41 (by kernel_rfl) rfl #[.int .i64 (wrap64 (a0 - (wrap64 ((wrap64 (x13_2 - 1)) * a1)))), .int .i64 x13_2] rfl (by (try simp only [List.map_toArray, List.map_cons, List.map_nil]); first | done | rfl | (simp only [List.length_drop, List.length_take]; rfl)) ?_; (with_reducible refine (impl_even.calls k2 (wrap64 (a0 - (wrap64 ((wrap64 (x13_2 - 1)) * a1)))) x13_2 t328 true _ A18.out).mono ?_); rintro e w41 ⟨v330, rfl, ho0, hb⟩; refine ⟨_, rfl, ?_⟩; have n0_ := Aside0.mk (Kd.R_elder' (by (with_reducible repeat (first | apply Kd.R_alloc | apply Kd.R_drewN | apply Kd.R_drew)); exact HO_12.out) (Kd.R_base ho0) hb); have n1_ := Aside0.mk (Kd.R_lower (Kd.R_new' ho0 (Kd.R_lt (by (with_reducible repeat (first | apply Kd.R_alloc | apply Kd.R_drewN | apply Kd.R_drew)); exact HO_12.out))) (below_size (by repeat (first | (with_reducible first | exact HB.out | apply below_alloc | apply pw_below_drewN | apply below_drew1) | exact HB.out)))); have n2_ := Aside0.mk (below_step (by repeat (first | (with_reducible first | exact HB.out | apply below_alloc | apply pw_below_drewN | apply below_drew1) | exact HB.out)) hb); clear HO_12; clear HB; have HO_12 := n0_; have HO331 := n1_; have HB := n2_; clear n0_ n1_ n2_; (try clear hb); (try clear hb2); (try clear hk); (try clear hi); (try clear ho0); obtain ⟨Ao42, co42, eo42⟩ := Kd.R_slice HO331.out; subst eo42) | (go_at_call 42; (with_reducible refine (impl_Row_isBetween.calls _ _ t328 a2 a3 false _ ?side1 ?side2 A20.out).mono ?_); (case side1 => repeat (first | exact (Kd.R_reads' HO331.out).2.2 | (with_reducible refine Kd.C_alloc ?_ _) | (with_reducible refine Kd.C_drewN ?_ _) | (with_reducible refine Kd.C_drew ?_))); (case side2 => exact (Kd.R_reads' HO331.out).2.1); rintro e w43 ⟨rfl, hb⟩; have n0_ := Aside0.mk (Kd.R_below (by (with_reducible repeat (first | apply Kd.R_alloc | apply Kd.R_drewN | apply Kd.R_drew)); exact HO_12.out) hb); have n1_ := Aside0.mk (Kd.R_below (by (with_reducible repeat (first | apply Kd.R_alloc | apply Kd.R_drewN | apply Kd.R_drew)); exact HO331.out) hb); have n2_ := Aside0.mk (below_step (by repeat (first | (with_reducible first | exact HB.out | apply below_alloc | apply pw_below_drewN | apply below_drew1) | exact HB.out)) hb); clear HO_12; clear HO331; clear HB; have HO_12 := n0_; have HO331 := n1_; have HB := n2_; clear n0_ n1_ n2_; (try clear hb); (try clear hb2); (try clear hk); (try clear hi)))
                    go_roundg k2
                    case measure => have := HJ5.out; have := HK2.out; omega
                    case rel => exact ⟨(x12_2), (wrap64 (x13_2 + 1)), (by first | rfl | (simp; done) | (simp [*]; done)), H', ⟨by have := HJ5.out; have := HK2.out; omega⟩, ⟨by (with_reducible repeat (first | apply Kd.R_alloc | apply Kd.R_drewN | apply Kd.R_drew)); exact Kd.R_mono HO_12.out (fun _ hk => trivial)⟩, ⟨by repeat (first | (with_reducible first | exact HB.out | apply below_alloc | apply pw_below_drewN | apply below_drew1) | exact HB.out)⟩, HN12⟩
                · replace c19 := Bool.eq_false_iff.mpr c19
                  subst c19
                  have H1 : (impl_FitRow.l0 k2 a0 a1 a2 a3 a4 x12_2 (wrap64 (x13_2 + 1))) = some (r1, r2) := by rw [if_neg (show ¬ (false = true) by decide)] at H; exact H
                  clear H
                  have H := H1
                  clear H1
                  have H' := Aside0.mk H
                  clear H
                  go_wp2_with (first | ((with_reducible refine gate_callee (f := 41) rfl ?_); refine goesL_ (some 49) rfl rfl Try.func41 (by kernel_rfl) rfl #[.int .i64 (wrap64 (a0 - (wrap64 ((wrap64 (x13_2 - 1)) * a1)))), .int .i64 x13_2] rfl (by (try simp only [List.map_toArray, List.map_cons, List.map_nil]); first | done | rfl | (simp only [List.length_drop, List.length_take]; rfl)) ?_; (with_reducible refine (impl_even.calls k2 (wrap64 (a0 - (wrap64 ((wrap64 (x13_2 - 1)) * a1)))) x13_2 t328 false _ A18.out).mono ?_); rintro e w44 ⟨v330, rfl, ho0, hb⟩; refine ⟨_, rfl, ?_⟩; have n0_ := Aside0.mk (Kd.R_elder' (by (with_reducible repeat (first | apply Kd.R_alloc | apply Kd.R_drewN | apply Kd.R_drew)); exact HO_12.out) (Kd.R_base ho0) hb); have n1_ := Aside0.mk (Kd.R_lower (Kd.R_new' ho0 (Kd.R_lt (by (with_reducible repeat (first | apply Kd.R_alloc | apply Kd.R_drewN | apply Kd.R_drew)); exact HO_12.out))) (below_size (by repeat (first | (with_reducible first | exact HB.out | apply below_alloc | apply pw_below_drewN | apply below_drew1) | exact HB.out)))); have n2_ := Aside0.mk (below_step (by repeat (first | (with_reducible first | exact HB.out | apply below_alloc | apply pw_below_drewN | apply below_drew1) | exact HB.out)) hb); clear HO_12; clear HB; have HO_12 := n0_; have HO331 := n1_; have HB := n2_; clear n0_ n1_ n2_; (try clear hb); (try clear hb2); (try clear hk); (try clear hi); (try clear ho0)))
                  go_roundg k2
                  case measure => have := HJ5.out; have := HK2.out; omega
                  case rel => exact ⟨(x12_2), (wrap64 (x13_2 + 1)), (by first | rfl | (simp; done) | (simp [*]; done)), H', ⟨by have := HJ5.out; have := HK2.out; omega⟩, ⟨by (with_reducible repeat (first | apply Kd.R_alloc | apply Kd.R_drewN | apply Kd.R_drew)); exact Kd.R_mono HO_12.out (fun _ hk => trivial)⟩, ⟨by repeat (first | (with_reducible first | exact HB.out | apply below_alloc | apply pw_below_drewN | apply below_drew1) | exact HB.out)⟩, HN12⟩
              · rw [if_neg c17] at H
                have c17b0 : decide (x13_2 ≤ 60) = false := decide_eq_false c17
                clear c17
                by_cases c45 : (x12_2.length : Int) = 0
                · rw [if_pos c45] at H
                  have c45b0 : ((x12_2.length : Int) == 0) = true := beq_iff_eq.mpr c45
                  have c45b1 : ((x12_2.length : Int) != 0) = false := bne_eq_false_iff_eq.mpr c45
                  clear c45
                  simp only [Option.some.injEq, Prod.mk.injEq] at H
                  obtain ⟨rfl, rfl⟩ := H
                  go_wp2
                  go_ret2
                  exact ⟨_, by first | rfl | (simp [errW_none, errW_some] <;> rfl) | (simp [*, errW_none, errW_some] <;> rfl), by first | exact Kd.R_nil _ _ _ _ _ | exact Kd.N_nil _ _ _ _ _ | exact Kd.V_nil _ _ _ _ _ | exact Kd.Q_nil _ _ _ _ _ | exact Kd.S_nil _ _ _ _ _, by repeat (first | (with_reducible first | exact HB.out | apply below_alloc | apply pw_below_drewN | apply below_drew1) | exact HB.out)⟩
                · rw [if_neg c45] at H
                  have c45b0 : ((x12_2.length : Int) == 0) = false := beq_eq_false_iff_ne.mpr c45
                  have c45b1 : ((x12_2.length : Int) != 0) = true := bne_iff_ne.mpr c45
                  have c45b2 : ¬ (x12_2 = []) := fun h_ => c45 (by rw [h_]; rfl)
                  simp only [Option.some.injEq, Prod.mk.injEq] at H
                  obtain ⟨rfl, rfl⟩ := H
                  go_wp2
                  go_ret2
                  exact ⟨_, by first | rfl | (simp [errW_none, errW_some] <;> rfl) | (simp [*, errW_none, errW_some] <;> rfl), by (with_reducible repeat (first | apply Kd.R_alloc | apply Kd.R_drewN | apply Kd.R_drew)); exact HO_12.out, by repeat (first | (with_reducible first | exact HB.out | apply below_alloc | apply pw_below_drewN | apply below_drew1) | exact HB.out)⟩

end Go.Proofs.Ytjkjelfhdhcplaa.PA
