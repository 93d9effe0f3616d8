/- Written by a program of this session out of the translation: pure functions, and that Go's functions come to them. -/
import Derived.Test.YtjkjelfhdhcplaaPAx0
import Derived.Test.YtjkjelfhdhcplaaPAxf47
import Derived.Test.YtjkjelfhdhcplaaPAxf48
import Derived.Test.YtjkjelfhdhcplaaPAxgImpl
namespace Go.Proofs.Ytjkjelfhdhcplaa.PA
open Go.RowKit Go.Proofs.YtjkjelfhdhcplaaW.PrintWords Go.Proofs.YtjkjelfhdhcplaaW.PrintLast Go.Proofs.YtjkjelfhdhcplaaW.PrintMore
attribute [local go_sem] max2_int min2_int max_two min_two max_three min_three max_four min_four   -- for this text's walks alone
set_option linter.unusedVariables false
set_option linter.unusedSimpArgs false

/-! ### impl_ChangeRow: function 19 -/
mutual
def impl_ChangeRow.j0 : Nat → List Int → Int → Int → Int → Int → Int → Option (List Int × Int × Int)
  | 0, _, _, _, _, _, _ => none
  | k + 1, x0, x1, x2, x3, x4, x13 => if x13 = 0 then (if x3 > x4 then (some (([] : List Int), 0, 4)) else ((impl_Row_int16_47.f x0).bind fun t392 => ((impl_Row_length.f k x0 x1).bind fun t395 => (impl_ChangeRow.l0 k x3 x4 t392 0 (wrap64 (x2 - t395)) (t392.length : Int) 0)))) else (some (([] : List Int), 0, x13))
def impl_ChangeRow.l0 : Nat → Int → Int → List Int → Int → Int → Int → Int → Option (List Int × Int × Int)
  | 0, _, _, _, _, _, _, _ => none
  | k + 1, x3, x4, x14, x15, x16, x49, x50 => if x50 < x49 then (if 0 ≤ x50 then (if x50 < (x14.length : Int) then (if x16 > 0 then (if (mx (mn x16 (wrap64 (x4 - (wrap64 (rd x14 x50))))) 0) = 0 then (impl_ChangeRow.l0 k x3 x4 x14 x15 x16 x49 (wrap64 (x50 + 1))) else (impl_ChangeRow.l0 k x3 x4 (x14.set (x50 : Int).toNat (IntKind.i16.wrap ((rd x14 x50) + (IntKind.i16.wrap (mx (mn x16 (wrap64 (x4 - (wrap64 (rd x14 x50))))) 0))))) (wrap64 (x15 + 1)) (wrap64 (x16 - (mx (mn x16 (wrap64 (x4 - (wrap64 (rd x14 x50))))) 0))) x49 (wrap64 (x50 + 1)))) else (if (mn (mx x16 (wrap64 (x3 - (wrap64 (rd x14 x50))))) 0) = 0 then (impl_ChangeRow.l0 k x3 x4 x14 x15 x16 x49 (wrap64 (x50 + 1))) else (impl_ChangeRow.l0 k x3 x4 (x14.set (x50 : Int).toNat (IntKind.i16.wrap ((rd x14 x50) + (IntKind.i16.wrap (mn (mx x16 (wrap64 (x3 - (wrap64 (rd x14 x50))))) 0))))) (wrap64 (x15 + 1)) (wrap64 (x16 - (mn (mx x16 (wrap64 (x3 - (wrap64 (rd x14 x50))))) 0))) x49 (wrap64 (x50 + 1))))) else (none)) else (none)) else (if x16 = 0 then (some (x14, x15, 0)) else (some (([] : List Int), 0, 6)))
end
def impl_ChangeRow.f (k : Nat) (l0 : List Int) (a1 : Int) (a2 : Int) (a3 : Int) (a4 : Int) : Option (List Int × Int × Int) := (impl_ValidRow.f l0).bind fun t382 => ((impl_isSeam.f a1).bind fun t383 => (if t383 = true then ((impl_isLong.f a2).bind fun t384 => (if t384 = true then ((impl_isWidth.f (([a3, a4] : List Int))).bind fun t388 => ((impl_codeOf.f t382 t388).bind fun t389 => (impl_ChangeRow.j0 k l0 a1 a2 a3 a4 t389))) else ((impl_codeOf.f t382 false).bind fun t390 => (impl_ChangeRow.j0 k l0 a1 a2 a3 a4 t390)))) else ((impl_codeOf.f t382 false).bind fun t391 => (impl_ChangeRow.j0 k l0 a1 a2 a3 a4 t391))))
theorem impl_ChangeRow.mono_l : ∀ k, (∀ y0 y1 y2 y3 y4 y5, LeO (impl_ChangeRow.j0 k y0 y1 y2 y3 y4 y5) (impl_ChangeRow.j0 (k + 1) y0 y1 y2 y3 y4 y5)) ∧ (∀ y0 y1 y2 y3 y4 y5 y6, LeO (impl_ChangeRow.l0 k y0 y1 y2 y3 y4 y5 y6) (impl_ChangeRow.l0 (k + 1) y0 y1 y2 y3 y4 y5 y6))
  | 0 => ⟨fun _ _ _ _ _ _ r h => by simp [impl_ChangeRow.j0] at h, fun _ _ _ _ _ _ _ r h => by simp [impl_ChangeRow.l0] at h⟩
  | k + 1 => by
    obtain ⟨ih0, ih1⟩ := impl_ChangeRow.mono_l k
    refine ⟨?_, ?_⟩
    · intro y0 y1 y2 y3 y4 y5
      unfold impl_ChangeRow.j0
      repeat' first
      | (with_reducible exact ih0 _ _ _ _ _ _)
      | (with_reducible exact ih1 _ _ _ _ _ _ _)
      | (with_reducible exact impl_Row_length.mono _ _ _)
      | (with_reducible exact LeO.refl _)
      | (with_reducible exact LeO.none _)
      | (with_reducible refine LeO.ite ?_ ?_)
      | (with_reducible refine LeO.bind ?_ (fun _ => ?_))
      | exact ih0 _ _ _ _ _ _
      | exact ih1 _ _ _ _ _ _ _
      | exact impl_Row_length.mono _ _ _
      | exact LeO.none _
      | refine LeO.ite ?_ ?_
      | refine LeO.bind ?_ (fun _ => ?_)
    · intro y0 y1 y2 y3 y4 y5 y6
      unfold impl_ChangeRow.l0
      repeat' first
      | (with_reducible exact ih0 _ _ _ _ _ _)
      | (with_reducible exact ih1 _ _ _ _ _ _ _)
      | (with_reducible exact impl_Row_length.mono _ _ _)
      | (with_reducible exact LeO.refl _)
      | (with_reducible exact LeO.none _)
      | (with_reducible refine LeO.ite ?_ ?_)
      | (with_reducible refine LeO.bind ?_ (fun _ => ?_))
      | exact ih0 _ _ _ _ _ _
      | exact ih1 _ _ _ _ _ _ _
      | exact impl_Row_length.mono _ _ _
      | exact LeO.none _
      | refine LeO.ite ?_ ?_
      | refine LeO.bind ?_ (fun _ => ?_)
theorem impl_ChangeRow.mono : ∀ a0 a1 a2 a3 a4 k, LeO (impl_ChangeRow.f k a0 a1 a2 a3 a4) (impl_ChangeRow.f (k + 1) a0 a1 a2 a3 a4) := by
  intro a0 a1 a2 a3 a4 k
  obtain ⟨ih0, ih1⟩ := impl_ChangeRow.mono_l k
  unfold impl_ChangeRow.f
  repeat' first
      | (with_reducible exact ih0 _ _ _ _ _ _)
      | (with_reducible exact ih1 _ _ _ _ _ _ _)
      | (with_reducible exact impl_Row_length.mono _ _ _)
      | (with_reducible exact LeO.refl _)
      | (with_reducible exact LeO.none _)
      | (with_reducible refine LeO.ite ?_ ?_)
      | (with_reducible refine LeO.bind ?_ (fun _ => ?_))
      | exact ih0 _ _ _ _ _ _
      | exact ih1 _ _ _ _ _ _ _
      | exact impl_Row_length.mono _ _ _
      | exact LeO.none _
      | refine LeO.ite ?_ ?_
      | refine LeO.bind ?_ (fun _ => ?_)
set_option maxHeartbeats 8000000 in
set_option maxRecDepth 100000 in
theorem impl_ChangeRow.calls (k : Nat) (A0 : Option Addr) (c0 : Nat) (l0 : List Int) (a1 : Int) (a2 : Int) (a3 : Int) (a4 : Int) (r1 : List Int) (r2 : Int) (r3 : Int) (w : World) (hr0 : Kd.C (Kd.int .i16) w A0 l0.length l0) (hc0 : l0.length ≤ c0) (h : impl_ChangeRow.f k l0 a1 a2 a3 a4 = some (r1, r2, r3)) :
    Calls Try.prog 19 #[.slice A0 l0.length c0, .int .i64 a1, .int .i64 a2, .int .i64 a3, .int .i64 a4] w fun e w' => ∃ v0_ : Value, e = .returned (.tuple #[v0_, .int .i64 r2, .int .i64 r3]) ∧ Kd.R (Kd.int .i16) 48 w' w.heap.size (fun _ => True) v0_ r1 ∧ Below w.heap.size w w' := by
  have HR0 := Aside0.mk hr0
  have HC0 := Aside0.mk hc0
  clear hr0 hc0
  have HB := Aside0.mk (Below.refl w.heap.size w)
  have H : ((impl_ValidRow.f l0).bind fun t382 => ((impl_isSeam.f a1).bind fun t383 => (if t383 = true then ((impl_isLong.f a2).bind fun t384 => (if t384 = true then ((impl_isWidth.f (([a3, a4] : List Int))).bind fun t388 => ((impl_codeOf.f t382 t388).bind fun t389 => (impl_ChangeRow.j0 k l0 a1 a2 a3 a4 t389))) else ((impl_codeOf.f t382 false).bind fun t390 => (impl_ChangeRow.j0 k l0 a1 a2 a3 a4 t390)))) else ((impl_codeOf.f t382 false).bind fun t391 => (impl_ChangeRow.j0 k l0 a1 a2 a3 a4 t391))))) = some (r1, r2, r3) := h
  clear h
  have HC6 := Aside0.mk H
  clear H
  go_enter Try.func19, Try.ntmps19
  go_upto_region 1 with (fail)
  go_cut [13] (fun v13 wc => ∃ (kq : Nat) (x13_5 : Int), v13 = .int .i64 x13_5 ∧ Aside0 (impl_ChangeRow.j0 kq l0 a1 a2 a3 a4 x13_5 = some (r1, r2, r3)) ∧ Aside0 (kq ≤ k) ∧ Aside0 (Below w.heap.size w wc))
  case first =>
    have H := HC6.out
    clear HC6
    replace H := Option.bind_eq_some_iff.mp H
    obtain ⟨t382, A70, H⟩ := H
    replace H : ((impl_isSeam.f a1).bind fun t383 => (if t383 = true then ((impl_isLong.f a2).bind fun t384 => (if t384 = true then ((impl_isWidth.f (([a3, a4] : List Int))).bind fun t388 => ((impl_codeOf.f t382 t388).bind fun t389 => (impl_ChangeRow.j0 k l0 a1 a2 a3 a4 t389))) else ((impl_codeOf.f t382 false).bind fun t390 => (impl_ChangeRow.j0 k l0 a1 a2 a3 a4 t390)))) else ((impl_codeOf.f t382 false).bind fun t391 => (impl_ChangeRow.j0 k l0 a1 a2 a3 a4 t391)))) = some (r1, r2, r3) := H
    have A7 := Aside0.mk A70
    clear A70
    replace H := Option.bind_eq_some_iff.mp H
    obtain ⟨t383, A80, H⟩ := H
    replace H : (if t383 = true then ((impl_isLong.f a2).bind fun t384 => (if t384 = true then ((impl_isWidth.f (([a3, a4] : List Int))).bind fun t388 => ((impl_codeOf.f t382 t388).bind fun t389 => (impl_ChangeRow.j0 k l0 a1 a2 a3 a4 t389))) else ((impl_codeOf.f t382 false).bind fun t390 => (impl_ChangeRow.j0 k l0 a1 a2 a3 a4 t390)))) else ((impl_codeOf.f t382 false).bind fun t391 => (impl_ChangeRow.j0 k l0 a1 a2 a3 a4 t391))) = some (r1, r2, r3) := H
    have A8 := Aside0.mk A80
    clear A80
    by_cases c9 : t383 = true
    · subst c9
      have H1 : ((impl_isLong.f a2).bind fun t384 => (if t384 = true then ((impl_isWidth.f (([a3, a4] : List Int))).bind fun t388 => ((impl_codeOf.f t382 t388).bind fun t389 => (impl_ChangeRow.j0 k l0 a1 a2 a3 a4 t389))) else ((impl_codeOf.f t382 false).bind fun t390 => (impl_ChangeRow.j0 k l0 a1 a2 a3 a4 t390)))) = some (r1, r2, r3) := by rw [if_pos rfl] at H; exact H
      clear H
      have H := H1
      clear H1
      replace H := Option.bind_eq_some_iff.mp H
      obtain ⟨t384, A100, H⟩ := H
      replace H : (if t384 = true then ((impl_isWidth.f (([a3, a4] : List Int))).bind fun t388 => ((impl_codeOf.f t382 t388).bind fun t389 => (impl_ChangeRow.j0 k l0 a1 a2 a3 a4 t389))) else ((impl_codeOf.f t382 false).bind fun t390 => (impl_ChangeRow.j0 k l0 a1 a2 a3 a4 t390))) = some (r1, r2, r3) := H
      have A10 := Aside0.mk A100
      clear A100
      by_cases c11 : t384 = true
      · subst c11
        have H1 : ((impl_isWidth.f (([a3, a4] : List Int))).bind fun t388 => ((impl_codeOf.f t382 t388).bind fun t389 => (impl_ChangeRow.j0 k l0 a1 a2 a3 a4 t389))) = some (r1, r2, r3) := by rw [if_pos rfl] at H; exact H
        clear H
        have H := H1
        clear H1
        obtain ⟨y385, hy385⟩ : ∃ y_ : List Int, y_ = (([a3, a4] : List Int)) := ⟨_, rfl⟩
        replace H : ((impl_isWidth.f y385).bind fun t388 => ((impl_codeOf.f t382 t388).bind fun t389 => (impl_ChangeRow.j0 k l0 a1 a2 a3 a4 t389))) = some (r1, r2, r3) := by first | (rw [hy385]; with_reducible exact H) | (have H2_ := (Option.bind_some _ _).symm.trans H; rw [hy385]; with_reducible exact H2_) | (have H2_ := (Option.bind_some _ _).symm.trans H; with_reducible exact H2_) | with_reducible exact H | (rw [hy385]; exact H) | exact H
        have Ny385 := Aside0.mk hy385
        clear hy385
        replace H := Option.bind_eq_some_iff.mp H
        obtain ⟨t388, A120, H⟩ := H
        replace H : ((impl_codeOf.f t382 t388).bind fun t389 => (impl_ChangeRow.j0 k l0 a1 a2 a3 a4 t389)) = some (r1, r2, r3) := H
        have A12 := Aside0.mk A120
        clear A120
        replace H := Option.bind_eq_some_iff.mp H
        obtain ⟨t389, A130, H⟩ := H
        replace H : (impl_ChangeRow.j0 k l0 a1 a2 a3 a4 t389) = some (r1, r2, r3) := H
        have A13 := Aside0.mk A130
        clear A130
        have H' := Aside0.mk H
        clear H
        go_wp2_with (first | ((with_reducible refine gate_callee (f := 29) rfl ?_); refine goesL_ (some 21) rfl rfl Try.func29 (by kernel_rfl) rfl #[.slice A0 l0.length c0] rfl (by (try simp only [List.map_toArray, List.map_cons, List.map_nil]); first | done | rfl | (simp only [List.length_drop, List.length_take]; rfl)) ?_; (with_reducible refine (impl_ValidRow.calls _ _ l0 t382 _ ?side1 ?side2 A7.out).mono ?_); (case side1 => repeat (first | exact (Kd.C_below HR0.out HB.out) | (with_reducible refine Kd.C_alloc ?_ _) | (with_reducible refine Kd.C_drewN ?_ _) | (with_reducible refine Kd.C_drew ?_))); (case side2 => exact HC0.out); rintro e w14 ⟨rfl, hb⟩; refine ⟨_, rfl, ?_⟩; have n0_ := Aside0.mk (below_step (by repeat (first | (with_reducible first | exact HB.out | apply below_alloc | apply pw_below_drewN | apply below_drew1) | exact HB.out)) hb); clear HB; have HB := n0_; clear n0_; (try clear hb); (try clear hb2); (try clear hk); (try clear hi)) | ((with_reducible refine gate_callee (f := 30) rfl ?_); refine goesL_ (some 23) rfl rfl Try.func30 (by kernel_rfl) rfl #[.int .i64 a1] rfl (by (try simp only [List.map_toArray, List.map_cons, List.map_nil]); first | done | rfl | (simp only [List.length_drop, List.length_take]; rfl)) ?_; (with_reducible refine (impl_isSeam.calls a1 true _ A8.out).mono ?_); rintro e w' ⟨rfl, ⟨nd, rfl⟩⟩; refine ⟨_, rfl, ?_⟩) | (go_at_call 39; (with_reducible refine (impl_isLong.calls a2 true _ A10.out).mono ?_); rintro e w' ⟨rfl, ⟨nd, rfl⟩⟩) | ((with_reducible refine gate_dst (N := 31) rfl ?_); (try (refine gate_guard (by rfl) ?_; dsimp only)); refine Kd.R_lit (Kd.int .i64) _ 2 ?hg (N := 31) ?hd (xs := ([a3, a4] : List Int)) (inner := [.int .i64 a3, .int .i64 a4]) (ok := fun _ => True) (okp := fun _ => True) ?hr ?hp (fun _ hk => hk) trivial (Below.refl _ _) (Nat.le_refl _) (by simp) ?_; (case hd => rfl); (case hg => rfl); (case hr => first | (go_simp; done) | (go_simp; rfl)); (case hp => exact (Reps.one (show Kd.M (Kd.int .i64) _ _ _ a3 [.int .i64 a3] from rfl) (Reps.one (show Kd.M (Kd.int .i64) _ _ _ a4 [.int .i64 a4] from rfl) (Reps.none _ _)))); intro v386 w15 ho16 hb hg_ hnew_; clear hg_ hnew_; (first | rw [← Ny385.out] at ho16 | (simp only [Int.reduceToNat] at ho16; rw [← Ny385.out] at ho16)); have n0_ := Aside0.mk (Kd.R_lower ho16 (below_size (by repeat (first | (with_reducible first | exact HB.out | apply below_alloc | apply pw_below_drewN | apply below_drew1) | exact HB.out)))); have n1_ := Aside0.mk (below_step (by repeat (first | (with_reducible first | exact HB.out | apply below_alloc | apply pw_below_drewN | apply below_drew1) | exact HB.out)) hb); clear HB; have HO387 := n0_; have HB := n1_; clear n0_ n1_; clear hb ho16; obtain ⟨Ao17, co17, eo17⟩ := Kd.R_slice HO387.out; subst eo17) | (go_at_call 40; (with_reducible refine (impl_isWidth.calls _ _ y385 t388 _ ?side1 ?side2 A12.out).mono ?_); (case side1 => repeat (first | exact (Kd.R_reads' HO387.out).2.2 | (with_reducible refine Kd.C_alloc ?_ _) | (with_reducible refine Kd.C_drewN ?_ _) | (with_reducible refine Kd.C_drew ?_))); (case side2 => exact (Kd.R_reads' HO387.out).2.1); rintro e w' ⟨rfl, ⟨nd, rfl⟩⟩) | ((with_reducible refine gate_callee (f := 28) rfl ?_); refine goesL_ (some 34) rfl rfl Try.func28 (by kernel_rfl) rfl #[.bool t382, .bool t388] rfl (by (try simp only [List.map_toArray, List.map_cons, List.map_nil]); first | done | rfl | (simp only [List.length_drop, List.length_take]; rfl)) ?_; (with_reducible refine (impl_codeOf.calls t382 t388 t389 _ A13.out).mono ?_); rintro e w' ⟨rfl, ⟨nd, rfl⟩⟩; refine ⟨_, rfl, ?_⟩))
        go_meet
        case rel => exact ⟨_, (t389), (by first | rfl | (simp; done) | (simp [*]; done)), H', ⟨by first | omega | exact Nat.le_refl _⟩, ⟨by repeat (first | (with_reducible first | exact HB.out | apply below_alloc | apply pw_below_drewN | apply below_drew1) | exact HB.out)⟩⟩
      · replace c11 := Bool.eq_false_iff.mpr c11
        subst c11
        have H1 : ((impl_codeOf.f t382 false).bind fun t390 => (impl_ChangeRow.j0 k l0 a1 a2 a3 a4 t390)) = some (r1, r2, r3) := by rw [if_neg (show ¬ (false = true) by decide)] at H; exact H
        clear H
        have H := H1
        clear H1
        replace H := Option.bind_eq_some_iff.mp H
        obtain ⟨t390, A180, H⟩ := H
        replace H : (impl_ChangeRow.j0 k l0 a1 a2 a3 a4 t390) = some (r1, r2, r3) := H
        have A18 := Aside0.mk A180
        clear A180
        have H' := Aside0.mk H
        clear H
        go_wp2_with (first | ((with_reducible refine gate_callee (f := 29) rfl ?_); refine goesL_ (some 21) rfl rfl Try.func29 (by kernel_rfl) rfl #[.slice A0 l0.length c0] rfl (by (try simp only [List.map_toArray, List.map_cons, List.map_nil]); first | done | rfl | (simp only [List.length_drop, List.length_take]; rfl)) ?_; (with_reducible refine (impl_ValidRow.calls _ _ l0 t382 _ ?side1 ?side2 A7.out).mono ?_); (case side1 => repeat (first | exact (Kd.C_below HR0.out HB.out) | (with_reducible refine Kd.C_alloc ?_ _) | (with_reducible refine Kd.C_drewN ?_ _) | (with_reducible refine Kd.C_drew ?_))); (case side2 => exact HC0.out); rintro e w19 ⟨rfl, hb⟩; refine ⟨_, rfl, ?_⟩; have n0_ := Aside0.mk (below_step (by repeat (first | (with_reducible first | exact HB.out | apply below_alloc | apply pw_below_drewN | apply below_drew1) | exact HB.out)) hb); clear HB; have HB := n0_; clear n0_; (try clear hb); (try clear hb2); (try clear hk); (try clear hi)) | ((with_reducible refine gate_callee (f := 30) rfl ?_); refine goesL_ (some 23) rfl rfl Try.func30 (by kernel_rfl) rfl #[.int .i64 a1] rfl (by (try simp only [List.map_toArray, List.map_cons, List.map_nil]); first | done | rfl | (simp only [List.length_drop, List.length_take]; rfl)) ?_; (with_reducible refine (impl_isSeam.calls a1 true _ A8.out).mono ?_); rintro e w' ⟨rfl, ⟨nd, rfl⟩⟩; refine ⟨_, rfl, ?_⟩) | (go_at_call 39; (with_reducible refine (impl_isLong.calls a2 false _ A10.out).mono ?_); rintro e w' ⟨rfl, ⟨nd, rfl⟩⟩) | ((with_reducible refine gate_callee (f := 28) rfl ?_); refine goesL_ (some 34) rfl rfl Try.func28 (by kernel_rfl) rfl #[.bool t382, .bool false] rfl (by (try simp only [List.map_toArray, List.map_cons, List.map_nil]); first | done | rfl | (simp only [List.length_drop, List.length_take]; rfl)) ?_; (with_reducible refine (impl_codeOf.calls t382 false t390 _ A18.out).mono ?_); rintro e w' ⟨rfl, ⟨nd, rfl⟩⟩; refine ⟨_, rfl, ?_⟩))
        go_meet
        case rel => exact ⟨_, (t390), (by first | rfl | (simp; done) | (simp [*]; done)), H', ⟨by first | omega | exact Nat.le_refl _⟩, ⟨by repeat (first | (with_reducible first | exact HB.out | apply below_alloc | apply pw_below_drewN | apply below_drew1) | exact HB.out)⟩⟩
    · replace c9 := Bool.eq_false_iff.mpr c9
      subst c9
      have H1 : ((impl_codeOf.f t382 false).bind fun t391 => (impl_ChangeRow.j0 k l0 a1 a2 a3 a4 t391)) = some (r1, r2, r3) := by rw [if_neg (show ¬ (false = true) by decide)] at H; exact H
      clear H
      have H := H1
      clear H1
      replace H := Option.bind_eq_some_iff.mp H
      obtain ⟨t391, A200, H⟩ := H
      replace H : (impl_ChangeRow.j0 k l0 a1 a2 a3 a4 t391) = some (r1, r2, r3) := H
      have A20 := Aside0.mk A200
      clear A200
      have H' := Aside0.mk H
      clear H
      go_wp2_with (first | ((with_reducible refine gate_callee (f := 29) rfl ?_); refine goesL_ (some 21) rfl rfl Try.func29 (by kernel_rfl) rfl #[.slice A0 l0.length c0] rfl (by (try simp only [List.map_toArray, List.map_cons, List.map_nil]); first | done | rfl | (simp only [List.length_drop, List.length_take]; rfl)) ?_; (with_reducible refine (impl_ValidRow.calls _ _ l0 t382 _ ?side1 ?side2 A7.out).mono ?_); (case side1 => repeat (first | exact (Kd.C_below HR0.out HB.out) | (with_reducible refine Kd.C_alloc ?_ _) | (with_reducible refine Kd.C_drewN ?_ _) | (with_reducible refine Kd.C_drew ?_))); (case side2 => exact HC0.out); rintro e w21 ⟨rfl, hb⟩; refine ⟨_, rfl, ?_⟩; have n0_ := Aside0.mk (below_step (by repeat (first | (with_reducible first | exact HB.out | apply below_alloc | apply pw_below_drewN | apply below_drew1) | exact HB.out)) hb); clear HB; have HB := n0_; clear n0_; (try clear hb); (try clear hb2); (try clear hk); (try clear hi)) | ((with_reducible refine gate_callee (f := 30) rfl ?_); refine goesL_ (some 23) rfl rfl Try.func30 (by kernel_rfl) rfl #[.int .i64 a1] rfl (by (try simp only [List.map_toArray, List.map_cons, List.map_nil]); first | done | rfl | (simp only [List.length_drop, List.length_take]; rfl)) ?_; (with_reducible refine (impl_isSeam.calls a1 false _ A8.out).mono ?_); rintro e w' ⟨rfl, ⟨nd, rfl⟩⟩; refine ⟨_, rfl, ?_⟩) | ((with_reducible refine gate_callee (f := 28) rfl ?_); refine goesL_ (some 34) rfl rfl Try.func28 (by kernel_rfl) rfl #[.bool t382, .bool false] rfl (by (try simp only [List.map_toArray, List.map_cons, List.map_nil]); first | done | rfl | (simp only [List.length_drop, List.length_take]; rfl)) ?_; (with_reducible refine (impl_codeOf.calls t382 false t391 _ A20.out).mono ?_); rintro e w' ⟨rfl, ⟨nd, rfl⟩⟩; refine ⟨_, rfl, ?_⟩))
      go_meet
      case rel => exact ⟨_, (t391), (by first | rfl | (simp; done) | (simp [*]; done)), H', ⟨by first | omega | exact Nat.le_refl _⟩, ⟨by repeat (first | (with_reducible first | exact HB.out | apply below_alloc | apply pw_below_drewN | apply below_drew1) | exact HB.out)⟩⟩
  case rest =>
    clear HC6
    try clear c1
    try clear c2
    try clear p2
    try clear c3
    try clear c9
    try clear c11
    try clear c19
    obtain ⟨kq, x13_5, rfl, HA, HJ5, HB⟩ := hcut
    cases kq with
    | zero => exact absurd HA.out (by simp [impl_ChangeRow.j0])
    | succ kj5 =>
      have H := HA.out
      clear HA
      simp only [impl_ChangeRow.j0] at H
      by_cases c22 : x13_5 = 0
      · rw [if_pos c22] at H
        have c22b0 : (x13_5 == 0) = true := beq_iff_eq.mpr c22
        have c22b1 : (x13_5 != 0) = false := bne_eq_false_iff_eq.mpr c22
        clear c22
        by_cases c23 : a3 > a4
        · rw [if_pos c23] at H
          have c23b0 : decide (a4 < a3) = true := decide_eq_true c23
          clear c23
          simp only [Option.some.injEq, Prod.mk.injEq] at H
          obtain ⟨rfl, rfl, rfl⟩ := H
          go_wp2
          go_ret3
          exact ⟨_, by first | rfl | (simp [errW_none, errW_some] <;> rfl) | (simp [*, errW_none, errW_some] <;> rfl), by first | exact Kd.R_nil _ _ _ _ _ | exact Kd.N_nil _ _ _ _ _ | exact Kd.V_nil _ _ _ _ _ | exact Kd.Q_nil _ _ _ _ _ | exact Kd.S_nil _ _ _ _ _, by repeat (first | (with_reducible first | exact HB.out | apply below_alloc | apply pw_below_drewN | apply below_drew1) | exact HB.out)⟩
        · rw [if_neg c23] at H
          have c23b0 : decide (a4 < a3) = false := decide_eq_false c23
          clear c23
          replace H := Option.bind_eq_some_iff.mp H
          obtain ⟨t392, A240, H⟩ := H
          replace H : ((impl_Row_length.f kj5 l0 a1).bind fun t395 => (impl_ChangeRow.l0 kj5 a3 a4 t392 0 (wrap64 (a2 - t395)) (t392.length : Int) 0)) = some (r1, r2, r3) := H
          have A24 := Aside0.mk A240
          clear A240
          replace H := Option.bind_eq_some_iff.mp H
          obtain ⟨t395, A250, H⟩ := H
          replace H : (impl_ChangeRow.l0 kj5 a3 a4 t392 0 (wrap64 (a2 - t395)) (t392.length : Int) 0) = some (r1, r2, r3) := H
          have A25 := Aside0.mk A250
          clear A250
          have H' := Aside0.mk H
          clear H
          go_wp2_with (first | ((with_reducible refine gate_callee (f := 47) rfl ?_); refine goesL_ (some 42) rfl rfl Try.func47 (by kernel_rfl) rfl #[.slice A0 l0.length c0] rfl (by (try simp only [List.map_toArray, List.map_cons, List.map_nil]); first | done | rfl | (simp only [List.length_drop, List.length_take]; rfl)) ?_; (with_reducible refine (impl_Row_int16_47.calls _ _ l0 t392 _ ?side1 ?side2 A24.out).mono ?_); (case side1 => repeat (first | exact (Kd.C_below HR0.out HB.out) | (with_reducible refine Kd.C_alloc ?_ _) | (with_reducible refine Kd.C_drewN ?_ _) | (with_reducible refine Kd.C_drew ?_))); (case side2 => exact HC0.out); rintro e w26 ⟨v393, rfl, ho0, hb⟩; refine ⟨_, rfl, ?_⟩; have n0_ := Aside0.mk (Kd.R_lower ho0 (below_size (by repeat (first | (with_reducible first | exact HB.out | apply below_alloc | apply pw_below_drewN | apply below_drew1) | exact HB.out)))); have n1_ := Aside0.mk (below_step (by repeat (first | (with_reducible first | exact HB.out | apply below_alloc | apply pw_below_drewN | apply below_drew1) | exact HB.out)) hb); clear HB; have HO394 := n0_; have HB := n1_; clear n0_ n1_; (try clear hb); (try clear hb2); (try clear hk); (try clear hi); (try clear ho0)) | ((with_reducible refine gate_callee (f := 48) rfl ?_); refine goesL_ (some 46) rfl rfl Try.func48 (by kernel_rfl) rfl #[.slice A0 l0.length c0, .int .i64 a1] rfl (by (try simp only [List.map_toArray, List.map_cons, List.map_nil]); first | done | rfl | (simp only [List.length_drop, List.length_take]; rfl)) ?_; (with_reducible refine (impl_Row_length.calls kj5 _ _ l0 a1 t395 _ ?side1 ?side2 A25.out).mono ?_); (case side1 => repeat (first | exact (Kd.C_below HR0.out HB.out) | (with_reducible refine Kd.C_alloc ?_ _) | (with_reducible refine Kd.C_drewN ?_ _) | (with_reducible refine Kd.C_drew ?_))); (case side2 => exact HC0.out); rintro e w' ⟨rfl, ⟨nd, rfl⟩⟩; refine ⟨_, rfl, ?_⟩; obtain ⟨Ao27, co27, eo27⟩ := Kd.R_slice HO394.out; subst eo27))
          go_loopg [15, 16, 50] kj5 (fun kq v15 v16 v50 w' => ∃ (x14_2 : List Int) (x15_2 : Int) (x16_2 : Int) (x50_2 : Int), v15 = .int .i64 x15_2 ∧ v16 = .int .i64 x16_2 ∧ v50 = .int .i64 x50_2 ∧ Aside0 (impl_ChangeRow.l0 kq a3 a4 x14_2 x15_2 x16_2 (t392.length : Int) x50_2 = some (r1, r2, r3)) ∧ Aside0 (kq ≤ kj5) ∧ Aside0 (Kd.R (Kd.int .i16) 48 w' w.heap.size (fun _ => True) (.slice Ao27 t392.length co27) x14_2) ∧ Aside0 (Below w.heap.size w w'))
          case atStart => exact ⟨(t392), (0), (wrap64 (a2 - t395)), (0), (by first | rfl | (simp; done) | (simp [*]; done)), (by first | rfl | (simp; done) | (simp [*]; done)), (by first | rfl | (simp; done) | (simp [*]; done)), H', ⟨Nat.le_refl _⟩, ⟨by (with_reducible repeat (first | apply Kd.R_alloc | apply Kd.R_drewN | apply Kd.R_drew)); exact HO394.out⟩, ⟨by repeat (first | (with_reducible first | exact HB.out | apply below_alloc | apply pw_below_drewN | apply below_drew1) | exact HB.out)⟩⟩
          case round =>
            clear H'
            try clear c1
            try clear c2
            try clear p2
            try clear c3
            try clear c4
            try clear p6
            try clear c9
            try clear c11
            try clear c19
            try clear c22
            try clear c22b0
            try clear c22b1
            try clear c23
            try clear c23b0
            try clear p2
            obtain ⟨x14_2, x15_2, x16_2, x50_2, rfl, rfl, rfl, HA, HK2, HO_14, HB⟩ := hrel
            have hl14_2 := (Kd.R_reads' HO_14.out).1
            rw [hl14_2] at HO_14
            (try simp only [hl14_2])
            cases gk with
            | zero => exact absurd HA.out (by simp [impl_ChangeRow.l0])
            | succ k2 =>
              have H := HA.out
              clear HA
              simp only [impl_ChangeRow.l0] at H
              by_cases c28 : x50_2 < (t392.length : Int)
              · rw [if_pos c28] at H
                have c28b0 : decide (x50_2 < (t392.length : Int)) = true := decide_eq_true c28
                clear c28
                by_cases c29 : 0 ≤ x50_2
                · rw [if_pos c29] at H
                  have c29b0 : decide (0 ≤ x50_2) = true := decide_eq_true c29
                  clear c29
                  by_cases c30 : x50_2 < (x14_2.length : Int)
                  · rw [if_pos c30] at H
                    have c30b0 : decide (x50_2 < (x14_2.length : Int)) = true := decide_eq_true c30
                    clear c30
                    by_cases c31 : x16_2 > 0
                    · rw [if_pos c31] at H
                      have c31b0 : decide (0 < x16_2) = true := decide_eq_true c31
                      clear c31
                      obtain ⟨ji32, hji32⟩ : ∃ j_ : Int, (mn x16_2 (wrap64 (a4 - (wrap64 (rd x14_2 x50_2))))) = j_ := ⟨_, rfl⟩
                      replace H : (if (mx (ji32) 0) = 0 then (impl_ChangeRow.l0 k2 a3 a4 x14_2 x15_2 x16_2 (t392.length : Int) (wrap64 (x50_2 + 1))) else (impl_ChangeRow.l0 k2 a3 a4 (x14_2.set (x50_2 : Int).toNat (IntKind.i16.wrap ((rd x14_2 x50_2) + (IntKind.i16.wrap (mx (ji32) 0))))) (wrap64 (x15_2 + 1)) (wrap64 (x16_2 - (mx (ji32) 0))) (t392.length : Int) (wrap64 (x50_2 + 1)))) = some (r1, r2, r3) := by first | (rw [hji32] at H; exact H) | (simp only [hji32] at H ⊢; exact H)
                      have hji32_ : (if (wrap64 (a4 - (wrap64 (rd x14_2 x50_2)))) < x16_2 then (wrap64 (a4 - (wrap64 (rd x14_2 x50_2)))) else x16_2) = ji32 := hji32
                      obtain ⟨ji33, hji33⟩ : ∃ j_ : Int, (mx (ji32) 0) = j_ := ⟨_, rfl⟩
                      replace H : (if (ji33) = 0 then (impl_ChangeRow.l0 k2 a3 a4 x14_2 x15_2 x16_2 (t392.length : Int) (wrap64 (x50_2 + 1))) else (impl_ChangeRow.l0 k2 a3 a4 (x14_2.set (x50_2 : Int).toNat (IntKind.i16.wrap ((rd x14_2 x50_2) + (IntKind.i16.wrap (ji33))))) (wrap64 (x15_2 + 1)) (wrap64 (x16_2 - (ji33))) (t392.length : Int) (wrap64 (x50_2 + 1)))) = some (r1, r2, r3) := by first | (rw [hji33] at H; exact H) | (simp only [hji33] at H ⊢; exact H)
                      have hji33_ : (if (ji32) < 0 then 0 else (ji32)) = ji33 := hji33
                      by_cases c34 : (ji33) = 0
                      · rw [if_pos c34] at H
                        have c34b0 : ((ji33) == 0) = true := beq_iff_eq.mpr c34
                        have c34b1 : ((ji33) != 0) = false := bne_eq_false_iff_eq.mpr c34
                        clear c34
                        have H' := Aside0.mk H
                        clear H
                        have p396 : 0 ≤ (x50_2 : Int) := of_decide_eq_true (by first | (with_reducible assumption) | assumption)
                        have q396 : x50_2 < (x14_2.length : Int) := of_decide_eq_true (by first | (with_reducible assumption) | assumption)
                        obtain ⟨ad396, e396, hx396_0⟩ := Kd.at_int (Kd.R_reads' HO_14.out).2.2 x50_2 p396 q396
                        cases e396
                        replace p396 := eq_true p396
                        replace q396 := eq_true q396
                        go_wp2
                        (try simp only [← hl14_2])
                        go_roundg k2
                        case measure => have := HJ5.out; have := HK2.out; omega
                        case rel => exact ⟨(x14_2), (x15_2), (x16_2), (wrap64 (x50_2 + 1)), (by first | rfl | (simp; done) | (simp [*]; done)), (by first | rfl | (simp; done) | (simp [*]; done)), (by first | rfl | (simp; done) | (simp [*]; done)), H', ⟨by have := HJ5.out; have := HK2.out; omega⟩, ⟨by (try simp only [hl14_2]); (with_reducible repeat (first | apply Kd.R_alloc | apply Kd.R_drewN | apply Kd.R_drew)); exact HO_14.out⟩, ⟨by repeat (first | (with_reducible first | exact HB.out | apply below_alloc | apply pw_below_drewN | apply below_drew1) | exact HB.out)⟩⟩
                      · rw [if_neg c34] at H
                        have c34b0 : ((ji33) == 0) = false := beq_eq_false_iff_ne.mpr c34
                        have c34b1 : ((ji33) != 0) = true := bne_iff_ne.mpr c34
                        have eji33_ : ji32 = ji33 := by have h_ := hji33_; have c_ := c34; split at h_ <;> omega
                        obtain ⟨y398, hy398⟩ : ∃ y_ : List Int, y_ = (x14_2.set (x50_2 : Int).toNat (IntKind.i16.wrap ((rd x14_2 x50_2) + (IntKind.i16.wrap (ji33))))) := ⟨_, rfl⟩
                        replace H : (impl_ChangeRow.l0 k2 a3 a4 y398 (wrap64 (x15_2 + 1)) (wrap64 (x16_2 - (ji33))) (t392.length : Int) (wrap64 (x50_2 + 1))) = some (r1, r2, r3) := by first | (rw [hy398]; with_reducible exact H) | (have H2_ := (Option.bind_some _ _).symm.trans H; rw [hy398]; with_reducible exact H2_) | (have H2_ := (Option.bind_some _ _).symm.trans H; with_reducible exact H2_) | with_reducible exact H | (rw [hy398]; exact H) | exact H
                        have Ny398 := Aside0.mk hy398
                        clear hy398
                        have H' := Aside0.mk H
                        clear H
                        have p396 : 0 ≤ (x50_2 : Int) := of_decide_eq_true (by first | (with_reducible assumption) | assumption)
                        have q396 : x50_2 < (x14_2.length : Int) := of_decide_eq_true (by first | (with_reducible assumption) | assumption)
                        obtain ⟨ad396, e396, hx396_0⟩ := Kd.at_int (Kd.R_reads' HO_14.out).2.2 x50_2 p396 q396
                        cases e396
                        replace p396 := eq_true p396
                        replace q396 := eq_true q396
                        have p397 : 0 ≤ (x50_2 : Int) := of_decide_eq_true (by first | (with_reducible assumption) | assumption)
                        have q397 : x50_2 < (x14_2.length : Int) := of_decide_eq_true (by first | (with_reducible assumption) | assumption)
                        obtain ⟨ad397, e397, hx397_0⟩ := Kd.at_int (Kd.R_reads' HO_14.out).2.2 x50_2 p397 q397
                        obtain rfl : ad396 = ad397 := (by injection e397)
                        replace p397 := eq_true p397
                        replace q397 := eq_true q397
                        have p35 : 0 ≤ (x50_2 : Int) := of_decide_eq_true (by first | (with_reducible assumption) | assumption)
                        have q35 : (x50_2 : Int) < ((x14_2.length : Int) : Int) := of_decide_eq_true (by first | (with_reducible assumption) | assumption)
                        obtain ⟨go35, co35, eo35, gb35, gl35, cl35, HG35⟩ := Kd.R_form HO_14.out (by omega)
                        (first | cases eo35 | (injection eo35 with ea_ en_ ec_; (first | subst ea_ | (injection ea_ with ea_; subst ea_)); subst ec_; clear en_))
                        have GB35 := Aside0.mk gb35
                        have GG35 := Aside0.mk HG35
                        clear gb35 gl35 HG35
                        (first | simp only [add_plain] at hx396_0 | skip)
                        (first | simp only [add_plain] at hx397_0 | skip)
                        obtain ⟨hx35_0, hf35_0⟩ := Kd.R_celln 0 HO_14.out (x50_2 : Int) p35 q35
                        replace p35 := eq_true p35
                        replace q35 := eq_true q35
                        have HP36 := Kd.R_putg HO_14.out (x50_2 : Int) (IntKind.i16.wrap ((rd x14_2 x50_2) + (IntKind.i16.wrap (ji33))))
                        go_wp2_with (first | ((with_reducible refine gate_store (t := 48) (p := 80) rfl ?_); refine store_event (t := 48) (p := 80) (v := ?vo_w37) (w1 := (wr.setCell ⟨go35, (x50_2 : Int).toNat, none⟩ (.int .i16 (IntKind.i16.wrap ((rd x14_2 x50_2) + (IntKind.i16.wrap (ji33))))))) ?hg ?ho ?hn ?hr ?_; (case ho => rfl); (case hg => rfl); (case hn => rfl); (case hr => first | (go_simp; done) | (go_simp; rfl)); intro w37 hw; have hg : wr.grownBy w37 (some go35) := (by rw [hw]; exact HP36.2); have hp_ : Kd.R (Kd.int .i16) 48 w37 w.heap.size (fun _ => True) (.slice (some ⟨go35, 0, none⟩) x14_2.length co27) y398 := (by rw [hw, Ny398.out]; exact HP36.1); clear HP36; have n0_ := Aside0.mk (hp_); have n1_ := Aside0.mk ((by rw [hw]; exact below_set (HB.out) GB35.out : Below w.heap.size w w37)); clear HO_14; clear HB; have HO_14 := n0_; have HB := n1_; clear n0_ n1_; clear hg hw hp_))
                        (try simp only [← hl14_2])
                        go_roundg k2
                        case measure => have := HJ5.out; have := HK2.out; omega
                        case rel => exact ⟨(y398), (wrap64 (x15_2 + 1)), (wrap64 (x16_2 - (ji33))), (wrap64 (x50_2 + 1)), (by first | rfl | (simp; done) | (simp [*]; done)), (by first | rfl | (simp; done) | (simp only [← hji33] <;> (first | rfl | simp)) | (simp [*]; done)), (by first | rfl | (simp; done) | (simp [*]; done)), H', ⟨by have := HJ5.out; have := HK2.out; omega⟩, ⟨by (try simp only [hl14_2]); (with_reducible repeat (first | apply Kd.R_alloc | apply Kd.R_drewN | apply Kd.R_drew)); exact HO_14.out⟩, ⟨by repeat (first | (with_reducible first | exact HB.out | apply below_alloc | apply pw_below_drewN | apply below_drew1) | exact HB.out)⟩⟩
                    · rw [if_neg c31] at H
                      have c31b0 : decide (0 < x16_2) = false := decide_eq_false c31
                      clear c31
                      obtain ⟨ji38, hji38⟩ : ∃ j_ : Int, (mx x16_2 (wrap64 (a3 - (wrap64 (rd x14_2 x50_2))))) = j_ := ⟨_, rfl⟩
                      replace H : (if (mn (ji38) 0) = 0 then (impl_ChangeRow.l0 k2 a3 a4 x14_2 x15_2 x16_2 (t392.length : Int) (wrap64 (x50_2 + 1))) else (impl_ChangeRow.l0 k2 a3 a4 (x14_2.set (x50_2 : Int).toNat (IntKind.i16.wrap ((rd x14_2 x50_2) + (IntKind.i16.wrap (mn (ji38) 0))))) (wrap64 (x15_2 + 1)) (wrap64 (x16_2 - (mn (ji38) 0))) (t392.length : Int) (wrap64 (x50_2 + 1)))) = some (r1, r2, r3) := by first | (rw [hji38] at H; exact H) | (simp only [hji38] at H ⊢; exact H)
                      have hji38_ : (if x16_2 < (wrap64 (a3 - (wrap64 (rd x14_2 x50_2)))) then (wrap64 (a3 - (wrap64 (rd x14_2 x50_2)))) else x16_2) = ji38 := hji38
                      obtain ⟨ji39, hji39⟩ : ∃ j_ : Int, (mn (ji38) 0) = j_ := ⟨_, rfl⟩
                      replace H : (if (ji39) = 0 then (impl_ChangeRow.l0 k2 a3 a4 x14_2 x15_2 x16_2 (t392.length : Int) (wrap64 (x50_2 + 1))) else (impl_ChangeRow.l0 k2 a3 a4 (x14_2.set (x50_2 : Int).toNat (IntKind.i16.wrap ((rd x14_2 x50_2) + (IntKind.i16.wrap (ji39))))) (wrap64 (x15_2 + 1)) (wrap64 (x16_2 - (ji39))) (t392.length : Int) (wrap64 (x50_2 + 1)))) = some (r1, r2, r3) := by first | (rw [hji39] at H; exact H) | (simp only [hji39] at H ⊢; exact H)
                      have hji39_ : (if 0 < (ji38) then 0 else (ji38)) = ji39 := hji39
                      by_cases c40 : (ji39) = 0
                      · rw [if_pos c40] at H
                        have c40b0 : ((ji39) == 0) = true := beq_iff_eq.mpr c40
                        have c40b1 : ((ji39) != 0) = false := bne_eq_false_iff_eq.mpr c40
                        clear c40
                        have H' := Aside0.mk H
                        clear H
                        have p396 : 0 ≤ (x50_2 : Int) := of_decide_eq_true (by first | (with_reducible assumption) | assumption)
                        have q396 : x50_2 < (x14_2.length : Int) := of_decide_eq_true (by first | (with_reducible assumption) | assumption)
                        obtain ⟨ad396, e396, hx396_0⟩ := Kd.at_int (Kd.R_reads' HO_14.out).2.2 x50_2 p396 q396
                        cases e396
                        replace p396 := eq_true p396
                        replace q396 := eq_true q396
                        go_wp2
                        (try simp only [← hl14_2])
                        go_roundg k2
                        case measure => have := HJ5.out; have := HK2.out; omega
                        case rel => exact ⟨(x14_2), (x15_2), (x16_2), (wrap64 (x50_2 + 1)), (by first | rfl | (simp; done) | (simp [*]; done)), (by first | rfl | (simp; done) | (simp [*]; done)), (by first | rfl | (simp; done) | (simp [*]; done)), H', ⟨by have := HJ5.out; have := HK2.out; omega⟩, ⟨by (try simp only [hl14_2]); (with_reducible repeat (first | apply Kd.R_alloc | apply Kd.R_drewN | apply Kd.R_drew)); exact HO_14.out⟩, ⟨by repeat (first | (with_reducible first | exact HB.out | apply below_alloc | apply pw_below_drewN | apply below_drew1) | exact HB.out)⟩⟩
                      · rw [if_neg c40] at H
                        have c40b0 : ((ji39) == 0) = false := beq_eq_false_iff_ne.mpr c40
                        have c40b1 : ((ji39) != 0) = true := bne_iff_ne.mpr c40
                        have eji39_ : ji38 = ji39 := by have h_ := hji39_; have c_ := c40; split at h_ <;> omega
                        obtain ⟨y400, hy400⟩ : ∃ y_ : List Int, y_ = (x14_2.set (x50_2 : Int).toNat (IntKind.i16.wrap ((rd x14_2 x50_2) + (IntKind.i16.wrap (ji39))))) := ⟨_, rfl⟩
                        replace H : (impl_ChangeRow.l0 k2 a3 a4 y400 (wrap64 (x15_2 + 1)) (wrap64 (x16_2 - (ji39))) (t392.length : Int) (wrap64 (x50_2 + 1))) = some (r1, r2, r3) := by first | (rw [hy400]; with_reducible exact H) | (have H2_ := (Option.bind_some _ _).symm.trans H; rw [hy400]; with_reducible exact H2_) | (have H2_ := (Option.bind_some _ _).symm.trans H; with_reducible exact H2_) | with_reducible exact H | (rw [hy400]; exact H) | exact H
                        have Ny400 := Aside0.mk hy400
                        clear hy400
                        have H' := Aside0.mk H
                        clear H
                        have p396 : 0 ≤ (x50_2 : Int) := of_decide_eq_true (by first | (with_reducible assumption) | assumption)
                        have q396 : x50_2 < (x14_2.length : Int) := of_decide_eq_true (by first | (with_reducible assumption) | assumption)
                        obtain ⟨ad396, e396, hx396_0⟩ := Kd.at_int (Kd.R_reads' HO_14.out).2.2 x50_2 p396 q396
                        cases e396
                        replace p396 := eq_true p396
                        replace q396 := eq_true q396
                        have p399 : 0 ≤ (x50_2 : Int) := of_decide_eq_true (by first | (with_reducible assumption) | assumption)
                        have q399 : x50_2 < (x14_2.length : Int) := of_decide_eq_true (by first | (with_reducible assumption) | assumption)
                        obtain ⟨ad399, e399, hx399_0⟩ := Kd.at_int (Kd.R_reads' HO_14.out).2.2 x50_2 p399 q399
                        obtain rfl : ad396 = ad399 := (by injection e399)
                        replace p399 := eq_true p399
                        replace q399 := eq_true q399
                        have p41 : 0 ≤ (x50_2 : Int) := of_decide_eq_true (by first | (with_reducible assumption) | assumption)
                        have q41 : (x50_2 : Int) < ((x14_2.length : Int) : Int) := of_decide_eq_true (by first | (with_reducible assumption) | assumption)
                        obtain ⟨go41, co41, eo41, gb41, gl41, cl41, HG41⟩ := Kd.R_form HO_14.out (by omega)
                        (first | cases eo41 | (injection eo41 with ea_ en_ ec_; (first | subst ea_ | (injection ea_ with ea_; subst ea_)); subst ec_; clear en_))
                        have GB41 := Aside0.mk gb41
                        have GG41 := Aside0.mk HG41
                        clear gb41 gl41 HG41
                        (first | simp only [add_plain] at hx396_0 | skip)
                        (first | simp only [add_plain] at hx399_0 | skip)
                        obtain ⟨hx41_0, hf41_0⟩ := Kd.R_celln 0 HO_14.out (x50_2 : Int) p41 q41
                        replace p41 := eq_true p41
                        replace q41 := eq_true q41
                        have HP42 := Kd.R_putg HO_14.out (x50_2 : Int) (IntKind.i16.wrap ((rd x14_2 x50_2) + (IntKind.i16.wrap (ji39))))
                        go_wp2_with (first | ((with_reducible refine gate_store (t := 48) (p := 80) rfl ?_); refine store_event (t := 48) (p := 80) (v := ?vo_w43) (w1 := (wr.setCell ⟨go41, (x50_2 : Int).toNat, none⟩ (.int .i16 (IntKind.i16.wrap ((rd x14_2 x50_2) + (IntKind.i16.wrap (ji39))))))) ?hg ?ho ?hn ?hr ?_; (case ho => rfl); (case hg => rfl); (case hn => rfl); (case hr => first | (go_simp; done) | (go_simp; rfl)); intro w43 hw; have hg : wr.grownBy w43 (some go41) := (by rw [hw]; exact HP42.2); have hp_ : Kd.R (Kd.int .i16) 48 w43 w.heap.size (fun _ => True) (.slice (some ⟨go41, 0, none⟩) x14_2.length co27) y400 := (by rw [hw, Ny400.out]; exact HP42.1); clear HP42; have n0_ := Aside0.mk (hp_); have n1_ := Aside0.mk ((by rw [hw]; exact below_set (HB.out) GB41.out : Below w.heap.size w w43)); clear HO_14; clear HB; have HO_14 := n0_; have HB := n1_; clear n0_ n1_; clear hg hw hp_))
                        (try simp only [← hl14_2])
                        go_roundg k2
                        case measure => have := HJ5.out; have := HK2.out; omega
                        case rel => exact ⟨(y400), (wrap64 (x15_2 + 1)), (wrap64 (x16_2 - (ji39))), (wrap64 (x50_2 + 1)), (by first | rfl | (simp; done) | (simp [*]; done)), (by first | rfl | (simp; done) | (simp only [← hji39] <;> (first | rfl | simp)) | (simp [*]; done)), (by first | rfl | (simp; done) | (simp [*]; done)), H', ⟨by have := HJ5.out; have := HK2.out; omega⟩, ⟨by (try simp only [hl14_2]); (with_reducible repeat (first | apply Kd.R_alloc | apply Kd.R_drewN | apply Kd.R_drew)); exact HO_14.out⟩, ⟨by repeat (first | (with_reducible first | exact HB.out | apply below_alloc | apply pw_below_drewN | apply below_drew1) | exact HB.out)⟩⟩
                  · rw [if_neg c30] at H
                    exact absurd H (by simp)
                · rw [if_neg c29] at H
                  exact absurd H (by simp)
              · rw [if_neg c28] at H
                have c28b0 : decide (x50_2 < (t392.length : Int)) = false := decide_eq_false c28
                have c28q_ : decide (x50_2 < (x14_2.length : Int)) = false := by rw [← hl14_2]; exact c28b0
                clear c28
                by_cases c44 : x16_2 = 0
                · rw [if_pos c44] at H
                  have c44b0 : (x16_2 == 0) = true := beq_iff_eq.mpr c44
                  have c44b1 : (x16_2 != 0) = false := bne_eq_false_iff_eq.mpr c44
                  clear c44
                  simp only [Option.some.injEq, Prod.mk.injEq] at H
                  obtain ⟨rfl, rfl, rfl⟩ := H
                  go_wp2
                  go_ret3
                  exact ⟨_, by first | rfl | (simp [errW_none, errW_some] <;> rfl) | (simp [*, errW_none, errW_some] <;> rfl), by (with_reducible repeat (first | apply Kd.R_alloc | apply Kd.R_drewN | apply Kd.R_drew)); exact HO_14.out, by repeat (first | (with_reducible first | exact HB.out | apply below_alloc | apply pw_below_drewN | apply below_drew1) | exact HB.out)⟩
                · rw [if_neg c44] at H
                  have c44b0 : (x16_2 == 0) = false := beq_eq_false_iff_ne.mpr c44
                  have c44b1 : (x16_2 != 0) = true := bne_iff_ne.mpr c44
                  simp only [Option.some.injEq, Prod.mk.injEq] at H
                  obtain ⟨rfl, rfl, rfl⟩ := H
                  go_wp2
                  go_ret3
                  exact ⟨_, by first | rfl | (simp [errW_none, errW_some] <;> rfl) | (simp [*, errW_none, errW_some] <;> rfl), by first | exact Kd.R_nil _ _ _ _ _ | exact Kd.N_nil _ _ _ _ _ | exact Kd.V_nil _ _ _ _ _ | exact Kd.Q_nil _ _ _ _ _ | exact Kd.S_nil _ _ _ _ _, by repeat (first | (with_reducible first | exact HB.out | apply below_alloc | apply pw_below_drewN | apply below_drew1) | exact HB.out)⟩
      · rw [if_neg c22] at H
        have c22b0 : (x13_5 == 0) = false := beq_eq_false_iff_ne.mpr c22
        have c22b1 : (x13_5 != 0) = true := bne_iff_ne.mpr c22
        simp only [Option.some.injEq, Prod.mk.injEq] at H
        obtain ⟨rfl, rfl, rfl⟩ := H
        go_wp2
        go_ret3
        exact ⟨_, by first | rfl | (simp [errW_none, errW_some] <;> rfl) | (simp [*, errW_none, errW_some] <;> rfl), by first | exact Kd.R_nil _ _ _ _ _ | exact Kd.N_nil _ _ _ _ _ | exact Kd.V_nil _ _ _ _ _ | exact Kd.Q_nil _ _ _ _ _ | exact Kd.S_nil _ _ _ _ _, by repeat (first | (with_reducible first | exact HB.out | apply below_alloc | apply pw_below_drewN | apply below_drew1) | exact HB.out)⟩

end Go.Proofs.Ytjkjelfhdhcplaa.PA
