/- Pure functions, and that Go's functions come to them. -/
import Derived.Test.YtnkihjabmbeicaaPAx0
import Derived.Test.YtnkihjabmbeicaaPAxf28
namespace Go.Proofs.Ytnkihjabmbeicaa.PA
open Go.RowKit Go.Proofs.YtnkihjabmbeicaaW.PrintWords Go.Proofs.YtnkihjabmbeicaaW.PrintLast Go.Proofs.YtnkihjabmbeicaaW.PrintMore
set_option linter.unusedVariables false
set_option linter.unusedSimpArgs false

/-! ### spec_l04Cut: function 29 -/
theorem spec_l04Cut.kept_call {Q : World → Prop} {w W : World} {S S2 : Nat → Prop} (h : ∀ W', Kept w W' S → Q W') (hk : Kept w W S) (hs : ∀ k, S2 k → S k ∨ w.heap.size ≤ k) : ∀ W', Kept W W' S2 → Q W' := fun W' hk' => h W' (hk.then_ hk' hs)
theorem spec_l04Cut.tcell {W : World} {g T : Nat} {xs : List Int} (h : W.heap[g]? = some (.cells (spec_l04Worth.cs xs) T (0, 0))) (hl : xs.length = 625) (i j : Int) (i0 : 0 ≤ i) (i1 : i < 25) (j0 : 0 ≤ j) (j1 : j < 25) :
  W.cell? ⟨g, i.toNat * 25 + j.toNat, none⟩ = some (.int .i64 (rd xs (i * 25 + j))) := by
 have := (spec_l04Worth.tab_cell (spec_l04Worth.tab_of h hl (Nat.zero_le _)) i j i0 i1 j0 j1).1
 exact this
mutual
def spec_l04Cut.l0 (P_ : (List (S48) → Int → List Int → Int → Int → Int → Int → Int → Int → List (S46) → Option (List (S48)))) : Nat → List (S48) → List Int → Int → Int → List (S46) → Int → Int → Int → Option ((List (S48)))
 | 0, _, _, _, _, _, _, _, _ => none
 | k + 1, x0, x1, x2, x3, x4, x11, x12, x13 => if x13 < (x4.length : Int) then (if 0 ≤ x13 then (if (wrap64 ((rd_T46 x4 x13).f0)) = x2 then (if (wrap64 ((rd_T46 x4 x13).f1)) = x3 then (if (wrap64 ((rd_T46 x4 x13).f2)) = x11 then (if 0 ≤ x12 then (if x12 < (x0.length : Int) then (some (x0.set (x12 : Int).toNat (⟨1, 0, IntKind.i8.wrap (x13), 0⟩ : S48))) else (none)) else (none)) else (spec_l04Cut.l0 P_ k x0 x1 x2 x3 x4 x11 x12 (wrap64 (x13 + 1)))) else (spec_l04Cut.l0 P_ k x0 x1 x2 x3 x4 x11 x12 (wrap64 (x13 + 1)))) else (spec_l04Cut.l0 P_ k x0 x1 x2 x3 x4 x11 x12 (wrap64 (x13 + 1)))) else (none)) else (spec_l04Cut.l1 P_ k x0 x1 x2 x3 x4 x11 x12 1)
def spec_l04Cut.l1 (P_ : (List (S48) → Int → List Int → Int → Int → Int → Int → Int → Int → List (S46) → Option (List (S48)))) : Nat → List (S48) → List Int → Int → Int → List (S46) → Int → Int → Int → Option ((List (S48)))
 | 0, _, _, _, _, _, _, _, _ => none
 | k + 1, x0, x1, x2, x3, x4, x11, x12, x14 => if x14 < x2 then (if 0 ≤ x14 then (if x14 < 25 then (if 0 ≤ x3 then (if x3 < 25 then (if 0 ≤ (wrap64 (x2 - x14)) then (if (wrap64 (x2 - x14)) < 25 then (if (wrap64 ((rd x1 (x14 * 25 + x3)) + (rd x1 ((wrap64 (x2 - x14)) * 25 + x3)))) = x11 then ((P_ x0 x12 x1 2 x14 x14 x3 (wrap64 (x2 - x14)) x3 x4).bind fun t137 => (some t137)) else (spec_l04Cut.l1 P_ k x0 x1 x2 x3 x4 x11 x12 (wrap64 (x14 + 1)))) else (none)) else (none)) else (none)) else (none)) else (none)) else (none)) else (spec_l04Cut.l2 P_ k x0 x1 x2 x3 x4 x11 x12 1)
def spec_l04Cut.l2 (P_ : (List (S48) → Int → List Int → Int → Int → Int → Int → Int → Int → List (S46) → Option (List (S48)))) : Nat → List (S48) → List Int → Int → Int → List (S46) → Int → Int → Int → Option ((List (S48)))
 | 0, _, _, _, _, _, _, _, _ => none
 | k + 1, x0, x1, x2, x3, x4, x11, x12, x15 => if 0 ≤ x2 then (if x2 < 25 then (if 0 ≤ x15 then (if x15 < 25 then (if 0 ≤ (wrap64 (x3 - x15)) then (if (wrap64 (x3 - x15)) < 25 then (if (wrap64 ((rd x1 (x2 * 25 + x15)) + (rd x1 (x2 * 25 + (wrap64 (x3 - x15)))))) = x11 then ((P_ x0 x12 x1 3 x15 x2 x15 x2 (wrap64 (x3 - x15)) x4).bind fun t142 => (some t142)) else (spec_l04Cut.l2 P_ k x0 x1 x2 x3 x4 x11 x12 (wrap64 (x15 + 1)))) else (none)) else (none)) else (none)) else (none)) else (none)) else (none)
end
def spec_l04Cut.b (P_ : (List (S48) → Int → List Int → Int → Int → Int → Int → Int → Int → List (S46) → Option (List (S48)))) (k : Nat) (l0 : List (S48)) (l1 : List Int) (a2 : Int) (a3 : Int) (l4 : List (S46)) : Option ((List (S48))) := if 0 ≤ a2 then (if a2 < 25 then (if 0 ≤ a3 then (if a3 < 25 then (if l0.length < 35184372088832 then ((some (l0 ++ [(⟨0, 0, 0, 0⟩ : S48)] : List (S48))).bind fun y128 => (if (rd l1 (a2 * 25 + a3)) = 0 then (some y128) else (spec_l04Cut.l0 P_ k y128 l1 a2 a3 l4 (rd l1 (a2 * 25 + a3)) (l0.length : Int) 0))) else (none)) else (none)) else (none)) else (none)) else (none)
def spec_l04Cut.q (C_ : (List (S48) → List Int → Int → Int → List (S46) → Option (List (S48)))) (l0 : List (S48)) (a1 : Int) (l2 : List Int) (a3 : Int) (a4 : Int) (a5_0 : Int) (a5_1 : Int) (a5_2 : Int) (a5_3 : Int) (l6 : List (S46)) : Option ((List (S48))) := if (l0.length : Int) > 60 then (some l0) else ((C_ l0 l2 a5_0 a5_1 l6).bind fun t128 => (if (t128.length : Int) > 60 then (some t128) else ((C_ t128 l2 a5_2 a5_3 l6).bind fun t131 => (if 0 ≤ a1 then (if a1 < (t131.length : Int) then (some (t131.set (a1 : Int).toNat (⟨a3, IntKind.i8.wrap (a4), IntKind.i8.wrap ((l0.length : Int)), IntKind.i8.wrap ((t128.length : Int))⟩ : S48))) else (none)) else (none)))))
def spec_l04Cut.f : Nat → List (S48) → List Int → Int → Int → List (S46) → Option (List (S48))
 | 0, _, _, _, _, _ => none
 | k + 1, l0, l1, a2, a3, l4 => spec_l04Cut.b (spec_l04Cut.q (spec_l04Cut.f k)) k l0 l1 a2 a3 l4
theorem spec_l04Cut.mono_l {P_ P2_ : (List (S48) → Int → List Int → Int → Int → Int → Int → Int → Int → List (S46) → Option (List (S48)))} (hP : ∀ x0 x1 x2 x3 x4 x5 x6 x7 x8 x9, LeO (P_ x0 x1 x2 x3 x4 x5 x6 x7 x8 x9) (P2_ x0 x1 x2 x3 x4 x5 x6 x7 x8 x9)) : ∀ k, (∀ y0 y1 y2 y3 y4 y5 y6 y7, LeO (spec_l04Cut.l0 P_ k y0 y1 y2 y3 y4 y5 y6 y7) (spec_l04Cut.l0 P2_ (k + 1) y0 y1 y2 y3 y4 y5 y6 y7)) ∧ (∀ y0 y1 y2 y3 y4 y5 y6 y7, LeO (spec_l04Cut.l1 P_ k y0 y1 y2 y3 y4 y5 y6 y7) (spec_l04Cut.l1 P2_ (k + 1) y0 y1 y2 y3 y4 y5 y6 y7)) ∧ (∀ y0 y1 y2 y3 y4 y5 y6 y7, LeO (spec_l04Cut.l2 P_ k y0 y1 y2 y3 y4 y5 y6 y7) (spec_l04Cut.l2 P2_ (k + 1) y0 y1 y2 y3 y4 y5 y6 y7))
 | 0 => ⟨fun _ _ _ _ _ _ _ _ r h => by simp [spec_l04Cut.l0] at h, fun _ _ _ _ _ _ _ _ r h => by simp [spec_l04Cut.l1] at h, fun _ _ _ _ _ _ _ _ r h => by simp [spec_l04Cut.l2] at h⟩
 | k + 1 => by
  obtain ⟨ih0, ih1, ih2⟩ := spec_l04Cut.mono_l hP k
  refine ⟨?_, ?_, ?_⟩ <;> intros
  all_goals first | unfold spec_l04Cut.l0 | unfold spec_l04Cut.l1 | unfold spec_l04Cut.l2
  all_goals repeat' first | (with_reducible first | exact ih0 _ _ _ _ _ _ _ _ | exact ih1 _ _ _ _ _ _ _ _ | exact ih2 _ _ _ _ _ _ _ _ | exact hP _ _ _ _ _ _ _ _ _ _ | exact LeO.refl _ | exact LeO.none _ | refine LeO.ite ?_ ?_ | refine LeO.bind ?_ (fun _ => ?_))
theorem spec_l04Cut.monoB {P_ P2_ : (List (S48) → Int → List Int → Int → Int → Int → Int → Int → Int → List (S46) → Option (List (S48)))} (hP : ∀ x0 x1 x2 x3 x4 x5 x6 x7 x8 x9, LeO (P_ x0 x1 x2 x3 x4 x5 x6 x7 x8 x9) (P2_ x0 x1 x2 x3 x4 x5 x6 x7 x8 x9)) : ∀ a0 a1 a2 a3 a4 k, LeO (spec_l04Cut.b P_ k a0 a1 a2 a3 a4) (spec_l04Cut.b P2_ (k + 1) a0 a1 a2 a3 a4) := by
 intro a0 a1 a2 a3 a4 k
 obtain ⟨ih0, ih1, ih2⟩ := spec_l04Cut.mono_l hP k
 unfold spec_l04Cut.b
 repeat' first | (with_reducible first | exact ih0 _ _ _ _ _ _ _ _ | exact ih1 _ _ _ _ _ _ _ _ | exact ih2 _ _ _ _ _ _ _ _ | exact hP _ _ _ _ _ _ _ _ _ _ | exact LeO.refl _ | exact LeO.none _ | refine LeO.ite ?_ ?_ | refine LeO.bind ?_ (fun _ => ?_))
theorem spec_l04Cut.monoQ {C_ C2_ : (List (S48) → List Int → Int → Int → List (S46) → Option (List (S48)))} (hC : ∀ x0 x1 x2 x3 x4, LeO (C_ x0 x1 x2 x3 x4) (C2_ x0 x1 x2 x3 x4)) : ∀ x0 x1 x2 x3 x4 x5 x6 x7 x8 x9, LeO (spec_l04Cut.q C_ x0 x1 x2 x3 x4 x5 x6 x7 x8 x9) (spec_l04Cut.q C2_ x0 x1 x2 x3 x4 x5 x6 x7 x8 x9) := by
 intro x0 x1 x2 x3 x4 x5 x6 x7 x8 x9
 unfold spec_l04Cut.q
 repeat' first | (with_reducible first | exact hC _ _ _ _ _ | exact LeO.refl _ | exact LeO.none _ | refine LeO.ite ?_ ?_ | refine LeO.bind ?_ (fun _ => ?_))
theorem spec_l04Cut.mono_r : ∀ k a0 a1 a2 a3 a4, LeO (spec_l04Cut.f k a0 a1 a2 a3 a4) (spec_l04Cut.f (k + 1) a0 a1 a2 a3 a4)
 | 0, _, _, _, _, _ => fun r h => by simp [spec_l04Cut.f] at h
 | k + 1, a0, a1, a2, a3, a4 => by
  rw [spec_l04Cut.f, spec_l04Cut.f]
  exact spec_l04Cut.monoB (spec_l04Cut.monoQ (spec_l04Cut.mono_r k)) a0 a1 a2 a3 a4 k
theorem spec_l04Cut.mono : ∀ a0 a1 a2 a3 a4 k, LeO (spec_l04Cut.f k a0 a1 a2 a3 a4) (spec_l04Cut.f (k + 1) a0 a1 a2 a3 a4) := fun a0 a1 a2 a3 a4 k => spec_l04Cut.mono_r k a0 a1 a2 a3 a4
set_option maxHeartbeats 8000000 in
set_option maxRecDepth 100000 in
theorem spec_l04Cut.callsQ (C_ : (List (S48) → List Int → Int → Int → List (S46) → Option (List (S48)))) (HC_ : ∀ (P0_ : Nat → Prop) (u9000_ : Value) (l0 : List (S48)) (gt : Nat) (l1 : List Int) (a2 : Int) (a3 : Int) (A4 : Option Addr) (c4 : Nat) (l4 : List (S46)) (r : List (S48)) (w0 w : World) (hB : Below w0.heap.size w0 w) (ho0 : Kd.R k48 48 w w0.heap.size P0_ u9000_ l0) (hr1 : ∀ W_, Kept w W_ (fun k_ => P0_ k_) → W_.heap[gt]? = some (.cells (spec_l04Worth.cs l1) 65 (0, 0))) (hc1 : l1.length = 625) (hr4 : ∀ W_, Kept w W_ (fun k_ => P0_ k_) → Kd.C k46 W_ A4 l4.length l4) (hc4 : l4.length ≤ c4) (h : C_ l0 l1 a2 a3 l4 = some r), Calls Try.prog 29 #[u9000_, .pointer (some ⟨gt, 0, none⟩), .int .i64 a2, .int .i64 a3, .slice A4 l4.length c4] w fun e w' => ∃ v0_ : Value, e = .returned (v0_) ∧ Kd.R k48 48 w' w0.heap.size (fun k_ => (P0_ k_ ∨ w.heap.size ≤ k_)) v0_ r ∧ Below w0.heap.size w0 w' ∧ Kept w w' (fun k_ => P0_ k_)) (P0_ : Nat → Prop) (u9000_ : Value) (l0 : List (S48)) (a1 : Int) (gt : Nat) (l2 : List Int) (a3 : Int) (a4 : Int) (a5_0 : Int) (a5_1 : Int) (a5_2 : Int) (a5_3 : Int) (A6 : Option Addr) (c6 : Nat) (l6 : List (S46)) (r : List (S48)) (w0 w : World) (hB : Below w0.heap.size w0 w) (ho0 : Kd.R k48 48 w w0.heap.size P0_ u9000_ l0) (hr2 : ∀ W_, Kept w W_ (fun k_ => P0_ k_) → W_.heap[gt]? = some (.cells (spec_l04Worth.cs l2) 65 (0, 0))) (hc2 : l2.length = 625) (hr6 : ∀ W_, Kept w W_ (fun k_ => P0_ k_) → Kd.C k46 W_ A6 l6.length l6) (hc6 : l6.length ≤ c6) (h : spec_l04Cut.q C_ l0 a1 l2 a3 a4 a5_0 a5_1 a5_2 a5_3 l6 = some r) :
  Calls Try.prog 45 #[u9000_, .int .i64 a1, .pointer (some ⟨gt, 0, none⟩), .int .i8 a3, .int .i64 a4, .agg #[.int .i64 a5_0, .int .i64 a5_1, .int .i64 a5_2, .int .i64 a5_3], .slice A6 l6.length c6] w fun e w' => ∃ v0_ : Value, e = .returned (v0_) ∧ Kd.R k48 48 w' w0.heap.size (fun k_ => (P0_ k_ ∨ w.heap.size ≤ k_)) v0_ r ∧ Below w0.heap.size w0 w' ∧ Kept w w' (fun k_ => P0_ k_) := by
 have hu85 := Try.underlying85
 have hu48 := Try.underlying48
 have HO0 := Aside0.mk (show Kd.R k48 48 w w0.heap.size (fun k_ => (P0_ k_ ∨ w.heap.size ≤ k_)) u9000_ l0 from Kd.R_mono ho0 (fun k_ hk => (.inl hk)))
 have HR2 := Aside0.mk hr2
 have HC2 := Aside0.mk hc2
 clear hr2 hc2
 have HR6 := Aside0.mk hr6
 have HC6 := Aside0.mk hc6
 clear hr6 hc6
 have HK := Aside0.mk (Kept.refl w (fun k_ => P0_ k_))
 have HW0 := Aside0.mk hB.size
 have HB := Aside0.mk hB
 clear hB
 have H : (if (l0.length : Int) > 60 then (some l0) else ((C_ l0 l2 a5_0 a5_1 l6).bind fun t128 => (if (t128.length : Int) > 60 then (some t128) else ((C_ t128 l2 a5_2 a5_3 l6).bind fun t131 => (if 0 ≤ a1 then (if a1 < (t131.length : Int) then (some (t131.set (a1 : Int).toNat (⟨a3, IntKind.i8.wrap (a4), IntKind.i8.wrap ((l0.length : Int)), IntKind.i8.wrap ((t128.length : Int))⟩ : S48))) else (none)) else (none)))))) = some r := h
 clear h
 by_cases c8 : (l0.length : Int) > 60
 ·
  rw [if_pos c8] at H
  have c8b0 : decide (60 < (l0.length : Int)) = true := decide_eq_true c8
  have c8b1 : decide (60 < l0.length) = true := decide_eq_true (by omega)
  clear c8
  obtain rfl := Option.some.inj H
  go_enter Try.func45, Try.ntmps45
  go_wp2_with (first | ((with_reducible refine gate_dst (N := 12) rfl ?_); refine boxM_ 12 #[.int .i64 a5_0, .int .i64 a5_1, .int .i64 a5_2, .int .i64 a5_3] 85 ?_; intro gb127 hg w9 hbox hb; replace HO0 := Aside0.mk (Kd.R_below (kp_ HO0) hb); have BK127 := Aside0.mk (hbox); have GW127 := Aside0.mk ((by rw [hg]; exact (by first | exact HK.out.1 | exact (show Kept w _ (fun k_ => P0_ k_) from by repeat (first | (with_reducible first | exact HK.out | apply Kept.alloc | apply Kept.drewN | apply Kept.drew) | exact HK.out)).1) : w.heap.size ≤ gb127)); replace HK := Aside0.mk (Kept.below (S := (fun k_ => P0_ k_)) (by repeat (first | (with_reducible first | exact HK.out | apply Kept.alloc | apply Kept.drewN | apply Kept.drew) | exact HK.out)) hb); have GE127 := Aside0.mk ((by rw [hg]; exact (below_size (kB_ HB)) : w0.heap.size ≤ gb127)); replace HB := bs_ HB hb; clear hb hbox hg; obtain ⟨Ao10, co10, eo10⟩ := Kd.R_slice HO0.out; subst eo10))
  go_ret
  exact ⟨_, by first | rfl | (simp [errW_none, errW_some] <;> rfl) | (simp [*, errW_none, errW_some] <;> rfl), by (with_reducible repeat (first | apply Kd.R_alloc | apply Kd.R_drewN | apply Kd.R_drew)); exact HO0.out, k1_ HB GE127, by repeat (first | (with_reducible first | exact HK.out | apply Kept.alloc | apply Kept.drewN | apply Kept.drew | refine Kept.setCell ?_ (.inr GW127.out) _) | exact HK.out)⟩
 rw [if_neg c8] at H
 have c8b0 : decide (60 < (l0.length : Int)) = false := decide_eq_false c8
 have c8b1 : decide (60 < l0.length) = false := decide_eq_false (by omega)
 clear c8
 obtain ⟨t128, A11, H⟩ := be_ H
 (try dsimp only at H)
 by_cases c12 : (t128.length : Int) > 60
 ·
  rw [if_pos c12] at H
  have c12b0 : decide (60 < (t128.length : Int)) = true := decide_eq_true c12
  have c12b1 : decide (60 < t128.length) = true := decide_eq_true (by omega)
  clear c12
  obtain rfl := Option.some.inj H
  go_enter Try.func45, Try.ntmps45
  go_wp2_with (first | ((with_reducible refine gate_dst (N := 12) rfl ?_); refine boxM_ 12 #[.int .i64 a5_0, .int .i64 a5_1, .int .i64 a5_2, .int .i64 a5_3] 85 ?_; intro gb127 hg w13 hbox hb; replace HO0 := Aside0.mk (Kd.R_below (kp_ HO0) hb); have BK127 := Aside0.mk (hbox); have GW127 := Aside0.mk ((by rw [hg]; exact (by first | exact HK.out.1 | exact (show Kept w _ (fun k_ => P0_ k_) from by repeat (first | (with_reducible first | exact HK.out | apply Kept.alloc | apply Kept.drewN | apply Kept.drew) | exact HK.out)).1) : w.heap.size ≤ gb127)); replace HK := Aside0.mk (Kept.below (S := (fun k_ => P0_ k_)) (by repeat (first | (with_reducible first | exact HK.out | apply Kept.alloc | apply Kept.drewN | apply Kept.drew) | exact HK.out)) hb); have GE127 := Aside0.mk ((by rw [hg]; exact (below_size (kB_ HB)) : w0.heap.size ≤ gb127)); replace HB := bs_ HB hb; clear hb hbox hg; obtain ⟨Ao14, co14, eo14⟩ := Kd.R_slice HO0.out; subst eo14; have hcz15_0 : w13.cell? ⟨gb127, 0, none⟩ = some (.int .i64 a5_0) := (blk_cell BK127.out 0).trans rfl; have hcz15_1 : w13.cell? ⟨gb127, 1, none⟩ = some (.int .i64 a5_1) := (blk_cell BK127.out 1).trans rfl; have hcz15_2 : w13.cell? ⟨gb127, 2, none⟩ = some (.int .i64 a5_2) := (blk_cell BK127.out 2).trans rfl; have hcz15_3 : w13.cell? ⟨gb127, 3, none⟩ = some (.int .i64 a5_3) := (blk_cell BK127.out 3).trans rfl; have hfz15_0 := blk_frozen BK127.out 0; have hfz15_1 := blk_frozen BK127.out 1; have hfz15_2 := blk_frozen BK127.out 2; have hfz15_3 := blk_frozen BK127.out 3) | ((with_reducible refine gate_callee (f := 29) rfl ?_); refine goM_ (some 29) Try.func29 #[.slice Ao14 l0.length co14, .pointer (some ⟨gt, 0, none⟩), .int .i64 a5_0, .int .i64 a5_1, .slice A6 l6.length c6] ?_; (with_reducible refine (HC_ (fun k_ => some k_ = (.slice Ao14 l0.length co14 : Value).ownBlock) (.slice Ao14 l0.length co14) l0 gt l2 a5_0 a5_1 _ _ l6 t128 w0 _ ?side1 ?side2 ?side3 ?side4 ?side5 ?side6 A11.out).mono ?_); (case side1 => repeat (first | (with_reducible first | exact HB.out | apply below_alloc | apply pw_below_drewN | apply below_drew1 | refine below_set ?_ GE127.out) | exact HB.out)); (case side2 => exact Kd.R_tight rfl HO0.out); (case side3 => exact spec_l04Cut.kept_call HR2.out (by repeat (first | (with_reducible first | exact HK.out | apply Kept.alloc | apply Kept.drewN | apply Kept.drew | refine Kept.setCell ?_ (.inr GW127.out) _) | exact HK.out)) (fun k_ hs_ => (fun e_ => (HO0.out.1 k_ e_.symm)) hs_)); (case side4 => exact HC2.out); (case side5 => exact Kd.C_kept_call HR6.out (by repeat (first | (with_reducible first | exact HK.out | apply Kept.alloc | apply Kept.drewN | apply Kept.drew | refine Kept.setCell ?_ (.inr GW127.out) _) | exact HK.out)) (fun k_ hs_ => (fun e_ => (HO0.out.1 k_ e_.symm)) hs_)); (case side6 => exact HC6.out); rintro e w16 ⟨v129, rfl, ho0, hb, hkp⟩; refine ⟨_, rfl, ?_⟩; have n0_ := Aside0.mk (blk_kept (kb_ BK127) hkp (fun hs_ => (fun e_ => (Kd.R_ne HO0.out BK127.out (by decide)) e_) hs_)); have n1_ := Aside0.mk (Kd.R_mono (ok' := fun k_ => (P0_ k_ ∨ w.heap.size ≤ k_)) ho0 (fun k_ hk_ => Or.elim hk_ (fun hs_ => (HO0.out.1 k_ (hs_).symm)) (fun hn_ => (.inr (Nat.le_trans (by first | exact HK.out.1 | exact (show Kept w _ (fun k_ => P0_ k_) from by repeat (first | (with_reducible first | exact HK.out | apply Kept.alloc | apply Kept.drewN | apply Kept.drew | refine Kept.setCell ?_ (.inr GW127.out) _) | exact HK.out)).1) hn_))))); have n2_ := Aside0.mk (Kept.then_ (S := (fun k_ => P0_ k_)) (by repeat (first | (with_reducible first | exact HK.out | apply Kept.alloc | apply Kept.drewN | apply Kept.drew | refine Kept.setCell ?_ (.inr GW127.out) _) | exact HK.out)) hkp (fun k_ hs_ => (fun e_ => (HO0.out.1 k_ e_.symm)) hs_)); have n3_ := Aside0.mk (hb); clear BK127; clear HK; clear HB; clear HO0; have BK127 := n0_; have HO130 := n1_; have HK := n2_; have HB := n3_; clear n0_ n1_ n2_ n3_; clear hb; (try clear hkp); (try clear ho0); obtain ⟨Ao17, co17, eo17⟩ := Kd.R_slice HO130.out; subst eo17))
  go_ret
  exact ⟨_, by first | rfl | (simp [errW_none, errW_some] <;> rfl) | (simp [*, errW_none, errW_some] <;> rfl), by (with_reducible repeat (first | apply Kd.R_alloc | apply Kd.R_drewN | apply Kd.R_drew)); exact HO130.out, k1_ HB GE127, by repeat (first | (with_reducible first | exact HK.out | apply Kept.alloc | apply Kept.drewN | apply Kept.drew | refine Kept.setCell ?_ (.inr GW127.out) _) | exact HK.out)⟩
 rw [if_neg c12] at H
 have c12b0 : decide (60 < (t128.length : Int)) = false := decide_eq_false c12
 have c12b1 : decide (60 < t128.length) = false := decide_eq_false (by omega)
 clear c12
 obtain ⟨t131, A18, H⟩ := be_ H
 (try dsimp only at H)
 obtain ⟨c19b0, H⟩ := gx_ H
 obtain ⟨c20b0, H⟩ := gx_ H
 obtain ⟨y134, hy134⟩ : ∃ y_ : List (S48), y_ = (t131.set (a1 : Int).toNat (⟨a3, IntKind.i8.wrap (a4), IntKind.i8.wrap ((l0.length : Int)), IntKind.i8.wrap ((t128.length : Int))⟩ : S48)) := ⟨_, rfl⟩
 replace H : (some y134) = some r := by first | (rw [hy134]; with_reducible exact H) | (have H2_ := (Option.bind_some _ _).symm.trans H; rw [hy134]; with_reducible exact H2_) | (have H2_ := (Option.bind_some _ _).symm.trans H; with_reducible exact H2_) | with_reducible exact H | (rw [hy134]; exact H) | exact H
 have Ny134 := Aside0.mk hy134
 clear hy134
 obtain rfl := Option.some.inj H
 go_enter Try.func45, Try.ntmps45
 go_wp2_with (first | ((with_reducible refine gate_dst (N := 12) rfl ?_); refine boxM_ 12 #[.int .i64 a5_0, .int .i64 a5_1, .int .i64 a5_2, .int .i64 a5_3] 85 ?_; intro gb127 hg w22 hbox hb; replace HO0 := Aside0.mk (Kd.R_below (kp_ HO0) hb); have BK127 := Aside0.mk (hbox); have GW127 := Aside0.mk ((by rw [hg]; exact (by first | exact HK.out.1 | exact (show Kept w _ (fun k_ => P0_ k_) from by repeat (first | (with_reducible first | exact HK.out | apply Kept.alloc | apply Kept.drewN | apply Kept.drew) | exact HK.out)).1) : w.heap.size ≤ gb127)); replace HK := Aside0.mk (Kept.below (S := (fun k_ => P0_ k_)) (by repeat (first | (with_reducible first | exact HK.out | apply Kept.alloc | apply Kept.drewN | apply Kept.drew) | exact HK.out)) hb); have GE127 := Aside0.mk ((by rw [hg]; exact (below_size (kB_ HB)) : w0.heap.size ≤ gb127)); replace HB := bs_ HB hb; clear hb hbox hg; obtain ⟨Ao23, co23, eo23⟩ := Kd.R_slice HO0.out; subst eo23; have hcz24_0 : w22.cell? ⟨gb127, 0, none⟩ = some (.int .i64 a5_0) := (blk_cell BK127.out 0).trans rfl; have hcz24_1 : w22.cell? ⟨gb127, 1, none⟩ = some (.int .i64 a5_1) := (blk_cell BK127.out 1).trans rfl; have hcz24_2 : w22.cell? ⟨gb127, 2, none⟩ = some (.int .i64 a5_2) := (blk_cell BK127.out 2).trans rfl; have hcz24_3 : w22.cell? ⟨gb127, 3, none⟩ = some (.int .i64 a5_3) := (blk_cell BK127.out 3).trans rfl; have hfz24_0 := blk_frozen BK127.out 0; have hfz24_1 := blk_frozen BK127.out 1; have hfz24_2 := blk_frozen BK127.out 2; have hfz24_3 := blk_frozen BK127.out 3) | ((with_reducible refine gate_callee (f := 29) rfl ?_); refine goM_ (some 29) Try.func29 #[.slice Ao23 l0.length co23, .pointer (some ⟨gt, 0, none⟩), .int .i64 a5_0, .int .i64 a5_1, .slice A6 l6.length c6] ?_; (with_reducible refine (HC_ (fun k_ => some k_ = (.slice Ao23 l0.length co23 : Value).ownBlock) (.slice Ao23 l0.length co23) l0 gt l2 a5_0 a5_1 _ _ l6 t128 w0 _ ?side1 ?side2 ?side3 ?side4 ?side5 ?side6 A11.out).mono ?_); (case side1 => repeat (first | (with_reducible first | exact HB.out | apply below_alloc | apply pw_below_drewN | apply below_drew1 | refine below_set ?_ GE127.out) | exact HB.out)); (case side2 => exact Kd.R_tight rfl HO0.out); (case side3 => exact spec_l04Cut.kept_call HR2.out (by repeat (first | (with_reducible first | exact HK.out | apply Kept.alloc | apply Kept.drewN | apply Kept.drew | refine Kept.setCell ?_ (.inr GW127.out) _) | exact HK.out)) (fun k_ hs_ => (fun e_ => (HO0.out.1 k_ e_.symm)) hs_)); (case side4 => exact HC2.out); (case side5 => exact Kd.C_kept_call HR6.out (by repeat (first | (with_reducible first | exact HK.out | apply Kept.alloc | apply Kept.drewN | apply Kept.drew | refine Kept.setCell ?_ (.inr GW127.out) _) | exact HK.out)) (fun k_ hs_ => (fun e_ => (HO0.out.1 k_ e_.symm)) hs_)); (case side6 => exact HC6.out); rintro e w25 ⟨v129, rfl, ho0, hb, hkp⟩; refine ⟨_, rfl, ?_⟩; have n0_ := Aside0.mk (blk_kept (kb_ BK127) hkp (fun hs_ => (fun e_ => (Kd.R_ne HO0.out BK127.out (by decide)) e_) hs_)); have n1_ := Aside0.mk (Kd.R_mono (ok' := fun k_ => (P0_ k_ ∨ w.heap.size ≤ k_)) ho0 (fun k_ hk_ => Or.elim hk_ (fun hs_ => (HO0.out.1 k_ (hs_).symm)) (fun hn_ => (.inr (Nat.le_trans (by first | exact HK.out.1 | exact (show Kept w _ (fun k_ => P0_ k_) from by repeat (first | (with_reducible first | exact HK.out | apply Kept.alloc | apply Kept.drewN | apply Kept.drew | refine Kept.setCell ?_ (.inr GW127.out) _) | exact HK.out)).1) hn_))))); have n2_ := Aside0.mk (Kept.then_ (S := (fun k_ => P0_ k_)) (by repeat (first | (with_reducible first | exact HK.out | apply Kept.alloc | apply Kept.drewN | apply Kept.drew | refine Kept.setCell ?_ (.inr GW127.out) _) | exact HK.out)) hkp (fun k_ hs_ => (fun e_ => (HO0.out.1 k_ e_.symm)) hs_)); have n3_ := Aside0.mk (hb); clear BK127; clear HK; clear HB; clear HO0; have BK127 := n0_; have HO130 := n1_; have HK := n2_; have HB := n3_; clear n0_ n1_ n2_ n3_; clear hb; (try clear hkp); (try clear ho0); obtain ⟨Ao26, co26, eo26⟩ := Kd.R_slice HO130.out; subst eo26; have hcz27_0 : w25.cell? ⟨gb127, 0, none⟩ = some (.int .i64 a5_0) := (blk_cell BK127.out 0).trans rfl; have hcz27_1 : w25.cell? ⟨gb127, 1, none⟩ = some (.int .i64 a5_1) := (blk_cell BK127.out 1).trans rfl; have hcz27_2 : w25.cell? ⟨gb127, 2, none⟩ = some (.int .i64 a5_2) := (blk_cell BK127.out 2).trans rfl; have hcz27_3 : w25.cell? ⟨gb127, 3, none⟩ = some (.int .i64 a5_3) := (blk_cell BK127.out 3).trans rfl; have hfz27_0 := blk_frozen BK127.out 0; have hfz27_1 := blk_frozen BK127.out 1; have hfz27_2 := blk_frozen BK127.out 2; have hfz27_3 := blk_frozen BK127.out 3) | ((with_reducible refine gate_callee (f := 29) rfl ?_); refine goM_ (some 42) Try.func29 #[.slice Ao26 t128.length co26, .pointer (some ⟨gt, 0, none⟩), .int .i64 a5_2, .int .i64 a5_3, .slice A6 l6.length c6] ?_; (with_reducible refine (HC_ (fun k_ => some k_ = (.slice Ao26 t128.length co26 : Value).ownBlock) (.slice Ao26 t128.length co26) t128 gt l2 a5_2 a5_3 _ _ l6 t131 w0 _ ?side1 ?side2 ?side3 ?side4 ?side5 ?side6 A18.out).mono ?_); (case side1 => repeat (first | (with_reducible first | exact HB.out | apply below_alloc | apply pw_below_drewN | apply below_drew1 | refine below_set ?_ GE127.out) | exact HB.out)); (case side2 => exact Kd.R_tight rfl HO130.out); (case side3 => exact spec_l04Cut.kept_call HR2.out (by repeat (first | (with_reducible first | exact HK.out | apply Kept.alloc | apply Kept.drewN | apply Kept.drew | refine Kept.setCell ?_ (.inr GW127.out) _) | exact HK.out)) (fun k_ hs_ => (fun e_ => (HO130.out.1 k_ e_.symm)) hs_)); (case side4 => exact HC2.out); (case side5 => exact Kd.C_kept_call HR6.out (by repeat (first | (with_reducible first | exact HK.out | apply Kept.alloc | apply Kept.drewN | apply Kept.drew | refine Kept.setCell ?_ (.inr GW127.out) _) | exact HK.out)) (fun k_ hs_ => (fun e_ => (HO130.out.1 k_ e_.symm)) hs_)); (case side6 => exact HC6.out); rintro e w28 ⟨v132, rfl, ho0, hb, hkp⟩; refine ⟨_, rfl, ?_⟩; have n0_ := Aside0.mk (blk_kept (kb_ BK127) hkp (fun hs_ => (fun e_ => (Kd.R_ne HO130.out BK127.out (by decide)) e_) hs_)); have n1_ := Aside0.mk (Kd.R_mono (ok' := fun k_ => (P0_ k_ ∨ w.heap.size ≤ k_)) ho0 (fun k_ hk_ => Or.elim hk_ (fun hs_ => (HO130.out.1 k_ (hs_).symm)) (fun hn_ => (.inr (Nat.le_trans (by first | exact HK.out.1 | exact (show Kept w _ (fun k_ => P0_ k_) from by repeat (first | (with_reducible first | exact HK.out | apply Kept.alloc | apply Kept.drewN | apply Kept.drew | refine Kept.setCell ?_ (.inr GW127.out) _) | exact HK.out)).1) hn_))))); have n2_ := Aside0.mk (Kept.then_ (S := (fun k_ => P0_ k_)) (by repeat (first | (with_reducible first | exact HK.out | apply Kept.alloc | apply Kept.drewN | apply Kept.drew | refine Kept.setCell ?_ (.inr GW127.out) _) | exact HK.out)) hkp (fun k_ hs_ => (fun e_ => (HO130.out.1 k_ e_.symm)) hs_)); have n3_ := Aside0.mk (hb); clear BK127; clear HK; clear HB; clear HO130; have BK127 := n0_; have HO133 := n1_; have HK := n2_; have HB := n3_; clear n0_ n1_ n2_ n3_; clear hb; (try clear hkp); (try clear ho0); have p21 : 0 ≤ (a1 : Int) := od_; have q21 : (a1 : Int) < ((t131.length : Int) : Int) := od_; obtain ⟨go21, co21, eo21, gb21, gl21, cl21, HG21⟩ := Kd.R_form HO133.out (by omega); (first | cases eo21 | (injection eo21 with ea_ en_ ec_; (first | subst ea_ | (injection ea_ with ea_; subst ea_)); subst ec_; clear en_)); have GB21 := Aside0.mk gb21; have GG21 := Aside0.mk HG21; clear gb21 gl21 HG21; have HMgo21 := Aside0.mk (show (P0_ go21 ∨ w.heap.size ≤ go21) from (HO133.out.1 _ rfl)); obtain ⟨ce21, hcl21, hM21, hcc21, hfr21⟩ := Kd.R_elem HO133.out z48 (a1 : Int) p21 q21; obtain rfl := k48_openM hM21; have hx21_0 : w28.cell? ⟨go21, (a1 : Int).toNat * 4, none⟩ = some (.int .i8 ((rd_T48 t131 a1).f0)) := hcc21 0 _ rfl; have hx21_1 : w28.cell? ⟨go21, (a1 : Int).toNat * 4 + 1, none⟩ = some (.int .i8 ((rd_T48 t131 a1).f1)) := hcc21 1 _ rfl; have hx21_2 : w28.cell? ⟨go21, (a1 : Int).toNat * 4 + 2, none⟩ = some (.int .i8 ((rd_T48 t131 a1).f2)) := hcc21 2 _ rfl; have hx21_3 : w28.cell? ⟨go21, (a1 : Int).toNat * 4 + 3, none⟩ = some (.int .i8 ((rd_T48 t131 a1).f3)) := hcc21 3 _ rfl; have hf21_0 : w28.frozen? ⟨go21, (a1 : Int).toNat * 4, none⟩ = false := hfr21 0; have hf21_1 : w28.frozen? ⟨go21, (a1 : Int).toNat * 4 + 1, none⟩ = false := hfr21 1; have hf21_2 : w28.frozen? ⟨go21, (a1 : Int).toNat * 4 + 2, none⟩ = false := hfr21 2; have hf21_3 : w28.frozen? ⟨go21, (a1 : Int).toNat * 4 + 3, none⟩ = false := hfr21 3; clear hcl21 hcc21 hfr21; (try clear hM21); replace p21 := eq_true p21; replace q21 := eq_true q21; have HX29 := Aside0.mk (show Kd.R k48 48 w28 w0.heap.size (fun k_ => (P0_ k_ ∨ w.heap.size ≤ k_)) (.slice (some ⟨go21, 0, none⟩) t131.length co21) t131 from (kp_ HO133)); obtain ⟨ce29, hcl29, hM29, hcc29, hfr29⟩ := Kd.R_elem HX29.out z48 (a1 : Int) od_ (by have h_ : (a1 : Int) < ((t131.length : Int) : Int) := od_; first | exact h_ | (have e_ := (Kd.R_reads' HO133.out).1; omega) | simpa using h_); obtain rfl := k48_openM hM29; have HP29 := Kd.R_seg HX29.out (a1 : Int) od_ (by have h_ : (a1 : Int) < ((t131.length : Int) : Int) := od_; first | exact h_ | (have e_ := (Kd.R_reads' HO133.out).1; omega) | simpa using h_) (seg := [.int .i8 a3, .int .i8 (IntKind.i8.wrap (a4)), .int .i8 (IntKind.i8.wrap ((l0.length : Int))), .int .i8 (IntKind.i8.wrap ((t128.length : Int)))]) (j := 0) hcl29 hcc29 (show 4 ≤ 4 from by decide) (x' := (⟨a3, IntKind.i8.wrap (a4), IntKind.i8.wrap ((l0.length : Int)), IntKind.i8.wrap ((t128.length : Int))⟩ : S48)) (k48_mkM _ _ _ (⟨a3, IntKind.i8.wrap (a4), IntKind.i8.wrap ((l0.length : Int)), IntKind.i8.wrap ((t128.length : Int))⟩ : S48) ) (fun _ hk => hk); have hx29_0 := hcc29 0 _ rfl; (try simp only [show (k48).sz = 4 from rfl, Nat.mul_one, Nat.add_zero] at hx29_0); have hf29_0 := hfr29 0; (try simp only [show (k48).sz = 4 from rfl, Nat.mul_one, Nat.add_zero] at hf29_0); have hx29_1 := hcc29 1 _ rfl; (try simp only [show (k48).sz = 4 from rfl, Nat.mul_one, Nat.add_zero] at hx29_1); have hf29_1 := hfr29 1; (try simp only [show (k48).sz = 4 from rfl, Nat.mul_one, Nat.add_zero] at hf29_1); have hx29_2 := hcc29 2 _ rfl; (try simp only [show (k48).sz = 4 from rfl, Nat.mul_one, Nat.add_zero] at hx29_2); have hf29_2 := hfr29 2; (try simp only [show (k48).sz = 4 from rfl, Nat.mul_one, Nat.add_zero] at hf29_2); have hx29_3 := hcc29 3 _ rfl; (try simp only [show (k48).sz = 4 from rfl, Nat.mul_one, Nat.add_zero] at hx29_3); have hf29_3 := hfr29 3; (try simp only [show (k48).sz = 4 from rfl, Nat.mul_one, Nat.add_zero] at hf29_3); clear hcl29 hcc29 hfr29; (try clear hM29)) | ((with_reducible refine gate_store (t := 48) (p := 53) rfl ?_); refine store_event (t := 48) (p := 53) (v := ?vo_w30) (w1 := ((((w28.setCell ⟨go21, (a1 : Int).toNat * 4, none⟩ (.int .i8 a3)).setCell ⟨go21, (a1 : Int).toNat * 4 + 1, none⟩ (.int .i8 (IntKind.i8.wrap (a4)))).setCell ⟨go21, (a1 : Int).toNat * 4 + 2, none⟩ (.int .i8 (IntKind.i8.wrap ((l0.length : Int))))).setCell ⟨go21, (a1 : Int).toNat * 4 + 3, none⟩ (.int .i8 (IntKind.i8.wrap ((t128.length : Int)))))) ?hg ?ho ?hn ?hr ?_; (case ho => rfl); (case hg => rfl); (case hn => rfl); (case hr => first | (go_simp; done) | (go_simp; rfl)); intro w30 hw; have hg : w28.grownBy w30 (some go21) := (by rw [hw]; exact HP29.2); have hp_ : Kd.R k48 48 w30 w0.heap.size (fun k_ => (P0_ k_ ∨ w.heap.size ≤ k_)) (.slice (some ⟨go21, 0, none⟩) t131.length co21) y134 := (by rw [hw, Ny134.out]; exact HP29.1); clear HP29; replace BK127 := Aside0.mk (blk_grown (g := gb127) (o := .cells #[.int .i64 a5_0, .int .i64 a5_1, .int .i64 a5_2, .int .i64 a5_3] 85 (0, 0)) (kb_ BK127) hg (Kd.R_ne HO133.out BK127.out (by decide))); replace HB := Aside0.mk ((by rw [hw]; exact below_set (below_set (below_set (below_set (HB.out) GB21.out) GB21.out) GB21.out) GB21.out : Below w0.heap.size w0 w30)); replace HK := Aside0.mk (Kept.of_grown (S := (fun k_ => P0_ k_)) hg (by repeat (first | (with_reducible first | exact HK.out | apply Kept.alloc | apply Kept.drewN | apply Kept.drew | refine Kept.setCell ?_ (.inr GW127.out) _) | exact HK.out)) (fun k_ e_ => (HO133.out.1 k_ e_))); replace HO133 := Aside0.mk (hp_); clear hg hw hp_))
 go_ret
 exact ⟨_, by first | rfl | (simp [errW_none, errW_some] <;> rfl) | (simp [*, errW_none, errW_some] <;> rfl), by (with_reducible repeat (first | apply Kd.R_alloc | apply Kd.R_drewN | apply Kd.R_drew)); exact HO133.out, k1_ HB GE127, by repeat (first | (with_reducible first | exact HK.out | apply Kept.alloc | apply Kept.drewN | apply Kept.drew | refine Kept.setCell ?_ (.inr GW127.out) _) | exact HK.out)⟩
set_option maxHeartbeats 8000000 in
set_option maxRecDepth 100000 in
theorem spec_l04Cut.callsB (P_ : (List (S48) → Int → List Int → Int → Int → Int → Int → Int → Int → List (S46) → Option (List (S48)))) (HP : ∀ (P0_ : Nat → Prop) (u9000_ : Value) (l0 : List (S48)) (a1 : Int) (gt : Nat) (l2 : List Int) (a3 : Int) (a4 : Int) (a5_0 : Int) (a5_1 : Int) (a5_2 : Int) (a5_3 : Int) (A6 : Option Addr) (c6 : Nat) (l6 : List (S46)) (r : List (S48)) (w0 w : World) (hB : Below w0.heap.size w0 w) (ho0 : Kd.R k48 48 w w0.heap.size P0_ u9000_ l0) (hr2 : ∀ W_, Kept w W_ (fun k_ => P0_ k_) → W_.heap[gt]? = some (.cells (spec_l04Worth.cs l2) 65 (0, 0))) (hc2 : l2.length = 625) (hr6 : ∀ W_, Kept w W_ (fun k_ => P0_ k_) → Kd.C k46 W_ A6 l6.length l6) (hc6 : l6.length ≤ c6) (h : P_ l0 a1 l2 a3 a4 a5_0 a5_1 a5_2 a5_3 l6 = some r), Calls Try.prog 45 #[u9000_, .int .i64 a1, .pointer (some ⟨gt, 0, none⟩), .int .i8 a3, .int .i64 a4, .agg #[.int .i64 a5_0, .int .i64 a5_1, .int .i64 a5_2, .int .i64 a5_3], .slice A6 l6.length c6] w fun e w' => ∃ v0_ : Value, e = .returned (v0_) ∧ Kd.R k48 48 w' w0.heap.size (fun k_ => (P0_ k_ ∨ w.heap.size ≤ k_)) v0_ r ∧ Below w0.heap.size w0 w' ∧ Kept w w' (fun k_ => P0_ k_)) (k : Nat) (P0_ : Nat → Prop) (u9000_ : Value) (l0 : List (S48)) (gt : Nat) (l1 : List Int) (a2 : Int) (a3 : Int) (A4 : Option Addr) (c4 : Nat) (l4 : List (S46)) (r : List (S48)) (w0 w : World) (hB : Below w0.heap.size w0 w) (ho0 : Kd.R k48 48 w w0.heap.size P0_ u9000_ l0) (hr1 : ∀ W_, Kept w W_ (fun k_ => P0_ k_) → W_.heap[gt]? = some (.cells (spec_l04Worth.cs l1) 65 (0, 0))) (hc1 : l1.length = 625) (hr4 : ∀ W_, Kept w W_ (fun k_ => P0_ k_) → Kd.C k46 W_ A4 l4.length l4) (hc4 : l4.length ≤ c4) (h : spec_l04Cut.b P_ k l0 l1 a2 a3 l4 = some r) :
  Calls Try.prog 29 #[u9000_, .pointer (some ⟨gt, 0, none⟩), .int .i64 a2, .int .i64 a3, .slice A4 l4.length c4] w fun e w' => ∃ v0_ : Value, e = .returned (v0_) ∧ Kd.R k48 48 w' w0.heap.size (fun k_ => (P0_ k_ ∨ w.heap.size ≤ k_)) v0_ r ∧ Below w0.heap.size w0 w' ∧ Kept w w' (fun k_ => P0_ k_) := by
 have hu48 := Try.underlying48
 have hu85 := Try.underlying85
 have HO0 := Aside0.mk (show Kd.R k48 48 w w0.heap.size (fun k_ => (P0_ k_ ∨ w.heap.size ≤ k_)) u9000_ l0 from Kd.R_mono ho0 (fun k_ hk => (.inl hk)))
 have HR1 := Aside0.mk hr1
 have HC1 := Aside0.mk hc1
 clear hr1 hc1
 have HR4 := Aside0.mk hr4
 have HC4 := Aside0.mk hc4
 clear hr4 hc4
 have HK := Aside0.mk (Kept.refl w (fun k_ => P0_ k_))
 have HW0 := Aside0.mk hB.size
 have HB := Aside0.mk hB
 clear hB
 have H : (if 0 ≤ a2 then (if a2 < 25 then (if 0 ≤ a3 then (if a3 < 25 then (if l0.length < 35184372088832 then ((some (l0 ++ [(⟨0, 0, 0, 0⟩ : S48)] : List (S48))).bind fun y128 => (if (rd l1 (a2 * 25 + a3)) = 0 then (some y128) else (spec_l04Cut.l0 P_ k y128 l1 a2 a3 l4 (rd l1 (a2 * 25 + a3)) (l0.length : Int) 0))) else (none)) else (none)) else (none)) else (none)) else (none)) = some r := h
 clear h
 obtain ⟨c6b0, H⟩ := gx_ H
 obtain ⟨c7b0, H⟩ := gx_ H
 obtain ⟨c8b0, H⟩ := gx_ H
 obtain ⟨c9b0, H⟩ := gx_ H
 obtain ⟨(c10 : l0.length < 35184372088832), H⟩ := gd_ H
 have LMc10 := Aside0.mk c10
 clear c10
 obtain ⟨y128, hy128⟩ : ∃ y_ : List (S48), y_ = (l0 ++ [(⟨0, 0, 0, 0⟩ : S48)]) := ⟨_, rfl⟩
 replace H : (if (rd l1 (a2 * 25 + a3)) = 0 then (some y128) else (spec_l04Cut.l0 P_ k y128 l1 a2 a3 l4 (rd l1 (a2 * 25 + a3)) (l0.length : Int) 0)) = some r := by first | (rw [hy128]; with_reducible exact H) | (have H2_ := (Option.bind_some _ _).symm.trans H; rw [hy128]; with_reducible exact H2_) | (have H2_ := (Option.bind_some _ _).symm.trans H; with_reducible exact H2_) | with_reducible exact H | (rw [hy128]; exact H) | exact H
 have Ny128 := Aside0.mk hy128
 clear hy128
 by_cases c11 : (rd l1 (a2 * 25 + a3)) = 0
 ·
  rw [if_pos c11] at H
  have c11b0 : ((rd l1 (a2 * 25 + a3)) == 0) = true := beq_iff_eq.mpr c11
  have c11b1 : ((rd l1 (a2 * 25 + a3)) != 0) = false := bne_eq_false_iff_eq.mpr c11
  clear c11
  obtain rfl := Option.some.inj H
  have pi127 : 0 ≤ a2 := od_
  have qi127 : a2 < 25 := od_
  have pj127 : 0 ≤ a3 := od_
  have qj127 : a3 < 25 := od_
  have hx127_0 := spec_l04Cut.tcell (HR1.out _ HK.out) HC1.out (a2) (a3) pi127 qi127 pj127 qj127
  replace pi127 := eq_true pi127
  replace qi127 := eq_true qi127
  replace pj127 := eq_true pj127
  replace qj127 := eq_true qj127
  obtain ⟨Ao12, co12, eo12⟩ := Kd.R_slice HO0.out
  subst eo12
  go_enter Try.func29, Try.ntmps29
  go_wp2_with (first | ((with_reducible refine gate_builtin (b := .append) (xs := #[.tmp 25, .tmp 27]) rfl ?_); at_builtin; refine Kd.R_append k48 (w0 := w0) w0.heap.size rfl (.tmp 25) (.tmp 27) 27 48 (.agg #[(.int .i8 0), (.int .i8 0), (.int .i8 0), (.int .i8 0)]) 4 rfl Try.underlying27 info48 rfl (by decide) (by omega) (.slice Ao12 l0.length co12) l0 (⟨0, 0, 0, 0⟩ : S48) [.int .i8 0, .int .i8 0, .int .i8 0, .int .i8 0] (fun k_ => (P0_ k_ ∨ w.heap.size ≤ k_)) (fun _ => False) rfl rfl ?aP (fun _ hk => hk.elim) ?aF ?aO ?aB ?aS ?aL ?_; (case aP => exact k48_mkM _ _ _ (⟨0, 0, 0, 0⟩ : S48)); (case aB => exact (kB_ HB)); (case aF => exact (fun k_ hk => (.inr (Nat.le_trans (by first | exact HK.out.1 | exact (show Kept w _ (fun k_ => P0_ k_) from by repeat (first | (with_reducible first | exact HK.out | apply Kept.alloc | apply Kept.drewN | apply Kept.drew) | exact HK.out)).1) hk)))); (case aO => exact (kp_ HO0)); (case aS => exact (below_size (kB_ HB))); (case aL => have := LMc10.out; omega); intro v129 w13 ho hb hg hat; rw [← Ny128.out] at ho; have n0_ := Aside0.mk (hb); have n1_ := Aside0.mk (Kept.of_grown (S := (fun k_ => P0_ k_)) hg (by repeat (first | (with_reducible first | exact HK.out | apply Kept.alloc | apply Kept.drewN | apply Kept.drew) | exact HK.out)) (fun k_ e_ => (HO0.out.1 k_ e_))); have n2_ := Aside0.mk (ho); clear HB; clear HK; clear HO0; have HB := n0_; have HK := n1_; have HO130 := n2_; clear n0_ n1_ n2_; clear ho hb hg hat))
  repeat (go_quiet (first | ((with_reducible refine gate_builtin (b := .append) (xs := #[.tmp 25, .tmp 27]) rfl ?_); at_builtin; refine Kd.R_append k48 (w0 := w0) w0.heap.size rfl (.tmp 25) (.tmp 27) 27 48 (.agg #[(.int .i8 0), (.int .i8 0), (.int .i8 0), (.int .i8 0)]) 4 rfl Try.underlying27 info48 rfl (by decide) (by omega) (.slice Ao12 l0.length co12) l0 (⟨0, 0, 0, 0⟩ : S48) [.int .i8 0, .int .i8 0, .int .i8 0, .int .i8 0] (fun k_ => (P0_ k_ ∨ w.heap.size ≤ k_)) (fun _ => False) rfl rfl ?aP (fun _ hk => hk.elim) ?aF ?aO ?aB ?aS ?aL ?_; (case aP => exact k48_mkM _ _ _ (⟨0, 0, 0, 0⟩ : S48)); (case aB => exact (kB_ HB)); (case aF => exact (fun k_ hk => (.inr (Nat.le_trans (by first | exact HK.out.1 | exact (show Kept w _ (fun k_ => P0_ k_) from by repeat (first | (with_reducible first | exact HK.out | apply Kept.alloc | apply Kept.drewN | apply Kept.drew) | exact HK.out)).1) hk)))); (case aO => exact (kp_ HO0)); (case aS => exact (below_size (kB_ HB))); (case aL => have := LMc10.out; omega); intro v129 w13 ho hb hg hat; rw [← Ny128.out] at ho; have n0_ := Aside0.mk (hb); have n1_ := Aside0.mk (Kept.of_grown (S := (fun k_ => P0_ k_)) hg (by repeat (first | (with_reducible first | exact HK.out | apply Kept.alloc | apply Kept.drewN | apply Kept.drew) | exact HK.out)) (fun k_ e_ => (HO0.out.1 k_ e_))); have n2_ := Aside0.mk (ho); clear HB; clear HK; clear HO0; have HB := n0_; have HK := n1_; have HO130 := n2_; clear n0_ n1_ n2_; clear ho hb hg hat)); try go_wp2_with (first | ((with_reducible refine gate_builtin (b := .append) (xs := #[.tmp 25, .tmp 27]) rfl ?_); at_builtin; refine Kd.R_append k48 (w0 := w0) w0.heap.size rfl (.tmp 25) (.tmp 27) 27 48 (.agg #[(.int .i8 0), (.int .i8 0), (.int .i8 0), (.int .i8 0)]) 4 rfl Try.underlying27 info48 rfl (by decide) (by omega) (.slice Ao12 l0.length co12) l0 (⟨0, 0, 0, 0⟩ : S48) [.int .i8 0, .int .i8 0, .int .i8 0, .int .i8 0] (fun k_ => (P0_ k_ ∨ w.heap.size ≤ k_)) (fun _ => False) rfl rfl ?aP (fun _ hk => hk.elim) ?aF ?aO ?aB ?aS ?aL ?_; (case aP => exact k48_mkM _ _ _ (⟨0, 0, 0, 0⟩ : S48)); (case aB => exact (kB_ HB)); (case aF => exact (fun k_ hk => (.inr (Nat.le_trans (by first | exact HK.out.1 | exact (show Kept w _ (fun k_ => P0_ k_) from by repeat (first | (with_reducible first | exact HK.out | apply Kept.alloc | apply Kept.drewN | apply Kept.drew) | exact HK.out)).1) hk)))); (case aO => exact (kp_ HO0)); (case aS => exact (below_size (kB_ HB))); (case aL => have := LMc10.out; omega); intro v129 w13 ho hb hg hat; rw [← Ny128.out] at ho; have n0_ := Aside0.mk (hb); have n1_ := Aside0.mk (Kept.of_grown (S := (fun k_ => P0_ k_)) hg (by repeat (first | (with_reducible first | exact HK.out | apply Kept.alloc | apply Kept.drewN | apply Kept.drew) | exact HK.out)) (fun k_ e_ => (HO0.out.1 k_ e_))); have n2_ := Aside0.mk (ho); clear HB; clear HK; clear HO0; have HB := n0_; have HK := n1_; have HO130 := n2_; clear n0_ n1_ n2_; clear ho hb hg hat)))
  go_ret
  exact ⟨_, by first | rfl | (simp [errW_none, errW_some] <;> rfl) | (simp [*, errW_none, errW_some] <;> rfl), by (with_reducible repeat (first | apply Kd.R_alloc | apply Kd.R_drewN | apply Kd.R_drew)); exact HO130.out, kB_ HB, by repeat (first | (with_reducible first | exact HK.out | apply Kept.alloc | apply Kept.drewN | apply Kept.drew) | exact HK.out)⟩
 rw [if_neg c11] at H
 have c11b0 : ((rd l1 (a2 * 25 + a3)) == 0) = false := beq_eq_false_iff_ne.mpr c11
 have c11b1 : ((rd l1 (a2 * 25 + a3)) != 0) = true := bne_iff_ne.mpr c11
 have H' := Aside0.mk H
 clear H
 have pi127 : 0 ≤ a2 := od_
 have qi127 : a2 < 25 := od_
 have pj127 : 0 ≤ a3 := od_
 have qj127 : a3 < 25 := od_
 have hx127_0 := spec_l04Cut.tcell (HR1.out _ HK.out) HC1.out (a2) (a3) pi127 qi127 pj127 qj127
 replace pi127 := eq_true pi127
 replace qi127 := eq_true qi127
 replace pj127 := eq_true pj127
 replace qj127 := eq_true qj127
 obtain ⟨Ao14, co14, eo14⟩ := Kd.R_slice HO0.out
 subst eo14
 go_enter Try.func29, Try.ntmps29
 go_wp2_with (first | ((with_reducible refine gate_builtin (b := .append) (xs := #[.tmp 25, .tmp 27]) rfl ?_); at_builtin; refine Kd.R_append k48 (w0 := w0) w0.heap.size rfl (.tmp 25) (.tmp 27) 27 48 (.agg #[(.int .i8 0), (.int .i8 0), (.int .i8 0), (.int .i8 0)]) 4 rfl Try.underlying27 info48 rfl (by decide) (by omega) (.slice Ao14 l0.length co14) l0 (⟨0, 0, 0, 0⟩ : S48) [.int .i8 0, .int .i8 0, .int .i8 0, .int .i8 0] (fun k_ => (P0_ k_ ∨ w.heap.size ≤ k_)) (fun _ => False) rfl rfl ?aP (fun _ hk => hk.elim) ?aF ?aO ?aB ?aS ?aL ?_; (case aP => exact k48_mkM _ _ _ (⟨0, 0, 0, 0⟩ : S48)); (case aB => exact (kB_ HB)); (case aF => exact (fun k_ hk => (.inr (Nat.le_trans (by first | exact HK.out.1 | exact (show Kept w _ (fun k_ => P0_ k_) from by repeat (first | (with_reducible first | exact HK.out | apply Kept.alloc | apply Kept.drewN | apply Kept.drew) | exact HK.out)).1) hk)))); (case aO => exact (kp_ HO0)); (case aS => exact (below_size (kB_ HB))); (case aL => have := LMc10.out; omega); intro v129 w15 ho hb hg hat; rw [← Ny128.out] at ho; have n0_ := Aside0.mk (hb); have n1_ := Aside0.mk (Kept.of_grown (S := (fun k_ => P0_ k_)) hg (by repeat (first | (with_reducible first | exact HK.out | apply Kept.alloc | apply Kept.drewN | apply Kept.drew) | exact HK.out)) (fun k_ e_ => (HO0.out.1 k_ e_))); have n2_ := Aside0.mk (ho); clear HB; clear HK; clear HO0; have HB := n0_; have HK := n1_; have HO130 := n2_; clear n0_ n1_ n2_; clear ho hb hg hat))
 repeat (go_quiet (first | ((with_reducible refine gate_builtin (b := .append) (xs := #[.tmp 25, .tmp 27]) rfl ?_); at_builtin; refine Kd.R_append k48 (w0 := w0) w0.heap.size rfl (.tmp 25) (.tmp 27) 27 48 (.agg #[(.int .i8 0), (.int .i8 0), (.int .i8 0), (.int .i8 0)]) 4 rfl Try.underlying27 info48 rfl (by decide) (by omega) (.slice Ao14 l0.length co14) l0 (⟨0, 0, 0, 0⟩ : S48) [.int .i8 0, .int .i8 0, .int .i8 0, .int .i8 0] (fun k_ => (P0_ k_ ∨ w.heap.size ≤ k_)) (fun _ => False) rfl rfl ?aP (fun _ hk => hk.elim) ?aF ?aO ?aB ?aS ?aL ?_; (case aP => exact k48_mkM _ _ _ (⟨0, 0, 0, 0⟩ : S48)); (case aB => exact (kB_ HB)); (case aF => exact (fun k_ hk => (.inr (Nat.le_trans (by first | exact HK.out.1 | exact (show Kept w _ (fun k_ => P0_ k_) from by repeat (first | (with_reducible first | exact HK.out | apply Kept.alloc | apply Kept.drewN | apply Kept.drew) | exact HK.out)).1) hk)))); (case aO => exact (kp_ HO0)); (case aS => exact (below_size (kB_ HB))); (case aL => have := LMc10.out; omega); intro v129 w15 ho hb hg hat; rw [← Ny128.out] at ho; have n0_ := Aside0.mk (hb); have n1_ := Aside0.mk (Kept.of_grown (S := (fun k_ => P0_ k_)) hg (by repeat (first | (with_reducible first | exact HK.out | apply Kept.alloc | apply Kept.drewN | apply Kept.drew) | exact HK.out)) (fun k_ e_ => (HO0.out.1 k_ e_))); have n2_ := Aside0.mk (ho); clear HB; clear HK; clear HO0; have HB := n0_; have HK := n1_; have HO130 := n2_; clear n0_ n1_ n2_; clear ho hb hg hat)); try go_wp2_with (first | ((with_reducible refine gate_builtin (b := .append) (xs := #[.tmp 25, .tmp 27]) rfl ?_); at_builtin; refine Kd.R_append k48 (w0 := w0) w0.heap.size rfl (.tmp 25) (.tmp 27) 27 48 (.agg #[(.int .i8 0), (.int .i8 0), (.int .i8 0), (.int .i8 0)]) 4 rfl Try.underlying27 info48 rfl (by decide) (by omega) (.slice Ao14 l0.length co14) l0 (⟨0, 0, 0, 0⟩ : S48) [.int .i8 0, .int .i8 0, .int .i8 0, .int .i8 0] (fun k_ => (P0_ k_ ∨ w.heap.size ≤ k_)) (fun _ => False) rfl rfl ?aP (fun _ hk => hk.elim) ?aF ?aO ?aB ?aS ?aL ?_; (case aP => exact k48_mkM _ _ _ (⟨0, 0, 0, 0⟩ : S48)); (case aB => exact (kB_ HB)); (case aF => exact (fun k_ hk => (.inr (Nat.le_trans (by first | exact HK.out.1 | exact (show Kept w _ (fun k_ => P0_ k_) from by repeat (first | (with_reducible first | exact HK.out | apply Kept.alloc | apply Kept.drewN | apply Kept.drew) | exact HK.out)).1) hk)))); (case aO => exact (kp_ HO0)); (case aS => exact (below_size (kB_ HB))); (case aL => have := LMc10.out; omega); intro v129 w15 ho hb hg hat; rw [← Ny128.out] at ho; have n0_ := Aside0.mk (hb); have n1_ := Aside0.mk (Kept.of_grown (S := (fun k_ => P0_ k_)) hg (by repeat (first | (with_reducible first | exact HK.out | apply Kept.alloc | apply Kept.drewN | apply Kept.drew) | exact HK.out)) (fun k_ e_ => (HO0.out.1 k_ e_))); have n2_ := Aside0.mk (ho); clear HB; clear HK; clear HO0; have HB := n0_; have HK := n1_; have HO130 := n2_; clear n0_ n1_ n2_; clear ho hb hg hat)))
 go_loopg [13] k (fun kq v13 w' => ∃ (x0_1 : List (S48)) (x13_1 : Int), v13 = .int .i64 x13_1 ∧ Aside0 (spec_l04Cut.l0 P_ kq x0_1 l1 a2 a3 l4 (rd l1 (a2 * 25 + a3)) (l0.length : Int) x13_1 = some r) ∧ Aside0 (kq ≤ k) ∧ Aside0 (Kd.R k48 48 w' w0.heap.size (fun k_ => (P0_ k_ ∨ w.heap.size ≤ k_)) v129 x0_1) ∧ Aside0 (Kept w w' (fun k_ => P0_ k_)) ∧ Aside0 (Below w0.heap.size w0 w'))
 case atStart => exact ⟨(y128), (0), (by first | rfl | (simp; done) | (simp [*]; done)), H', ⟨Nat.le_refl _⟩, ⟨kp_ HO130⟩, ⟨by repeat (first | (with_reducible first | exact HK.out | apply Kept.alloc | apply Kept.drewN | apply Kept.drew) | exact HK.out)⟩, ⟨bl_ HB⟩⟩
 case round =>
  clear H'
  obtain ⟨x0_1, x13_1, rfl, HA, HK1, HO_0, HK, HB⟩ := hrel
  rcases gk with _ | k1
  · exact absurd HA.out (by simp [spec_l04Cut.l0])
  have H := HA.out
  clear HA
  simp only [spec_l04Cut.l0] at H
  by_cases c16 : x13_1 < (l4.length : Int)
  ·
   rw [if_pos c16] at H
   have c16b0 : decide (x13_1 < (l4.length : Int)) = true := decide_eq_true c16
   clear c16
   obtain ⟨c17b0, H⟩ := gx_ H
   rcases (Decidable.em ((wrap64 ((rd_T46 l4 x13_1).f0)) = a2)).symm with c18 | c18
   ·
    rw [if_neg c18] at H
    have c18b0 : ((wrap64 ((rd_T46 l4 x13_1).f0)) == a2) = false := beq_eq_false_iff_ne.mpr c18
    have c18b1 : ((wrap64 ((rd_T46 l4 x13_1).f0)) != a2) = true := bne_iff_ne.mpr c18
    have H' := Aside0.mk H
    clear H
    have p131 : 0 ≤ (x13_1 : Int) := od_
    have q131 : x13_1 < (l4.length : Int) := od_
    obtain ⟨ad131, e131, hx131_0, hx131_1, hx131_2⟩ := at_T46 (Kd.C_kept_now HR4.out HK.out) x13_1 p131 q131
    cases e131
    replace p131 := eq_true p131
    replace q131 := eq_true q131
    go_wp2
    repeat (go_quiet (fail); try go_wp2)
    go_roundg k1
    case measure => have := HK1.out; omega
    case rel => exact ⟨(x0_1), (wrap64 (x13_1 + 1)), (by first | rfl | (simp; done) | (simp [*]; done)), H', ⟨by have := HK1.out; omega⟩, ⟨kp_ HO_0⟩, ⟨by repeat (first | (with_reducible first | exact HK.out | apply Kept.alloc | apply Kept.drewN | apply Kept.drew) | exact HK.out)⟩, ⟨bl_ HB⟩⟩
   rw [if_pos c18] at H
   have c18b0 : ((wrap64 ((rd_T46 l4 x13_1).f0)) == a2) = true := beq_iff_eq.mpr c18
   have c18b1 : ((wrap64 ((rd_T46 l4 x13_1).f0)) != a2) = false := bne_eq_false_iff_eq.mpr c18
   clear c18
   rcases (Decidable.em ((wrap64 ((rd_T46 l4 x13_1).f1)) = a3)).symm with c19 | c19
   ·
    rw [if_neg c19] at H
    have c19b0 : ((wrap64 ((rd_T46 l4 x13_1).f1)) == a3) = false := beq_eq_false_iff_ne.mpr c19
    have c19b1 : ((wrap64 ((rd_T46 l4 x13_1).f1)) != a3) = true := bne_iff_ne.mpr c19
    have H' := Aside0.mk H
    clear H
    have p131 : 0 ≤ (x13_1 : Int) := od_
    have q131 : x13_1 < (l4.length : Int) := od_
    obtain ⟨ad131, e131, hx131_0, hx131_1, hx131_2⟩ := at_T46 (Kd.C_kept_now HR4.out HK.out) x13_1 p131 q131
    cases e131
    replace p131 := eq_true p131
    replace q131 := eq_true q131
    have p132 : 0 ≤ (x13_1 : Int) := od_
    have q132 : x13_1 < (l4.length : Int) := od_
    obtain ⟨ad132, e132, hx132_0, hx132_1, hx132_2⟩ := at_T46 (Kd.C_kept_now HR4.out HK.out) x13_1 p132 q132
    obtain rfl : ad131 = ad132 := (by injection e132)
    replace p132 := eq_true p132
    replace q132 := eq_true q132
    go_wp2
    repeat (go_quiet (fail); try go_wp2)
    go_roundg k1
    case measure => have := HK1.out; omega
    case rel => exact ⟨(x0_1), (wrap64 (x13_1 + 1)), (by first | rfl | (simp; done) | (simp [*]; done)), H', ⟨by have := HK1.out; omega⟩, ⟨kp_ HO_0⟩, ⟨by repeat (first | (with_reducible first | exact HK.out | apply Kept.alloc | apply Kept.drewN | apply Kept.drew) | exact HK.out)⟩, ⟨bl_ HB⟩⟩
   rw [if_pos c19] at H
   have c19b0 : ((wrap64 ((rd_T46 l4 x13_1).f1)) == a3) = true := beq_iff_eq.mpr c19
   have c19b1 : ((wrap64 ((rd_T46 l4 x13_1).f1)) != a3) = false := bne_eq_false_iff_eq.mpr c19
   clear c19
   rcases (Decidable.em ((wrap64 ((rd_T46 l4 x13_1).f2)) = (rd l1 (a2 * 25 + a3)))).symm with c20 | c20
   ·
    rw [if_neg c20] at H
    have c20b0 : ((wrap64 ((rd_T46 l4 x13_1).f2)) == (rd l1 (a2 * 25 + a3))) = false := beq_eq_false_iff_ne.mpr c20
    have c20b1 : ((wrap64 ((rd_T46 l4 x13_1).f2)) != (rd l1 (a2 * 25 + a3))) = true := bne_iff_ne.mpr c20
    have H' := Aside0.mk H
    clear H
    have p131 : 0 ≤ (x13_1 : Int) := od_
    have q131 : x13_1 < (l4.length : Int) := od_
    obtain ⟨ad131, e131, hx131_0, hx131_1, hx131_2⟩ := at_T46 (Kd.C_kept_now HR4.out HK.out) x13_1 p131 q131
    cases e131
    replace p131 := eq_true p131
    replace q131 := eq_true q131
    have p132 : 0 ≤ (x13_1 : Int) := od_
    have q132 : x13_1 < (l4.length : Int) := od_
    obtain ⟨ad132, e132, hx132_0, hx132_1, hx132_2⟩ := at_T46 (Kd.C_kept_now HR4.out HK.out) x13_1 p132 q132
    obtain rfl : ad131 = ad132 := (by injection e132)
    replace p132 := eq_true p132
    replace q132 := eq_true q132
    have p133 : 0 ≤ (x13_1 : Int) := od_
    have q133 : x13_1 < (l4.length : Int) := od_
    obtain ⟨ad133, e133, hx133_0, hx133_1, hx133_2⟩ := at_T46 (Kd.C_kept_now HR4.out HK.out) x13_1 p133 q133
    obtain rfl : ad131 = ad133 := (by injection e133)
    replace p133 := eq_true p133
    replace q133 := eq_true q133
    go_wp2
    repeat (go_quiet (fail); try go_wp2)
    go_roundg k1
    case measure => have := HK1.out; omega
    case rel => exact ⟨(x0_1), (wrap64 (x13_1 + 1)), (by first | rfl | (simp; done) | (simp [*]; done)), H', ⟨by have := HK1.out; omega⟩, ⟨kp_ HO_0⟩, ⟨by repeat (first | (with_reducible first | exact HK.out | apply Kept.alloc | apply Kept.drewN | apply Kept.drew) | exact HK.out)⟩, ⟨bl_ HB⟩⟩
   rw [if_pos c20] at H
   have c20b0 : ((wrap64 ((rd_T46 l4 x13_1).f2)) == (rd l1 (a2 * 25 + a3))) = true := beq_iff_eq.mpr c20
   have c20b1 : ((wrap64 ((rd_T46 l4 x13_1).f2)) != (rd l1 (a2 * 25 + a3))) = false := bne_eq_false_iff_eq.mpr c20
   clear c20
   obtain ⟨(c21 : 0 ≤ (l0.length : Int)), H⟩ := gd_ H
   have c21b0 : decide (0 ≤ (l0.length : Int)) = true := decide_eq_true c21
   have c21b1 : decide (0 ≤ l0.length) = true := decide_eq_true (by omega)
   clear c21
   obtain ⟨(c22 : (l0.length : Int) < (x0_1.length : Int)), H⟩ := gd_ H
   have c22b0 : decide ((l0.length : Int) < (x0_1.length : Int)) = true := decide_eq_true c22
   have c22b1 : decide (l0.length < x0_1.length) = true := decide_eq_true (Int.ofNat_lt.mp c22)
   clear c22
   obtain ⟨y134, hy134⟩ : ∃ y_ : List (S48), y_ = (x0_1.set ((l0.length : Int) : Int).toNat (⟨1, 0, IntKind.i8.wrap (x13_1), 0⟩ : S48)) := ⟨_, rfl⟩
   replace H : (some y134) = some r := by first | (rw [hy134]; with_reducible exact H) | (have H2_ := (Option.bind_some _ _).symm.trans H; rw [hy134]; with_reducible exact H2_) | (have H2_ := (Option.bind_some _ _).symm.trans H; with_reducible exact H2_) | with_reducible exact H | (rw [hy134]; exact H) | exact H
   have Ny134 := Aside0.mk hy134
   clear hy134
   obtain rfl := Option.some.inj H
   have p131 : 0 ≤ (x13_1 : Int) := od_
   have q131 : x13_1 < (l4.length : Int) := od_
   obtain ⟨ad131, e131, hx131_0, hx131_1, hx131_2⟩ := at_T46 (Kd.C_kept_now HR4.out HK.out) x13_1 p131 q131
   cases e131
   replace p131 := eq_true p131
   replace q131 := eq_true q131
   have p132 : 0 ≤ (x13_1 : Int) := od_
   have q132 : x13_1 < (l4.length : Int) := od_
   obtain ⟨ad132, e132, hx132_0, hx132_1, hx132_2⟩ := at_T46 (Kd.C_kept_now HR4.out HK.out) x13_1 p132 q132
   obtain rfl : ad131 = ad132 := (by injection e132)
   replace p132 := eq_true p132
   replace q132 := eq_true q132
   have p133 : 0 ≤ (x13_1 : Int) := od_
   have q133 : x13_1 < (l4.length : Int) := od_
   obtain ⟨ad133, e133, hx133_0, hx133_1, hx133_2⟩ := at_T46 (Kd.C_kept_now HR4.out HK.out) x13_1 p133 q133
   obtain rfl : ad131 = ad133 := (by injection e133)
   replace p133 := eq_true p133
   replace q133 := eq_true q133
   have p23 : 0 ≤ ((l0.length : Int) : Int) := od_
   have q23 : ((l0.length : Int) : Int) < ((x0_1.length : Int) : Int) := od_
   obtain ⟨go23, co23, eo23, gb23, gl23, cl23, HG23⟩ := Kd.R_form HO_0.out (by omega)
   (first | cases eo23 | (injection eo23 with ea_ en_ ec_; (first | subst ea_ | (injection ea_ with ea_; subst ea_)); subst ec_; clear en_))
   have GB23 := Aside0.mk gb23
   have GG23 := Aside0.mk HG23
   clear gb23 gl23 HG23
   have HMgo23 := Aside0.mk (show (P0_ go23 ∨ w.heap.size ≤ go23) from (HO_0.out.1 _ rfl))
   obtain ⟨ce23, hcl23, hM23, hcc23, hfr23⟩ := Kd.R_elem HO_0.out z48 ((l0.length : Int) : Int) p23 q23
   obtain rfl := k48_openM hM23
   have hx23_0 : wr.cell? ⟨go23, l0.length * 4, none⟩ = some (.int .i8 ((rd_T48 x0_1 (l0.length : Int)).f0)) := hcc23 0 _ rfl
   have hx23_1 : wr.cell? ⟨go23, l0.length * 4 + 1, none⟩ = some (.int .i8 ((rd_T48 x0_1 (l0.length : Int)).f1)) := hcc23 1 _ rfl
   have hx23_2 : wr.cell? ⟨go23, l0.length * 4 + 2, none⟩ = some (.int .i8 ((rd_T48 x0_1 (l0.length : Int)).f2)) := hcc23 2 _ rfl
   have hx23_3 : wr.cell? ⟨go23, l0.length * 4 + 3, none⟩ = some (.int .i8 ((rd_T48 x0_1 (l0.length : Int)).f3)) := hcc23 3 _ rfl
   have hf23_0 : wr.frozen? ⟨go23, l0.length * 4, none⟩ = false := hfr23 0
   have hf23_1 : wr.frozen? ⟨go23, l0.length * 4 + 1, none⟩ = false := hfr23 1
   have hf23_2 : wr.frozen? ⟨go23, l0.length * 4 + 2, none⟩ = false := hfr23 2
   have hf23_3 : wr.frozen? ⟨go23, l0.length * 4 + 3, none⟩ = false := hfr23 3
   clear hcl23 hcc23 hfr23; (try clear hM23)
   replace p23 := eq_true p23
   replace q23 := eq_true q23
   have HX24 := Aside0.mk (show Kd.R k48 48 wr w0.heap.size (fun k_ => (P0_ k_ ∨ w.heap.size ≤ k_)) (.slice (some ⟨go23, 0, none⟩) x0_1.length co23) x0_1 from (kp_ HO_0))
   obtain ⟨ce24, hcl24, hM24, hcc24, hfr24⟩ := Kd.R_elem HX24.out z48 ((l0.length : Int) : Int) od_ (by have h_ : ((l0.length : Int) : Int) < ((x0_1.length : Int) : Int) := od_; first | exact h_ | (have e_ := (Kd.R_reads' HO_0.out).1; omega) | simpa using h_)
   obtain rfl := k48_openM hM24
   have HP24 := Kd.R_seg HX24.out ((l0.length : Int) : Int) od_ (by have h_ : ((l0.length : Int) : Int) < ((x0_1.length : Int) : Int) := od_; first | exact h_ | (have e_ := (Kd.R_reads' HO_0.out).1; omega) | simpa using h_) (seg := [.int .i8 1, .int .i8 0, .int .i8 (IntKind.i8.wrap (x13_1)), .int .i8 0]) (j := 0) hcl24 hcc24 (show 4 ≤ 4 from by decide) (x' := (⟨1, 0, IntKind.i8.wrap (x13_1), 0⟩ : S48)) (k48_mkM _ _ _ (⟨1, 0, IntKind.i8.wrap (x13_1), 0⟩ : S48) ) (fun _ hk => hk)
   have hx24_0 := hcc24 0 _ rfl
   (try simp only [show (k48).sz = 4 from rfl, Nat.mul_one, Nat.add_zero, Int.toNat_natCast] at hx24_0)
   have hf24_0 := hfr24 0
   (try simp only [show (k48).sz = 4 from rfl, Nat.mul_one, Nat.add_zero, Int.toNat_natCast] at hf24_0)
   have hx24_1 := hcc24 1 _ rfl
   (try simp only [show (k48).sz = 4 from rfl, Nat.mul_one, Nat.add_zero, Int.toNat_natCast] at hx24_1)
   have hf24_1 := hfr24 1
   (try simp only [show (k48).sz = 4 from rfl, Nat.mul_one, Nat.add_zero, Int.toNat_natCast] at hf24_1)
   have hx24_2 := hcc24 2 _ rfl
   (try simp only [show (k48).sz = 4 from rfl, Nat.mul_one, Nat.add_zero, Int.toNat_natCast] at hx24_2)
   have hf24_2 := hfr24 2
   (try simp only [show (k48).sz = 4 from rfl, Nat.mul_one, Nat.add_zero, Int.toNat_natCast] at hf24_2)
   have hx24_3 := hcc24 3 _ rfl
   (try simp only [show (k48).sz = 4 from rfl, Nat.mul_one, Nat.add_zero, Int.toNat_natCast] at hx24_3)
   have hf24_3 := hfr24 3
   (try simp only [show (k48).sz = 4 from rfl, Nat.mul_one, Nat.add_zero, Int.toNat_natCast] at hf24_3)
   clear hcl24 hcc24 hfr24; (try clear hM24)
   go_wp2_with (first | ((with_reducible refine gate_store (t := 48) (p := 71) rfl ?_); (try (rw [drewN_self wr]; generalize hq_ : World.drewN wr _ = wr; have n0_ := Aside0.mk (Kd.R_at hq_ HO_0.out); have n1_ := Aside0.mk (kept_at hq_ HK.out); have n2_ := Aside0.mk (below_at hq_ HB.out); clear hq_ HO_0 HK HB; have HO_0 := n0_; have HK := n1_; have HB := n2_; clear n0_ n1_ n2_; (try (have HX24 := Aside0.mk (show Kd.R k48 48 wr w0.heap.size (fun k_ => (P0_ k_ ∨ w.heap.size ≤ k_)) (.slice (some ⟨go23, 0, none⟩) x0_1.length co23) x0_1 from (kp_ HO_0)))); (try (obtain ⟨ce24, hcl24, hM24, hcc24, hfr24⟩ := Kd.R_elem HX24.out z48 ((l0.length : Int) : Int) od_ (by have h_ : ((l0.length : Int) : Int) < ((x0_1.length : Int) : Int) := od_; first | exact h_ | (have e_ := (Kd.R_reads' HO_0.out).1; omega) | simpa using h_))); (try (obtain rfl := k48_openM hM24)); (try (have HP24 := Kd.R_seg HX24.out ((l0.length : Int) : Int) od_ (by have h_ : ((l0.length : Int) : Int) < ((x0_1.length : Int) : Int) := od_; first | exact h_ | (have e_ := (Kd.R_reads' HO_0.out).1; omega) | simpa using h_) (seg := [.int .i8 1, .int .i8 0, .int .i8 (IntKind.i8.wrap (x13_1)), .int .i8 0]) (j := 0) hcl24 hcc24 (show 4 ≤ 4 from by decide) (x' := (⟨1, 0, IntKind.i8.wrap (x13_1), 0⟩ : S48)) (k48_mkM _ _ _ (⟨1, 0, IntKind.i8.wrap (x13_1), 0⟩ : S48) ) (fun _ hk => hk))); (try (have hx24_0 := hcc24 0 _ rfl)); (try (try simp only [show (k48).sz = 4 from rfl, Nat.mul_one, Nat.add_zero, Int.toNat_natCast] at hx24_0)); (try (have hf24_0 := hfr24 0)); (try (try simp only [show (k48).sz = 4 from rfl, Nat.mul_one, Nat.add_zero, Int.toNat_natCast] at hf24_0)); (try (have hx24_1 := hcc24 1 _ rfl)); (try (try simp only [show (k48).sz = 4 from rfl, Nat.mul_one, Nat.add_zero, Int.toNat_natCast] at hx24_1)); (try (have hf24_1 := hfr24 1)); (try (try simp only [show (k48).sz = 4 from rfl, Nat.mul_one, Nat.add_zero, Int.toNat_natCast] at hf24_1)); (try (have hx24_2 := hcc24 2 _ rfl)); (try (try simp only [show (k48).sz = 4 from rfl, Nat.mul_one, Nat.add_zero, Int.toNat_natCast] at hx24_2)); (try (have hf24_2 := hfr24 2)); (try (try simp only [show (k48).sz = 4 from rfl, Nat.mul_one, Nat.add_zero, Int.toNat_natCast] at hf24_2)); (try (have hx24_3 := hcc24 3 _ rfl)); (try (try simp only [show (k48).sz = 4 from rfl, Nat.mul_one, Nat.add_zero, Int.toNat_natCast] at hx24_3)); (try (have hf24_3 := hfr24 3)); (try (try simp only [show (k48).sz = 4 from rfl, Nat.mul_one, Nat.add_zero, Int.toNat_natCast] at hf24_3)); (try (clear hcl24 hcc24 hfr24; (try clear hM24))))); refine store_event (t := 48) (p := 71) (v := ?vo_w25) (w1 := ((((wr.setCell ⟨go23, l0.length * 4, none⟩ (.int .i8 1)).setCell ⟨go23, l0.length * 4 + 1, none⟩ (.int .i8 0)).setCell ⟨go23, l0.length * 4 + 2, none⟩ (.int .i8 (IntKind.i8.wrap (x13_1)))).setCell ⟨go23, l0.length * 4 + 3, none⟩ (.int .i8 0))) ?hg ?ho ?hn ?hr ?_; (case ho => rfl); (case hg => rfl); (case hn => rfl); (case hr => first | (go_simp; done) | (go_simp; rfl)); intro w25 hw; have hg : wr.grownBy w25 (some go23) := (by rw [hw]; exact HP24.2); have hp_ : Kd.R k48 48 w25 w0.heap.size (fun k_ => (P0_ k_ ∨ w.heap.size ≤ k_)) (.slice (some ⟨go23, 0, none⟩) x0_1.length co23) y134 := (by rw [hw, Ny134.out]; exact HP24.1); clear HP24; replace HB := Aside0.mk ((by rw [hw]; exact below_set (below_set (below_set (below_set (HB.out) GB23.out) GB23.out) GB23.out) GB23.out : Below w0.heap.size w0 w25)); replace HK := Aside0.mk (Kept.of_grown (S := (fun k_ => P0_ k_)) hg (by repeat (first | (with_reducible first | exact HK.out | apply Kept.alloc | apply Kept.drewN | apply Kept.drew) | exact HK.out)) (fun k_ e_ => (HO_0.out.1 k_ e_))); replace HO_0 := Aside0.mk (hp_); clear hg hw hp_))
   repeat (go_quiet (first | ((with_reducible refine gate_store (t := 48) (p := 71) rfl ?_); (try (rw [drewN_self wr]; generalize hq_ : World.drewN wr _ = wr; have n0_ := Aside0.mk (Kd.R_at hq_ HO_0.out); have n1_ := Aside0.mk (kept_at hq_ HK.out); have n2_ := Aside0.mk (below_at hq_ HB.out); clear hq_ HO_0 HK HB; have HO_0 := n0_; have HK := n1_; have HB := n2_; clear n0_ n1_ n2_; (try (have HX24 := Aside0.mk (show Kd.R k48 48 wr w0.heap.size (fun k_ => (P0_ k_ ∨ w.heap.size ≤ k_)) (.slice (some ⟨go23, 0, none⟩) x0_1.length co23) x0_1 from (kp_ HO_0)))); (try (obtain ⟨ce24, hcl24, hM24, hcc24, hfr24⟩ := Kd.R_elem HX24.out z48 ((l0.length : Int) : Int) od_ (by have h_ : ((l0.length : Int) : Int) < ((x0_1.length : Int) : Int) := od_; first | exact h_ | (have e_ := (Kd.R_reads' HO_0.out).1; omega) | simpa using h_))); (try (obtain rfl := k48_openM hM24)); (try (have HP24 := Kd.R_seg HX24.out ((l0.length : Int) : Int) od_ (by have h_ : ((l0.length : Int) : Int) < ((x0_1.length : Int) : Int) := od_; first | exact h_ | (have e_ := (Kd.R_reads' HO_0.out).1; omega) | simpa using h_) (seg := [.int .i8 1, .int .i8 0, .int .i8 (IntKind.i8.wrap (x13_1)), .int .i8 0]) (j := 0) hcl24 hcc24 (show 4 ≤ 4 from by decide) (x' := (⟨1, 0, IntKind.i8.wrap (x13_1), 0⟩ : S48)) (k48_mkM _ _ _ (⟨1, 0, IntKind.i8.wrap (x13_1), 0⟩ : S48) ) (fun _ hk => hk))); (try (have hx24_0 := hcc24 0 _ rfl)); (try (try simp only [show (k48).sz = 4 from rfl, Nat.mul_one, Nat.add_zero, Int.toNat_natCast] at hx24_0)); (try (have hf24_0 := hfr24 0)); (try (try simp only [show (k48).sz = 4 from rfl, Nat.mul_one, Nat.add_zero, Int.toNat_natCast] at hf24_0)); (try (have hx24_1 := hcc24 1 _ rfl)); (try (try simp only [show (k48).sz = 4 from rfl, Nat.mul_one, Nat.add_zero, Int.toNat_natCast] at hx24_1)); (try (have hf24_1 := hfr24 1)); (try (try simp only [show (k48).sz = 4 from rfl, Nat.mul_one, Nat.add_zero, Int.toNat_natCast] at hf24_1)); (try (have hx24_2 := hcc24 2 _ rfl)); (try (try simp only [show (k48).sz = 4 from rfl, Nat.mul_one, Nat.add_zero, Int.toNat_natCast] at hx24_2)); (try (have hf24_2 := hfr24 2)); (try (try simp only [show (k48).sz = 4 from rfl, Nat.mul_one, Nat.add_zero, Int.toNat_natCast] at hf24_2)); (try (have hx24_3 := hcc24 3 _ rfl)); (try (try simp only [show (k48).sz = 4 from rfl, Nat.mul_one, Nat.add_zero, Int.toNat_natCast] at hx24_3)); (try (have hf24_3 := hfr24 3)); (try (try simp only [show (k48).sz = 4 from rfl, Nat.mul_one, Nat.add_zero, Int.toNat_natCast] at hf24_3)); (try (clear hcl24 hcc24 hfr24; (try clear hM24))))); refine store_event (t := 48) (p := 71) (v := ?vo_w25) (w1 := ((((wr.setCell ⟨go23, l0.length * 4, none⟩ (.int .i8 1)).setCell ⟨go23, l0.length * 4 + 1, none⟩ (.int .i8 0)).setCell ⟨go23, l0.length * 4 + 2, none⟩ (.int .i8 (IntKind.i8.wrap (x13_1)))).setCell ⟨go23, l0.length * 4 + 3, none⟩ (.int .i8 0))) ?hg ?ho ?hn ?hr ?_; (case ho => rfl); (case hg => rfl); (case hn => rfl); (case hr => first | (go_simp; done) | (go_simp; rfl)); intro w25 hw; have hg : wr.grownBy w25 (some go23) := (by rw [hw]; exact HP24.2); have hp_ : Kd.R k48 48 w25 w0.heap.size (fun k_ => (P0_ k_ ∨ w.heap.size ≤ k_)) (.slice (some ⟨go23, 0, none⟩) x0_1.length co23) y134 := (by rw [hw, Ny134.out]; exact HP24.1); clear HP24; replace HB := Aside0.mk ((by rw [hw]; exact below_set (below_set (below_set (below_set (HB.out) GB23.out) GB23.out) GB23.out) GB23.out : Below w0.heap.size w0 w25)); replace HK := Aside0.mk (Kept.of_grown (S := (fun k_ => P0_ k_)) hg (by repeat (first | (with_reducible first | exact HK.out | apply Kept.alloc | apply Kept.drewN | apply Kept.drew) | exact HK.out)) (fun k_ e_ => (HO_0.out.1 k_ e_))); replace HO_0 := Aside0.mk (hp_); clear hg hw hp_)); try go_wp2_with (first | ((with_reducible refine gate_store (t := 48) (p := 71) rfl ?_); (try (rw [drewN_self wr]; generalize hq_ : World.drewN wr _ = wr; have n0_ := Aside0.mk (Kd.R_at hq_ HO_0.out); have n1_ := Aside0.mk (kept_at hq_ HK.out); have n2_ := Aside0.mk (below_at hq_ HB.out); clear hq_ HO_0 HK HB; have HO_0 := n0_; have HK := n1_; have HB := n2_; clear n0_ n1_ n2_; (try (have HX24 := Aside0.mk (show Kd.R k48 48 wr w0.heap.size (fun k_ => (P0_ k_ ∨ w.heap.size ≤ k_)) (.slice (some ⟨go23, 0, none⟩) x0_1.length co23) x0_1 from (kp_ HO_0)))); (try (obtain ⟨ce24, hcl24, hM24, hcc24, hfr24⟩ := Kd.R_elem HX24.out z48 ((l0.length : Int) : Int) od_ (by have h_ : ((l0.length : Int) : Int) < ((x0_1.length : Int) : Int) := od_; first | exact h_ | (have e_ := (Kd.R_reads' HO_0.out).1; omega) | simpa using h_))); (try (obtain rfl := k48_openM hM24)); (try (have HP24 := Kd.R_seg HX24.out ((l0.length : Int) : Int) od_ (by have h_ : ((l0.length : Int) : Int) < ((x0_1.length : Int) : Int) := od_; first | exact h_ | (have e_ := (Kd.R_reads' HO_0.out).1; omega) | simpa using h_) (seg := [.int .i8 1, .int .i8 0, .int .i8 (IntKind.i8.wrap (x13_1)), .int .i8 0]) (j := 0) hcl24 hcc24 (show 4 ≤ 4 from by decide) (x' := (⟨1, 0, IntKind.i8.wrap (x13_1), 0⟩ : S48)) (k48_mkM _ _ _ (⟨1, 0, IntKind.i8.wrap (x13_1), 0⟩ : S48) ) (fun _ hk => hk))); (try (have hx24_0 := hcc24 0 _ rfl)); (try (try simp only [show (k48).sz = 4 from rfl, Nat.mul_one, Nat.add_zero, Int.toNat_natCast] at hx24_0)); (try (have hf24_0 := hfr24 0)); (try (try simp only [show (k48).sz = 4 from rfl, Nat.mul_one, Nat.add_zero, Int.toNat_natCast] at hf24_0)); (try (have hx24_1 := hcc24 1 _ rfl)); (try (try simp only [show (k48).sz = 4 from rfl, Nat.mul_one, Nat.add_zero, Int.toNat_natCast] at hx24_1)); (try (have hf24_1 := hfr24 1)); (try (try simp only [show (k48).sz = 4 from rfl, Nat.mul_one, Nat.add_zero, Int.toNat_natCast] at hf24_1)); (try (have hx24_2 := hcc24 2 _ rfl)); (try (try simp only [show (k48).sz = 4 from rfl, Nat.mul_one, Nat.add_zero, Int.toNat_natCast] at hx24_2)); (try (have hf24_2 := hfr24 2)); (try (try simp only [show (k48).sz = 4 from rfl, Nat.mul_one, Nat.add_zero, Int.toNat_natCast] at hf24_2)); (try (have hx24_3 := hcc24 3 _ rfl)); (try (try simp only [show (k48).sz = 4 from rfl, Nat.mul_one, Nat.add_zero, Int.toNat_natCast] at hx24_3)); (try (have hf24_3 := hfr24 3)); (try (try simp only [show (k48).sz = 4 from rfl, Nat.mul_one, Nat.add_zero, Int.toNat_natCast] at hf24_3)); (try (clear hcl24 hcc24 hfr24; (try clear hM24))))); refine store_event (t := 48) (p := 71) (v := ?vo_w25) (w1 := ((((wr.setCell ⟨go23, l0.length * 4, none⟩ (.int .i8 1)).setCell ⟨go23, l0.length * 4 + 1, none⟩ (.int .i8 0)).setCell ⟨go23, l0.length * 4 + 2, none⟩ (.int .i8 (IntKind.i8.wrap (x13_1)))).setCell ⟨go23, l0.length * 4 + 3, none⟩ (.int .i8 0))) ?hg ?ho ?hn ?hr ?_; (case ho => rfl); (case hg => rfl); (case hn => rfl); (case hr => first | (go_simp; done) | (go_simp; rfl)); intro w25 hw; have hg : wr.grownBy w25 (some go23) := (by rw [hw]; exact HP24.2); have hp_ : Kd.R k48 48 w25 w0.heap.size (fun k_ => (P0_ k_ ∨ w.heap.size ≤ k_)) (.slice (some ⟨go23, 0, none⟩) x0_1.length co23) y134 := (by rw [hw, Ny134.out]; exact HP24.1); clear HP24; replace HB := Aside0.mk ((by rw [hw]; exact below_set (below_set (below_set (below_set (HB.out) GB23.out) GB23.out) GB23.out) GB23.out : Below w0.heap.size w0 w25)); replace HK := Aside0.mk (Kept.of_grown (S := (fun k_ => P0_ k_)) hg (by repeat (first | (with_reducible first | exact HK.out | apply Kept.alloc | apply Kept.drewN | apply Kept.drew) | exact HK.out)) (fun k_ e_ => (HO_0.out.1 k_ e_))); replace HO_0 := Aside0.mk (hp_); clear hg hw hp_)))
   go_ret
   exact ⟨_, by first | rfl | (simp [errW_none, errW_some] <;> rfl) | (simp [*, errW_none, errW_some] <;> rfl), by (with_reducible repeat (first | apply Kd.R_alloc | apply Kd.R_drewN | apply Kd.R_drew)); exact HO_0.out, kB_ HB, by repeat (first | (with_reducible first | exact HK.out | apply Kept.alloc | apply Kept.drewN | apply Kept.drew) | exact HK.out)⟩
  rw [if_neg c16] at H
  have c16b0 : decide (x13_1 < (l4.length : Int)) = false := decide_eq_false c16
  clear c16
  have H' := Aside0.mk H
  clear H
  go_wp2
  repeat (go_quiet (fail); try go_wp2)
  go_loopg [14] k1 (fun kq v14 w' => ∃ (x14_2 : Int), v14 = .int .i64 x14_2 ∧ Aside0 (spec_l04Cut.l1 P_ kq x0_1 l1 a2 a3 l4 (rd l1 (a2 * 25 + a3)) (l0.length : Int) x14_2 = some r) ∧ Aside0 (kq ≤ k1) ∧ Aside0 (Kd.R k48 48 w' w0.heap.size (fun k_ => (P0_ k_ ∨ w.heap.size ≤ k_)) v129 x0_1) ∧ Aside0 (Kept w w' (fun k_ => P0_ k_)) ∧ Aside0 (Below w0.heap.size w0 w'))
  case atStart => exact ⟨(1), (by first | rfl | (simp; done) | (simp [*]; done)), H', ⟨Nat.le_refl _⟩, ⟨kp_ HO_0⟩, ⟨by repeat (first | (with_reducible first | exact HK.out | apply Kept.alloc | apply Kept.drewN | apply Kept.drew) | exact HK.out)⟩, ⟨bl_ HB⟩⟩
  case round =>
   clear H'
   obtain ⟨x14_2, rfl, HA, HK2, HO_0, HK, HB⟩ := hrel
   rcases gk with _ | k2
   · exact absurd HA.out (by simp [spec_l04Cut.l1])
   have H := HA.out
   clear HA
   simp only [spec_l04Cut.l1] at H
   by_cases c26 : x14_2 < a2
   ·
    rw [if_pos c26] at H
    have c26b0 : decide (x14_2 < a2) = true := decide_eq_true c26
    clear c26
    obtain ⟨c27b0, H⟩ := gx_ H
    obtain ⟨c28b0, H⟩ := gx_ H
    obtain ⟨c29b0, H⟩ := gx_ H
    obtain ⟨c30b0, H⟩ := gx_ H
    obtain ⟨ji31, hji31⟩ : ∃ j_ : Int, (wrap64 (a2 - x14_2)) = j_ := ⟨_, rfl⟩
    replace H : (if 0 ≤ (ji31) then (if (ji31) < 25 then (if (wrap64 ((rd l1 (x14_2 * 25 + a3)) + (rd l1 ((ji31) * 25 + a3)))) = (rd l1 (a2 * 25 + a3)) then ((P_ x0_1 (l0.length : Int) l1 2 x14_2 x14_2 a3 (ji31) a3 l4).bind fun t137 => (some t137)) else (spec_l04Cut.l1 P_ k2 x0_1 l1 a2 a3 l4 (rd l1 (a2 * 25 + a3)) (l0.length : Int) (wrap64 (x14_2 + 1)))) else (none)) else (none)) = some r := by first | (rw [hji31] at H; exact H) | (simp only [hji31] at H ⊢; exact H)
    have hji31w : (IntKind.i64.wrap (a2 - x14_2)) = ji31 := (i64_w _).trans hji31
    obtain ⟨c32b0, H⟩ := gx_ H
    obtain ⟨c33b0, H⟩ := gx_ H
    rcases (Decidable.em ((wrap64 ((rd l1 (x14_2 * 25 + a3)) + (rd l1 ((ji31) * 25 + a3)))) = (rd l1 (a2 * 25 + a3)))).symm with c34 | c34
    ·
     rw [if_neg c34] at H
     have c34b0 : ((wrap64 ((rd l1 (x14_2 * 25 + a3)) + (rd l1 ((ji31) * 25 + a3)))) == (rd l1 (a2 * 25 + a3))) = false := beq_eq_false_iff_ne.mpr c34
     have c34b1 : ((wrap64 ((rd l1 (x14_2 * 25 + a3)) + (rd l1 ((ji31) * 25 + a3)))) != (rd l1 (a2 * 25 + a3))) = true := bne_iff_ne.mpr c34
     have H' := Aside0.mk H
     clear H
     have pi135 : 0 ≤ x14_2 := od_
     have qi135 : x14_2 < 25 := od_
     have pj135 : 0 ≤ a3 := od_
     have qj135 : a3 < 25 := od_
     have hx135_0 := spec_l04Cut.tcell (HR1.out _ HK.out) HC1.out (x14_2) (a3) pi135 qi135 pj135 qj135
     replace pi135 := eq_true pi135
     replace qi135 := eq_true qi135
     replace pj135 := eq_true pj135
     replace qj135 := eq_true qj135
     have pi136 : 0 ≤ (ji31) := od_
     have qi136 : (ji31) < 25 := od_
     have pj136 : 0 ≤ a3 := od_
     have qj136 : a3 < 25 := od_
     have hx136_0 := spec_l04Cut.tcell (HR1.out _ HK.out) HC1.out ((ji31)) (a3) pi136 qi136 pj136 qj136
     replace pi136 := eq_true pi136
     replace qi136 := eq_true qi136
     replace pj136 := eq_true pj136
     replace qj136 := eq_true qj136
     go_wp2
     repeat (go_quiet (fail); try go_wp2)
     go_roundg k2
     case measure => have := HK1.out; have := HK2.out; omega
     case rel => exact ⟨(wrap64 (x14_2 + 1)), (by first | rfl | (simp; done) | (simp [*]; done)), H', ⟨by have := HK1.out; have := HK2.out; omega⟩, ⟨kp_ HO_0⟩, ⟨by repeat (first | (with_reducible first | exact HK.out | apply Kept.alloc | apply Kept.drewN | apply Kept.drew) | exact HK.out)⟩, ⟨bl_ HB⟩⟩
    rw [if_pos c34] at H
    have c34b0 : ((wrap64 ((rd l1 (x14_2 * 25 + a3)) + (rd l1 ((ji31) * 25 + a3)))) == (rd l1 (a2 * 25 + a3))) = true := beq_iff_eq.mpr c34
    have c34b1 : ((wrap64 ((rd l1 (x14_2 * 25 + a3)) + (rd l1 ((ji31) * 25 + a3)))) != (rd l1 (a2 * 25 + a3))) = false := bne_eq_false_iff_eq.mpr c34
    clear c34
    obtain ⟨t137, A35, H⟩ := be_ H
    (try dsimp only at H)
    obtain rfl := Option.some.inj H
    have pi135 : 0 ≤ x14_2 := od_
    have qi135 : x14_2 < 25 := od_
    have pj135 : 0 ≤ a3 := od_
    have qj135 : a3 < 25 := od_
    have hx135_0 := spec_l04Cut.tcell (HR1.out _ HK.out) HC1.out (x14_2) (a3) pi135 qi135 pj135 qj135
    replace pi135 := eq_true pi135
    replace qi135 := eq_true qi135
    replace pj135 := eq_true pj135
    replace qj135 := eq_true qj135
    have pi136 : 0 ≤ (ji31) := od_
    have qi136 : (ji31) < 25 := od_
    have pj136 : 0 ≤ a3 := od_
    have qj136 : a3 < 25 := od_
    have hx136_0 := spec_l04Cut.tcell (HR1.out _ HK.out) HC1.out ((ji31)) (a3) pi136 qi136 pj136 qj136
    replace pi136 := eq_true pi136
    replace qi136 := eq_true qi136
    replace pj136 := eq_true pj136
    replace qj136 := eq_true qj136
    obtain ⟨Ao36, co36, eo36⟩ := Kd.R_slice HO_0.out
    subst eo36
    go_wp2_with (first | (go_at_call 45; (with_reducible refine (HP (fun k_ => some k_ = (.slice Ao36 x0_1.length co36 : Value).ownBlock) (.slice Ao36 x0_1.length co36) x0_1 (l0.length : Int) gt l1 2 x14_2 x14_2 a3 ji31 a3 _ _ l4 t137 w0 _ ?side1 ?side2 ?side3 ?side4 ?side5 ?side6 A35.out).mono ?_); (case side1 => repeat (first | (with_reducible first | exact HB.out | apply below_alloc | apply pw_below_drewN | apply below_drew1) | exact HB.out)); (case side2 => exact Kd.R_tight rfl HO_0.out); (case side3 => exact spec_l04Cut.kept_call HR1.out (by repeat (first | (with_reducible first | exact HK.out | apply Kept.alloc | apply Kept.drewN | apply Kept.drew) | exact HK.out)) (fun k_ hs_ => (fun e_ => (HO_0.out.1 k_ e_.symm)) hs_)); (case side4 => exact HC1.out); (case side5 => exact Kd.C_kept_call HR4.out (by repeat (first | (with_reducible first | exact HK.out | apply Kept.alloc | apply Kept.drewN | apply Kept.drew) | exact HK.out)) (fun k_ hs_ => (fun e_ => (HO_0.out.1 k_ e_.symm)) hs_)); (case side6 => exact HC4.out); rintro e w37 ⟨v138, rfl, ho0, hb, hkp⟩; have n0_ := Aside0.mk (Kd.R_mono (ok' := fun k_ => (P0_ k_ ∨ w.heap.size ≤ k_)) ho0 (fun k_ hk_ => Or.elim hk_ (fun hs_ => (HO_0.out.1 k_ (hs_).symm)) (fun hn_ => (.inr (Nat.le_trans (by first | exact HK.out.1 | exact (show Kept w _ (fun k_ => P0_ k_) from by repeat (first | (with_reducible first | exact HK.out | apply Kept.alloc | apply Kept.drewN | apply Kept.drew) | exact HK.out)).1) hn_))))); have n1_ := Aside0.mk (Kept.then_ (S := (fun k_ => P0_ k_)) (by repeat (first | (with_reducible first | exact HK.out | apply Kept.alloc | apply Kept.drewN | apply Kept.drew) | exact HK.out)) hkp (fun k_ hs_ => (fun e_ => (HO_0.out.1 k_ e_.symm)) hs_)); have n2_ := Aside0.mk (hb); clear HK; clear HB; clear HO_0; have HO139 := n0_; have HK := n1_; have HB := n2_; clear n0_ n1_ n2_; clear hb; (try clear hkp); (try clear ho0)))
    repeat (go_quiet (first | (go_at_call 45; (with_reducible refine (HP (fun k_ => some k_ = (.slice Ao36 x0_1.length co36 : Value).ownBlock) (.slice Ao36 x0_1.length co36) x0_1 (l0.length : Int) gt l1 2 x14_2 x14_2 a3 ji31 a3 _ _ l4 t137 w0 _ ?side1 ?side2 ?side3 ?side4 ?side5 ?side6 A35.out).mono ?_); (case side1 => repeat (first | (with_reducible first | exact HB.out | apply below_alloc | apply pw_below_drewN | apply below_drew1) | exact HB.out)); (case side2 => exact Kd.R_tight rfl HO_0.out); (case side3 => exact spec_l04Cut.kept_call HR1.out (by repeat (first | (with_reducible first | exact HK.out | apply Kept.alloc | apply Kept.drewN | apply Kept.drew) | exact HK.out)) (fun k_ hs_ => (fun e_ => (HO_0.out.1 k_ e_.symm)) hs_)); (case side4 => exact HC1.out); (case side5 => exact Kd.C_kept_call HR4.out (by repeat (first | (with_reducible first | exact HK.out | apply Kept.alloc | apply Kept.drewN | apply Kept.drew) | exact HK.out)) (fun k_ hs_ => (fun e_ => (HO_0.out.1 k_ e_.symm)) hs_)); (case side6 => exact HC4.out); rintro e w37 ⟨v138, rfl, ho0, hb, hkp⟩; have n0_ := Aside0.mk (Kd.R_mono (ok' := fun k_ => (P0_ k_ ∨ w.heap.size ≤ k_)) ho0 (fun k_ hk_ => Or.elim hk_ (fun hs_ => (HO_0.out.1 k_ (hs_).symm)) (fun hn_ => (.inr (Nat.le_trans (by first | exact HK.out.1 | exact (show Kept w _ (fun k_ => P0_ k_) from by repeat (first | (with_reducible first | exact HK.out | apply Kept.alloc | apply Kept.drewN | apply Kept.drew) | exact HK.out)).1) hn_))))); have n1_ := Aside0.mk (Kept.then_ (S := (fun k_ => P0_ k_)) (by repeat (first | (with_reducible first | exact HK.out | apply Kept.alloc | apply Kept.drewN | apply Kept.drew) | exact HK.out)) hkp (fun k_ hs_ => (fun e_ => (HO_0.out.1 k_ e_.symm)) hs_)); have n2_ := Aside0.mk (hb); clear HK; clear HB; clear HO_0; have HO139 := n0_; have HK := n1_; have HB := n2_; clear n0_ n1_ n2_; clear hb; (try clear hkp); (try clear ho0))); try go_wp2_with (first | (go_at_call 45; (with_reducible refine (HP (fun k_ => some k_ = (.slice Ao36 x0_1.length co36 : Value).ownBlock) (.slice Ao36 x0_1.length co36) x0_1 (l0.length : Int) gt l1 2 x14_2 x14_2 a3 ji31 a3 _ _ l4 t137 w0 _ ?side1 ?side2 ?side3 ?side4 ?side5 ?side6 A35.out).mono ?_); (case side1 => repeat (first | (with_reducible first | exact HB.out | apply below_alloc | apply pw_below_drewN | apply below_drew1) | exact HB.out)); (case side2 => exact Kd.R_tight rfl HO_0.out); (case side3 => exact spec_l04Cut.kept_call HR1.out (by repeat (first | (with_reducible first | exact HK.out | apply Kept.alloc | apply Kept.drewN | apply Kept.drew) | exact HK.out)) (fun k_ hs_ => (fun e_ => (HO_0.out.1 k_ e_.symm)) hs_)); (case side4 => exact HC1.out); (case side5 => exact Kd.C_kept_call HR4.out (by repeat (first | (with_reducible first | exact HK.out | apply Kept.alloc | apply Kept.drewN | apply Kept.drew) | exact HK.out)) (fun k_ hs_ => (fun e_ => (HO_0.out.1 k_ e_.symm)) hs_)); (case side6 => exact HC4.out); rintro e w37 ⟨v138, rfl, ho0, hb, hkp⟩; have n0_ := Aside0.mk (Kd.R_mono (ok' := fun k_ => (P0_ k_ ∨ w.heap.size ≤ k_)) ho0 (fun k_ hk_ => Or.elim hk_ (fun hs_ => (HO_0.out.1 k_ (hs_).symm)) (fun hn_ => (.inr (Nat.le_trans (by first | exact HK.out.1 | exact (show Kept w _ (fun k_ => P0_ k_) from by repeat (first | (with_reducible first | exact HK.out | apply Kept.alloc | apply Kept.drewN | apply Kept.drew) | exact HK.out)).1) hn_))))); have n1_ := Aside0.mk (Kept.then_ (S := (fun k_ => P0_ k_)) (by repeat (first | (with_reducible first | exact HK.out | apply Kept.alloc | apply Kept.drewN | apply Kept.drew) | exact HK.out)) hkp (fun k_ hs_ => (fun e_ => (HO_0.out.1 k_ e_.symm)) hs_)); have n2_ := Aside0.mk (hb); clear HK; clear HB; clear HO_0; have HO139 := n0_; have HK := n1_; have HB := n2_; clear n0_ n1_ n2_; clear hb; (try clear hkp); (try clear ho0))))
    go_ret
    exact ⟨_, by first | rfl | (simp [errW_none, errW_some] <;> rfl) | (simp only [← hji31]; first | rfl | (simp [errW_none, errW_some] <;> rfl)) | (simp [*, errW_none, errW_some] <;> rfl), by (with_reducible repeat (first | apply Kd.R_alloc | apply Kd.R_drewN | apply Kd.R_drew)); exact HO139.out, kB_ HB, by repeat (first | (with_reducible first | exact HK.out | apply Kept.alloc | apply Kept.drewN | apply Kept.drew) | exact HK.out)⟩
   rw [if_neg c26] at H
   have c26b0 : decide (x14_2 < a2) = false := decide_eq_false c26
   clear c26
   have H' := Aside0.mk H
   clear H
   go_wp2
   repeat (go_quiet (fail); try go_wp2)
   go_loopg [15] k2 (fun kq v15 w' => ∃ (x15_3 : Int), v15 = .int .i64 x15_3 ∧ Aside0 (spec_l04Cut.l2 P_ kq x0_1 l1 a2 a3 l4 (rd l1 (a2 * 25 + a3)) (l0.length : Int) x15_3 = some r) ∧ Aside0 (kq ≤ k2) ∧ Aside0 (Kd.R k48 48 w' w0.heap.size (fun k_ => (P0_ k_ ∨ w.heap.size ≤ k_)) v129 x0_1) ∧ Aside0 (Kept w w' (fun k_ => P0_ k_)) ∧ Aside0 (Below w0.heap.size w0 w'))
   case atStart => exact ⟨(1), (by first | rfl | (simp; done) | (simp [*]; done)), H', ⟨Nat.le_refl _⟩, ⟨kp_ HO_0⟩, ⟨by repeat (first | (with_reducible first | exact HK.out | apply Kept.alloc | apply Kept.drewN | apply Kept.drew) | exact HK.out)⟩, ⟨bl_ HB⟩⟩
   case round =>
    clear H'
    obtain ⟨x15_3, rfl, HA, HK3, HO_0, HK, HB⟩ := hrel
    rcases gk with _ | k3
    · exact absurd HA.out (by simp [spec_l04Cut.l2])
    have H := HA.out
    clear HA
    simp only [spec_l04Cut.l2] at H
    obtain ⟨c38b0, H⟩ := gx_ H
    obtain ⟨c39b0, H⟩ := gx_ H
    obtain ⟨c40b0, H⟩ := gx_ H
    obtain ⟨c41b0, H⟩ := gx_ H
    obtain ⟨ji42, hji42⟩ : ∃ j_ : Int, (wrap64 (a3 - x15_3)) = j_ := ⟨_, rfl⟩
    replace H : (if 0 ≤ (ji42) then (if (ji42) < 25 then (if (wrap64 ((rd l1 (a2 * 25 + x15_3)) + (rd l1 (a2 * 25 + (ji42))))) = (rd l1 (a2 * 25 + a3)) then ((P_ x0_1 (l0.length : Int) l1 3 x15_3 a2 x15_3 a2 (ji42) l4).bind fun t142 => (some t142)) else (spec_l04Cut.l2 P_ k3 x0_1 l1 a2 a3 l4 (rd l1 (a2 * 25 + a3)) (l0.length : Int) (wrap64 (x15_3 + 1)))) else (none)) else (none)) = some r := by first | (rw [hji42] at H; exact H) | (simp only [hji42] at H ⊢; exact H)
    have hji42w : (IntKind.i64.wrap (a3 - x15_3)) = ji42 := (i64_w _).trans hji42
    obtain ⟨c43b0, H⟩ := gx_ H
    obtain ⟨c44b0, H⟩ := gx_ H
    rcases (Decidable.em ((wrap64 ((rd l1 (a2 * 25 + x15_3)) + (rd l1 (a2 * 25 + (ji42))))) = (rd l1 (a2 * 25 + a3)))).symm with c45 | c45
    ·
     rw [if_neg c45] at H
     have c45b0 : ((wrap64 ((rd l1 (a2 * 25 + x15_3)) + (rd l1 (a2 * 25 + (ji42))))) == (rd l1 (a2 * 25 + a3))) = false := beq_eq_false_iff_ne.mpr c45
     have c45b1 : ((wrap64 ((rd l1 (a2 * 25 + x15_3)) + (rd l1 (a2 * 25 + (ji42))))) != (rd l1 (a2 * 25 + a3))) = true := bne_iff_ne.mpr c45
     have H' := Aside0.mk H
     clear H
     have pi140 : 0 ≤ a2 := od_
     have qi140 : a2 < 25 := od_
     have pj140 : 0 ≤ x15_3 := od_
     have qj140 : x15_3 < 25 := od_
     have hx140_0 := spec_l04Cut.tcell (HR1.out _ HK.out) HC1.out (a2) (x15_3) pi140 qi140 pj140 qj140
     replace pi140 := eq_true pi140
     replace qi140 := eq_true qi140
     replace pj140 := eq_true pj140
     replace qj140 := eq_true qj140
     have pi141 : 0 ≤ a2 := od_
     have qi141 : a2 < 25 := od_
     have pj141 : 0 ≤ (ji42) := od_
     have qj141 : (ji42) < 25 := od_
     have hx141_0 := spec_l04Cut.tcell (HR1.out _ HK.out) HC1.out (a2) ((ji42)) pi141 qi141 pj141 qj141
     replace pi141 := eq_true pi141
     replace qi141 := eq_true qi141
     replace pj141 := eq_true pj141
     replace qj141 := eq_true qj141
     go_wp2
     repeat (go_quiet (fail); try go_wp2)
     go_roundg k3
     case measure => have := HK1.out; have := HK2.out; have := HK3.out; omega
     case rel => exact ⟨(wrap64 (x15_3 + 1)), (by first | rfl | (simp; done) | (simp [*]; done)), H', ⟨by have := HK1.out; have := HK2.out; have := HK3.out; omega⟩, ⟨kp_ HO_0⟩, ⟨by repeat (first | (with_reducible first | exact HK.out | apply Kept.alloc | apply Kept.drewN | apply Kept.drew) | exact HK.out)⟩, ⟨bl_ HB⟩⟩
    rw [if_pos c45] at H
    have c45b0 : ((wrap64 ((rd l1 (a2 * 25 + x15_3)) + (rd l1 (a2 * 25 + (ji42))))) == (rd l1 (a2 * 25 + a3))) = true := beq_iff_eq.mpr c45
    have c45b1 : ((wrap64 ((rd l1 (a2 * 25 + x15_3)) + (rd l1 (a2 * 25 + (ji42))))) != (rd l1 (a2 * 25 + a3))) = false := bne_eq_false_iff_eq.mpr c45
    clear c45
    obtain ⟨t142, A46, H⟩ := be_ H
    (try dsimp only at H)
    obtain rfl := Option.some.inj H
    have pi140 : 0 ≤ a2 := od_
    have qi140 : a2 < 25 := od_
    have pj140 : 0 ≤ x15_3 := od_
    have qj140 : x15_3 < 25 := od_
    have hx140_0 := spec_l04Cut.tcell (HR1.out _ HK.out) HC1.out (a2) (x15_3) pi140 qi140 pj140 qj140
    replace pi140 := eq_true pi140
    replace qi140 := eq_true qi140
    replace pj140 := eq_true pj140
    replace qj140 := eq_true qj140
    have pi141 : 0 ≤ a2 := od_
    have qi141 : a2 < 25 := od_
    have pj141 : 0 ≤ (ji42) := od_
    have qj141 : (ji42) < 25 := od_
    have hx141_0 := spec_l04Cut.tcell (HR1.out _ HK.out) HC1.out (a2) ((ji42)) pi141 qi141 pj141 qj141
    replace pi141 := eq_true pi141
    replace qi141 := eq_true qi141
    replace pj141 := eq_true pj141
    replace qj141 := eq_true qj141
    obtain ⟨Ao47, co47, eo47⟩ := Kd.R_slice HO_0.out
    subst eo47
    go_wp2_with (first | (go_at_call 45; (with_reducible refine (HP (fun k_ => some k_ = (.slice Ao47 x0_1.length co47 : Value).ownBlock) (.slice Ao47 x0_1.length co47) x0_1 (l0.length : Int) gt l1 3 x15_3 a2 x15_3 a2 ji42 _ _ l4 t142 w0 _ ?side1 ?side2 ?side3 ?side4 ?side5 ?side6 A46.out).mono ?_); (case side1 => repeat (first | (with_reducible first | exact HB.out | apply below_alloc | apply pw_below_drewN | apply below_drew1) | exact HB.out)); (case side2 => exact Kd.R_tight rfl HO_0.out); (case side3 => exact spec_l04Cut.kept_call HR1.out (by repeat (first | (with_reducible first | exact HK.out | apply Kept.alloc | apply Kept.drewN | apply Kept.drew) | exact HK.out)) (fun k_ hs_ => (fun e_ => (HO_0.out.1 k_ e_.symm)) hs_)); (case side4 => exact HC1.out); (case side5 => exact Kd.C_kept_call HR4.out (by repeat (first | (with_reducible first | exact HK.out | apply Kept.alloc | apply Kept.drewN | apply Kept.drew) | exact HK.out)) (fun k_ hs_ => (fun e_ => (HO_0.out.1 k_ e_.symm)) hs_)); (case side6 => exact HC4.out); rintro e w48 ⟨v143, rfl, ho0, hb, hkp⟩; have n0_ := Aside0.mk (Kd.R_mono (ok' := fun k_ => (P0_ k_ ∨ w.heap.size ≤ k_)) ho0 (fun k_ hk_ => Or.elim hk_ (fun hs_ => (HO_0.out.1 k_ (hs_).symm)) (fun hn_ => (.inr (Nat.le_trans (by first | exact HK.out.1 | exact (show Kept w _ (fun k_ => P0_ k_) from by repeat (first | (with_reducible first | exact HK.out | apply Kept.alloc | apply Kept.drewN | apply Kept.drew) | exact HK.out)).1) hn_))))); have n1_ := Aside0.mk (Kept.then_ (S := (fun k_ => P0_ k_)) (by repeat (first | (with_reducible first | exact HK.out | apply Kept.alloc | apply Kept.drewN | apply Kept.drew) | exact HK.out)) hkp (fun k_ hs_ => (fun e_ => (HO_0.out.1 k_ e_.symm)) hs_)); have n2_ := Aside0.mk (hb); clear HK; clear HB; clear HO_0; have HO144 := n0_; have HK := n1_; have HB := n2_; clear n0_ n1_ n2_; clear hb; (try clear hkp); (try clear ho0)))
    repeat (go_quiet (first | (go_at_call 45; (with_reducible refine (HP (fun k_ => some k_ = (.slice Ao47 x0_1.length co47 : Value).ownBlock) (.slice Ao47 x0_1.length co47) x0_1 (l0.length : Int) gt l1 3 x15_3 a2 x15_3 a2 ji42 _ _ l4 t142 w0 _ ?side1 ?side2 ?side3 ?side4 ?side5 ?side6 A46.out).mono ?_); (case side1 => repeat (first | (with_reducible first | exact HB.out | apply below_alloc | apply pw_below_drewN | apply below_drew1) | exact HB.out)); (case side2 => exact Kd.R_tight rfl HO_0.out); (case side3 => exact spec_l04Cut.kept_call HR1.out (by repeat (first | (with_reducible first | exact HK.out | apply Kept.alloc | apply Kept.drewN | apply Kept.drew) | exact HK.out)) (fun k_ hs_ => (fun e_ => (HO_0.out.1 k_ e_.symm)) hs_)); (case side4 => exact HC1.out); (case side5 => exact Kd.C_kept_call HR4.out (by repeat (first | (with_reducible first | exact HK.out | apply Kept.alloc | apply Kept.drewN | apply Kept.drew) | exact HK.out)) (fun k_ hs_ => (fun e_ => (HO_0.out.1 k_ e_.symm)) hs_)); (case side6 => exact HC4.out); rintro e w48 ⟨v143, rfl, ho0, hb, hkp⟩; have n0_ := Aside0.mk (Kd.R_mono (ok' := fun k_ => (P0_ k_ ∨ w.heap.size ≤ k_)) ho0 (fun k_ hk_ => Or.elim hk_ (fun hs_ => (HO_0.out.1 k_ (hs_).symm)) (fun hn_ => (.inr (Nat.le_trans (by first | exact HK.out.1 | exact (show Kept w _ (fun k_ => P0_ k_) from by repeat (first | (with_reducible first | exact HK.out | apply Kept.alloc | apply Kept.drewN | apply Kept.drew) | exact HK.out)).1) hn_))))); have n1_ := Aside0.mk (Kept.then_ (S := (fun k_ => P0_ k_)) (by repeat (first | (with_reducible first | exact HK.out | apply Kept.alloc | apply Kept.drewN | apply Kept.drew) | exact HK.out)) hkp (fun k_ hs_ => (fun e_ => (HO_0.out.1 k_ e_.symm)) hs_)); have n2_ := Aside0.mk (hb); clear HK; clear HB; clear HO_0; have HO144 := n0_; have HK := n1_; have HB := n2_; clear n0_ n1_ n2_; clear hb; (try clear hkp); (try clear ho0))); try go_wp2_with (first | (go_at_call 45; (with_reducible refine (HP (fun k_ => some k_ = (.slice Ao47 x0_1.length co47 : Value).ownBlock) (.slice Ao47 x0_1.length co47) x0_1 (l0.length : Int) gt l1 3 x15_3 a2 x15_3 a2 ji42 _ _ l4 t142 w0 _ ?side1 ?side2 ?side3 ?side4 ?side5 ?side6 A46.out).mono ?_); (case side1 => repeat (first | (with_reducible first | exact HB.out | apply below_alloc | apply pw_below_drewN | apply below_drew1) | exact HB.out)); (case side2 => exact Kd.R_tight rfl HO_0.out); (case side3 => exact spec_l04Cut.kept_call HR1.out (by repeat (first | (with_reducible first | exact HK.out | apply Kept.alloc | apply Kept.drewN | apply Kept.drew) | exact HK.out)) (fun k_ hs_ => (fun e_ => (HO_0.out.1 k_ e_.symm)) hs_)); (case side4 => exact HC1.out); (case side5 => exact Kd.C_kept_call HR4.out (by repeat (first | (with_reducible first | exact HK.out | apply Kept.alloc | apply Kept.drewN | apply Kept.drew) | exact HK.out)) (fun k_ hs_ => (fun e_ => (HO_0.out.1 k_ e_.symm)) hs_)); (case side6 => exact HC4.out); rintro e w48 ⟨v143, rfl, ho0, hb, hkp⟩; have n0_ := Aside0.mk (Kd.R_mono (ok' := fun k_ => (P0_ k_ ∨ w.heap.size ≤ k_)) ho0 (fun k_ hk_ => Or.elim hk_ (fun hs_ => (HO_0.out.1 k_ (hs_).symm)) (fun hn_ => (.inr (Nat.le_trans (by first | exact HK.out.1 | exact (show Kept w _ (fun k_ => P0_ k_) from by repeat (first | (with_reducible first | exact HK.out | apply Kept.alloc | apply Kept.drewN | apply Kept.drew) | exact HK.out)).1) hn_))))); have n1_ := Aside0.mk (Kept.then_ (S := (fun k_ => P0_ k_)) (by repeat (first | (with_reducible first | exact HK.out | apply Kept.alloc | apply Kept.drewN | apply Kept.drew) | exact HK.out)) hkp (fun k_ hs_ => (fun e_ => (HO_0.out.1 k_ e_.symm)) hs_)); have n2_ := Aside0.mk (hb); clear HK; clear HB; clear HO_0; have HO144 := n0_; have HK := n1_; have HB := n2_; clear n0_ n1_ n2_; clear hb; (try clear hkp); (try clear ho0))))
    go_ret
    exact ⟨_, by first | rfl | (simp [errW_none, errW_some] <;> rfl) | (simp only [← hji42]; first | rfl | (simp [errW_none, errW_some] <;> rfl)) | (simp [*, errW_none, errW_some] <;> rfl), by (with_reducible repeat (first | apply Kd.R_alloc | apply Kd.R_drewN | apply Kd.R_drew)); exact HO144.out, kB_ HB, by repeat (first | (with_reducible first | exact HK.out | apply Kept.alloc | apply Kept.drewN | apply Kept.drew) | exact HK.out)⟩
theorem spec_l04Cut.calls : ∀ (k : Nat) (P0_ : Nat → Prop) (u9000_ : Value) (l0 : List (S48)) (gt : Nat) (l1 : List Int) (a2 : Int) (a3 : Int) (A4 : Option Addr) (c4 : Nat) (l4 : List (S46)) (r : List (S48)) (w0 w : World) (hB : Below w0.heap.size w0 w) (ho0 : Kd.R k48 48 w w0.heap.size P0_ u9000_ l0) (hr1 : ∀ W_, Kept w W_ (fun k_ => P0_ k_) → W_.heap[gt]? = some (.cells (spec_l04Worth.cs l1) 65 (0, 0))) (hc1 : l1.length = 625) (hr4 : ∀ W_, Kept w W_ (fun k_ => P0_ k_) → Kd.C k46 W_ A4 l4.length l4) (hc4 : l4.length ≤ c4) (h : spec_l04Cut.f k l0 l1 a2 a3 l4 = some r),
  Calls Try.prog 29 #[u9000_, .pointer (some ⟨gt, 0, none⟩), .int .i64 a2, .int .i64 a3, .slice A4 l4.length c4] w fun e w' => ∃ v0_ : Value, e = .returned (v0_) ∧ Kd.R k48 48 w' w0.heap.size (fun k_ => (P0_ k_ ∨ w.heap.size ≤ k_)) v0_ r ∧ Below w0.heap.size w0 w' ∧ Kept w w' (fun k_ => P0_ k_)
 | 0, P0_, u9000_, l0, gt, l1, a2, a3, A4, c4, l4, r, w0, w, _, _, _, _, _, _, h => absurd h (by simp [spec_l04Cut.f])
 | k + 1, P0_, u9000_, l0, gt, l1, a2, a3, A4, c4, l4, r, w0, w, hB, ho0, hr1, hc1, hr4, hc4, h =>
  spec_l04Cut.callsB (spec_l04Cut.q (spec_l04Cut.f k)) (spec_l04Cut.callsQ (spec_l04Cut.f k) (spec_l04Cut.calls k)) k P0_ u9000_ l0 gt l1 a2 a3 A4 c4 l4 r w0 w hB ho0 hr1 hc1 hr4 hc4 h

end Go.Proofs.Ytnkihjabmbeicaa.PA
