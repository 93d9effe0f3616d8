/- Written by a program of this session out of the translation: pure functions, and that Go's functions come to them. -/
import Derived.Test.YtpkbamcfncambaaPAx0
import Derived.Test.YtpkbamcfncambaaPAxf17
namespace Go.Proofs.Ytpkbamcfncambaa.PA
open Go.RowKit Go.Proofs.YtpkbamcfncambaaW.PrintWords Go.Proofs.YtpkbamcfncambaaW.PrintLast Go.Proofs.YtpkbamcfncambaaW.PrintMore
attribute [local go_sem] max2_int min2_int max_two min_two max_three min_three max_four min_four   -- for this text's walks alone
set_option linter.unusedVariables false
set_option linter.unusedSimpArgs false

/-! ### spec_l04Cut: function 24 -/
theorem spec_l04Cut.kept_call {Q : World → Prop} {w W : World} {S S2 : Nat → Prop} (h : ∀ W', Kept w W' S → Q W') (hk : Kept w W S) (hs : ∀ k, S2 k → S k ∨ w.heap.size ≤ k) : ∀ W', Kept W W' S2 → Q W' := fun W' hk' => h W' (hk.then_ hk' hs)
theorem spec_l04Cut.tcell {W : World} {g T : Nat} {xs : List Int} (h : W.heap[g]? = some (.cells (spec_l04Worth.cs xs) T (0, 0))) (hl : xs.length = 625) (i j : Int) (i0 : 0 ≤ i) (i1 : i < 25) (j0 : 0 ≤ j) (j1 : j < 25) :
    W.cell? ⟨g, i.toNat * 25 + j.toNat, none⟩ = some (.int .i64 (rd xs (i * 25 + j))) := by
  have := (spec_l04Worth.tab_cell (spec_l04Worth.tab_of h hl (Nat.zero_le _)) i j i0 i1 j0 j1).1
  exact this
mutual
def spec_l04Cut.l0 (P_ : (List (S61) → Int → List Int → Int → Int → Int → Int → Int → Int → List (S43) → Option (List (S61)))) : Nat → List (S61) → List Int → Int → Int → List (S43) → Int → Int → Int → Option ((List (S61)))
  | 0, _, _, _, _, _, _, _, _ => none
  | k + 1, x0, x1, x2, x3, x4, x11, x12, x13 => if x13 < (x4.length : Int) then (if 0 ≤ x13 then (if (wrap64 ((rd_T43 x4 x13).f0)) = x2 then (if (wrap64 ((rd_T43 x4 x13).f1)) = x3 then (if (wrap64 ((rd_T43 x4 x13).f2)) = x11 then (if 0 ≤ x12 then (if x12 < (x0.length : Int) then (some (x0.set (x12 : Int).toNat (⟨1, 0, IntKind.i8.wrap (x13), 0⟩ : S61))) else (none)) else (none)) else (spec_l04Cut.l0 P_ k x0 x1 x2 x3 x4 x11 x12 (wrap64 (x13 + 1)))) else (spec_l04Cut.l0 P_ k x0 x1 x2 x3 x4 x11 x12 (wrap64 (x13 + 1)))) else (spec_l04Cut.l0 P_ k x0 x1 x2 x3 x4 x11 x12 (wrap64 (x13 + 1)))) else (none)) else (spec_l04Cut.l1 P_ k x0 x1 x2 x3 x4 x11 x12 1)
def spec_l04Cut.l1 (P_ : (List (S61) → Int → List Int → Int → Int → Int → Int → Int → Int → List (S43) → Option (List (S61)))) : Nat → List (S61) → List Int → Int → Int → List (S43) → Int → Int → Int → Option ((List (S61)))
  | 0, _, _, _, _, _, _, _, _ => none
  | k + 1, x0, x1, x2, x3, x4, x11, x12, x14 => if x14 < x2 then (if 0 ≤ x14 then (if x14 < 25 then (if 0 ≤ x3 then (if x3 < 25 then (if 0 ≤ (wrap64 (x2 - x14)) then (if (wrap64 (x2 - x14)) < 25 then (if (wrap64 ((rd x1 (x14 * 25 + x3)) + (rd x1 ((wrap64 (x2 - x14)) * 25 + x3)))) = x11 then ((P_ x0 x12 x1 2 x14 x14 x3 (wrap64 (x2 - x14)) x3 x4).bind fun t137 => (some t137)) else (spec_l04Cut.l1 P_ k x0 x1 x2 x3 x4 x11 x12 (wrap64 (x14 + 1)))) else (none)) else (none)) else (none)) else (none)) else (none)) else (none)) else (spec_l04Cut.l2 P_ k x0 x1 x2 x3 x4 x11 x12 1)
def spec_l04Cut.l2 (P_ : (List (S61) → Int → List Int → Int → Int → Int → Int → Int → Int → List (S43) → Option (List (S61)))) : Nat → List (S61) → List Int → Int → Int → List (S43) → Int → Int → Int → Option ((List (S61)))
  | 0, _, _, _, _, _, _, _, _ => none
  | k + 1, x0, x1, x2, x3, x4, x11, x12, x15 => if 0 ≤ x2 then (if x2 < 25 then (if 0 ≤ x15 then (if x15 < 25 then (if 0 ≤ (wrap64 (x3 - x15)) then (if (wrap64 (x3 - x15)) < 25 then (if (wrap64 ((rd x1 (x2 * 25 + x15)) + (rd x1 (x2 * 25 + (wrap64 (x3 - x15)))))) = x11 then ((P_ x0 x12 x1 3 x15 x2 x15 x2 (wrap64 (x3 - x15)) x4).bind fun t142 => (some t142)) else (spec_l04Cut.l2 P_ k x0 x1 x2 x3 x4 x11 x12 (wrap64 (x15 + 1)))) else (none)) else (none)) else (none)) else (none)) else (none)) else (none)
end
def spec_l04Cut.b (P_ : (List (S61) → Int → List Int → Int → Int → Int → Int → Int → Int → List (S43) → Option (List (S61)))) (k : Nat) (l0 : List (S61)) (l1 : List Int) (a2 : Int) (a3 : Int) (l4 : List (S43)) : Option ((List (S61))) := if 0 ≤ a2 then (if a2 < 25 then (if 0 ≤ a3 then (if a3 < 25 then (if l0.length < 35184372088832 then ((some (l0 ++ [(⟨0, 0, 0, 0⟩ : S61)] : List (S61))).bind fun y128 => (if (rd l1 (a2 * 25 + a3)) = 0 then (some y128) else (spec_l04Cut.l0 P_ k y128 l1 a2 a3 l4 (rd l1 (a2 * 25 + a3)) (l0.length : Int) 0))) else (none)) else (none)) else (none)) else (none)) else (none)
def spec_l04Cut.q (C_ : (List (S61) → List Int → Int → Int → List (S43) → Option (List (S61)))) (l0 : List (S61)) (a1 : Int) (l2 : List Int) (a3 : Int) (a4 : Int) (a5_0 : Int) (a5_1 : Int) (a5_2 : Int) (a5_3 : Int) (l6 : List (S43)) : Option ((List (S61))) := if (l0.length : Int) > 60 then (some l0) else ((C_ l0 l2 a5_0 a5_1 l6).bind fun t128 => (if (t128.length : Int) > 60 then (some t128) else ((C_ t128 l2 a5_2 a5_3 l6).bind fun t131 => (if 0 ≤ a1 then (if a1 < (t131.length : Int) then (some (t131.set (a1 : Int).toNat (⟨a3, IntKind.i8.wrap (a4), IntKind.i8.wrap ((l0.length : Int)), IntKind.i8.wrap ((t128.length : Int))⟩ : S61))) else (none)) else (none)))))
def spec_l04Cut.f : Nat → List (S61) → List Int → Int → Int → List (S43) → Option (List (S61))
  | 0, _, _, _, _, _ => none
  | k + 1, l0, l1, a2, a3, l4 => spec_l04Cut.b (spec_l04Cut.q (spec_l04Cut.f k)) k l0 l1 a2 a3 l4
theorem spec_l04Cut.mono_l {P_ P2_ : (List (S61) → Int → List Int → Int → Int → Int → Int → Int → Int → List (S43) → Option (List (S61)))} (hP : ∀ x0 x1 x2 x3 x4 x5 x6 x7 x8 x9, LeO (P_ x0 x1 x2 x3 x4 x5 x6 x7 x8 x9) (P2_ x0 x1 x2 x3 x4 x5 x6 x7 x8 x9)) : ∀ k, (∀ y0 y1 y2 y3 y4 y5 y6 y7, LeO (spec_l04Cut.l0 P_ k y0 y1 y2 y3 y4 y5 y6 y7) (spec_l04Cut.l0 P2_ (k + 1) y0 y1 y2 y3 y4 y5 y6 y7)) ∧ (∀ y0 y1 y2 y3 y4 y5 y6 y7, LeO (spec_l04Cut.l1 P_ k y0 y1 y2 y3 y4 y5 y6 y7) (spec_l04Cut.l1 P2_ (k + 1) y0 y1 y2 y3 y4 y5 y6 y7)) ∧ (∀ y0 y1 y2 y3 y4 y5 y6 y7, LeO (spec_l04Cut.l2 P_ k y0 y1 y2 y3 y4 y5 y6 y7) (spec_l04Cut.l2 P2_ (k + 1) y0 y1 y2 y3 y4 y5 y6 y7))
  | 0 => ⟨fun _ _ _ _ _ _ _ _ r h => by simp [spec_l04Cut.l0] at h, fun _ _ _ _ _ _ _ _ r h => by simp [spec_l04Cut.l1] at h, fun _ _ _ _ _ _ _ _ r h => by simp [spec_l04Cut.l2] at h⟩
  | k + 1 => by
    obtain ⟨ih0, ih1, ih2⟩ := spec_l04Cut.mono_l hP k
    refine ⟨?_, ?_, ?_⟩
    · intro y0 y1 y2 y3 y4 y5 y6 y7
      unfold spec_l04Cut.l0
      repeat' first
      | (with_reducible exact ih0 _ _ _ _ _ _ _ _)
      | (with_reducible exact ih1 _ _ _ _ _ _ _ _)
      | (with_reducible exact ih2 _ _ _ _ _ _ _ _)
      | (with_reducible exact hP _ _ _ _ _ _ _ _ _ _)
      | (with_reducible exact LeO.refl _)
      | (with_reducible exact LeO.none _)
      | (with_reducible refine LeO.ite ?_ ?_)
      | (with_reducible refine LeO.bind ?_ (fun _ => ?_))
      | exact ih0 _ _ _ _ _ _ _ _
      | exact ih1 _ _ _ _ _ _ _ _
      | exact ih2 _ _ _ _ _ _ _ _
      | exact hP _ _ _ _ _ _ _ _ _ _
      | exact LeO.none _
      | refine LeO.ite ?_ ?_
      | refine LeO.bind ?_ (fun _ => ?_)
    · intro y0 y1 y2 y3 y4 y5 y6 y7
      unfold spec_l04Cut.l1
      repeat' first
      | (with_reducible exact ih0 _ _ _ _ _ _ _ _)
      | (with_reducible exact ih1 _ _ _ _ _ _ _ _)
      | (with_reducible exact ih2 _ _ _ _ _ _ _ _)
      | (with_reducible exact hP _ _ _ _ _ _ _ _ _ _)
      | (with_reducible exact LeO.refl _)
      | (with_reducible exact LeO.none _)
      | (with_reducible refine LeO.ite ?_ ?_)
      | (with_reducible refine LeO.bind ?_ (fun _ => ?_))
      | exact ih0 _ _ _ _ _ _ _ _
      | exact ih1 _ _ _ _ _ _ _ _
      | exact ih2 _ _ _ _ _ _ _ _
      | exact hP _ _ _ _ _ _ _ _ _ _
      | exact LeO.none _
      | refine LeO.ite ?_ ?_
      | refine LeO.bind ?_ (fun _ => ?_)
    · intro y0 y1 y2 y3 y4 y5 y6 y7
      unfold spec_l04Cut.l2
      repeat' first
      | (with_reducible exact ih0 _ _ _ _ _ _ _ _)
      | (with_reducible exact ih1 _ _ _ _ _ _ _ _)
      | (with_reducible exact ih2 _ _ _ _ _ _ _ _)
      | (with_reducible exact hP _ _ _ _ _ _ _ _ _ _)
      | (with_reducible exact LeO.refl _)
      | (with_reducible exact LeO.none _)
      | (with_reducible refine LeO.ite ?_ ?_)
      | (with_reducible refine LeO.bind ?_ (fun _ => ?_))
      | exact ih0 _ _ _ _ _ _ _ _
      | exact ih1 _ _ _ _ _ _ _ _
      | exact ih2 _ _ _ _ _ _ _ _
      | exact hP _ _ _ _ _ _ _ _ _ _
      | exact LeO.none _
      | refine LeO.ite ?_ ?_
      | refine LeO.bind ?_ (fun _ => ?_)
theorem spec_l04Cut.monoB {P_ P2_ : (List (S61) → Int → List Int → Int → Int → Int → Int → Int → Int → List (S43) → Option (List (S61)))} (hP : ∀ x0 x1 x2 x3 x4 x5 x6 x7 x8 x9, LeO (P_ x0 x1 x2 x3 x4 x5 x6 x7 x8 x9) (P2_ x0 x1 x2 x3 x4 x5 x6 x7 x8 x9)) : ∀ a0 a1 a2 a3 a4 k, LeO (spec_l04Cut.b P_ k a0 a1 a2 a3 a4) (spec_l04Cut.b P2_ (k + 1) a0 a1 a2 a3 a4) := by
  intro a0 a1 a2 a3 a4 k
  obtain ⟨ih0, ih1, ih2⟩ := spec_l04Cut.mono_l hP k
  unfold spec_l04Cut.b
  repeat' first
      | (with_reducible exact ih0 _ _ _ _ _ _ _ _)
      | (with_reducible exact ih1 _ _ _ _ _ _ _ _)
      | (with_reducible exact ih2 _ _ _ _ _ _ _ _)
      | (with_reducible exact hP _ _ _ _ _ _ _ _ _ _)
      | (with_reducible exact LeO.refl _)
      | (with_reducible exact LeO.none _)
      | (with_reducible refine LeO.ite ?_ ?_)
      | (with_reducible refine LeO.bind ?_ (fun _ => ?_))
      | exact ih0 _ _ _ _ _ _ _ _
      | exact ih1 _ _ _ _ _ _ _ _
      | exact ih2 _ _ _ _ _ _ _ _
      | exact hP _ _ _ _ _ _ _ _ _ _
      | exact LeO.none _
      | refine LeO.ite ?_ ?_
      | refine LeO.bind ?_ (fun _ => ?_)
theorem spec_l04Cut.monoQ {C_ C2_ : (List (S61) → List Int → Int → Int → List (S43) → Option (List (S61)))} (hC : ∀ x0 x1 x2 x3 x4, LeO (C_ x0 x1 x2 x3 x4) (C2_ x0 x1 x2 x3 x4)) : ∀ x0 x1 x2 x3 x4 x5 x6 x7 x8 x9, LeO (spec_l04Cut.q C_ x0 x1 x2 x3 x4 x5 x6 x7 x8 x9) (spec_l04Cut.q C2_ x0 x1 x2 x3 x4 x5 x6 x7 x8 x9) := by
  intro x0 x1 x2 x3 x4 x5 x6 x7 x8 x9
  unfold spec_l04Cut.q
  repeat' first
      | (with_reducible exact hC _ _ _ _ _)
      | (with_reducible exact LeO.refl _)
      | (with_reducible exact LeO.none _)
      | (with_reducible refine LeO.ite ?_ ?_)
      | (with_reducible refine LeO.bind ?_ (fun _ => ?_))
theorem spec_l04Cut.mono_r : ∀ k a0 a1 a2 a3 a4, LeO (spec_l04Cut.f k a0 a1 a2 a3 a4) (spec_l04Cut.f (k + 1) a0 a1 a2 a3 a4)
  | 0, _, _, _, _, _ => fun r h => by simp [spec_l04Cut.f] at h
  | k + 1, a0, a1, a2, a3, a4 => by
    rw [spec_l04Cut.f, spec_l04Cut.f]
    exact spec_l04Cut.monoB (spec_l04Cut.monoQ (spec_l04Cut.mono_r k)) a0 a1 a2 a3 a4 k
theorem spec_l04Cut.mono : ∀ a0 a1 a2 a3 a4 k, LeO (spec_l04Cut.f k a0 a1 a2 a3 a4) (spec_l04Cut.f (k + 1) a0 a1 a2 a3 a4) := fun a0 a1 a2 a3 a4 k => spec_l04Cut.mono_r k a0 a1 a2 a3 a4
set_option maxHeartbeats 8000000 in
set_option maxRecDepth 100000 in
theorem spec_l04Cut.callsQ (C_ : (List (S61) → List Int → Int → Int → List (S43) → Option (List (S61)))) (HC_ : ∀ (P0_ : Nat → Prop) (u9000_ : Value) (l0 : List (S61)) (gt : Nat) (l1 : List Int) (a2 : Int) (a3 : Int) (A4 : Option Addr) (c4 : Nat) (l4 : List (S43)) (r : List (S61)) (w0 w : World) (hB : Below w0.heap.size w0 w) (ho0 : Kd.R k61 61 w w0.heap.size P0_ u9000_ l0) (hr1 : ∀ W_, Kept w W_ (fun k_ => P0_ k_) → W_.heap[gt]? = some (.cells (spec_l04Worth.cs l1) 38 (0, 0))) (hc1 : l1.length = 625) (hr4 : ∀ W_, Kept w W_ (fun k_ => P0_ k_) → Kd.C k43 W_ A4 l4.length l4) (hc4 : l4.length ≤ c4) (h : C_ l0 l1 a2 a3 l4 = some r), Calls Try.prog 24 #[u9000_, .pointer (some ⟨gt, 0, none⟩), .int .i64 a2, .int .i64 a3, .slice A4 l4.length c4] w fun e w' => ∃ v0_ : Value, e = .returned (v0_) ∧ Kd.R k61 61 w' w0.heap.size (fun k_ => (P0_ k_ ∨ w.heap.size ≤ k_)) v0_ r ∧ Below w0.heap.size w0 w' ∧ Kept w w' (fun k_ => P0_ k_)) (P0_ : Nat → Prop) (u9000_ : Value) (l0 : List (S61)) (a1 : Int) (gt : Nat) (l2 : List Int) (a3 : Int) (a4 : Int) (a5_0 : Int) (a5_1 : Int) (a5_2 : Int) (a5_3 : Int) (A6 : Option Addr) (c6 : Nat) (l6 : List (S43)) (r : List (S61)) (w0 w : World) (hB : Below w0.heap.size w0 w) (ho0 : Kd.R k61 61 w w0.heap.size P0_ u9000_ l0) (hr2 : ∀ W_, Kept w W_ (fun k_ => P0_ k_) → W_.heap[gt]? = some (.cells (spec_l04Worth.cs l2) 38 (0, 0))) (hc2 : l2.length = 625) (hr6 : ∀ W_, Kept w W_ (fun k_ => P0_ k_) → Kd.C k43 W_ A6 l6.length l6) (hc6 : l6.length ≤ c6) (h : spec_l04Cut.q C_ l0 a1 l2 a3 a4 a5_0 a5_1 a5_2 a5_3 l6 = some r) :
    Calls Try.prog 33 #[u9000_, .int .i64 a1, .pointer (some ⟨gt, 0, none⟩), .int .i8 a3, .int .i64 a4, .agg #[.int .i64 a5_0, .int .i64 a5_1, .int .i64 a5_2, .int .i64 a5_3], .slice A6 l6.length c6] w fun e w' => ∃ v0_ : Value, e = .returned (v0_) ∧ Kd.R k61 61 w' w0.heap.size (fun k_ => (P0_ k_ ∨ w.heap.size ≤ k_)) v0_ r ∧ Below w0.heap.size w0 w' ∧ Kept w w' (fun k_ => P0_ k_) := by
  have hu69 := Try.underlying69
  have hu61 := Try.underlying61
  have HO0 := Aside0.mk (show Kd.R k61 61 w w0.heap.size (fun k_ => (P0_ k_ ∨ w.heap.size ≤ k_)) u9000_ l0 from Kd.R_mono ho0 (fun k_ hk => (.inl hk)))
  have HR2 := Aside0.mk hr2
  have HC2 := Aside0.mk hc2
  clear hr2 hc2
  have HR6 := Aside0.mk hr6
  have HC6 := Aside0.mk hc6
  clear hr6 hc6
  have HK := Aside0.mk (Kept.refl w (fun k_ => P0_ k_))
  have HW0 := Aside0.mk hB.size
  have HB := Aside0.mk hB
  clear hB
  have H : (if (l0.length : Int) > 60 then (some l0) else ((C_ l0 l2 a5_0 a5_1 l6).bind fun t128 => (if (t128.length : Int) > 60 then (some t128) else ((C_ t128 l2 a5_2 a5_3 l6).bind fun t131 => (if 0 ≤ a1 then (if a1 < (t131.length : Int) then (some (t131.set (a1 : Int).toNat (⟨a3, IntKind.i8.wrap (a4), IntKind.i8.wrap ((l0.length : Int)), IntKind.i8.wrap ((t128.length : Int))⟩ : S61))) else (none)) else (none)))))) = some r := h
  clear h
  by_cases c8 : (l0.length : Int) > 60
  · rw [if_pos c8] at H
    have c8b0 : decide (60 < (l0.length : Int)) = true := decide_eq_true c8
    have c8b1 : decide (60 < l0.length) = true := decide_eq_true (by omega)
    clear c8
    obtain rfl := Option.some.inj H
    go_enter Try.func33, Try.ntmps33
    go_wp2_with (first | ((with_reducible refine gate_dst (N := 12) rfl ?_); refine box_event ?hg (N := 12) ?hd (cs := #[.int .i64 a5_0, .int .i64 a5_1, .int .i64 a5_2, .int .i64 a5_3]) (t := 69) ?hr ?_; (case hd => rfl); (case hg => rfl); (case hr => first | (go_simp; done) | (go_simp; rfl)); intro gb127 hg w9 hbox hb; have n0_ := Aside0.mk (Kd.R_below (by (with_reducible repeat (first | apply Kd.R_alloc | apply Kd.R_drewN | apply Kd.R_drew)); exact HO0.out) hb); have n1_ := Aside0.mk (Kept.below (S := (fun k_ => P0_ k_)) (by repeat (first | (with_reducible first | exact HK.out | apply Kept.alloc | apply Kept.drewN | apply Kept.drew) | exact HK.out)) hb); have n2_ := Aside0.mk (below_step (by repeat (first | (with_reducible first | exact HB.out | apply below_alloc | apply pw_below_drewN | apply below_drew1) | exact HB.out)) hb); have n3_ := Aside0.mk (hbox); have n4_ := Aside0.mk ((by rw [hg]; exact (by first | exact HK.out.1 | exact (show Kept w _ (fun k_ => P0_ k_) from by repeat (first | (with_reducible first | exact HK.out | apply Kept.alloc | apply Kept.drewN | apply Kept.drew) | exact HK.out)).1) : w.heap.size ≤ gb127)); have n5_ := Aside0.mk ((by rw [hg]; exact (below_size (by repeat (first | (with_reducible first | exact HB.out | apply below_alloc | apply pw_below_drewN | apply below_drew1) | exact HB.out))) : w0.heap.size ≤ gb127)); clear HO0; clear HK; clear HB; have HO0 := n0_; have HK := n1_; have HB := n2_; have BK127 := n3_; have GW127 := n4_; have GE127 := n5_; clear n0_ n1_ n2_ n3_ n4_ n5_; clear hb hbox hg; obtain ⟨Ao10, co10, eo10⟩ := Kd.R_slice HO0.out; subst eo10))
    go_ret
    exact ⟨_, by first | rfl | (simp [errW_none, errW_some] <;> rfl) | (simp [*, errW_none, errW_some] <;> rfl), by (with_reducible repeat (first | apply Kd.R_alloc | apply Kd.R_drewN | apply Kd.R_drew)); exact HO0.out, by repeat (first | (with_reducible first | exact HB.out | apply below_alloc | apply pw_below_drewN | apply below_drew1 | refine below_set ?_ GE127.out) | exact HB.out), by repeat (first | (with_reducible first | exact HK.out | apply Kept.alloc | apply Kept.drewN | apply Kept.drew | refine Kept.setCell ?_ (.inr GW127.out) _) | exact HK.out)⟩
  · rw [if_neg c8] at H
    have c8b0 : decide (60 < (l0.length : Int)) = false := decide_eq_false c8
    have c8b1 : decide (60 < l0.length) = false := decide_eq_false (by omega)
    clear c8
    replace H := Option.bind_eq_some_iff.mp H
    obtain ⟨t128, A110, H⟩ := H
    replace H : (if (t128.length : Int) > 60 then (some t128) else ((C_ t128 l2 a5_2 a5_3 l6).bind fun t131 => (if 0 ≤ a1 then (if a1 < (t131.length : Int) then (some (t131.set (a1 : Int).toNat (⟨a3, IntKind.i8.wrap (a4), IntKind.i8.wrap ((l0.length : Int)), IntKind.i8.wrap ((t128.length : Int))⟩ : S61))) else (none)) else (none)))) = some r := H
    have A11 := Aside0.mk A110
    clear A110
    by_cases c12 : (t128.length : Int) > 60
    · rw [if_pos c12] at H
      have c12b0 : decide (60 < (t128.length : Int)) = true := decide_eq_true c12
      have c12b1 : decide (60 < t128.length) = true := decide_eq_true (by omega)
      clear c12
      obtain rfl := Option.some.inj H
      go_enter Try.func33, Try.ntmps33
      go_wp2_with (first | ((with_reducible refine gate_dst (N := 12) rfl ?_); refine box_event ?hg (N := 12) ?hd (cs := #[.int .i64 a5_0, .int .i64 a5_1, .int .i64 a5_2, .int .i64 a5_3]) (t := 69) ?hr ?_; (case hd => rfl); (case hg => rfl); (case hr => first | (go_simp; done) | (go_simp; rfl)); intro gb127 hg w13 hbox hb; have n0_ := Aside0.mk (Kd.R_below (by (with_reducible repeat (first | apply Kd.R_alloc | apply Kd.R_drewN | apply Kd.R_drew)); exact HO0.out) hb); have n1_ := Aside0.mk (Kept.below (S := (fun k_ => P0_ k_)) (by repeat (first | (with_reducible first | exact HK.out | apply Kept.alloc | apply Kept.drewN | apply Kept.drew) | exact HK.out)) hb); have n2_ := Aside0.mk (below_step (by repeat (first | (with_reducible first | exact HB.out | apply below_alloc | apply pw_below_drewN | apply below_drew1) | exact HB.out)) hb); have n3_ := Aside0.mk (hbox); have n4_ := Aside0.mk ((by rw [hg]; exact (by first | exact HK.out.1 | exact (show Kept w _ (fun k_ => P0_ k_) from by repeat (first | (with_reducible first | exact HK.out | apply Kept.alloc | apply Kept.drewN | apply Kept.drew) | exact HK.out)).1) : w.heap.size ≤ gb127)); have n5_ := Aside0.mk ((by rw [hg]; exact (below_size (by repeat (first | (with_reducible first | exact HB.out | apply below_alloc | apply pw_below_drewN | apply below_drew1) | exact HB.out))) : w0.heap.size ≤ gb127)); clear HO0; clear HK; clear HB; have HO0 := n0_; have HK := n1_; have HB := n2_; have BK127 := n3_; have GW127 := n4_; have GE127 := n5_; clear n0_ n1_ n2_ n3_ n4_ n5_; clear hb hbox hg; obtain ⟨Ao14, co14, eo14⟩ := Kd.R_slice HO0.out; subst eo14; have hcz15_0 : w13.cell? ⟨gb127, 0, none⟩ = some (.int .i64 a5_0) := (blk_cell BK127.out 0).trans rfl; have hcz15_1 : w13.cell? ⟨gb127, 1, none⟩ = some (.int .i64 a5_1) := (blk_cell BK127.out 1).trans rfl; have hcz15_2 : w13.cell? ⟨gb127, 2, none⟩ = some (.int .i64 a5_2) := (blk_cell BK127.out 2).trans rfl; have hcz15_3 : w13.cell? ⟨gb127, 3, none⟩ = some (.int .i64 a5_3) := (blk_cell BK127.out 3).trans rfl; have hfz15_0 := blk_frozen BK127.out 0; have hfz15_1 := blk_frozen BK127.out 1; have hfz15_2 := blk_frozen BK127.out 2; have hfz15_3 := blk_frozen BK127.out 3) | ((with_reducible refine gate_callee (f := 24) rfl ?_); refine goesL_ (some 29) rfl rfl Try.func24 (by kernel_rfl) rfl #[.slice Ao14 l0.length co14, .pointer (some ⟨gt, 0, none⟩), .int .i64 a5_0, .int .i64 a5_1, .slice A6 l6.length c6] rfl (by (try simp only [List.map_toArray, List.map_cons, List.map_nil]); first | done | rfl | (simp only [List.length_drop, List.length_take]; rfl)) ?_; (with_reducible refine (HC_ (fun k_ => some k_ = (.slice Ao14 l0.length co14 : Value).ownBlock) (.slice Ao14 l0.length co14) l0 gt l2 a5_0 a5_1 _ _ l6 t128 w0 _ ?side1 ?side2 ?side3 ?side4 ?side5 ?side6 A11.out).mono ?_); (case side1 => repeat (first | (with_reducible first | exact HB.out | apply below_alloc | apply pw_below_drewN | apply below_drew1 | refine below_set ?_ GE127.out) | exact HB.out)); (case side2 => exact Kd.R_tight rfl HO0.out); (case side3 => exact spec_l04Cut.kept_call HR2.out (by repeat (first | (with_reducible first | exact HK.out | apply Kept.alloc | apply Kept.drewN | apply Kept.drew | refine Kept.setCell ?_ (.inr GW127.out) _) | exact HK.out)) (fun k_ hs_ => (fun e_ => (HO0.out.1 k_ e_.symm)) hs_)); (case side4 => exact HC2.out); (case side5 => exact Kd.C_kept_call HR6.out (by repeat (first | (with_reducible first | exact HK.out | apply Kept.alloc | apply Kept.drewN | apply Kept.drew | refine Kept.setCell ?_ (.inr GW127.out) _) | exact HK.out)) (fun k_ hs_ => (fun e_ => (HO0.out.1 k_ e_.symm)) hs_)); (case side6 => exact HC6.out); rintro e w16 ⟨v129, rfl, ho0, hb, hkp⟩; refine ⟨_, rfl, ?_⟩; have n0_ := Aside0.mk (blk_kept (by (with_reducible repeat (first | refine blk_drewN ?_ _ | refine blk_drew ?_ | refine blk_alloc ?_ _)); exact BK127.out) hkp (fun hs_ => (fun e_ => (Kd.R_ne HO0.out BK127.out (by decide)) e_) hs_)); have n1_ := Aside0.mk (Kd.R_mono (ok' := fun k_ => (P0_ k_ ∨ w.heap.size ≤ k_)) ho0 (fun k_ hk_ => Or.elim hk_ (fun hs_ => (HO0.out.1 k_ (hs_).symm)) (fun hn_ => (.inr (Nat.le_trans (by first | exact HK.out.1 | exact (show Kept w _ (fun k_ => P0_ k_) from by repeat (first | (with_reducible first | exact HK.out | apply Kept.alloc | apply Kept.drewN | apply Kept.drew | refine Kept.setCell ?_ (.inr GW127.out) _) | exact HK.out)).1) hn_))))); have n2_ := Aside0.mk (Kept.then_ (S := (fun k_ => P0_ k_)) (by repeat (first | (with_reducible first | exact HK.out | apply Kept.alloc | apply Kept.drewN | apply Kept.drew | refine Kept.setCell ?_ (.inr GW127.out) _) | exact HK.out)) hkp (fun k_ hs_ => (fun e_ => (HO0.out.1 k_ e_.symm)) hs_)); have n3_ := Aside0.mk (hb); clear BK127; clear HK; clear HB; clear HO0; have BK127 := n0_; have HO130 := n1_; have HK := n2_; have HB := n3_; clear n0_ n1_ n2_ n3_; (try clear hb); (try clear hkp); (try clear ho0); obtain ⟨Ao17, co17, eo17⟩ := Kd.R_slice HO130.out; subst eo17))
      go_ret
      exact ⟨_, by first | rfl | (simp [errW_none, errW_some] <;> rfl) | (simp [*, errW_none, errW_some] <;> rfl), by (with_reducible repeat (first | apply Kd.R_alloc | apply Kd.R_drewN | apply Kd.R_drew)); exact HO130.out, by repeat (first | (with_reducible first | exact HB.out | apply below_alloc | apply pw_below_drewN | apply below_drew1 | refine below_set ?_ GE127.out) | exact HB.out), by repeat (first | (with_reducible first | exact HK.out | apply Kept.alloc | apply Kept.drewN | apply Kept.drew | refine Kept.setCell ?_ (.inr GW127.out) _) | exact HK.out)⟩
    · rw [if_neg c12] at H
      have c12b0 : decide (60 < (t128.length : Int)) = false := decide_eq_false c12
      have c12b1 : decide (60 < t128.length) = false := decide_eq_false (by omega)
      clear c12
      replace H := Option.bind_eq_some_iff.mp H
      obtain ⟨t131, A180, H⟩ := H
      replace H : (if 0 ≤ a1 then (if a1 < (t131.length : Int) then (some (t131.set (a1 : Int).toNat (⟨a3, IntKind.i8.wrap (a4), IntKind.i8.wrap ((l0.length : Int)), IntKind.i8.wrap ((t128.length : Int))⟩ : S61))) else (none)) else (none)) = some r := H
      have A18 := Aside0.mk A180
      clear A180
      by_cases c19 : 0 ≤ a1
      · rw [if_pos c19] at H
        have c19b0 : decide (0 ≤ a1) = true := decide_eq_true c19
        clear c19
        by_cases c20 : a1 < (t131.length : Int)
        · rw [if_pos c20] at H
          have c20b0 : decide (a1 < (t131.length : Int)) = true := decide_eq_true c20
          clear c20
          obtain ⟨y134, hy134⟩ : ∃ y_ : List (S61), y_ = (t131.set (a1 : Int).toNat (⟨a3, IntKind.i8.wrap (a4), IntKind.i8.wrap ((l0.length : Int)), IntKind.i8.wrap ((t128.length : Int))⟩ : S61)) := ⟨_, rfl⟩
          replace H : (some y134) = some r := by first | (rw [hy134]; with_reducible exact H) | (have H2_ := (Option.bind_some _ _).symm.trans H; rw [hy134]; with_reducible exact H2_) | (have H2_ := (Option.bind_some _ _).symm.trans H; with_reducible exact H2_) | with_reducible exact H | (rw [hy134]; exact H) | exact H
          have Ny134 := Aside0.mk hy134
          clear hy134
          obtain rfl := Option.some.inj H
          go_enter Try.func33, Try.ntmps33
          go_wp2_with (first | ((with_reducible refine gate_dst (N := 12) rfl ?_); refine box_event ?hg (N := 12) ?hd (cs := #[.int .i64 a5_0, .int .i64 a5_1, .int .i64 a5_2, .int .i64 a5_3]) (t := 69) ?hr ?_; (case hd => rfl); (case hg => rfl); (case hr => first | (go_simp; done) | (go_simp; rfl)); intro gb127 hg w22 hbox hb; have n0_ := Aside0.mk (Kd.R_below (by (with_reducible repeat (first | apply Kd.R_alloc | apply Kd.R_drewN | apply Kd.R_drew)); exact HO0.out) hb); have n1_ := Aside0.mk (Kept.below (S := (fun k_ => P0_ k_)) (by repeat (first | (with_reducible first | exact HK.out | apply Kept.alloc | apply Kept.drewN | apply Kept.drew) | exact HK.out)) hb); have n2_ := Aside0.mk (below_step (by repeat (first | (with_reducible first | exact HB.out | apply below_alloc | apply pw_below_drewN | apply below_drew1) | exact HB.out)) hb); have n3_ := Aside0.mk (hbox); have n4_ := Aside0.mk ((by rw [hg]; exact (by first | exact HK.out.1 | exact (show Kept w _ (fun k_ => P0_ k_) from by repeat (first | (with_reducible first | exact HK.out | apply Kept.alloc | apply Kept.drewN | apply Kept.drew) | exact HK.out)).1) : w.heap.size ≤ gb127)); have n5_ := Aside0.mk ((by rw [hg]; exact (below_size (by repeat (first | (with_reducible first | exact HB.out | apply below_alloc | apply pw_below_drewN | apply below_drew1) | exact HB.out))) : w0.heap.size ≤ gb127)); clear HO0; clear HK; clear HB; have HO0 := n0_; have HK := n1_; have HB := n2_; have BK127 := n3_; have GW127 := n4_; have GE127 := n5_; clear n0_ n1_ n2_ n3_ n4_ n5_; clear hb hbox hg; obtain ⟨Ao23, co23, eo23⟩ := Kd.R_slice HO0.out; subst eo23; have hcz24_0 : w22.cell? ⟨gb127, 0, none⟩ = some (.int .i64 a5_0) := (blk_cell BK127.out 0).trans rfl; have hcz24_1 : w22.cell? ⟨gb127, 1, none⟩ = some (.int .i64 a5_1) := (blk_cell BK127.out 1).trans rfl; have hcz24_2 : w22.cell? ⟨gb127, 2, none⟩ = some (.int .i64 a5_2) := (blk_cell BK127.out 2).trans rfl; have hcz24_3 : w22.cell? ⟨gb127, 3, none⟩ = some (.int .i64 a5_3) := (blk_cell BK127.out 3).trans rfl; have hfz24_0 := blk_frozen BK127.out 0; have hfz24_1 := blk_frozen BK127.out 1; have hfz24_2 := blk_frozen BK127.out 2; have hfz24_3 := blk_frozen BK127.out 3) | ((with_reducible refine gate_callee (f := 24) rfl ?_); refine goesL_ (some 29) rfl rfl Try.func24 (by kernel_rfl) rfl #[.slice Ao23 l0.length co23, .pointer (some ⟨gt, 0, none⟩), .int .i64 a5_0, .int .i64 a5_1, .slice A6 l6.length c6] rfl (by (try simp only [List.map_toArray, List.map_cons, List.map_nil]); first | done | rfl | (simp only [List.length_drop, List.length_take]; rfl)) ?_; (with_reducible refine (HC_ (fun k_ => some k_ = (.slice Ao23 l0.length co23 : Value).ownBlock) (.slice Ao23 l0.length co23) l0 gt l2 a5_0 a5_1 _ _ l6 t128 w0 _ ?side1 ?side2 ?side3 ?side4 ?side5 ?side6 A11.out).mono ?_); (case side1 => repeat (first | (with_reducible first | exact HB.out | apply below_alloc | apply pw_below_drewN | apply below_drew1 | refine below_set ?_ GE127.out) | exact HB.out)); (case side2 => exact Kd.R_tight rfl HO0.out); (case side3 => exact spec_l04Cut.kept_call HR2.out (by repeat (first | (with_reducible first | exact HK.out | apply Kept.alloc | apply Kept.drewN | apply Kept.drew | refine Kept.setCell ?_ (.inr GW127.out) _) | exact HK.out)) (fun k_ hs_ => (fun e_ => (HO0.out.1 k_ e_.symm)) hs_)); (case side4 => exact HC2.out); (case side5 => exact Kd.C_kept_call HR6.out (by repeat (first | (with_reducible first | exact HK.out | apply Kept.alloc | apply Kept.drewN | apply Kept.drew | refine Kept.setCell ?_ (.inr GW127.out) _) | exact HK.out)) (fun k_ hs_ => (fun e_ => (HO0.out.1 k_ e_.symm)) hs_)); (case side6 => exact HC6.out); rintro e w25 ⟨v129, rfl, ho0, hb, hkp⟩; refine ⟨_, rfl, ?_⟩; have n0_ := Aside0.mk (blk_kept (by (with_reducible repeat (first | refine blk_drewN ?_ _ | refine blk_drew ?_ | refine blk_alloc ?_ _)); exact BK127.out) hkp (fun hs_ => (fun e_ => (Kd.R_ne HO0.out BK127.out (by decide)) e_) hs_)); have n1_ := Aside0.mk (Kd.R_mono (ok' := fun k_ => (P0_ k_ ∨ w.heap.size ≤ k_)) ho0 (fun k_ hk_ => Or.elim hk_ (fun hs_ => (HO0.out.1 k_ (hs_).symm)) (fun hn_ => (.inr (Nat.le_trans (by first | exact HK.out.1 | exact (show Kept w _ (fun k_ => P0_ k_) from by repeat (first | (with_reducible first | exact HK.out | apply Kept.alloc | apply Kept.drewN | apply Kept.drew | refine Kept.setCell ?_ (.inr GW127.out) _) | exact HK.out)).1) hn_))))); have n2_ := Aside0.mk (Kept.then_ (S := (fun k_ => P0_ k_)) (by repeat (first | (with_reducible first | exact HK.out | apply Kept.alloc | apply Kept.drewN | apply Kept.drew | refine Kept.setCell ?_ (.inr GW127.out) _) | exact HK.out)) hkp (fun k_ hs_ => (fun e_ => (HO0.out.1 k_ e_.symm)) hs_)); have n3_ := Aside0.mk (hb); clear BK127; clear HK; clear HB; clear HO0; have BK127 := n0_; have HO130 := n1_; have HK := n2_; have HB := n3_; clear n0_ n1_ n2_ n3_; (try clear hb); (try clear hkp); (try clear ho0); obtain ⟨Ao26, co26, eo26⟩ := Kd.R_slice HO130.out; subst eo26; have hcz27_0 : w25.cell? ⟨gb127, 0, none⟩ = some (.int .i64 a5_0) := (blk_cell BK127.out 0).trans rfl; have hcz27_1 : w25.cell? ⟨gb127, 1, none⟩ = some (.int .i64 a5_1) := (blk_cell BK127.out 1).trans rfl; have hcz27_2 : w25.cell? ⟨gb127, 2, none⟩ = some (.int .i64 a5_2) := (blk_cell BK127.out 2).trans rfl; have hcz27_3 : w25.cell? ⟨gb127, 3, none⟩ = some (.int .i64 a5_3) := (blk_cell BK127.out 3).trans rfl; have hfz27_0 := blk_frozen BK127.out 0; have hfz27_1 := blk_frozen BK127.out 1; have hfz27_2 := blk_frozen BK127.out 2; have hfz27_3 := blk_frozen BK127.out 3) | ((with_reducible refine gate_callee (f := 24) rfl ?_); refine goesL_ (some 42) rfl rfl Try.func24 (by kernel_rfl) rfl #[.slice Ao26 t128.length co26, .pointer (some ⟨gt, 0, none⟩), .int .i64 a5_2, .int .i64 a5_3, .slice A6 l6.length c6] rfl (by (try simp only [List.map_toArray, List.map_cons, List.map_nil]); first | done | rfl | (simp only [List.length_drop, List.length_take]; rfl)) ?_; (with_reducible refine (HC_ (fun k_ => some k_ = (.slice Ao26 t128.length co26 : Value).ownBlock) (.slice Ao26 t128.length co26) t128 gt l2 a5_2 a5_3 _ _ l6 t131 w0 _ ?side1 ?side2 ?side3 ?side4 ?side5 ?side6 A18.out).mono ?_); (case side1 => repeat (first | (with_reducible first | exact HB.out | apply below_alloc | apply pw_below_drewN | apply below_drew1 | refine below_set ?_ GE127.out) | exact HB.out)); (case side2 => exact Kd.R_tight rfl HO130.out); (case side3 => exact spec_l04Cut.kept_call HR2.out (by repeat (first | (with_reducible first | exact HK.out | apply Kept.alloc | apply Kept.drewN | apply Kept.drew | refine Kept.setCell ?_ (.inr GW127.out) _) | exact HK.out)) (fun k_ hs_ => (fun e_ => (HO130.out.1 k_ e_.symm)) hs_)); (case side4 => exact HC2.out); (case side5 => exact Kd.C_kept_call HR6.out (by repeat (first | (with_reducible first | exact HK.out | apply Kept.alloc | apply Kept.drewN | apply Kept.drew | refine Kept.setCell ?_ (.inr GW127.out) _) | exact HK.out)) (fun k_ hs_ => (fun e_ => (HO130.out.1 k_ e_.symm)) hs_)); (case side6 => exact HC6.out); rintro e w28 ⟨v132, rfl, ho0, hb, hkp⟩; refine ⟨_, rfl, ?_⟩; have n0_ := Aside0.mk (blk_kept (by (with_reducible repeat (first | refine blk_drewN ?_ _ | refine blk_drew ?_ | refine blk_alloc ?_ _)); exact BK127.out) hkp (fun hs_ => (fun e_ => (Kd.R_ne HO130.out BK127.out (by decide)) e_) hs_)); have n1_ := Aside0.mk (Kd.R_mono (ok' := fun k_ => (P0_ k_ ∨ w.heap.size ≤ k_)) ho0 (fun k_ hk_ => Or.elim hk_ (fun hs_ => (HO130.out.1 k_ (hs_).symm)) (fun hn_ => (.inr (Nat.le_trans (by first | exact HK.out.1 | exact (show Kept w _ (fun k_ => P0_ k_) from by repeat (first | (with_reducible first | exact HK.out | apply Kept.alloc | apply Kept.drewN | apply Kept.drew | refine Kept.setCell ?_ (.inr GW127.out) _) | exact HK.out)).1) hn_))))); have n2_ := Aside0.mk (Kept.then_ (S := (fun k_ => P0_ k_)) (by repeat (first | (with_reducible first | exact HK.out | apply Kept.alloc | apply Kept.drewN | apply Kept.drew | refine Kept.setCell ?_ (.inr GW127.out) _) | exact HK.out)) hkp (fun k_ hs_ => (fun e_ => (HO130.out.1 k_ e_.symm)) hs_)); have n3_ := Aside0.mk (hb); clear BK127; clear HK; clear HB; clear HO130; have BK127 := n0_; have HO133 := n1_; have HK := n2_; have HB := n3_; clear n0_ n1_ n2_ n3_; (try clear hb); (try clear hkp); (try clear ho0); have p21 : 0 ≤ (a1 : Int) := of_decide_eq_true (by first | (with_reducible assumption) | assumption); have q21 : (a1 : Int) < ((t131.length : Int) : Int) := of_decide_eq_true (by first | (with_reducible assumption) | assumption); obtain ⟨go21, co21, eo21, gb21, gl21, cl21, HG21⟩ := Kd.R_form HO133.out (by omega); (first | cases eo21 | (injection eo21 with ea_ en_ ec_; (first | subst ea_ | (injection ea_ with ea_; subst ea_)); subst ec_; clear en_)); have GB21 := Aside0.mk gb21; have GG21 := Aside0.mk HG21; clear gb21 gl21 HG21; have HMgo21 := Aside0.mk (show (P0_ go21 ∨ w.heap.size ≤ go21) from (HO133.out.1 _ rfl)); obtain ⟨ce21, hcl21, hM21, hcc21, hfr21⟩ := Kd.R_elem HO133.out z61 (a1 : Int) p21 q21; obtain rfl := k61_openM hM21; have hx21_0 : w28.cell? ⟨go21, (a1 : Int).toNat * 4, none⟩ = some (.int .i8 ((rd_T61 t131 a1).f0)) := hcc21 0 _ rfl; have hx21_1 : w28.cell? ⟨go21, (a1 : Int).toNat * 4 + 1, none⟩ = some (.int .i8 ((rd_T61 t131 a1).f1)) := hcc21 1 _ rfl; have hx21_2 : w28.cell? ⟨go21, (a1 : Int).toNat * 4 + 2, none⟩ = some (.int .i8 ((rd_T61 t131 a1).f2)) := hcc21 2 _ rfl; have hx21_3 : w28.cell? ⟨go21, (a1 : Int).toNat * 4 + 3, none⟩ = some (.int .i8 ((rd_T61 t131 a1).f3)) := hcc21 3 _ rfl; have hf21_0 : w28.frozen? ⟨go21, (a1 : Int).toNat * 4, none⟩ = false := hfr21 0; have hf21_1 : w28.frozen? ⟨go21, (a1 : Int).toNat * 4 + 1, none⟩ = false := hfr21 1; have hf21_2 : w28.frozen? ⟨go21, (a1 : Int).toNat * 4 + 2, none⟩ = false := hfr21 2; have hf21_3 : w28.frozen? ⟨go21, (a1 : Int).toNat * 4 + 3, none⟩ = false := hfr21 3; clear hcl21 hcc21 hfr21; (try clear hM21); replace p21 := eq_true p21; replace q21 := eq_true q21; have HX29 := Aside0.mk (show Kd.R k61 61 w28 w0.heap.size (fun k_ => (P0_ k_ ∨ w.heap.size ≤ k_)) (.slice (some ⟨go21, 0, none⟩) t131.length co21) t131 from (by (with_reducible repeat (first | apply Kd.R_alloc | apply Kd.R_drewN | apply Kd.R_drew)); exact HO133.out)); obtain ⟨ce29, hcl29, hM29, hcc29, hfr29⟩ := Kd.R_elem HX29.out z61 (a1 : Int) (of_decide_eq_true (by first | (with_reducible assumption) | assumption)) (by have h_ : (a1 : Int) < ((t131.length : Int) : Int) := of_decide_eq_true (by first | (with_reducible assumption) | assumption); first | exact h_ | (have e_ := (Kd.R_reads' HO133.out).1; omega) | simpa using h_); obtain rfl := k61_openM hM29; have HP29 := Kd.R_seg HX29.out (a1 : Int) (of_decide_eq_true (by first | (with_reducible assumption) | assumption)) (by have h_ : (a1 : Int) < ((t131.length : Int) : Int) := of_decide_eq_true (by first | (with_reducible assumption) | assumption); first | exact h_ | (have e_ := (Kd.R_reads' HO133.out).1; omega) | simpa using h_) (seg := [.int .i8 a3, .int .i8 (IntKind.i8.wrap (a4)), .int .i8 (IntKind.i8.wrap ((l0.length : Int))), .int .i8 (IntKind.i8.wrap ((t128.length : Int)))]) (j := 0) hcl29 hcc29 (show 4 ≤ 4 from by decide) (x' := (⟨a3, IntKind.i8.wrap (a4), IntKind.i8.wrap ((l0.length : Int)), IntKind.i8.wrap ((t128.length : Int))⟩ : S61)) (k61_mkM _ _ _ (⟨a3, IntKind.i8.wrap (a4), IntKind.i8.wrap ((l0.length : Int)), IntKind.i8.wrap ((t128.length : Int))⟩ : S61) ) (fun _ hk => hk); have hx29_0 := hcc29 0 _ rfl; (try simp only [show (k61).sz = 4 from rfl, Nat.mul_one, Nat.add_zero] at hx29_0); have hf29_0 := hfr29 0; (try simp only [show (k61).sz = 4 from rfl, Nat.mul_one, Nat.add_zero] at hf29_0); have hx29_1 := hcc29 1 _ rfl; (try simp only [show (k61).sz = 4 from rfl, Nat.mul_one, Nat.add_zero] at hx29_1); have hf29_1 := hfr29 1; (try simp only [show (k61).sz = 4 from rfl, Nat.mul_one, Nat.add_zero] at hf29_1); have hx29_2 := hcc29 2 _ rfl; (try simp only [show (k61).sz = 4 from rfl, Nat.mul_one, Nat.add_zero] at hx29_2); have hf29_2 := hfr29 2; (try simp only [show (k61).sz = 4 from rfl, Nat.mul_one, Nat.add_zero] at hf29_2); have hx29_3 := hcc29 3 _ rfl; (try simp only [show (k61).sz = 4 from rfl, Nat.mul_one, Nat.add_zero] at hx29_3); have hf29_3 := hfr29 3; (try simp only [show (k61).sz = 4 from rfl, Nat.mul_one, Nat.add_zero] at hf29_3); clear hcl29 hcc29 hfr29; (try clear hM29)) | ((with_reducible refine gate_store (t := 61) (p := 53) rfl ?_); refine store_event (t := 61) (p := 53) (v := ?vo_w30) (w1 := ((((w28.setCell ⟨go21, (a1 : Int).toNat * 4, none⟩ (.int .i8 a3)).setCell ⟨go21, (a1 : Int).toNat * 4 + 1, none⟩ (.int .i8 (IntKind.i8.wrap (a4)))).setCell ⟨go21, (a1 : Int).toNat * 4 + 2, none⟩ (.int .i8 (IntKind.i8.wrap ((l0.length : Int))))).setCell ⟨go21, (a1 : Int).toNat * 4 + 3, none⟩ (.int .i8 (IntKind.i8.wrap ((t128.length : Int)))))) ?hg ?ho ?hn ?hr ?_; (case ho => rfl); (case hg => rfl); (case hn => rfl); (case hr => first | (go_simp; done) | (go_simp; rfl)); intro w30 hw; have hg : w28.grownBy w30 (some go21) := (by rw [hw]; exact HP29.2); have hp_ : Kd.R k61 61 w30 w0.heap.size (fun k_ => (P0_ k_ ∨ w.heap.size ≤ k_)) (.slice (some ⟨go21, 0, none⟩) t131.length co21) y134 := (by rw [hw, Ny134.out]; exact HP29.1); clear HP29; have n0_ := Aside0.mk (blk_grown (g := gb127) (o := .cells #[.int .i64 a5_0, .int .i64 a5_1, .int .i64 a5_2, .int .i64 a5_3] 69 (0, 0)) (by (with_reducible repeat (first | refine blk_drewN ?_ _ | refine blk_drew ?_ | refine blk_alloc ?_ _)); exact BK127.out) hg (Kd.R_ne HO133.out BK127.out (by decide))); have n1_ := Aside0.mk (hp_); have n2_ := Aside0.mk ((by rw [hw]; exact below_set (below_set (below_set (below_set (HB.out) GB21.out) GB21.out) GB21.out) GB21.out : Below w0.heap.size w0 w30)); have n3_ := Aside0.mk (Kept.of_grown (S := (fun k_ => P0_ k_)) hg (by repeat (first | (with_reducible first | exact HK.out | apply Kept.alloc | apply Kept.drewN | apply Kept.drew | refine Kept.setCell ?_ (.inr GW127.out) _) | exact HK.out)) (fun k_ e_ => (HO133.out.1 k_ e_))); clear BK127; clear HO133; clear HB; clear HK; have BK127 := n0_; have HO133 := n1_; have HB := n2_; have HK := n3_; clear n0_ n1_ n2_ n3_; clear hg hw hp_))
          go_ret
          exact ⟨_, by first | rfl | (simp [errW_none, errW_some] <;> rfl) | (simp [*, errW_none, errW_some] <;> rfl), by (with_reducible repeat (first | apply Kd.R_alloc | apply Kd.R_drewN | apply Kd.R_drew)); exact HO133.out, by repeat (first | (with_reducible first | exact HB.out | apply below_alloc | apply pw_below_drewN | apply below_drew1 | refine below_set ?_ GE127.out) | exact HB.out), by repeat (first | (with_reducible first | exact HK.out | apply Kept.alloc | apply Kept.drewN | apply Kept.drew | refine Kept.setCell ?_ (.inr GW127.out) _) | exact HK.out)⟩
        · rw [if_neg c20] at H
          exact absurd H (by simp)
      · rw [if_neg c19] at H
        exact absurd H (by simp)
set_option maxHeartbeats 8000000 in
set_option maxRecDepth 100000 in
theorem spec_l04Cut.callsB (P_ : (List (S61) → Int → List Int → Int → Int → Int → Int → Int → Int → List (S43) → Option (List (S61)))) (HP : ∀ (P0_ : Nat → Prop) (u9000_ : Value) (l0 : List (S61)) (a1 : Int) (gt : Nat) (l2 : List Int) (a3 : Int) (a4 : Int) (a5_0 : Int) (a5_1 : Int) (a5_2 : Int) (a5_3 : Int) (A6 : Option Addr) (c6 : Nat) (l6 : List (S43)) (r : List (S61)) (w0 w : World) (hB : Below w0.heap.size w0 w) (ho0 : Kd.R k61 61 w w0.heap.size P0_ u9000_ l0) (hr2 : ∀ W_, Kept w W_ (fun k_ => P0_ k_) → W_.heap[gt]? = some (.cells (spec_l04Worth.cs l2) 38 (0, 0))) (hc2 : l2.length = 625) (hr6 : ∀ W_, Kept w W_ (fun k_ => P0_ k_) → Kd.C k43 W_ A6 l6.length l6) (hc6 : l6.length ≤ c6) (h : P_ l0 a1 l2 a3 a4 a5_0 a5_1 a5_2 a5_3 l6 = some r), Calls Try.prog 33 #[u9000_, .int .i64 a1, .pointer (some ⟨gt, 0, none⟩), .int .i8 a3, .int .i64 a4, .agg #[.int .i64 a5_0, .int .i64 a5_1, .int .i64 a5_2, .int .i64 a5_3], .slice A6 l6.length c6] w fun e w' => ∃ v0_ : Value, e = .returned (v0_) ∧ Kd.R k61 61 w' w0.heap.size (fun k_ => (P0_ k_ ∨ w.heap.size ≤ k_)) v0_ r ∧ Below w0.heap.size w0 w' ∧ Kept w w' (fun k_ => P0_ k_)) (k : Nat) (P0_ : Nat → Prop) (u9000_ : Value) (l0 : List (S61)) (gt : Nat) (l1 : List Int) (a2 : Int) (a3 : Int) (A4 : Option Addr) (c4 : Nat) (l4 : List (S43)) (r : List (S61)) (w0 w : World) (hB : Below w0.heap.size w0 w) (ho0 : Kd.R k61 61 w w0.heap.size P0_ u9000_ l0) (hr1 : ∀ W_, Kept w W_ (fun k_ => P0_ k_) → W_.heap[gt]? = some (.cells (spec_l04Worth.cs l1) 38 (0, 0))) (hc1 : l1.length = 625) (hr4 : ∀ W_, Kept w W_ (fun k_ => P0_ k_) → Kd.C k43 W_ A4 l4.length l4) (hc4 : l4.length ≤ c4) (h : spec_l04Cut.b P_ k l0 l1 a2 a3 l4 = some r) :
    Calls Try.prog 24 #[u9000_, .pointer (some ⟨gt, 0, none⟩), .int .i64 a2, .int .i64 a3, .slice A4 l4.length c4] w fun e w' => ∃ v0_ : Value, e = .returned (v0_) ∧ Kd.R k61 61 w' w0.heap.size (fun k_ => (P0_ k_ ∨ w.heap.size ≤ k_)) v0_ r ∧ Below w0.heap.size w0 w' ∧ Kept w w' (fun k_ => P0_ k_) := by
  have hu61 := Try.underlying61
  have hu69 := Try.underlying69
  have HO0 := Aside0.mk (show Kd.R k61 61 w w0.heap.size (fun k_ => (P0_ k_ ∨ w.heap.size ≤ k_)) u9000_ l0 from Kd.R_mono ho0 (fun k_ hk => (.inl hk)))
  have HR1 := Aside0.mk hr1
  have HC1 := Aside0.mk hc1
  clear hr1 hc1
  have HR4 := Aside0.mk hr4
  have HC4 := Aside0.mk hc4
  clear hr4 hc4
  have HK := Aside0.mk (Kept.refl w (fun k_ => P0_ k_))
  have HW0 := Aside0.mk hB.size
  have HB := Aside0.mk hB
  clear hB
  have H : (if 0 ≤ a2 then (if a2 < 25 then (if 0 ≤ a3 then (if a3 < 25 then (if l0.length < 35184372088832 then ((some (l0 ++ [(⟨0, 0, 0, 0⟩ : S61)] : List (S61))).bind fun y128 => (if (rd l1 (a2 * 25 + a3)) = 0 then (some y128) else (spec_l04Cut.l0 P_ k y128 l1 a2 a3 l4 (rd l1 (a2 * 25 + a3)) (l0.length : Int) 0))) else (none)) else (none)) else (none)) else (none)) else (none)) = some r := h
  clear h
  by_cases c6 : 0 ≤ a2
  · rw [if_pos c6] at H
    have c6b0 : decide (0 ≤ a2) = true := decide_eq_true c6
    clear c6
    by_cases c7 : a2 < 25
    · rw [if_pos c7] at H
      have c7b0 : decide (a2 < 25) = true := decide_eq_true c7
      clear c7
      by_cases c8 : 0 ≤ a3
      · rw [if_pos c8] at H
        have c8b0 : decide (0 ≤ a3) = true := decide_eq_true c8
        clear c8
        by_cases c9 : a3 < 25
        · rw [if_pos c9] at H
          have c9b0 : decide (a3 < 25) = true := decide_eq_true c9
          clear c9
          by_cases c10 : l0.length < 35184372088832
          · rw [if_pos c10] at H
            have LMc10 := Aside0.mk c10
            clear c10
            obtain ⟨y128, hy128⟩ : ∃ y_ : List (S61), y_ = (l0 ++ [(⟨0, 0, 0, 0⟩ : S61)]) := ⟨_, rfl⟩
            replace H : (if (rd l1 (a2 * 25 + a3)) = 0 then (some y128) else (spec_l04Cut.l0 P_ k y128 l1 a2 a3 l4 (rd l1 (a2 * 25 + a3)) (l0.length : Int) 0)) = some r := by first | (rw [hy128]; with_reducible exact H) | (have H2_ := (Option.bind_some _ _).symm.trans H; rw [hy128]; with_reducible exact H2_) | (have H2_ := (Option.bind_some _ _).symm.trans H; with_reducible exact H2_) | with_reducible exact H | (rw [hy128]; exact H) | exact H
            have Ny128 := Aside0.mk hy128
            clear hy128
            by_cases c11 : (rd l1 (a2 * 25 + a3)) = 0
            · rw [if_pos c11] at H
              have c11b0 : ((rd l1 (a2 * 25 + a3)) == 0) = true := beq_iff_eq.mpr c11
              have c11b1 : ((rd l1 (a2 * 25 + a3)) != 0) = false := bne_eq_false_iff_eq.mpr c11
              clear c11
              obtain rfl := Option.some.inj H
              have pi127 : 0 ≤ a2 := (of_decide_eq_true (by first | (with_reducible assumption) | assumption))
              have qi127 : a2 < 25 := (of_decide_eq_true (by first | (with_reducible assumption) | assumption))
              have pj127 : 0 ≤ a3 := (of_decide_eq_true (by first | (with_reducible assumption) | assumption))
              have qj127 : a3 < 25 := (of_decide_eq_true (by first | (with_reducible assumption) | assumption))
              have hx127_0 := spec_l04Cut.tcell (HR1.out _ HK.out) HC1.out (a2) (a3) pi127 qi127 pj127 qj127
              replace pi127 := eq_true pi127
              replace qi127 := eq_true qi127
              replace pj127 := eq_true pj127
              replace qj127 := eq_true qj127
              obtain ⟨Ao12, co12, eo12⟩ := Kd.R_slice HO0.out
              subst eo12
              go_enter Try.func24, Try.ntmps24
              go_wp2_with (first | ((with_reducible refine gate_builtin (b := .append) (xs := #[.tmp 25, .tmp 27]) rfl ?_); at_builtin; refine Kd.R_append k61 (w0 := w0) w0.heap.size rfl (.tmp 25) (.tmp 27) 30 61 (.agg #[(.int .i8 0), (.int .i8 0), (.int .i8 0), (.int .i8 0)]) 4 rfl Try.underlying30 info61 rfl (by decide) (by omega) (.slice Ao12 l0.length co12) l0 (⟨0, 0, 0, 0⟩ : S61) [.int .i8 0, .int .i8 0, .int .i8 0, .int .i8 0] (fun k_ => (P0_ k_ ∨ w.heap.size ≤ k_)) (fun _ => False) rfl rfl ?aP (fun _ hk => hk.elim) ?aF ?aO ?aB ?aS ?aL ?_; (case aP => exact k61_mkM _ _ _ (⟨0, 0, 0, 0⟩ : S61)); (case aB => exact (by repeat (first | (with_reducible first | exact HB.out | apply below_alloc | apply pw_below_drewN | apply below_drew1) | exact HB.out))); (case aF => exact (fun k_ hk => (.inr (Nat.le_trans (by first | exact HK.out.1 | exact (show Kept w _ (fun k_ => P0_ k_) from by repeat (first | (with_reducible first | exact HK.out | apply Kept.alloc | apply Kept.drewN | apply Kept.drew) | exact HK.out)).1) hk)))); (case aO => exact (by (with_reducible repeat (first | apply Kd.R_alloc | apply Kd.R_drewN | apply Kd.R_drew)); exact HO0.out)); (case aS => exact (below_size (by repeat (first | (with_reducible first | exact HB.out | apply below_alloc | apply pw_below_drewN | apply below_drew1) | exact HB.out)))); (case aL => have := LMc10.out; omega); intro v129 w13 ho hb hg hat; rw [← Ny128.out] at ho; have n0_ := Aside0.mk (hb); have n1_ := Aside0.mk (Kept.of_grown (S := (fun k_ => P0_ k_)) hg (by repeat (first | (with_reducible first | exact HK.out | apply Kept.alloc | apply Kept.drewN | apply Kept.drew) | exact HK.out)) (fun k_ e_ => (HO0.out.1 k_ e_))); have n2_ := Aside0.mk (ho); clear HB; clear HK; clear HO0; have HB := n0_; have HK := n1_; have HO130 := n2_; clear n0_ n1_ n2_; clear ho hb hg hat))
              repeat (go_quiet (first | ((with_reducible refine gate_builtin (b := .append) (xs := #[.tmp 25, .tmp 27]) rfl ?_); at_builtin; refine Kd.R_append k61 (w0 := w0) w0.heap.size rfl (.tmp 25) (.tmp 27) 30 61 (.agg #[(.int .i8 0), (.int .i8 0), (.int .i8 0), (.int .i8 0)]) 4 rfl Try.underlying30 info61 rfl (by decide) (by omega) (.slice Ao12 l0.length co12) l0 (⟨0, 0, 0, 0⟩ : S61) [.int .i8 0, .int .i8 0, .int .i8 0, .int .i8 0] (fun k_ => (P0_ k_ ∨ w.heap.size ≤ k_)) (fun _ => False) rfl rfl ?aP (fun _ hk => hk.elim) ?aF ?aO ?aB ?aS ?aL ?_; (case aP => exact k61_mkM _ _ _ (⟨0, 0, 0, 0⟩ : S61)); (case aB => exact (by repeat (first | (with_reducible first | exact HB.out | apply below_alloc | apply pw_below_drewN | apply below_drew1) | exact HB.out))); (case aF => exact (fun k_ hk => (.inr (Nat.le_trans (by first | exact HK.out.1 | exact (show Kept w _ (fun k_ => P0_ k_) from by repeat (first | (with_reducible first | exact HK.out | apply Kept.alloc | apply Kept.drewN | apply Kept.drew) | exact HK.out)).1) hk)))); (case aO => exact (by (with_reducible repeat (first | apply Kd.R_alloc | apply Kd.R_drewN | apply Kd.R_drew)); exact HO0.out)); (case aS => exact (below_size (by repeat (first | (with_reducible first | exact HB.out | apply below_alloc | apply pw_below_drewN | apply below_drew1) | exact HB.out)))); (case aL => have := LMc10.out; omega); intro v129 w13 ho hb hg hat; rw [← Ny128.out] at ho; have n0_ := Aside0.mk (hb); have n1_ := Aside0.mk (Kept.of_grown (S := (fun k_ => P0_ k_)) hg (by repeat (first | (with_reducible first | exact HK.out | apply Kept.alloc | apply Kept.drewN | apply Kept.drew) | exact HK.out)) (fun k_ e_ => (HO0.out.1 k_ e_))); have n2_ := Aside0.mk (ho); clear HB; clear HK; clear HO0; have HB := n0_; have HK := n1_; have HO130 := n2_; clear n0_ n1_ n2_; clear ho hb hg hat)); try go_wp2_with (first | ((with_reducible refine gate_builtin (b := .append) (xs := #[.tmp 25, .tmp 27]) rfl ?_); at_builtin; refine Kd.R_append k61 (w0 := w0) w0.heap.size rfl (.tmp 25) (.tmp 27) 30 61 (.agg #[(.int .i8 0), (.int .i8 0), (.int .i8 0), (.int .i8 0)]) 4 rfl Try.underlying30 info61 rfl (by decide) (by omega) (.slice Ao12 l0.length co12) l0 (⟨0, 0, 0, 0⟩ : S61) [.int .i8 0, .int .i8 0, .int .i8 0, .int .i8 0] (fun k_ => (P0_ k_ ∨ w.heap.size ≤ k_)) (fun _ => False) rfl rfl ?aP (fun _ hk => hk.elim) ?aF ?aO ?aB ?aS ?aL ?_; (case aP => exact k61_mkM _ _ _ (⟨0, 0, 0, 0⟩ : S61)); (case aB => exact (by repeat (first | (with_reducible first | exact HB.out | apply below_alloc | apply pw_below_drewN | apply below_drew1) | exact HB.out))); (case aF => exact (fun k_ hk => (.inr (Nat.le_trans (by first | exact HK.out.1 | exact (show Kept w _ (fun k_ => P0_ k_) from by repeat (first | (with_reducible first | exact HK.out | apply Kept.alloc | apply Kept.drewN | apply Kept.drew) | exact HK.out)).1) hk)))); (case aO => exact (by (with_reducible repeat (first | apply Kd.R_alloc | apply Kd.R_drewN | apply Kd.R_drew)); exact HO0.out)); (case aS => exact (below_size (by repeat (first | (with_reducible first | exact HB.out | apply below_alloc | apply pw_below_drewN | apply below_drew1) | exact HB.out)))); (case aL => have := LMc10.out; omega); intro v129 w13 ho hb hg hat; rw [← Ny128.out] at ho; have n0_ := Aside0.mk (hb); have n1_ := Aside0.mk (Kept.of_grown (S := (fun k_ => P0_ k_)) hg (by repeat (first | (with_reducible first | exact HK.out | apply Kept.alloc | apply Kept.drewN | apply Kept.drew) | exact HK.out)) (fun k_ e_ => (HO0.out.1 k_ e_))); have n2_ := Aside0.mk (ho); clear HB; clear HK; clear HO0; have HB := n0_; have HK := n1_; have HO130 := n2_; clear n0_ n1_ n2_; clear ho hb hg hat)))
              go_ret
              exact ⟨_, by first | rfl | (simp [errW_none, errW_some] <;> rfl) | (simp [*, errW_none, errW_some] <;> rfl), by (with_reducible repeat (first | apply Kd.R_alloc | apply Kd.R_drewN | apply Kd.R_drew)); exact HO130.out, by repeat (first | (with_reducible first | exact HB.out | apply below_alloc | apply pw_below_drewN | apply below_drew1) | exact HB.out), by repeat (first | (with_reducible first | exact HK.out | apply Kept.alloc | apply Kept.drewN | apply Kept.drew) | exact HK.out)⟩
            · rw [if_neg c11] at H
              have c11b0 : ((rd l1 (a2 * 25 + a3)) == 0) = false := beq_eq_false_iff_ne.mpr c11
              have c11b1 : ((rd l1 (a2 * 25 + a3)) != 0) = true := bne_iff_ne.mpr c11
              have H' := Aside0.mk H
              clear H
              have pi127 : 0 ≤ a2 := (of_decide_eq_true (by first | (with_reducible assumption) | assumption))
              have qi127 : a2 < 25 := (of_decide_eq_true (by first | (with_reducible assumption) | assumption))
              have pj127 : 0 ≤ a3 := (of_decide_eq_true (by first | (with_reducible assumption) | assumption))
              have qj127 : a3 < 25 := (of_decide_eq_true (by first | (with_reducible assumption) | assumption))
              have hx127_0 := spec_l04Cut.tcell (HR1.out _ HK.out) HC1.out (a2) (a3) pi127 qi127 pj127 qj127
              replace pi127 := eq_true pi127
              replace qi127 := eq_true qi127
              replace pj127 := eq_true pj127
              replace qj127 := eq_true qj127
              obtain ⟨Ao14, co14, eo14⟩ := Kd.R_slice HO0.out
              subst eo14
              go_enter Try.func24, Try.ntmps24
              go_wp2_with (first | ((with_reducible refine gate_builtin (b := .append) (xs := #[.tmp 25, .tmp 27]) rfl ?_); at_builtin; refine Kd.R_append k61 (w0 := w0) w0.heap.size rfl (.tmp 25) (.tmp 27) 30 61 (.agg #[(.int .i8 0), (.int .i8 0), (.int .i8 0), (.int .i8 0)]) 4 rfl Try.underlying30 info61 rfl (by decide) (by omega) (.slice Ao14 l0.length co14) l0 (⟨0, 0, 0, 0⟩ : S61) [.int .i8 0, .int .i8 0, .int .i8 0, .int .i8 0] (fun k_ => (P0_ k_ ∨ w.heap.size ≤ k_)) (fun _ => False) rfl rfl ?aP (fun _ hk => hk.elim) ?aF ?aO ?aB ?aS ?aL ?_; (case aP => exact k61_mkM _ _ _ (⟨0, 0, 0, 0⟩ : S61)); (case aB => exact (by repeat (first | (with_reducible first | exact HB.out | apply below_alloc | apply pw_below_drewN | apply below_drew1) | exact HB.out))); (case aF => exact (fun k_ hk => (.inr (Nat.le_trans (by first | exact HK.out.1 | exact (show Kept w _ (fun k_ => P0_ k_) from by repeat (first | (with_reducible first | exact HK.out | apply Kept.alloc | apply Kept.drewN | apply Kept.drew) | exact HK.out)).1) hk)))); (case aO => exact (by (with_reducible repeat (first | apply Kd.R_alloc | apply Kd.R_drewN | apply Kd.R_drew)); exact HO0.out)); (case aS => exact (below_size (by repeat (first | (with_reducible first | exact HB.out | apply below_alloc | apply pw_below_drewN | apply below_drew1) | exact HB.out)))); (case aL => have := LMc10.out; omega); intro v129 w15 ho hb hg hat; rw [← Ny128.out] at ho; have n0_ := Aside0.mk (hb); have n1_ := Aside0.mk (Kept.of_grown (S := (fun k_ => P0_ k_)) hg (by repeat (first | (with_reducible first | exact HK.out | apply Kept.alloc | apply Kept.drewN | apply Kept.drew) | exact HK.out)) (fun k_ e_ => (HO0.out.1 k_ e_))); have n2_ := Aside0.mk (ho); clear HB; clear HK; clear HO0; have HB := n0_; have HK := n1_; have HO130 := n2_; clear n0_ n1_ n2_; clear ho hb hg hat))
              repeat (go_quiet (first | ((with_reducible refine gate_builtin (b := .append) (xs := #[.tmp 25, .tmp 27]) rfl ?_); at_builtin; refine Kd.R_append k61 (w0 := w0) w0.heap.size rfl (.tmp 25) (.tmp 27) 30 61 (.agg #[(.int .i8 0), (.int .i8 0), (.int .i8 0), (.int .i8 0)]) 4 rfl Try.underlying30 info61 rfl (by decide) (by omega) (.slice Ao14 l0.length co14) l0 (⟨0, 0, 0, 0⟩ : S61) [.int .i8 0, .int .i8 0, .int .i8 0, .int .i8 0] (fun k_ => (P0_ k_ ∨ w.heap.size ≤ k_)) (fun _ => False) rfl rfl ?aP (fun _ hk => hk.elim) ?aF ?aO ?aB ?aS ?aL ?_; (case aP => exact k61_mkM _ _ _ (⟨0, 0, 0, 0⟩ : S61)); (case aB => exact (by repeat (first | (with_reducible first | exact HB.out | apply below_alloc | apply pw_below_drewN | apply below_drew1) | exact HB.out))); (case aF => exact (fun k_ hk => (.inr (Nat.le_trans (by first | exact HK.out.1 | exact (show Kept w _ (fun k_ => P0_ k_) from by repeat (first | (with_reducible first | exact HK.out | apply Kept.alloc | apply Kept.drewN | apply Kept.drew) | exact HK.out)).1) hk)))); (case aO => exact (by (with_reducible repeat (first | apply Kd.R_alloc | apply Kd.R_drewN | apply Kd.R_drew)); exact HO0.out)); (case aS => exact (below_size (by repeat (first | (with_reducible first | exact HB.out | apply below_alloc | apply pw_below_drewN | apply below_drew1) | exact HB.out)))); (case aL => have := LMc10.out; omega); intro v129 w15 ho hb hg hat; rw [← Ny128.out] at ho; have n0_ := Aside0.mk (hb); have n1_ := Aside0.mk (Kept.of_grown (S := (fun k_ => P0_ k_)) hg (by repeat (first | (with_reducible first | exact HK.out | apply Kept.alloc | apply Kept.drewN | apply Kept.drew) | exact HK.out)) (fun k_ e_ => (HO0.out.1 k_ e_))); have n2_ := Aside0.mk (ho); clear HB; clear HK; clear HO0; have HB := n0_; have HK := n1_; have HO130 := n2_; clear n0_ n1_ n2_; clear ho hb hg hat)); try go_wp2_with (first | ((with_reducible refine gate_builtin (b := .append) (xs := #[.tmp 25, .tmp 27]) rfl ?_); at_builtin; refine Kd.R_append k61 (w0 := w0) w0.heap.size rfl (.tmp 25) (.tmp 27) 30 61 (.agg #[(.int .i8 0), (.int .i8 0), (.int .i8 0), (.int .i8 0)]) 4 rfl Try.underlying30 info61 rfl (by decide) (by omega) (.slice Ao14 l0.length co14) l0 (⟨0, 0, 0, 0⟩ : S61) [.int .i8 0, .int .i8 0, .int .i8 0, .int .i8 0] (fun k_ => (P0_ k_ ∨ w.heap.size ≤ k_)) (fun _ => False) rfl rfl ?aP (fun _ hk => hk.elim) ?aF ?aO ?aB ?aS ?aL ?_; (case aP => exact k61_mkM _ _ _ (⟨0, 0, 0, 0⟩ : S61)); (case aB => exact (by repeat (first | (with_reducible first | exact HB.out | apply below_alloc | apply pw_below_drewN | apply below_drew1) | exact HB.out))); (case aF => exact (fun k_ hk => (.inr (Nat.le_trans (by first | exact HK.out.1 | exact (show Kept w _ (fun k_ => P0_ k_) from by repeat (first | (with_reducible first | exact HK.out | apply Kept.alloc | apply Kept.drewN | apply Kept.drew) | exact HK.out)).1) hk)))); (case aO => exact (by (with_reducible repeat (first | apply Kd.R_alloc | apply Kd.R_drewN | apply Kd.R_drew)); exact HO0.out)); (case aS => exact (below_size (by repeat (first | (with_reducible first | exact HB.out | apply below_alloc | apply pw_below_drewN | apply below_drew1) | exact HB.out)))); (case aL => have := LMc10.out; omega); intro v129 w15 ho hb hg hat; rw [← Ny128.out] at ho; have n0_ := Aside0.mk (hb); have n1_ := Aside0.mk (Kept.of_grown (S := (fun k_ => P0_ k_)) hg (by repeat (first | (with_reducible first | exact HK.out | apply Kept.alloc | apply Kept.drewN | apply Kept.drew) | exact HK.out)) (fun k_ e_ => (HO0.out.1 k_ e_))); have n2_ := Aside0.mk (ho); clear HB; clear HK; clear HO0; have HB := n0_; have HK := n1_; have HO130 := n2_; clear n0_ n1_ n2_; clear ho hb hg hat)))
              go_loopg [13] k (fun kq v13 w' => ∃ (x0_1 : List (S61)) (x13_1 : Int), v13 = .int .i64 x13_1 ∧ Aside0 (spec_l04Cut.l0 P_ kq x0_1 l1 a2 a3 l4 (rd l1 (a2 * 25 + a3)) (l0.length : Int) x13_1 = some r) ∧ Aside0 (kq ≤ k) ∧ Aside0 (Kd.R k61 61 w' w0.heap.size (fun k_ => (P0_ k_ ∨ w.heap.size ≤ k_)) v129 x0_1) ∧ Aside0 (Kept w w' (fun k_ => P0_ k_)) ∧ Aside0 (Below w0.heap.size w0 w'))
              case atStart => exact ⟨(y128), (0), (by first | rfl | (simp; done) | (simp [*]; done)), H', ⟨Nat.le_refl _⟩, ⟨by (with_reducible repeat (first | apply Kd.R_alloc | apply Kd.R_drewN | apply Kd.R_drew)); exact HO130.out⟩, ⟨by repeat (first | (with_reducible first | exact HK.out | apply Kept.alloc | apply Kept.drewN | apply Kept.drew) | exact HK.out)⟩, ⟨by repeat (first | (with_reducible first | exact HB.out | apply below_alloc | apply pw_below_drewN | apply below_drew1) | exact HB.out)⟩⟩
              case round =>
                clear H'
                try clear c1
                try clear p1
                try clear q1
                try clear hx1
                try clear c2
                try clear p2
                try clear c4
                try clear c6
                try clear c6b0
                try clear c7
                try clear c7b0
                try clear c8
                try clear c8b0
                try clear c9
                try clear c9b0
                try clear c10
                try clear c11
                try clear c11b0
                try clear c11b1
                try clear p12
                try clear q12
                try clear hx12
                try clear hx127_0
                try clear p127
                try clear q127
                obtain ⟨x0_1, x13_1, rfl, HA, HK1, HO_0, HK, HB⟩ := hrel
                cases gk with
                | zero => exact absurd HA.out (by simp [spec_l04Cut.l0])
                | succ k1 =>
                  have H := HA.out
                  clear HA
                  simp only [spec_l04Cut.l0] at H
                  by_cases c16 : x13_1 < (l4.length : Int)
                  · rw [if_pos c16] at H
                    have c16b0 : decide (x13_1 < (l4.length : Int)) = true := decide_eq_true c16
                    clear c16
                    by_cases c17 : 0 ≤ x13_1
                    · rw [if_pos c17] at H
                      have c17b0 : decide (0 ≤ x13_1) = true := decide_eq_true c17
                      clear c17
                      by_cases c18 : (wrap64 ((rd_T43 l4 x13_1).f0)) = a2
                      · rw [if_pos c18] at H
                        have c18b0 : ((wrap64 ((rd_T43 l4 x13_1).f0)) == a2) = true := beq_iff_eq.mpr c18
                        have c18b1 : ((wrap64 ((rd_T43 l4 x13_1).f0)) != a2) = false := bne_eq_false_iff_eq.mpr c18
                        clear c18
                        by_cases c19 : (wrap64 ((rd_T43 l4 x13_1).f1)) = a3
                        · rw [if_pos c19] at H
                          have c19b0 : ((wrap64 ((rd_T43 l4 x13_1).f1)) == a3) = true := beq_iff_eq.mpr c19
                          have c19b1 : ((wrap64 ((rd_T43 l4 x13_1).f1)) != a3) = false := bne_eq_false_iff_eq.mpr c19
                          clear c19
                          by_cases c20 : (wrap64 ((rd_T43 l4 x13_1).f2)) = (rd l1 (a2 * 25 + a3))
                          · rw [if_pos c20] at H
                            have c20b0 : ((wrap64 ((rd_T43 l4 x13_1).f2)) == (rd l1 (a2 * 25 + a3))) = true := beq_iff_eq.mpr c20
                            have c20b1 : ((wrap64 ((rd_T43 l4 x13_1).f2)) != (rd l1 (a2 * 25 + a3))) = false := bne_eq_false_iff_eq.mpr c20
                            clear c20
                            by_cases c21 : 0 ≤ (l0.length : Int)
                            · rw [if_pos c21] at H
                              have c21b0 : decide (0 ≤ (l0.length : Int)) = true := decide_eq_true c21
                              have c21b1 : decide (0 ≤ l0.length) = true := decide_eq_true (by omega)
                              clear c21
                              by_cases c22 : (l0.length : Int) < (x0_1.length : Int)
                              · rw [if_pos c22] at H
                                have c22b0 : decide ((l0.length : Int) < (x0_1.length : Int)) = true := decide_eq_true c22
                                have c22b1 : decide (l0.length < x0_1.length) = true := decide_eq_true (Int.ofNat_lt.mp c22)
                                clear c22
                                obtain ⟨y134, hy134⟩ : ∃ y_ : List (S61), y_ = (x0_1.set ((l0.length : Int) : Int).toNat (⟨1, 0, IntKind.i8.wrap (x13_1), 0⟩ : S61)) := ⟨_, rfl⟩
                                replace H : (some y134) = some r := by first | (rw [hy134]; with_reducible exact H) | (have H2_ := (Option.bind_some _ _).symm.trans H; rw [hy134]; with_reducible exact H2_) | (have H2_ := (Option.bind_some _ _).symm.trans H; with_reducible exact H2_) | with_reducible exact H | (rw [hy134]; exact H) | exact H
                                have Ny134 := Aside0.mk hy134
                                clear hy134
                                obtain rfl := Option.some.inj H
                                have p131 : 0 ≤ (x13_1 : Int) := of_decide_eq_true (by first | (with_reducible assumption) | assumption)
                                have q131 : x13_1 < (l4.length : Int) := of_decide_eq_true (by first | (with_reducible assumption) | assumption)
                                obtain ⟨ad131, e131, hx131_0, hx131_1, hx131_2⟩ := at_T43 (Kd.C_kept_now HR4.out HK.out) x13_1 p131 q131
                                cases e131
                                replace p131 := eq_true p131
                                replace q131 := eq_true q131
                                have p132 : 0 ≤ (x13_1 : Int) := of_decide_eq_true (by first | (with_reducible assumption) | assumption)
                                have q132 : x13_1 < (l4.length : Int) := of_decide_eq_true (by first | (with_reducible assumption) | assumption)
                                obtain ⟨ad132, e132, hx132_0, hx132_1, hx132_2⟩ := at_T43 (Kd.C_kept_now HR4.out HK.out) x13_1 p132 q132
                                obtain rfl : ad131 = ad132 := (by injection e132)
                                replace p132 := eq_true p132
                                replace q132 := eq_true q132
                                have p133 : 0 ≤ (x13_1 : Int) := of_decide_eq_true (by first | (with_reducible assumption) | assumption)
                                have q133 : x13_1 < (l4.length : Int) := of_decide_eq_true (by first | (with_reducible assumption) | assumption)
                                obtain ⟨ad133, e133, hx133_0, hx133_1, hx133_2⟩ := at_T43 (Kd.C_kept_now HR4.out HK.out) x13_1 p133 q133
                                obtain rfl : ad131 = ad133 := (by injection e133)
                                replace p133 := eq_true p133
                                replace q133 := eq_true q133
                                have p23 : 0 ≤ ((l0.length : Int) : Int) := of_decide_eq_true (by first | (with_reducible assumption) | assumption)
                                have q23 : ((l0.length : Int) : Int) < ((x0_1.length : Int) : Int) := of_decide_eq_true (by first | (with_reducible assumption) | assumption)
                                obtain ⟨go23, co23, eo23, gb23, gl23, cl23, HG23⟩ := Kd.R_form HO_0.out (by omega)
                                (first | cases eo23 | (injection eo23 with ea_ en_ ec_; (first | subst ea_ | (injection ea_ with ea_; subst ea_)); subst ec_; clear en_))
                                have GB23 := Aside0.mk gb23
                                have GG23 := Aside0.mk HG23
                                clear gb23 gl23 HG23
                                have HMgo23 := Aside0.mk (show (P0_ go23 ∨ w.heap.size ≤ go23) from (HO_0.out.1 _ rfl))
                                obtain ⟨ce23, hcl23, hM23, hcc23, hfr23⟩ := Kd.R_elem HO_0.out z61 ((l0.length : Int) : Int) p23 q23
                                obtain rfl := k61_openM hM23
                                have hx23_0 : wr.cell? ⟨go23, l0.length * 4, none⟩ = some (.int .i8 ((rd_T61 x0_1 (l0.length : Int)).f0)) := hcc23 0 _ rfl
                                have hx23_1 : wr.cell? ⟨go23, l0.length * 4 + 1, none⟩ = some (.int .i8 ((rd_T61 x0_1 (l0.length : Int)).f1)) := hcc23 1 _ rfl
                                have hx23_2 : wr.cell? ⟨go23, l0.length * 4 + 2, none⟩ = some (.int .i8 ((rd_T61 x0_1 (l0.length : Int)).f2)) := hcc23 2 _ rfl
                                have hx23_3 : wr.cell? ⟨go23, l0.length * 4 + 3, none⟩ = some (.int .i8 ((rd_T61 x0_1 (l0.length : Int)).f3)) := hcc23 3 _ rfl
                                have hf23_0 : wr.frozen? ⟨go23, l0.length * 4, none⟩ = false := hfr23 0
                                have hf23_1 : wr.frozen? ⟨go23, l0.length * 4 + 1, none⟩ = false := hfr23 1
                                have hf23_2 : wr.frozen? ⟨go23, l0.length * 4 + 2, none⟩ = false := hfr23 2
                                have hf23_3 : wr.frozen? ⟨go23, l0.length * 4 + 3, none⟩ = false := hfr23 3
                                clear hcl23 hcc23 hfr23; (try clear hM23)
                                replace p23 := eq_true p23
                                replace q23 := eq_true q23
                                have HX24 := Aside0.mk (show Kd.R k61 61 wr w0.heap.size (fun k_ => (P0_ k_ ∨ w.heap.size ≤ k_)) (.slice (some ⟨go23, 0, none⟩) x0_1.length co23) x0_1 from (by (with_reducible repeat (first | apply Kd.R_alloc | apply Kd.R_drewN | apply Kd.R_drew)); exact HO_0.out))
                                obtain ⟨ce24, hcl24, hM24, hcc24, hfr24⟩ := Kd.R_elem HX24.out z61 ((l0.length : Int) : Int) (of_decide_eq_true (by first | (with_reducible assumption) | assumption)) (by have h_ : ((l0.length : Int) : Int) < ((x0_1.length : Int) : Int) := of_decide_eq_true (by first | (with_reducible assumption) | assumption); first | exact h_ | (have e_ := (Kd.R_reads' HO_0.out).1; omega) | simpa using h_)
                                obtain rfl := k61_openM hM24
                                have HP24 := Kd.R_seg HX24.out ((l0.length : Int) : Int) (of_decide_eq_true (by first | (with_reducible assumption) | assumption)) (by have h_ : ((l0.length : Int) : Int) < ((x0_1.length : Int) : Int) := of_decide_eq_true (by first | (with_reducible assumption) | assumption); first | exact h_ | (have e_ := (Kd.R_reads' HO_0.out).1; omega) | simpa using h_) (seg := [.int .i8 1, .int .i8 0, .int .i8 (IntKind.i8.wrap (x13_1)), .int .i8 0]) (j := 0) hcl24 hcc24 (show 4 ≤ 4 from by decide) (x' := (⟨1, 0, IntKind.i8.wrap (x13_1), 0⟩ : S61)) (k61_mkM _ _ _ (⟨1, 0, IntKind.i8.wrap (x13_1), 0⟩ : S61) ) (fun _ hk => hk)
                                have hx24_0 := hcc24 0 _ rfl
                                (try simp only [show (k61).sz = 4 from rfl, Nat.mul_one, Nat.add_zero, Int.toNat_natCast] at hx24_0)
                                have hf24_0 := hfr24 0
                                (try simp only [show (k61).sz = 4 from rfl, Nat.mul_one, Nat.add_zero, Int.toNat_natCast] at hf24_0)
                                have hx24_1 := hcc24 1 _ rfl
                                (try simp only [show (k61).sz = 4 from rfl, Nat.mul_one, Nat.add_zero, Int.toNat_natCast] at hx24_1)
                                have hf24_1 := hfr24 1
                                (try simp only [show (k61).sz = 4 from rfl, Nat.mul_one, Nat.add_zero, Int.toNat_natCast] at hf24_1)
                                have hx24_2 := hcc24 2 _ rfl
                                (try simp only [show (k61).sz = 4 from rfl, Nat.mul_one, Nat.add_zero, Int.toNat_natCast] at hx24_2)
                                have hf24_2 := hfr24 2
                                (try simp only [show (k61).sz = 4 from rfl, Nat.mul_one, Nat.add_zero, Int.toNat_natCast] at hf24_2)
                                have hx24_3 := hcc24 3 _ rfl
                                (try simp only [show (k61).sz = 4 from rfl, Nat.mul_one, Nat.add_zero, Int.toNat_natCast] at hx24_3)
                                have hf24_3 := hfr24 3
                                (try simp only [show (k61).sz = 4 from rfl, Nat.mul_one, Nat.add_zero, Int.toNat_natCast] at hf24_3)
                                clear hcl24 hcc24 hfr24; (try clear hM24)
                                go_wp2_with (first | ((with_reducible refine gate_store (t := 61) (p := 71) rfl ?_); (try (rw [drewN_self wr]; generalize hq_ : World.drewN wr _ = wr; have n0_ := Aside0.mk (Kd.R_at hq_ HO_0.out); have n1_ := Aside0.mk (kept_at hq_ HK.out); have n2_ := Aside0.mk (below_at hq_ HB.out); clear hq_ HO_0 HK HB; have HO_0 := n0_; have HK := n1_; have HB := n2_; clear n0_ n1_ n2_; (try (have HX24 := Aside0.mk (show Kd.R k61 61 wr w0.heap.size (fun k_ => (P0_ k_ ∨ w.heap.size ≤ k_)) (.slice (some ⟨go23, 0, none⟩) x0_1.length co23) x0_1 from (by (with_reducible repeat (first | apply Kd.R_alloc | apply Kd.R_drewN | apply Kd.R_drew)); exact HO_0.out)))); (try (obtain ⟨ce24, hcl24, hM24, hcc24, hfr24⟩ := Kd.R_elem HX24.out z61 ((l0.length : Int) : Int) (of_decide_eq_true (by first | (with_reducible assumption) | assumption)) (by have h_ : ((l0.length : Int) : Int) < ((x0_1.length : Int) : Int) := of_decide_eq_true (by first | (with_reducible assumption) | assumption); first | exact h_ | (have e_ := (Kd.R_reads' HO_0.out).1; omega) | simpa using h_))); (try (obtain rfl := k61_openM hM24)); (try (have HP24 := Kd.R_seg HX24.out ((l0.length : Int) : Int) (of_decide_eq_true (by first | (with_reducible assumption) | assumption)) (by have h_ : ((l0.length : Int) : Int) < ((x0_1.length : Int) : Int) := of_decide_eq_true (by first | (with_reducible assumption) | assumption); first | exact h_ | (have e_ := (Kd.R_reads' HO_0.out).1; omega) | simpa using h_) (seg := [.int .i8 1, .int .i8 0, .int .i8 (IntKind.i8.wrap (x13_1)), .int .i8 0]) (j := 0) hcl24 hcc24 (show 4 ≤ 4 from by decide) (x' := (⟨1, 0, IntKind.i8.wrap (x13_1), 0⟩ : S61)) (k61_mkM _ _ _ (⟨1, 0, IntKind.i8.wrap (x13_1), 0⟩ : S61) ) (fun _ hk => hk))); (try (have hx24_0 := hcc24 0 _ rfl)); (try (try simp only [show (k61).sz = 4 from rfl, Nat.mul_one, Nat.add_zero, Int.toNat_natCast] at hx24_0)); (try (have hf24_0 := hfr24 0)); (try (try simp only [show (k61).sz = 4 from rfl, Nat.mul_one, Nat.add_zero, Int.toNat_natCast] at hf24_0)); (try (have hx24_1 := hcc24 1 _ rfl)); (try (try simp only [show (k61).sz = 4 from rfl, Nat.mul_one, Nat.add_zero, Int.toNat_natCast] at hx24_1)); (try (have hf24_1 := hfr24 1)); (try (try simp only [show (k61).sz = 4 from rfl, Nat.mul_one, Nat.add_zero, Int.toNat_natCast] at hf24_1)); (try (have hx24_2 := hcc24 2 _ rfl)); (try (try simp only [show (k61).sz = 4 from rfl, Nat.mul_one, Nat.add_zero, Int.toNat_natCast] at hx24_2)); (try (have hf24_2 := hfr24 2)); (try (try simp only [show (k61).sz = 4 from rfl, Nat.mul_one, Nat.add_zero, Int.toNat_natCast] at hf24_2)); (try (have hx24_3 := hcc24 3 _ rfl)); (try (try simp only [show (k61).sz = 4 from rfl, Nat.mul_one, Nat.add_zero, Int.toNat_natCast] at hx24_3)); (try (have hf24_3 := hfr24 3)); (try (try simp only [show (k61).sz = 4 from rfl, Nat.mul_one, Nat.add_zero, Int.toNat_natCast] at hf24_3)); (try (clear hcl24 hcc24 hfr24; (try clear hM24))))); refine store_event (t := 61) (p := 71) (v := ?vo_w25) (w1 := ((((wr.setCell ⟨go23, l0.length * 4, none⟩ (.int .i8 1)).setCell ⟨go23, l0.length * 4 + 1, none⟩ (.int .i8 0)).setCell ⟨go23, l0.length * 4 + 2, none⟩ (.int .i8 (IntKind.i8.wrap (x13_1)))).setCell ⟨go23, l0.length * 4 + 3, none⟩ (.int .i8 0))) ?hg ?ho ?hn ?hr ?_; (case ho => rfl); (case hg => rfl); (case hn => rfl); (case hr => first | (go_simp; done) | (go_simp; rfl)); intro w25 hw; have hg : wr.grownBy w25 (some go23) := (by rw [hw]; exact HP24.2); have hp_ : Kd.R k61 61 w25 w0.heap.size (fun k_ => (P0_ k_ ∨ w.heap.size ≤ k_)) (.slice (some ⟨go23, 0, none⟩) x0_1.length co23) y134 := (by rw [hw, Ny134.out]; exact HP24.1); clear HP24; have n0_ := Aside0.mk (hp_); have n1_ := Aside0.mk ((by rw [hw]; exact below_set (below_set (below_set (below_set (HB.out) GB23.out) GB23.out) GB23.out) GB23.out : Below w0.heap.size w0 w25)); have n2_ := Aside0.mk (Kept.of_grown (S := (fun k_ => P0_ k_)) hg (by repeat (first | (with_reducible first | exact HK.out | apply Kept.alloc | apply Kept.drewN | apply Kept.drew) | exact HK.out)) (fun k_ e_ => (HO_0.out.1 k_ e_))); clear HO_0; clear HB; clear HK; have HO_0 := n0_; have HB := n1_; have HK := n2_; clear n0_ n1_ n2_; clear hg hw hp_))
                                repeat (go_quiet (first | ((with_reducible refine gate_store (t := 61) (p := 71) rfl ?_); (try (rw [drewN_self wr]; generalize hq_ : World.drewN wr _ = wr; have n0_ := Aside0.mk (Kd.R_at hq_ HO_0.out); have n1_ := Aside0.mk (kept_at hq_ HK.out); have n2_ := Aside0.mk (below_at hq_ HB.out); clear hq_ HO_0 HK HB; have HO_0 := n0_; have HK := n1_; have HB := n2_; clear n0_ n1_ n2_; (try (have HX24 := Aside0.mk (show Kd.R k61 61 wr w0.heap.size (fun k_ => (P0_ k_ ∨ w.heap.size ≤ k_)) (.slice (some ⟨go23, 0, none⟩) x0_1.length co23) x0_1 from (by (with_reducible repeat (first | apply Kd.R_alloc | apply Kd.R_drewN | apply Kd.R_drew)); exact HO_0.out)))); (try (obtain ⟨ce24, hcl24, hM24, hcc24, hfr24⟩ := Kd.R_elem HX24.out z61 ((l0.length : Int) : Int) (of_decide_eq_true (by first | (with_reducible assumption) | assumption)) (by have h_ : ((l0.length : Int) : Int) < ((x0_1.length : Int) : Int) := of_decide_eq_true (by first | (with_reducible assumption) | assumption); first | exact h_ | (have e_ := (Kd.R_reads' HO_0.out).1; omega) | simpa using h_))); (try (obtain rfl := k61_openM hM24)); (try (have HP24 := Kd.R_seg HX24.out ((l0.length : Int) : Int) (of_decide_eq_true (by first | (with_reducible assumption) | assumption)) (by have h_ : ((l0.length : Int) : Int) < ((x0_1.length : Int) : Int) := of_decide_eq_true (by first | (with_reducible assumption) | assumption); first | exact h_ | (have e_ := (Kd.R_reads' HO_0.out).1; omega) | simpa using h_) (seg := [.int .i8 1, .int .i8 0, .int .i8 (IntKind.i8.wrap (x13_1)), .int .i8 0]) (j := 0) hcl24 hcc24 (show 4 ≤ 4 from by decide) (x' := (⟨1, 0, IntKind.i8.wrap (x13_1), 0⟩ : S61)) (k61_mkM _ _ _ (⟨1, 0, IntKind.i8.wrap (x13_1), 0⟩ : S61) ) (fun _ hk => hk))); (try (have hx24_0 := hcc24 0 _ rfl)); (try (try simp only [show (k61).sz = 4 from rfl, Nat.mul_one, Nat.add_zero, Int.toNat_natCast] at hx24_0)); (try (have hf24_0 := hfr24 0)); (try (try simp only [show (k61).sz = 4 from rfl, Nat.mul_one, Nat.add_zero, Int.toNat_natCast] at hf24_0)); (try (have hx24_1 := hcc24 1 _ rfl)); (try (try simp only [show (k61).sz = 4 from rfl, Nat.mul_one, Nat.add_zero, Int.toNat_natCast] at hx24_1)); (try (have hf24_1 := hfr24 1)); (try (try simp only [show (k61).sz = 4 from rfl, Nat.mul_one, Nat.add_zero, Int.toNat_natCast] at hf24_1)); (try (have hx24_2 := hcc24 2 _ rfl)); (try (try simp only [show (k61).sz = 4 from rfl, Nat.mul_one, Nat.add_zero, Int.toNat_natCast] at hx24_2)); (try (have hf24_2 := hfr24 2)); (try (try simp only [show (k61).sz = 4 from rfl, Nat.mul_one, Nat.add_zero, Int.toNat_natCast] at hf24_2)); (try (have hx24_3 := hcc24 3 _ rfl)); (try (try simp only [show (k61).sz = 4 from rfl, Nat.mul_one, Nat.add_zero, Int.toNat_natCast] at hx24_3)); (try (have hf24_3 := hfr24 3)); (try (try simp only [show (k61).sz = 4 from rfl, Nat.mul_one, Nat.add_zero, Int.toNat_natCast] at hf24_3)); (try (clear hcl24 hcc24 hfr24; (try clear hM24))))); refine store_event (t := 61) (p := 71) (v := ?vo_w25) (w1 := ((((wr.setCell ⟨go23, l0.length * 4, none⟩ (.int .i8 1)).setCell ⟨go23, l0.length * 4 + 1, none⟩ (.int .i8 0)).setCell ⟨go23, l0.length * 4 + 2, none⟩ (.int .i8 (IntKind.i8.wrap (x13_1)))).setCell ⟨go23, l0.length * 4 + 3, none⟩ (.int .i8 0))) ?hg ?ho ?hn ?hr ?_; (case ho => rfl); (case hg => rfl); (case hn => rfl); (case hr => first | (go_simp; done) | (go_simp; rfl)); intro w25 hw; have hg : wr.grownBy w25 (some go23) := (by rw [hw]; exact HP24.2); have hp_ : Kd.R k61 61 w25 w0.heap.size (fun k_ => (P0_ k_ ∨ w.heap.size ≤ k_)) (.slice (some ⟨go23, 0, none⟩) x0_1.length co23) y134 := (by rw [hw, Ny134.out]; exact HP24.1); clear HP24; have n0_ := Aside0.mk (hp_); have n1_ := Aside0.mk ((by rw [hw]; exact below_set (below_set (below_set (below_set (HB.out) GB23.out) GB23.out) GB23.out) GB23.out : Below w0.heap.size w0 w25)); have n2_ := Aside0.mk (Kept.of_grown (S := (fun k_ => P0_ k_)) hg (by repeat (first | (with_reducible first | exact HK.out | apply Kept.alloc | apply Kept.drewN | apply Kept.drew) | exact HK.out)) (fun k_ e_ => (HO_0.out.1 k_ e_))); clear HO_0; clear HB; clear HK; have HO_0 := n0_; have HB := n1_; have HK := n2_; clear n0_ n1_ n2_; clear hg hw hp_)); try go_wp2_with (first | ((with_reducible refine gate_store (t := 61) (p := 71) rfl ?_); (try (rw [drewN_self wr]; generalize hq_ : World.drewN wr _ = wr; have n0_ := Aside0.mk (Kd.R_at hq_ HO_0.out); have n1_ := Aside0.mk (kept_at hq_ HK.out); have n2_ := Aside0.mk (below_at hq_ HB.out); clear hq_ HO_0 HK HB; have HO_0 := n0_; have HK := n1_; have HB := n2_; clear n0_ n1_ n2_; (try (have HX24 := Aside0.mk (show Kd.R k61 61 wr w0.heap.size (fun k_ => (P0_ k_ ∨ w.heap.size ≤ k_)) (.slice (some ⟨go23, 0, none⟩) x0_1.length co23) x0_1 from (by (with_reducible repeat (first | apply Kd.R_alloc | apply Kd.R_drewN | apply Kd.R_drew)); exact HO_0.out)))); (try (obtain ⟨ce24, hcl24, hM24, hcc24, hfr24⟩ := Kd.R_elem HX24.out z61 ((l0.length : Int) : Int) (of_decide_eq_true (by first | (with_reducible assumption) | assumption)) (by have h_ : ((l0.length : Int) : Int) < ((x0_1.length : Int) : Int) := of_decide_eq_true (by first | (with_reducible assumption) | assumption); first | exact h_ | (have e_ := (Kd.R_reads' HO_0.out).1; omega) | simpa using h_))); (try (obtain rfl := k61_openM hM24)); (try (have HP24 := Kd.R_seg HX24.out ((l0.length : Int) : Int) (of_decide_eq_true (by first | (with_reducible assumption) | assumption)) (by have h_ : ((l0.length : Int) : Int) < ((x0_1.length : Int) : Int) := of_decide_eq_true (by first | (with_reducible assumption) | assumption); first | exact h_ | (have e_ := (Kd.R_reads' HO_0.out).1; omega) | simpa using h_) (seg := [.int .i8 1, .int .i8 0, .int .i8 (IntKind.i8.wrap (x13_1)), .int .i8 0]) (j := 0) hcl24 hcc24 (show 4 ≤ 4 from by decide) (x' := (⟨1, 0, IntKind.i8.wrap (x13_1), 0⟩ : S61)) (k61_mkM _ _ _ (⟨1, 0, IntKind.i8.wrap (x13_1), 0⟩ : S61) ) (fun _ hk => hk))); (try (have hx24_0 := hcc24 0 _ rfl)); (try (try simp only [show (k61).sz = 4 from rfl, Nat.mul_one, Nat.add_zero, Int.toNat_natCast] at hx24_0)); (try (have hf24_0 := hfr24 0)); (try (try simp only [show (k61).sz = 4 from rfl, Nat.mul_one, Nat.add_zero, Int.toNat_natCast] at hf24_0)); (try (have hx24_1 := hcc24 1 _ rfl)); (try (try simp only [show (k61).sz = 4 from rfl, Nat.mul_one, Nat.add_zero, Int.toNat_natCast] at hx24_1)); (try (have hf24_1 := hfr24 1)); (try (try simp only [show (k61).sz = 4 from rfl, Nat.mul_one, Nat.add_zero, Int.toNat_natCast] at hf24_1)); (try (have hx24_2 := hcc24 2 _ rfl)); (try (try simp only [show (k61).sz = 4 from rfl, Nat.mul_one, Nat.add_zero, Int.toNat_natCast] at hx24_2)); (try (have hf24_2 := hfr24 2)); (try (try simp only [show (k61).sz = 4 from rfl, Nat.mul_one, Nat.add_zero, Int.toNat_natCast] at hf24_2)); (try (have hx24_3 := hcc24 3 _ rfl)); (try (try simp only [show (k61).sz = 4 from rfl, Nat.mul_one, Nat.add_zero, Int.toNat_natCast] at hx24_3)); (try (have hf24_3 := hfr24 3)); (try (try simp only [show (k61).sz = 4 from rfl, Nat.mul_one, Nat.add_zero, Int.toNat_natCast] at hf24_3)); (try (clear hcl24 hcc24 hfr24; (try clear hM24))))); refine store_event (t := 61) (p := 71) (v := ?vo_w25) (w1 := ((((wr.setCell ⟨go23, l0.length * 4, none⟩ (.int .i8 1)).setCell ⟨go23, l0.length * 4 + 1, none⟩ (.int .i8 0)).setCell ⟨go23, l0.length * 4 + 2, none⟩ (.int .i8 (IntKind.i8.wrap (x13_1)))).setCell ⟨go23, l0.length * 4 + 3, none⟩ (.int .i8 0))) ?hg ?ho ?hn ?hr ?_; (case ho => rfl); (case hg => rfl); (case hn => rfl); (case hr => first | (go_simp; done) | (go_simp; rfl)); intro w25 hw; have hg : wr.grownBy w25 (some go23) := (by rw [hw]; exact HP24.2); have hp_ : Kd.R k61 61 w25 w0.heap.size (fun k_ => (P0_ k_ ∨ w.heap.size ≤ k_)) (.slice (some ⟨go23, 0, none⟩) x0_1.length co23) y134 := (by rw [hw, Ny134.out]; exact HP24.1); clear HP24; have n0_ := Aside0.mk (hp_); have n1_ := Aside0.mk ((by rw [hw]; exact below_set (below_set (below_set (below_set (HB.out) GB23.out) GB23.out) GB23.out) GB23.out : Below w0.heap.size w0 w25)); have n2_ := Aside0.mk (Kept.of_grown (S := (fun k_ => P0_ k_)) hg (by repeat (first | (with_reducible first | exact HK.out | apply Kept.alloc | apply Kept.drewN | apply Kept.drew) | exact HK.out)) (fun k_ e_ => (HO_0.out.1 k_ e_))); clear HO_0; clear HB; clear HK; have HO_0 := n0_; have HB := n1_; have HK := n2_; clear n0_ n1_ n2_; clear hg hw hp_)))
                                go_ret
                                exact ⟨_, by first | rfl | (simp [errW_none, errW_some] <;> rfl) | (simp [*, errW_none, errW_some] <;> rfl), by (with_reducible repeat (first | apply Kd.R_alloc | apply Kd.R_drewN | apply Kd.R_drew)); exact HO_0.out, by repeat (first | (with_reducible first | exact HB.out | apply below_alloc | apply pw_below_drewN | apply below_drew1) | exact HB.out), by repeat (first | (with_reducible first | exact HK.out | apply Kept.alloc | apply Kept.drewN | apply Kept.drew) | exact HK.out)⟩
                              · rw [if_neg c22] at H
                                exact absurd H (by simp)
                            · rw [if_neg c21] at H
                              exact absurd H (by simp)
                          · rw [if_neg c20] at H
                            have c20b0 : ((wrap64 ((rd_T43 l4 x13_1).f2)) == (rd l1 (a2 * 25 + a3))) = false := beq_eq_false_iff_ne.mpr c20
                            have c20b1 : ((wrap64 ((rd_T43 l4 x13_1).f2)) != (rd l1 (a2 * 25 + a3))) = true := bne_iff_ne.mpr c20
                            have H' := Aside0.mk H
                            clear H
                            have p131 : 0 ≤ (x13_1 : Int) := of_decide_eq_true (by first | (with_reducible assumption) | assumption)
                            have q131 : x13_1 < (l4.length : Int) := of_decide_eq_true (by first | (with_reducible assumption) | assumption)
                            obtain ⟨ad131, e131, hx131_0, hx131_1, hx131_2⟩ := at_T43 (Kd.C_kept_now HR4.out HK.out) x13_1 p131 q131
                            cases e131
                            replace p131 := eq_true p131
                            replace q131 := eq_true q131
                            have p132 : 0 ≤ (x13_1 : Int) := of_decide_eq_true (by first | (with_reducible assumption) | assumption)
                            have q132 : x13_1 < (l4.length : Int) := of_decide_eq_true (by first | (with_reducible assumption) | assumption)
                            obtain ⟨ad132, e132, hx132_0, hx132_1, hx132_2⟩ := at_T43 (Kd.C_kept_now HR4.out HK.out) x13_1 p132 q132
                            obtain rfl : ad131 = ad132 := (by injection e132)
                            replace p132 := eq_true p132
                            replace q132 := eq_true q132
                            have p133 : 0 ≤ (x13_1 : Int) := of_decide_eq_true (by first | (with_reducible assumption) | assumption)
                            have q133 : x13_1 < (l4.length : Int) := of_decide_eq_true (by first | (with_reducible assumption) | assumption)
                            obtain ⟨ad133, e133, hx133_0, hx133_1, hx133_2⟩ := at_T43 (Kd.C_kept_now HR4.out HK.out) x13_1 p133 q133
                            obtain rfl : ad131 = ad133 := (by injection e133)
                            replace p133 := eq_true p133
                            replace q133 := eq_true q133
                            go_wp2
                            repeat (go_quiet (fail); try go_wp2)
                            go_roundg k1
                            case measure => have := HK1.out; omega
                            case rel => exact ⟨(x0_1), (wrap64 (x13_1 + 1)), (by first | rfl | (simp; done) | (simp [*]; done)), H', ⟨by have := HK1.out; omega⟩, ⟨by (with_reducible repeat (first | apply Kd.R_alloc | apply Kd.R_drewN | apply Kd.R_drew)); exact HO_0.out⟩, ⟨by repeat (first | (with_reducible first | exact HK.out | apply Kept.alloc | apply Kept.drewN | apply Kept.drew) | exact HK.out)⟩, ⟨by repeat (first | (with_reducible first | exact HB.out | apply below_alloc | apply pw_below_drewN | apply below_drew1) | exact HB.out)⟩⟩
                        · rw [if_neg c19] at H
                          have c19b0 : ((wrap64 ((rd_T43 l4 x13_1).f1)) == a3) = false := beq_eq_false_iff_ne.mpr c19
                          have c19b1 : ((wrap64 ((rd_T43 l4 x13_1).f1)) != a3) = true := bne_iff_ne.mpr c19
                          have H' := Aside0.mk H
                          clear H
                          have p131 : 0 ≤ (x13_1 : Int) := of_decide_eq_true (by first | (with_reducible assumption) | assumption)
                          have q131 : x13_1 < (l4.length : Int) := of_decide_eq_true (by first | (with_reducible assumption) | assumption)
                          obtain ⟨ad131, e131, hx131_0, hx131_1, hx131_2⟩ := at_T43 (Kd.C_kept_now HR4.out HK.out) x13_1 p131 q131
                          cases e131
                          replace p131 := eq_true p131
                          replace q131 := eq_true q131
                          have p132 : 0 ≤ (x13_1 : Int) := of_decide_eq_true (by first | (with_reducible assumption) | assumption)
                          have q132 : x13_1 < (l4.length : Int) := of_decide_eq_true (by first | (with_reducible assumption) | assumption)
                          obtain ⟨ad132, e132, hx132_0, hx132_1, hx132_2⟩ := at_T43 (Kd.C_kept_now HR4.out HK.out) x13_1 p132 q132
                          obtain rfl : ad131 = ad132 := (by injection e132)
                          replace p132 := eq_true p132
                          replace q132 := eq_true q132
                          go_wp2
                          repeat (go_quiet (fail); try go_wp2)
                          go_roundg k1
                          case measure => have := HK1.out; omega
                          case rel => exact ⟨(x0_1), (wrap64 (x13_1 + 1)), (by first | rfl | (simp; done) | (simp [*]; done)), H', ⟨by have := HK1.out; omega⟩, ⟨by (with_reducible repeat (first | apply Kd.R_alloc | apply Kd.R_drewN | apply Kd.R_drew)); exact HO_0.out⟩, ⟨by repeat (first | (with_reducible first | exact HK.out | apply Kept.alloc | apply Kept.drewN | apply Kept.drew) | exact HK.out)⟩, ⟨by repeat (first | (with_reducible first | exact HB.out | apply below_alloc | apply pw_below_drewN | apply below_drew1) | exact HB.out)⟩⟩
                      · rw [if_neg c18] at H
                        have c18b0 : ((wrap64 ((rd_T43 l4 x13_1).f0)) == a2) = false := beq_eq_false_iff_ne.mpr c18
                        have c18b1 : ((wrap64 ((rd_T43 l4 x13_1).f0)) != a2) = true := bne_iff_ne.mpr c18
                        have H' := Aside0.mk H
                        clear H
                        have p131 : 0 ≤ (x13_1 : Int) := of_decide_eq_true (by first | (with_reducible assumption) | assumption)
                        have q131 : x13_1 < (l4.length : Int) := of_decide_eq_true (by first | (with_reducible assumption) | assumption)
                        obtain ⟨ad131, e131, hx131_0, hx131_1, hx131_2⟩ := at_T43 (Kd.C_kept_now HR4.out HK.out) x13_1 p131 q131
                        cases e131
                        replace p131 := eq_true p131
                        replace q131 := eq_true q131
                        go_wp2
                        repeat (go_quiet (fail); try go_wp2)
                        go_roundg k1
                        case measure => have := HK1.out; omega
                        case rel => exact ⟨(x0_1), (wrap64 (x13_1 + 1)), (by first | rfl | (simp; done) | (simp [*]; done)), H', ⟨by have := HK1.out; omega⟩, ⟨by (with_reducible repeat (first | apply Kd.R_alloc | apply Kd.R_drewN | apply Kd.R_drew)); exact HO_0.out⟩, ⟨by repeat (first | (with_reducible first | exact HK.out | apply Kept.alloc | apply Kept.drewN | apply Kept.drew) | exact HK.out)⟩, ⟨by repeat (first | (with_reducible first | exact HB.out | apply below_alloc | apply pw_below_drewN | apply below_drew1) | exact HB.out)⟩⟩
                    · rw [if_neg c17] at H
                      exact absurd H (by simp)
                  · rw [if_neg c16] at H
                    have c16b0 : decide (x13_1 < (l4.length : Int)) = false := decide_eq_false c16
                    clear c16
                    have H' := Aside0.mk H
                    clear H
                    go_wp2
                    repeat (go_quiet (fail); try go_wp2)
                    go_loopg [14] k1 (fun kq v14 w' => ∃ (x14_2 : Int), v14 = .int .i64 x14_2 ∧ Aside0 (spec_l04Cut.l1 P_ kq x0_1 l1 a2 a3 l4 (rd l1 (a2 * 25 + a3)) (l0.length : Int) x14_2 = some r) ∧ Aside0 (kq ≤ k1) ∧ Aside0 (Kd.R k61 61 w' w0.heap.size (fun k_ => (P0_ k_ ∨ w.heap.size ≤ k_)) v129 x0_1) ∧ Aside0 (Kept w w' (fun k_ => P0_ k_)) ∧ Aside0 (Below w0.heap.size w0 w'))
                    case atStart => exact ⟨(1), (by first | rfl | (simp; done) | (simp [*]; done)), H', ⟨Nat.le_refl _⟩, ⟨by (with_reducible repeat (first | apply Kd.R_alloc | apply Kd.R_drewN | apply Kd.R_drew)); exact HO_0.out⟩, ⟨by repeat (first | (with_reducible first | exact HK.out | apply Kept.alloc | apply Kept.drewN | apply Kept.drew) | exact HK.out)⟩, ⟨by repeat (first | (with_reducible first | exact HB.out | apply below_alloc | apply pw_below_drewN | apply below_drew1) | exact HB.out)⟩⟩
                    case round =>
                      clear H'
                      try clear c1
                      try clear p1
                      try clear q1
                      try clear hx1
                      try clear c2
                      try clear p2
                      try clear q2
                      try clear hx2
                      try clear c4
                      try clear c6
                      try clear c6b0
                      try clear p6
                      try clear c7
                      try clear c7b0
                      try clear c8
                      try clear c8b0
                      try clear c9
                      try clear c9b0
                      try clear c10
                      try clear c11
                      try clear c11b0
                      try clear c11b1
                      try clear p12
                      try clear q12
                      try clear hx12
                      try clear p13
                      try clear q13
                      try clear hx13
                      try clear c16
                      try clear c16b0
                      try clear c17
                      try clear c17b0
                      try clear c18
                      try clear c18b0
                      try clear c18b1
                      try clear c19
                      try clear c19b0
                      try clear c19b1
                      try clear c20
                      try clear c20b0
                      try clear c20b1
                      try clear c21
                      try clear c21b0
                      try clear c21b1
                      try clear c22
                      try clear c22b0
                      try clear c22b1
                      try clear c23
                      try clear p23
                      try clear q23
                      try clear hx23
                      try clear hf23
                      try clear c24
                      try clear hx24
                      try clear hf24
                      try clear hx127_0
                      try clear hx131_0
                      try clear hx131_1
                      try clear hx131_2
                      try clear hx132_0
                      try clear hx132_1
                      try clear hx132_2
                      try clear hx133_0
                      try clear hx133_1
                      try clear hx133_2
                      try clear hx23_0
                      try clear hx23_1
                      try clear hx23_2
                      try clear hx23_3
                      try clear hx24_0
                      try clear hx24_1
                      try clear hx24_2
                      try clear hx24_3
                      try clear p1
                      try clear p12
                      try clear p127
                      try clear p131
                      try clear p132
                      try clear p133
                      try clear p2
                      try clear p23
                      try clear q1
                      try clear q12
                      try clear q127
                      try clear q131
                      try clear q132
                      try clear q133
                      try clear q23
                      obtain ⟨x14_2, rfl, HA, HK2, HO_0, HK, HB⟩ := hrel
                      cases gk with
                      | zero => exact absurd HA.out (by simp [spec_l04Cut.l1])
                      | succ k2 =>
                        have H := HA.out
                        clear HA
                        simp only [spec_l04Cut.l1] at H
                        by_cases c26 : x14_2 < a2
                        · rw [if_pos c26] at H
                          have c26b0 : decide (x14_2 < a2) = true := decide_eq_true c26
                          clear c26
                          by_cases c27 : 0 ≤ x14_2
                          · rw [if_pos c27] at H
                            have c27b0 : decide (0 ≤ x14_2) = true := decide_eq_true c27
                            clear c27
                            by_cases c28 : x14_2 < 25
                            · rw [if_pos c28] at H
                              have c28b0 : decide (x14_2 < 25) = true := decide_eq_true c28
                              clear c28
                              by_cases c29 : 0 ≤ a3
                              · rw [if_pos c29] at H
                                have c29b0 : decide (0 ≤ a3) = true := decide_eq_true c29
                                clear c29
                                by_cases c30 : a3 < 25
                                · rw [if_pos c30] at H
                                  have c30b0 : decide (a3 < 25) = true := decide_eq_true c30
                                  clear c30
                                  obtain ⟨ji31, hji31⟩ : ∃ j_ : Int, (wrap64 (a2 - x14_2)) = j_ := ⟨_, rfl⟩
                                  replace H : (if 0 ≤ (ji31) then (if (ji31) < 25 then (if (wrap64 ((rd l1 (x14_2 * 25 + a3)) + (rd l1 ((ji31) * 25 + a3)))) = (rd l1 (a2 * 25 + a3)) then ((P_ x0_1 (l0.length : Int) l1 2 x14_2 x14_2 a3 (ji31) a3 l4).bind fun t137 => (some t137)) else (spec_l04Cut.l1 P_ k2 x0_1 l1 a2 a3 l4 (rd l1 (a2 * 25 + a3)) (l0.length : Int) (wrap64 (x14_2 + 1)))) else (none)) else (none)) = some r := by first | (rw [hji31] at H; exact H) | (simp only [hji31] at H ⊢; exact H)
                                  have hji31w : (IntKind.i64.wrap (a2 - x14_2)) = ji31 := (i64_w _).trans hji31
                                  by_cases c32 : 0 ≤ (ji31)
                                  · rw [if_pos c32] at H
                                    have c32b0 : decide (0 ≤ (ji31)) = true := decide_eq_true c32
                                    clear c32
                                    by_cases c33 : (ji31) < 25
                                    · rw [if_pos c33] at H
                                      have c33b0 : decide ((ji31) < 25) = true := decide_eq_true c33
                                      clear c33
                                      by_cases c34 : (wrap64 ((rd l1 (x14_2 * 25 + a3)) + (rd l1 ((ji31) * 25 + a3)))) = (rd l1 (a2 * 25 + a3))
                                      · rw [if_pos c34] at H
                                        have c34b0 : ((wrap64 ((rd l1 (x14_2 * 25 + a3)) + (rd l1 ((ji31) * 25 + a3)))) == (rd l1 (a2 * 25 + a3))) = true := beq_iff_eq.mpr c34
                                        have c34b1 : ((wrap64 ((rd l1 (x14_2 * 25 + a3)) + (rd l1 ((ji31) * 25 + a3)))) != (rd l1 (a2 * 25 + a3))) = false := bne_eq_false_iff_eq.mpr c34
                                        clear c34
                                        replace H := Option.bind_eq_some_iff.mp H
                                        obtain ⟨t137, A350, H⟩ := H
                                        replace H : (some t137) = some r := H
                                        have A35 := Aside0.mk A350
                                        clear A350
                                        obtain rfl := Option.some.inj H
                                        have pi135 : 0 ≤ x14_2 := (of_decide_eq_true (by first | (with_reducible assumption) | assumption))
                                        have qi135 : x14_2 < 25 := (of_decide_eq_true (by first | (with_reducible assumption) | assumption))
                                        have pj135 : 0 ≤ a3 := (of_decide_eq_true (by first | (with_reducible assumption) | assumption))
                                        have qj135 : a3 < 25 := (of_decide_eq_true (by first | (with_reducible assumption) | assumption))
                                        have hx135_0 := spec_l04Cut.tcell (HR1.out _ HK.out) HC1.out (x14_2) (a3) pi135 qi135 pj135 qj135
                                        replace pi135 := eq_true pi135
                                        replace qi135 := eq_true qi135
                                        replace pj135 := eq_true pj135
                                        replace qj135 := eq_true qj135
                                        have pi136 : 0 ≤ (ji31) := (of_decide_eq_true (by first | (with_reducible assumption) | assumption))
                                        have qi136 : (ji31) < 25 := (of_decide_eq_true (by first | (with_reducible assumption) | assumption))
                                        have pj136 : 0 ≤ a3 := (of_decide_eq_true (by first | (with_reducible assumption) | assumption))
                                        have qj136 : a3 < 25 := (of_decide_eq_true (by first | (with_reducible assumption) | assumption))
                                        have hx136_0 := spec_l04Cut.tcell (HR1.out _ HK.out) HC1.out ((ji31)) (a3) pi136 qi136 pj136 qj136
                                        replace pi136 := eq_true pi136
                                        replace qi136 := eq_true qi136
                                        replace pj136 := eq_true pj136
                                        replace qj136 := eq_true qj136
                                        obtain ⟨Ao36, co36, eo36⟩ := Kd.R_slice HO_0.out
                                        subst eo36
                                        go_wp2_with (first | (go_at_call 33; (with_reducible refine (HP (fun k_ => some k_ = (.slice Ao36 x0_1.length co36 : Value).ownBlock) (.slice Ao36 x0_1.length co36) x0_1 (l0.length : Int) gt l1 2 x14_2 x14_2 a3 ji31 a3 _ _ l4 t137 w0 _ ?side1 ?side2 ?side3 ?side4 ?side5 ?side6 A35.out).mono ?_); (case side1 => repeat (first | (with_reducible first | exact HB.out | apply below_alloc | apply pw_below_drewN | apply below_drew1) | exact HB.out)); (case side2 => exact Kd.R_tight rfl HO_0.out); (case side3 => exact spec_l04Cut.kept_call HR1.out (by repeat (first | (with_reducible first | exact HK.out | apply Kept.alloc | apply Kept.drewN | apply Kept.drew) | exact HK.out)) (fun k_ hs_ => (fun e_ => (HO_0.out.1 k_ e_.symm)) hs_)); (case side4 => exact HC1.out); (case side5 => exact Kd.C_kept_call HR4.out (by repeat (first | (with_reducible first | exact HK.out | apply Kept.alloc | apply Kept.drewN | apply Kept.drew) | exact HK.out)) (fun k_ hs_ => (fun e_ => (HO_0.out.1 k_ e_.symm)) hs_)); (case side6 => exact HC4.out); rintro e w37 ⟨v138, rfl, ho0, hb, hkp⟩; have n0_ := Aside0.mk (Kd.R_mono (ok' := fun k_ => (P0_ k_ ∨ w.heap.size ≤ k_)) ho0 (fun k_ hk_ => Or.elim hk_ (fun hs_ => (HO_0.out.1 k_ (hs_).symm)) (fun hn_ => (.inr (Nat.le_trans (by first | exact HK.out.1 | exact (show Kept w _ (fun k_ => P0_ k_) from by repeat (first | (with_reducible first | exact HK.out | apply Kept.alloc | apply Kept.drewN | apply Kept.drew) | exact HK.out)).1) hn_))))); have n1_ := Aside0.mk (Kept.then_ (S := (fun k_ => P0_ k_)) (by repeat (first | (with_reducible first | exact HK.out | apply Kept.alloc | apply Kept.drewN | apply Kept.drew) | exact HK.out)) hkp (fun k_ hs_ => (fun e_ => (HO_0.out.1 k_ e_.symm)) hs_)); have n2_ := Aside0.mk (hb); clear HK; clear HB; clear HO_0; have HO139 := n0_; have HK := n1_; have HB := n2_; clear n0_ n1_ n2_; (try clear hb); (try clear hkp); (try clear ho0)))
                                        repeat (go_quiet (first | (go_at_call 33; (with_reducible refine (HP (fun k_ => some k_ = (.slice Ao36 x0_1.length co36 : Value).ownBlock) (.slice Ao36 x0_1.length co36) x0_1 (l0.length : Int) gt l1 2 x14_2 x14_2 a3 ji31 a3 _ _ l4 t137 w0 _ ?side1 ?side2 ?side3 ?side4 ?side5 ?side6 A35.out).mono ?_); (case side1 => repeat (first | (with_reducible first | exact HB.out | apply below_alloc | apply pw_below_drewN | apply below_drew1) | exact HB.out)); (case side2 => exact Kd.R_tight rfl HO_0.out); (case side3 => exact spec_l04Cut.kept_call HR1.out (by repeat (first | (with_reducible first | exact HK.out | apply Kept.alloc | apply Kept.drewN | apply Kept.drew) | exact HK.out)) (fun k_ hs_ => (fun e_ => (HO_0.out.1 k_ e_.symm)) hs_)); (case side4 => exact HC1.out); (case side5 => exact Kd.C_kept_call HR4.out (by repeat (first | (with_reducible first | exact HK.out | apply Kept.alloc | apply Kept.drewN | apply Kept.drew) | exact HK.out)) (fun k_ hs_ => (fun e_ => (HO_0.out.1 k_ e_.symm)) hs_)); (case side6 => exact HC4.out); rintro e w37 ⟨v138, rfl, ho0, hb, hkp⟩; have n0_ := Aside0.mk (Kd.R_mono (ok' := fun k_ => (P0_ k_ ∨ w.heap.size ≤ k_)) ho0 (fun k_ hk_ => Or.elim hk_ (fun hs_ => (HO_0.out.1 k_ (hs_).symm)) (fun hn_ => (.inr (Nat.le_trans (by first | exact HK.out.1 | exact (show Kept w _ (fun k_ => P0_ k_) from by repeat (first | (with_reducible first | exact HK.out | apply Kept.alloc | apply Kept.drewN | apply Kept.drew) | exact HK.out)).1) hn_))))); have n1_ := Aside0.mk (Kept.then_ (S := (fun k_ => P0_ k_)) (by repeat (first | (with_reducible first | exact HK.out | apply Kept.alloc | apply Kept.drewN | apply Kept.drew) | exact HK.out)) hkp (fun k_ hs_ => (fun e_ => (HO_0.out.1 k_ e_.symm)) hs_)); have n2_ := Aside0.mk (hb); clear HK; clear HB; clear HO_0; have HO139 := n0_; have HK := n1_; have HB := n2_; clear n0_ n1_ n2_; (try clear hb); (try clear hkp); (try clear ho0))); try go_wp2_with (first | (go_at_call 33; (with_reducible refine (HP (fun k_ => some k_ = (.slice Ao36 x0_1.length co36 : Value).ownBlock) (.slice Ao36 x0_1.length co36) x0_1 (l0.length : Int) gt l1 2 x14_2 x14_2 a3 ji31 a3 _ _ l4 t137 w0 _ ?side1 ?side2 ?side3 ?side4 ?side5 ?side6 A35.out).mono ?_); (case side1 => repeat (first | (with_reducible first | exact HB.out | apply below_alloc | apply pw_below_drewN | apply below_drew1) | exact HB.out)); (case side2 => exact Kd.R_tight rfl HO_0.out); (case side3 => exact spec_l04Cut.kept_call HR1.out (by repeat (first | (with_reducible first | exact HK.out | apply Kept.alloc | apply Kept.drewN | apply Kept.drew) | exact HK.out)) (fun k_ hs_ => (fun e_ => (HO_0.out.1 k_ e_.symm)) hs_)); (case side4 => exact HC1.out); (case side5 => exact Kd.C_kept_call HR4.out (by repeat (first | (with_reducible first | exact HK.out | apply Kept.alloc | apply Kept.drewN | apply Kept.drew) | exact HK.out)) (fun k_ hs_ => (fun e_ => (HO_0.out.1 k_ e_.symm)) hs_)); (case side6 => exact HC4.out); rintro e w37 ⟨v138, rfl, ho0, hb, hkp⟩; have n0_ := Aside0.mk (Kd.R_mono (ok' := fun k_ => (P0_ k_ ∨ w.heap.size ≤ k_)) ho0 (fun k_ hk_ => Or.elim hk_ (fun hs_ => (HO_0.out.1 k_ (hs_).symm)) (fun hn_ => (.inr (Nat.le_trans (by first | exact HK.out.1 | exact (show Kept w _ (fun k_ => P0_ k_) from by repeat (first | (with_reducible first | exact HK.out | apply Kept.alloc | apply Kept.drewN | apply Kept.drew) | exact HK.out)).1) hn_))))); have n1_ := Aside0.mk (Kept.then_ (S := (fun k_ => P0_ k_)) (by repeat (first | (with_reducible first | exact HK.out | apply Kept.alloc | apply Kept.drewN | apply Kept.drew) | exact HK.out)) hkp (fun k_ hs_ => (fun e_ => (HO_0.out.1 k_ e_.symm)) hs_)); have n2_ := Aside0.mk (hb); clear HK; clear HB; clear HO_0; have HO139 := n0_; have HK := n1_; have HB := n2_; clear n0_ n1_ n2_; (try clear hb); (try clear hkp); (try clear ho0))))
                                        go_ret
                                        exact ⟨_, by first | rfl | (simp [errW_none, errW_some] <;> rfl) | (simp only [← hji31]; first | rfl | (simp [errW_none, errW_some] <;> rfl)) | (simp [*, errW_none, errW_some] <;> rfl), by (with_reducible repeat (first | apply Kd.R_alloc | apply Kd.R_drewN | apply Kd.R_drew)); exact HO139.out, by repeat (first | (with_reducible first | exact HB.out | apply below_alloc | apply pw_below_drewN | apply below_drew1) | exact HB.out), by repeat (first | (with_reducible first | exact HK.out | apply Kept.alloc | apply Kept.drewN | apply Kept.drew) | exact HK.out)⟩
                                      · rw [if_neg c34] at H
                                        have c34b0 : ((wrap64 ((rd l1 (x14_2 * 25 + a3)) + (rd l1 ((ji31) * 25 + a3)))) == (rd l1 (a2 * 25 + a3))) = false := beq_eq_false_iff_ne.mpr c34
                                        have c34b1 : ((wrap64 ((rd l1 (x14_2 * 25 + a3)) + (rd l1 ((ji31) * 25 + a3)))) != (rd l1 (a2 * 25 + a3))) = true := bne_iff_ne.mpr c34
                                        have H' := Aside0.mk H
                                        clear H
                                        have pi135 : 0 ≤ x14_2 := (of_decide_eq_true (by first | (with_reducible assumption) | assumption))
                                        have qi135 : x14_2 < 25 := (of_decide_eq_true (by first | (with_reducible assumption) | assumption))
                                        have pj135 : 0 ≤ a3 := (of_decide_eq_true (by first | (with_reducible assumption) | assumption))
                                        have qj135 : a3 < 25 := (of_decide_eq_true (by first | (with_reducible assumption) | assumption))
                                        have hx135_0 := spec_l04Cut.tcell (HR1.out _ HK.out) HC1.out (x14_2) (a3) pi135 qi135 pj135 qj135
                                        replace pi135 := eq_true pi135
                                        replace qi135 := eq_true qi135
                                        replace pj135 := eq_true pj135
                                        replace qj135 := eq_true qj135
                                        have pi136 : 0 ≤ (ji31) := (of_decide_eq_true (by first | (with_reducible assumption) | assumption))
                                        have qi136 : (ji31) < 25 := (of_decide_eq_true (by first | (with_reducible assumption) | assumption))
                                        have pj136 : 0 ≤ a3 := (of_decide_eq_true (by first | (with_reducible assumption) | assumption))
                                        have qj136 : a3 < 25 := (of_decide_eq_true (by first | (with_reducible assumption) | assumption))
                                        have hx136_0 := spec_l04Cut.tcell (HR1.out _ HK.out) HC1.out ((ji31)) (a3) pi136 qi136 pj136 qj136
                                        replace pi136 := eq_true pi136
                                        replace qi136 := eq_true qi136
                                        replace pj136 := eq_true pj136
                                        replace qj136 := eq_true qj136
                                        go_wp2
                                        repeat (go_quiet (fail); try go_wp2)
                                        go_roundg k2
                                        case measure => have := HK1.out; have := HK2.out; omega
                                        case rel => exact ⟨(wrap64 (x14_2 + 1)), (by first | rfl | (simp; done) | (simp [*]; done)), H', ⟨by have := HK1.out; have := HK2.out; omega⟩, ⟨by (with_reducible repeat (first | apply Kd.R_alloc | apply Kd.R_drewN | apply Kd.R_drew)); exact HO_0.out⟩, ⟨by repeat (first | (with_reducible first | exact HK.out | apply Kept.alloc | apply Kept.drewN | apply Kept.drew) | exact HK.out)⟩, ⟨by repeat (first | (with_reducible first | exact HB.out | apply below_alloc | apply pw_below_drewN | apply below_drew1) | exact HB.out)⟩⟩
                                    · rw [if_neg c33] at H
                                      exact absurd H (by simp)
                                  · rw [if_neg c32] at H
                                    exact absurd H (by simp)
                                · rw [if_neg c30] at H
                                  exact absurd H (by simp)
                              · rw [if_neg c29] at H
                                exact absurd H (by simp)
                            · rw [if_neg c28] at H
                              exact absurd H (by simp)
                          · rw [if_neg c27] at H
                            exact absurd H (by simp)
                        · rw [if_neg c26] at H
                          have c26b0 : decide (x14_2 < a2) = false := decide_eq_false c26
                          clear c26
                          have H' := Aside0.mk H
                          clear H
                          go_wp2
                          repeat (go_quiet (fail); try go_wp2)
                          go_loopg [15] k2 (fun kq v15 w' => ∃ (x15_3 : Int), v15 = .int .i64 x15_3 ∧ Aside0 (spec_l04Cut.l2 P_ kq x0_1 l1 a2 a3 l4 (rd l1 (a2 * 25 + a3)) (l0.length : Int) x15_3 = some r) ∧ Aside0 (kq ≤ k2) ∧ Aside0 (Kd.R k61 61 w' w0.heap.size (fun k_ => (P0_ k_ ∨ w.heap.size ≤ k_)) v129 x0_1) ∧ Aside0 (Kept w w' (fun k_ => P0_ k_)) ∧ Aside0 (Below w0.heap.size w0 w'))
                          case atStart => exact ⟨(1), (by first | rfl | (simp; done) | (simp [*]; done)), H', ⟨Nat.le_refl _⟩, ⟨by (with_reducible repeat (first | apply Kd.R_alloc | apply Kd.R_drewN | apply Kd.R_drew)); exact HO_0.out⟩, ⟨by repeat (first | (with_reducible first | exact HK.out | apply Kept.alloc | apply Kept.drewN | apply Kept.drew) | exact HK.out)⟩, ⟨by repeat (first | (with_reducible first | exact HB.out | apply below_alloc | apply pw_below_drewN | apply below_drew1) | exact HB.out)⟩⟩
                          case round =>
                            clear H'
                            try clear c1
                            try clear p1
                            try clear q1
                            try clear hx1
                            try clear c2
                            try clear p2
                            try clear q2
                            try clear hx2
                            try clear c3
                            try clear c4
                            try clear c6
                            try clear c6b0
                            try clear p6
                            try clear c7
                            try clear c7b0
                            try clear c8
                            try clear c8b0
                            try clear c9
                            try clear c9b0
                            try clear c10
                            try clear c11
                            try clear c11b0
                            try clear c11b1
                            try clear p12
                            try clear q12
                            try clear hx12
                            try clear p13
                            try clear q13
                            try clear hx13
                            try clear c16
                            try clear c16b0
                            try clear c17
                            try clear c17b0
                            try clear c18
                            try clear c18b0
                            try clear c18b1
                            try clear c19
                            try clear c19b0
                            try clear c19b1
                            try clear c20
                            try clear c20b0
                            try clear c20b1
                            try clear c21
                            try clear c21b0
                            try clear c21b1
                            try clear c22
                            try clear c22b0
                            try clear c22b1
                            try clear c23
                            try clear p23
                            try clear q23
                            try clear hx23
                            try clear hf23
                            try clear c24
                            try clear hx24
                            try clear hf24
                            try clear c26
                            try clear c26b0
                            try clear c27
                            try clear c27b0
                            try clear c28
                            try clear c28b0
                            try clear c29
                            try clear c29b0
                            try clear c30
                            try clear c30b0
                            try clear c32
                            try clear c32b0
                            try clear c33
                            try clear c33b0
                            try clear c34
                            try clear c34b0
                            try clear c34b1
                            try clear hx127_0
                            try clear hx131_0
                            try clear hx131_1
                            try clear hx131_2
                            try clear hx132_0
                            try clear hx132_1
                            try clear hx132_2
                            try clear hx133_0
                            try clear hx133_1
                            try clear hx133_2
                            try clear hx135_0
                            try clear hx136_0
                            try clear hx23_0
                            try clear hx23_1
                            try clear hx23_2
                            try clear hx23_3
                            try clear hx24_0
                            try clear hx24_1
                            try clear hx24_2
                            try clear hx24_3
                            try clear p1
                            try clear p12
                            try clear p127
                            try clear p13
                            try clear p131
                            try clear p132
                            try clear p133
                            try clear p135
                            try clear p136
                            try clear p2
                            try clear p23
                            try clear p6
                            try clear q1
                            try clear q12
                            try clear q127
                            try clear q13
                            try clear q131
                            try clear q132
                            try clear q133
                            try clear q135
                            try clear q136
                            try clear q2
                            try clear q23
                            obtain ⟨x15_3, rfl, HA, HK3, HO_0, HK, HB⟩ := hrel
                            cases gk with
                            | zero => exact absurd HA.out (by simp [spec_l04Cut.l2])
                            | succ k3 =>
                              have H := HA.out
                              clear HA
                              simp only [spec_l04Cut.l2] at H
                              by_cases c38 : 0 ≤ a2
                              · rw [if_pos c38] at H
                                have c38b0 : decide (0 ≤ a2) = true := decide_eq_true c38
                                clear c38
                                by_cases c39 : a2 < 25
                                · rw [if_pos c39] at H
                                  have c39b0 : decide (a2 < 25) = true := decide_eq_true c39
                                  clear c39
                                  by_cases c40 : 0 ≤ x15_3
                                  · rw [if_pos c40] at H
                                    have c40b0 : decide (0 ≤ x15_3) = true := decide_eq_true c40
                                    clear c40
                                    by_cases c41 : x15_3 < 25
                                    · rw [if_pos c41] at H
                                      have c41b0 : decide (x15_3 < 25) = true := decide_eq_true c41
                                      clear c41
                                      obtain ⟨ji42, hji42⟩ : ∃ j_ : Int, (wrap64 (a3 - x15_3)) = j_ := ⟨_, rfl⟩
                                      replace H : (if 0 ≤ (ji42) then (if (ji42) < 25 then (if (wrap64 ((rd l1 (a2 * 25 + x15_3)) + (rd l1 (a2 * 25 + (ji42))))) = (rd l1 (a2 * 25 + a3)) then ((P_ x0_1 (l0.length : Int) l1 3 x15_3 a2 x15_3 a2 (ji42) l4).bind fun t142 => (some t142)) else (spec_l04Cut.l2 P_ k3 x0_1 l1 a2 a3 l4 (rd l1 (a2 * 25 + a3)) (l0.length : Int) (wrap64 (x15_3 + 1)))) else (none)) else (none)) = some r := by first | (rw [hji42] at H; exact H) | (simp only [hji42] at H ⊢; exact H)
                                      have hji42w : (IntKind.i64.wrap (a3 - x15_3)) = ji42 := (i64_w _).trans hji42
                                      by_cases c43 : 0 ≤ (ji42)
                                      · rw [if_pos c43] at H
                                        have c43b0 : decide (0 ≤ (ji42)) = true := decide_eq_true c43
                                        clear c43
                                        by_cases c44 : (ji42) < 25
                                        · rw [if_pos c44] at H
                                          have c44b0 : decide ((ji42) < 25) = true := decide_eq_true c44
                                          clear c44
                                          by_cases c45 : (wrap64 ((rd l1 (a2 * 25 + x15_3)) + (rd l1 (a2 * 25 + (ji42))))) = (rd l1 (a2 * 25 + a3))
                                          · rw [if_pos c45] at H
                                            have c45b0 : ((wrap64 ((rd l1 (a2 * 25 + x15_3)) + (rd l1 (a2 * 25 + (ji42))))) == (rd l1 (a2 * 25 + a3))) = true := beq_iff_eq.mpr c45
                                            have c45b1 : ((wrap64 ((rd l1 (a2 * 25 + x15_3)) + (rd l1 (a2 * 25 + (ji42))))) != (rd l1 (a2 * 25 + a3))) = false := bne_eq_false_iff_eq.mpr c45
                                            clear c45
                                            replace H := Option.bind_eq_some_iff.mp H
                                            obtain ⟨t142, A460, H⟩ := H
                                            replace H : (some t142) = some r := H
                                            have A46 := Aside0.mk A460
                                            clear A460
                                            obtain rfl := Option.some.inj H
                                            have pi140 : 0 ≤ a2 := (of_decide_eq_true (by first | (with_reducible assumption) | assumption))
                                            have qi140 : a2 < 25 := (of_decide_eq_true (by first | (with_reducible assumption) | assumption))
                                            have pj140 : 0 ≤ x15_3 := (of_decide_eq_true (by first | (with_reducible assumption) | assumption))
                                            have qj140 : x15_3 < 25 := (of_decide_eq_true (by first | (with_reducible assumption) | assumption))
                                            have hx140_0 := spec_l04Cut.tcell (HR1.out _ HK.out) HC1.out (a2) (x15_3) pi140 qi140 pj140 qj140
                                            replace pi140 := eq_true pi140
                                            replace qi140 := eq_true qi140
                                            replace pj140 := eq_true pj140
                                            replace qj140 := eq_true qj140
                                            have pi141 : 0 ≤ a2 := (of_decide_eq_true (by first | (with_reducible assumption) | assumption))
                                            have qi141 : a2 < 25 := (of_decide_eq_true (by first | (with_reducible assumption) | assumption))
                                            have pj141 : 0 ≤ (ji42) := (of_decide_eq_true (by first | (with_reducible assumption) | assumption))
                                            have qj141 : (ji42) < 25 := (of_decide_eq_true (by first | (with_reducible assumption) | assumption))
                                            have hx141_0 := spec_l04Cut.tcell (HR1.out _ HK.out) HC1.out (a2) ((ji42)) pi141 qi141 pj141 qj141
                                            replace pi141 := eq_true pi141
                                            replace qi141 := eq_true qi141
                                            replace pj141 := eq_true pj141
                                            replace qj141 := eq_true qj141
                                            obtain ⟨Ao47, co47, eo47⟩ := Kd.R_slice HO_0.out
                                            subst eo47
                                            go_wp2_with (first | (go_at_call 33; (with_reducible refine (HP (fun k_ => some k_ = (.slice Ao47 x0_1.length co47 : Value).ownBlock) (.slice Ao47 x0_1.length co47) x0_1 (l0.length : Int) gt l1 3 x15_3 a2 x15_3 a2 ji42 _ _ l4 t142 w0 _ ?side1 ?side2 ?side3 ?side4 ?side5 ?side6 A46.out).mono ?_); (case side1 => repeat (first | (with_reducible first | exact HB.out | apply below_alloc | apply pw_below_drewN | apply below_drew1) | exact HB.out)); (case side2 => exact Kd.R_tight rfl HO_0.out); (case side3 => exact spec_l04Cut.kept_call HR1.out (by repeat (first | (with_reducible first | exact HK.out | apply Kept.alloc | apply Kept.drewN | apply Kept.drew) | exact HK.out)) (fun k_ hs_ => (fun e_ => (HO_0.out.1 k_ e_.symm)) hs_)); (case side4 => exact HC1.out); (case side5 => exact Kd.C_kept_call HR4.out (by repeat (first | (with_reducible first | exact HK.out | apply Kept.alloc | apply Kept.drewN | apply Kept.drew) | exact HK.out)) (fun k_ hs_ => (fun e_ => (HO_0.out.1 k_ e_.symm)) hs_)); (case side6 => exact HC4.out); rintro e w48 ⟨v143, rfl, ho0, hb, hkp⟩; have n0_ := Aside0.mk (Kd.R_mono (ok' := fun k_ => (P0_ k_ ∨ w.heap.size ≤ k_)) ho0 (fun k_ hk_ => Or.elim hk_ (fun hs_ => (HO_0.out.1 k_ (hs_).symm)) (fun hn_ => (.inr (Nat.le_trans (by first | exact HK.out.1 | exact (show Kept w _ (fun k_ => P0_ k_) from by repeat (first | (with_reducible first | exact HK.out | apply Kept.alloc | apply Kept.drewN | apply Kept.drew) | exact HK.out)).1) hn_))))); have n1_ := Aside0.mk (Kept.then_ (S := (fun k_ => P0_ k_)) (by repeat (first | (with_reducible first | exact HK.out | apply Kept.alloc | apply Kept.drewN | apply Kept.drew) | exact HK.out)) hkp (fun k_ hs_ => (fun e_ => (HO_0.out.1 k_ e_.symm)) hs_)); have n2_ := Aside0.mk (hb); clear HK; clear HB; clear HO_0; have HO144 := n0_; have HK := n1_; have HB := n2_; clear n0_ n1_ n2_; (try clear hb); (try clear hkp); (try clear ho0)))
                                            repeat (go_quiet (first | (go_at_call 33; (with_reducible refine (HP (fun k_ => some k_ = (.slice Ao47 x0_1.length co47 : Value).ownBlock) (.slice Ao47 x0_1.length co47) x0_1 (l0.length : Int) gt l1 3 x15_3 a2 x15_3 a2 ji42 _ _ l4 t142 w0 _ ?side1 ?side2 ?side3 ?side4 ?side5 ?side6 A46.out).mono ?_); (case side1 => repeat (first | (with_reducible first | exact HB.out | apply below_alloc | apply pw_below_drewN | apply below_drew1) | exact HB.out)); (case side2 => exact Kd.R_tight rfl HO_0.out); (case side3 => exact spec_l04Cut.kept_call HR1.out (by repeat (first | (with_reducible first | exact HK.out | apply Kept.alloc | apply Kept.drewN | apply Kept.drew) | exact HK.out)) (fun k_ hs_ => (fun e_ => (HO_0.out.1 k_ e_.symm)) hs_)); (case side4 => exact HC1.out); (case side5 => exact Kd.C_kept_call HR4.out (by repeat (first | (with_reducible first | exact HK.out | apply Kept.alloc | apply Kept.drewN | apply Kept.drew) | exact HK.out)) (fun k_ hs_ => (fun e_ => (HO_0.out.1 k_ e_.symm)) hs_)); (case side6 => exact HC4.out); rintro e w48 ⟨v143, rfl, ho0, hb, hkp⟩; have n0_ := Aside0.mk (Kd.R_mono (ok' := fun k_ => (P0_ k_ ∨ w.heap.size ≤ k_)) ho0 (fun k_ hk_ => Or.elim hk_ (fun hs_ => (HO_0.out.1 k_ (hs_).symm)) (fun hn_ => (.inr (Nat.le_trans (by first | exact HK.out.1 | exact (show Kept w _ (fun k_ => P0_ k_) from by repeat (first | (with_reducible first | exact HK.out | apply Kept.alloc | apply Kept.drewN | apply Kept.drew) | exact HK.out)).1) hn_))))); have n1_ := Aside0.mk (Kept.then_ (S := (fun k_ => P0_ k_)) (by repeat (first | (with_reducible first | exact HK.out | apply Kept.alloc | apply Kept.drewN | apply Kept.drew) | exact HK.out)) hkp (fun k_ hs_ => (fun e_ => (HO_0.out.1 k_ e_.symm)) hs_)); have n2_ := Aside0.mk (hb); clear HK; clear HB; clear HO_0; have HO144 := n0_; have HK := n1_; have HB := n2_; clear n0_ n1_ n2_; (try clear hb); (try clear hkp); (try clear ho0))); try go_wp2_with (first | (go_at_call 33; (with_reducible refine (HP (fun k_ => some k_ = (.slice Ao47 x0_1.length co47 : Value).ownBlock) (.slice Ao47 x0_1.length co47) x0_1 (l0.length : Int) gt l1 3 x15_3 a2 x15_3 a2 ji42 _ _ l4 t142 w0 _ ?side1 ?side2 ?side3 ?side4 ?side5 ?side6 A46.out).mono ?_); (case side1 => repeat (first | (with_reducible first | exact HB.out | apply below_alloc | apply pw_below_drewN | apply below_drew1) | exact HB.out)); (case side2 => exact Kd.R_tight rfl HO_0.out); (case side3 => exact spec_l04Cut.kept_call HR1.out (by repeat (first | (with_reducible first | exact HK.out | apply Kept.alloc | apply Kept.drewN | apply Kept.drew) | exact HK.out)) (fun k_ hs_ => (fun e_ => (HO_0.out.1 k_ e_.symm)) hs_)); (case side4 => exact HC1.out); (case side5 => exact Kd.C_kept_call HR4.out (by repeat (first | (with_reducible first | exact HK.out | apply Kept.alloc | apply Kept.drewN | apply Kept.drew) | exact HK.out)) (fun k_ hs_ => (fun e_ => (HO_0.out.1 k_ e_.symm)) hs_)); (case side6 => exact HC4.out); rintro e w48 ⟨v143, rfl, ho0, hb, hkp⟩; have n0_ := Aside0.mk (Kd.R_mono (ok' := fun k_ => (P0_ k_ ∨ w.heap.size ≤ k_)) ho0 (fun k_ hk_ => Or.elim hk_ (fun hs_ => (HO_0.out.1 k_ (hs_).symm)) (fun hn_ => (.inr (Nat.le_trans (by first | exact HK.out.1 | exact (show Kept w _ (fun k_ => P0_ k_) from by repeat (first | (with_reducible first | exact HK.out | apply Kept.alloc | apply Kept.drewN | apply Kept.drew) | exact HK.out)).1) hn_))))); have n1_ := Aside0.mk (Kept.then_ (S := (fun k_ => P0_ k_)) (by repeat (first | (with_reducible first | exact HK.out | apply Kept.alloc | apply Kept.drewN | apply Kept.drew) | exact HK.out)) hkp (fun k_ hs_ => (fun e_ => (HO_0.out.1 k_ e_.symm)) hs_)); have n2_ := Aside0.mk (hb); clear HK; clear HB; clear HO_0; have HO144 := n0_; have HK := n1_; have HB := n2_; clear n0_ n1_ n2_; (try clear hb); (try clear hkp); (try clear ho0))))
                                            go_ret
                                            exact ⟨_, by first | rfl | (simp [errW_none, errW_some] <;> rfl) | (simp only [← hji42]; first | rfl | (simp [errW_none, errW_some] <;> rfl)) | (simp [*, errW_none, errW_some] <;> rfl), by (with_reducible repeat (first | apply Kd.R_alloc | apply Kd.R_drewN | apply Kd.R_drew)); exact HO144.out, by repeat (first | (with_reducible first | exact HB.out | apply below_alloc | apply pw_below_drewN | apply below_drew1) | exact HB.out), by repeat (first | (with_reducible first | exact HK.out | apply Kept.alloc | apply Kept.drewN | apply Kept.drew) | exact HK.out)⟩
                                          · rw [if_neg c45] at H
                                            have c45b0 : ((wrap64 ((rd l1 (a2 * 25 + x15_3)) + (rd l1 (a2 * 25 + (ji42))))) == (rd l1 (a2 * 25 + a3))) = false := beq_eq_false_iff_ne.mpr c45
                                            have c45b1 : ((wrap64 ((rd l1 (a2 * 25 + x15_3)) + (rd l1 (a2 * 25 + (ji42))))) != (rd l1 (a2 * 25 + a3))) = true := bne_iff_ne.mpr c45
                                            have H' := Aside0.mk H
                                            clear H
                                            have pi140 : 0 ≤ a2 := (of_decide_eq_true (by first | (with_reducible assumption) | assumption))
                                            have qi140 : a2 < 25 := (of_decide_eq_true (by first | (with_reducible assumption) | assumption))
                                            have pj140 : 0 ≤ x15_3 := (of_decide_eq_true (by first | (with_reducible assumption) | assumption))
                                            have qj140 : x15_3 < 25 := (of_decide_eq_true (by first | (with_reducible assumption) | assumption))
                                            have hx140_0 := spec_l04Cut.tcell (HR1.out _ HK.out) HC1.out (a2) (x15_3) pi140 qi140 pj140 qj140
                                            replace pi140 := eq_true pi140
                                            replace qi140 := eq_true qi140
                                            replace pj140 := eq_true pj140
                                            replace qj140 := eq_true qj140
                                            have pi141 : 0 ≤ a2 := (of_decide_eq_true (by first | (with_reducible assumption) | assumption))
                                            have qi141 : a2 < 25 := (of_decide_eq_true (by first | (with_reducible assumption) | assumption))
                                            have pj141 : 0 ≤ (ji42) := (of_decide_eq_true (by first | (with_reducible assumption) | assumption))
                                            have qj141 : (ji42) < 25 := (of_decide_eq_true (by first | (with_reducible assumption) | assumption))
                                            have hx141_0 := spec_l04Cut.tcell (HR1.out _ HK.out) HC1.out (a2) ((ji42)) pi141 qi141 pj141 qj141
                                            replace pi141 := eq_true pi141
                                            replace qi141 := eq_true qi141
                                            replace pj141 := eq_true pj141
                                            replace qj141 := eq_true qj141
                                            go_wp2
                                            repeat (go_quiet (fail); try go_wp2)
                                            go_roundg k3
                                            case measure => have := HK1.out; have := HK2.out; have := HK3.out; omega
                                            case rel => exact ⟨(wrap64 (x15_3 + 1)), (by first | rfl | (simp; done) | (simp [*]; done)), H', ⟨by have := HK1.out; have := HK2.out; have := HK3.out; omega⟩, ⟨by (with_reducible repeat (first | apply Kd.R_alloc | apply Kd.R_drewN | apply Kd.R_drew)); exact HO_0.out⟩, ⟨by repeat (first | (with_reducible first | exact HK.out | apply Kept.alloc | apply Kept.drewN | apply Kept.drew) | exact HK.out)⟩, ⟨by repeat (first | (with_reducible first | exact HB.out | apply below_alloc | apply pw_below_drewN | apply below_drew1) | exact HB.out)⟩⟩
                                        · rw [if_neg c44] at H
                                          exact absurd H (by simp)
                                      · rw [if_neg c43] at H
                                        exact absurd H (by simp)
                                    · rw [if_neg c41] at H
                                      exact absurd H (by simp)
                                  · rw [if_neg c40] at H
                                    exact absurd H (by simp)
                                · rw [if_neg c39] at H
                                  exact absurd H (by simp)
                              · rw [if_neg c38] at H
                                exact absurd H (by simp)
          · rw [if_neg c10] at H
            exact absurd H (by simp)
        · rw [if_neg c9] at H
          exact absurd H (by simp)
      · rw [if_neg c8] at H
        exact absurd H (by simp)
    · rw [if_neg c7] at H
      exact absurd H (by simp)
  · rw [if_neg c6] at H
    exact absurd H (by simp)
theorem spec_l04Cut.calls : ∀ (k : Nat) (P0_ : Nat → Prop) (u9000_ : Value) (l0 : List (S61)) (gt : Nat) (l1 : List Int) (a2 : Int) (a3 : Int) (A4 : Option Addr) (c4 : Nat) (l4 : List (S43)) (r : List (S61)) (w0 w : World) (hB : Below w0.heap.size w0 w) (ho0 : Kd.R k61 61 w w0.heap.size P0_ u9000_ l0) (hr1 : ∀ W_, Kept w W_ (fun k_ => P0_ k_) → W_.heap[gt]? = some (.cells (spec_l04Worth.cs l1) 38 (0, 0))) (hc1 : l1.length = 625) (hr4 : ∀ W_, Kept w W_ (fun k_ => P0_ k_) → Kd.C k43 W_ A4 l4.length l4) (hc4 : l4.length ≤ c4) (h : spec_l04Cut.f k l0 l1 a2 a3 l4 = some r),
    Calls Try.prog 24 #[u9000_, .pointer (some ⟨gt, 0, none⟩), .int .i64 a2, .int .i64 a3, .slice A4 l4.length c4] w fun e w' => ∃ v0_ : Value, e = .returned (v0_) ∧ Kd.R k61 61 w' w0.heap.size (fun k_ => (P0_ k_ ∨ w.heap.size ≤ k_)) v0_ r ∧ Below w0.heap.size w0 w' ∧ Kept w w' (fun k_ => P0_ k_)
  | 0, P0_, u9000_, l0, gt, l1, a2, a3, A4, c4, l4, r, w0, w, _, _, _, _, _, _, h => absurd h (by simp [spec_l04Cut.f])
  | k + 1, P0_, u9000_, l0, gt, l1, a2, a3, A4, c4, l4, r, w0, w, hB, ho0, hr1, hc1, hr4, hc4, h =>
    spec_l04Cut.callsB (spec_l04Cut.q (spec_l04Cut.f k)) (spec_l04Cut.callsQ (spec_l04Cut.f k) (spec_l04Cut.calls k)) k P0_ u9000_ l0 gt l1 a2 a3 A4 c4 l4 r w0 w hB ho0 hr1 hc1 hr4 hc4 h

end Go.Proofs.Ytpkbamcfncambaa.PA
