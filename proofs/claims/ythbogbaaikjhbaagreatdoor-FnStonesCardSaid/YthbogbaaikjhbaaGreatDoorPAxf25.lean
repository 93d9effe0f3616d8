/- Pure functions, and that Go's functions come to them. -/
import Derived.Test.YthbogbaaikjhbaaGreatDoorPAx0
import Derived.Test.YthbogbaaikjhbaaGreatDoorPAxm29
import Derived.Test.YthbogbaaikjhbaaGreatDoorPAxm17
import Derived.Test.YthbogbaaikjhbaaGreatDoorPAxf59
import Derived.Test.YthbogbaaikjhbaaGreatDoorPAxgSpec
namespace Go.Proofs.YthbogbaaikjhbaaGreatDoor.PA
open Go.RowKit Go.Proofs.YthbogbaaikjhbaaGreatDoorW.PrintWords Go.Proofs.YthbogbaaikjhbaaGreatDoorW.PrintLast Go.Proofs.YthbogbaaikjhbaaGreatDoorW.PrintMore
set_option linter.unusedVariables false
set_option linter.unusedSimpArgs false

attribute [local go_sem high] eqA43
/-! ### spec_HullOf: function 25 -/
mutual
def spec_HullOf.l0 : Nat → List (S43) → Int → Option ((List (S43)) × Int)
 | 0, _, _ => none
 | k + 1, x0, x4 => if x4 < (x0.length : Int) then (if 0 ≤ x4 then ((spec_l03Corner.f ((rd_T43 x0 x4).f0) ((rd_T43 x0 x4).f1)).bind fun t131 => (if t131 = true then (spec_HullOf.l0 k x0 (wrap64 (x4 + 1))) else (some ((([] : List (S43))), 2)))) else (none)) else (if (x0.length : Int) = 0 then (some ((([] : List (S43))), 4)) else (if 0 < (x0.length : Int) then (spec_HullOf.l1 k x0 1 ((rd_T43 x0 0).f0) ((rd_T43 x0 0).f1)) else (none)))
def spec_HullOf.l1 : Nat → List (S43) → Int → Int → Int → Option ((List (S43)) × Int)
 | 0, _, _, _, _ => none
 | k + 1, x0, x6, x140000, x140001 => if x6 < (x0.length : Int) then (if 0 ≤ x6 then ((spec_l03Before.f ((rd_T43 x0 x6).f0) ((rd_T43 x0 x6).f1) x140000 x140001).bind fun t141 => (if t141 = true then (spec_HullOf.l1 k x0 (wrap64 (x6 + 1)) ((rd_T43 x0 x6).f0) ((rd_T43 x0 x6).f1)) else (spec_HullOf.l1 k x0 (wrap64 (x6 + 1)) x140000 x140001))) else (none)) else (spec_HullOf.l2 k x0 (([] : List (S43))) x140000 x140001 x140000 x140001)
def spec_HullOf.l2 : Nat → List (S43) → List (S43) → Int → Int → Int → Int → Option ((List (S43)) × Int)
 | 0, _, _, _, _, _, _ => none
 | k + 1, x0, x7, x140000, x140001, x147000, x147001 => if x7.length < 35184372088832 then (spec_HullOf.l3 k x0 (x7 ++ [(⟨x147000, x147001⟩ : S43)]) 0 x140000 x140001 x147000 x147001 x147000 x147001) else (none)
def spec_HullOf.l3 : Nat → List (S43) → List (S43) → Int → Int → Int → Int → Int → Int → Int → Option ((List (S43)) × Int)
 | 0, _, _, _, _, _, _, _, _, _ => none
 | k + 1, x0, x7, x10, x140000, x140001, x147000, x147001, x151000, x151001 => if x10 < (x0.length : Int) then (if 0 ≤ x10 then (if (((rd_T43 x0 x10).f0) == x147000 && (((rd_T43 x0 x10).f1) == x147001)) = true then (spec_HullOf.l3 k x0 x7 (wrap64 (x10 + 1)) x140000 x140001 x147000 x147001 x151000 x151001) else ((spec_l03Side.f x147000 x147001 x151000 x151001 ((rd_T43 x0 x10).f0) ((rd_T43 x0 x10).f1)).bind fun t153 => (if (x151000 == x147000 && (x151001 == x147001)) = true then (spec_HullOf.l3 k x0 x7 (wrap64 (x10 + 1)) x140000 x140001 x147000 x147001 ((rd_T43 x0 x10).f0) ((rd_T43 x0 x10).f1)) else (if t153 < 0 then (spec_HullOf.l3 k x0 x7 (wrap64 (x10 + 1)) x140000 x140001 x147000 x147001 ((rd_T43 x0 x10).f0) ((rd_T43 x0 x10).f1)) else (if t153 = 0 then ((spec_l03Between.f x151000 x151001 x147000 x147001 ((rd_T43 x0 x10).f0) ((rd_T43 x0 x10).f1)).bind fun t154 => (if t154 = true then (spec_HullOf.l3 k x0 x7 (wrap64 (x10 + 1)) x140000 x140001 x147000 x147001 ((rd_T43 x0 x10).f0) ((rd_T43 x0 x10).f1)) else (spec_HullOf.l3 k x0 x7 (wrap64 (x10 + 1)) x140000 x140001 x147000 x147001 x151000 x151001))) else (spec_HullOf.l3 k x0 x7 (wrap64 (x10 + 1)) x140000 x140001 x147000 x147001 x151000 x151001)))))) else (none)) else (if (x151000 == x140000 && (x151001 == x140001)) = true then (if (x7.length : Int) < 3 then (some ((([] : List (S43))), 4)) else (if (x7.length : Int) > 8 then (some ((([] : List (S43))), 3)) else (some (x7, 0)))) else (spec_HullOf.l2 k x0 x7 x140000 x140001 x151000 x151001))
end
def spec_HullOf.f (k : Nat) (l0 : List (S43)) : Option ((List (S43)) × Int) := if (l0.length : Int) > 100 then (some ((([] : List (S43))), 2)) else (spec_HullOf.l0 k l0 0)
theorem spec_HullOf.mono_l : ∀ k, (∀ y0 y1, LeO (spec_HullOf.l0 k y0 y1) (spec_HullOf.l0 (k + 1) y0 y1)) ∧ (∀ y0 y1 y2 y3, LeO (spec_HullOf.l1 k y0 y1 y2 y3) (spec_HullOf.l1 (k + 1) y0 y1 y2 y3)) ∧ (∀ y0 y1 y2 y3 y4 y5, LeO (spec_HullOf.l2 k y0 y1 y2 y3 y4 y5) (spec_HullOf.l2 (k + 1) y0 y1 y2 y3 y4 y5)) ∧ (∀ y0 y1 y2 y3 y4 y5 y6 y7 y8, LeO (spec_HullOf.l3 k y0 y1 y2 y3 y4 y5 y6 y7 y8) (spec_HullOf.l3 (k + 1) y0 y1 y2 y3 y4 y5 y6 y7 y8))
 | 0 => ⟨fun _ _ r h => by simp [spec_HullOf.l0] at h, fun _ _ _ _ r h => by simp [spec_HullOf.l1] at h, fun _ _ _ _ _ _ r h => by simp [spec_HullOf.l2] at h, fun _ _ _ _ _ _ _ _ _ r h => by simp [spec_HullOf.l3] at h⟩
 | k + 1 => by
  obtain ⟨ih0, ih1, ih2, ih3⟩ := spec_HullOf.mono_l k
  refine ⟨?_, ?_, ?_, ?_⟩ <;> intros
  all_goals first | unfold spec_HullOf.l0 | unfold spec_HullOf.l1 | unfold spec_HullOf.l2 | unfold spec_HullOf.l3
  all_goals repeat' first | (with_reducible first | exact ih0 _ _ | exact ih1 _ _ _ _ | exact ih2 _ _ _ _ _ _ | exact ih3 _ _ _ _ _ _ _ _ _ | exact LeO.refl _ | exact LeO.none _ | refine LeO.ite ?_ ?_ | refine LeO.bind ?_ (fun _ => ?_))
theorem spec_HullOf.mono : ∀ a0 k, LeO (spec_HullOf.f k a0) (spec_HullOf.f (k + 1) a0) := by
 intro a0 k
 obtain ⟨ih0, ih1, ih2, ih3⟩ := spec_HullOf.mono_l k
 unfold spec_HullOf.f
 repeat' first | (with_reducible first | exact ih0 _ _ | exact ih1 _ _ _ _ | exact ih2 _ _ _ _ _ _ | exact ih3 _ _ _ _ _ _ _ _ _ | exact LeO.refl _ | exact LeO.none _ | refine LeO.ite ?_ ?_ | refine LeO.bind ?_ (fun _ => ?_))
set_option maxHeartbeats 8000000 in
set_option maxRecDepth 100000 in
theorem spec_HullOf.calls (k : Nat) (A0 : Option Addr) (c0 : Nat) (l0 : List (S43)) (r1 : List (S43)) (r2 : Int) (w : World) (hr0 : Kd.C k43 w A0 l0.length l0) (hc0 : l0.length ≤ c0) (h : spec_HullOf.f k l0 = some (r1, r2)) :
  Calls Tryz.prog 25 #[.slice A0 l0.length c0] w fun e w' => ∃ v0_ : Value, e = .returned (.tuple #[v0_, .int .i64 r2]) ∧ Kd.R k43 43 w' w.heap.size (fun _ => True) v0_ r1 ∧ Below w.heap.size w w' := by
 have hu43 := Tryz.underlying43
 have HR0 := Aside0.mk hr0
 have HC0 := Aside0.mk hc0
 clear hr0 hc0
 have HB := Aside0.mk (Below.refl w.heap.size w)
 have H : (if (l0.length : Int) > 100 then (some ((([] : List (S43))), 2)) else (spec_HullOf.l0 k l0 0)) = some (r1, r2) := h
 clear h
 by_cases c2 : (l0.length : Int) > 100
 ·
  rw [if_pos c2] at H
  have c2b0 : decide (100 < (l0.length : Int)) = true := decide_eq_true c2
  have c2b1 : decide (100 < l0.length) = true := decide_eq_true (by omega)
  clear c2
  obtain ⟨y127, hy127⟩ : ∃ y_ : List (S43), y_ = (([] : List (S43))) := ⟨_, rfl⟩
  replace H : (some (y127, 2)) = some (r1, r2) := by first | (rw [hy127]; with_reducible exact H) | (have H2_ := (Option.bind_some _ _).symm.trans H; rw [hy127]; with_reducible exact H2_) | (have H2_ := (Option.bind_some _ _).symm.trans H; with_reducible exact H2_) | with_reducible exact H | (rw [hy127]; exact H) | exact H
  have Ny127 := Aside0.mk hy127
  clear hy127
  simp only [Option.some.injEq, Prod.mk.injEq] at H
  obtain ⟨rfl, rfl⟩ := H
  go_enter Tryz.func25, Tryz.ntmps25
  go_wp2_with (first | ((with_reducible refine gate_dst (N := 16) rfl ?_); refine Kd.R_lit k43 _ 43 ?hg (N := 16) ?hd (xs := ([] : List (S43))) (inner := []) (ok := fun _ => True) (okp := fun _ => True) ?hr ?hp (fun _ hk => hk) trivial (Below.refl _ _) (Nat.le_refl _) (by simp) ?_; (case hd => rfl); (case hg => rfl); (case hr => first | (go_simp; done) | (go_simp; rfl)); (case hp => exact (Reps.none _ _)); intro v128 w3 ho4 hb hg_ hnew_; clear hg_ hnew_; (first | rw [← Ny127.out] at ho4 | (simp only [Int.reduceToNat] at ho4; rw [← Ny127.out] at ho4)); have HO129 := Aside0.mk (Kd.R_lower ho4 (below_size (kB_ HB))); replace HB := Aside0.mk (below_step (kB_ HB) hb); clear hb ho4))
  go_ret2
  exact ⟨_, by first | rfl | (simp [errW_none, errW_some] <;> rfl) | (simp [*, errW_none, errW_some] <;> rfl), by (with_reducible repeat (first | apply Kd.R_alloc | apply Kd.R_drewN | apply Kd.R_drew)); exact HO129.out, kB_ HB⟩
 rw [if_neg c2] at H
 have c2b0 : decide (100 < (l0.length : Int)) = false := decide_eq_false c2
 have c2b1 : decide (100 < l0.length) = false := decide_eq_false (by omega)
 clear c2
 have H' := Aside0.mk H
 clear H
 go_enter Tryz.func25, Tryz.ntmps25
 go_wp2
 go_loopg [4] k (fun kq v4 w' => ∃ (x4_1 : Int), v4 = .int .i64 x4_1 ∧ Aside0 (spec_HullOf.l0 kq l0 x4_1 = some (r1, r2)) ∧ Aside0 (kq ≤ k) ∧ Aside0 (Below w.heap.size w w'))
 case atStart => exact ⟨(0), (by first | rfl | (simp; done) | (simp [*]; done)), H', ⟨Nat.le_refl _⟩, ⟨kB_ HB⟩⟩
 case round =>
  clear H'
  obtain ⟨x4_1, rfl, HA, HK1, HB⟩ := hrel
  rcases gk with _ | k1
  · exact absurd HA.out (by simp [spec_HullOf.l0])
  have H := HA.out
  clear HA
  simp only [spec_HullOf.l0] at H
  by_cases c5 : x4_1 < (l0.length : Int)
  ·
   rw [if_pos c5] at H
   have c5b0 : decide (x4_1 < (l0.length : Int)) = true := decide_eq_true c5
   clear c5
   obtain ⟨c6b0, H⟩ := gx_ H
   obtain ⟨t131, A7, H⟩ := be_ H
   (try dsimp only at H)
   by_cases c8 : t131 = true
   ·
    subst c8
    replace H := gt_ H
    have H' := Aside0.mk H
    clear H
    have p130 : 0 ≤ (x4_1 : Int) := od_
    have q130 : x4_1 < (l0.length : Int) := od_
    obtain ⟨ad130, e130, hx130_0, hx130_1⟩ := af_ HB (at_T43 HR0.out x4_1 p130 q130)
    cases e130
    replace p130 := eq_true p130
    replace q130 := eq_true q130
    go_wp2_with (first | ((with_reducible refine gate_callee (f := 56) rfl ?_); refine goM_ (some 27) Tryz.func56 #[.agg #[.int .i16 ((rd_T43 l0 x4_1).f0), .int .i16 ((rd_T43 l0 x4_1).f1)]] ?_; (with_reducible refine (spec_l03Corner.calls ((rd_T43 l0 x4_1).f0) ((rd_T43 l0 x4_1).f1) true _ A7.out).mono ?_); rintro e w9 ⟨rfl, hb⟩; refine ⟨_, rfl, ?_⟩; replace HB := Aside0.mk (below_step (kB_ HB) hb); clear hb))
    go_roundg k1
    case measure => have := HK1.out; omega
    case rel => exact ⟨(wrap64 (x4_1 + 1)), (by first | rfl | (simp; done) | (simp [*]; done)), H', ⟨by have := HK1.out; omega⟩, ⟨kB_ HB⟩⟩
   replace c8 := Bool.eq_false_iff.mpr c8
   subst c8
   replace H := gf_ H
   obtain ⟨y132, hy132⟩ : ∃ y_ : List (S43), y_ = (([] : List (S43))) := ⟨_, rfl⟩
   replace H : (some (y132, 2)) = some (r1, r2) := by first | (rw [hy132]; with_reducible exact H) | (have H2_ := (Option.bind_some _ _).symm.trans H; rw [hy132]; with_reducible exact H2_) | (have H2_ := (Option.bind_some _ _).symm.trans H; with_reducible exact H2_) | with_reducible exact H | (rw [hy132]; exact H) | exact H
   have Ny132 := Aside0.mk hy132
   clear hy132
   simp only [Option.some.injEq, Prod.mk.injEq] at H
   obtain ⟨rfl, rfl⟩ := H
   have p130 : 0 ≤ (x4_1 : Int) := od_
   have q130 : x4_1 < (l0.length : Int) := od_
   obtain ⟨ad130, e130, hx130_0, hx130_1⟩ := af_ HB (at_T43 HR0.out x4_1 p130 q130)
   cases e130
   replace p130 := eq_true p130
   replace q130 := eq_true q130
   go_wp2_with (first | ((with_reducible refine gate_callee (f := 56) rfl ?_); refine goM_ (some 27) Tryz.func56 #[.agg #[.int .i16 ((rd_T43 l0 x4_1).f0), .int .i16 ((rd_T43 l0 x4_1).f1)]] ?_; (with_reducible refine (spec_l03Corner.calls ((rd_T43 l0 x4_1).f0) ((rd_T43 l0 x4_1).f1) false _ A7.out).mono ?_); rintro e w10 ⟨rfl, hb⟩; refine ⟨_, rfl, ?_⟩; replace HB := Aside0.mk (below_step (kB_ HB) hb); clear hb) | ((with_reducible refine gate_dst (N := 29) rfl ?_); refine Kd.R_lit k43 _ 43 ?hg (N := 29) ?hd (xs := ([] : List (S43))) (inner := []) (ok := fun _ => True) (okp := fun _ => True) ?hr ?hp (fun _ hk => hk) trivial (Below.refl _ _) (Nat.le_refl _) (by simp) ?_; (case hd => rfl); (case hg => rfl); (case hr => first | (go_simp; done) | (go_simp; rfl)); (case hp => exact (Reps.none _ _)); intro v133 w11 ho12 hb hg_ hnew_; clear hg_ hnew_; (first | rw [← Ny132.out] at ho12 | (simp only [Int.reduceToNat] at ho12; rw [← Ny132.out] at ho12)); have HO134 := Aside0.mk (Kd.R_lower ho12 (below_size (kB_ HB))); replace HB := Aside0.mk (below_step (kB_ HB) hb); clear hb ho12))
   go_ret2
   exact ⟨_, by first | rfl | (simp [errW_none, errW_some] <;> rfl) | (simp [*, errW_none, errW_some] <;> rfl), by (with_reducible repeat (first | apply Kd.R_alloc | apply Kd.R_drewN | apply Kd.R_drew)); exact HO134.out, kB_ HB⟩
  rw [if_neg c5] at H
  have c5b0 : decide (x4_1 < (l0.length : Int)) = false := decide_eq_false c5
  clear c5
  by_cases c13 : (l0.length : Int) = 0
  ·
   rw [if_pos c13] at H
   have c13b0 : ((l0.length : Int) == 0) = true := beq_iff_eq.mpr c13
   have c13b1 : ((l0.length : Int) != 0) = false := bne_eq_false_iff_eq.mpr c13
   clear c13
   obtain ⟨y135, hy135⟩ : ∃ y_ : List (S43), y_ = (([] : List (S43))) := ⟨_, rfl⟩
   replace H : (some (y135, 4)) = some (r1, r2) := by first | (rw [hy135]; with_reducible exact H) | (have H2_ := (Option.bind_some _ _).symm.trans H; rw [hy135]; with_reducible exact H2_) | (have H2_ := (Option.bind_some _ _).symm.trans H; with_reducible exact H2_) | with_reducible exact H | (rw [hy135]; exact H) | exact H
   have Ny135 := Aside0.mk hy135
   clear hy135
   simp only [Option.some.injEq, Prod.mk.injEq] at H
   obtain ⟨rfl, rfl⟩ := H
   go_wp2_with (first | ((with_reducible refine gate_dst (N := 33) rfl ?_); refine Kd.R_lit k43 _ 43 ?hg (N := 33) ?hd (xs := ([] : List (S43))) (inner := []) (ok := fun _ => True) (okp := fun _ => True) ?hr ?hp (fun _ hk => hk) trivial (Below.refl _ _) (Nat.le_refl _) (by simp) ?_; (case hd => rfl); (case hg => rfl); (case hr => first | (go_simp; done) | (go_simp; rfl)); (case hp => exact (Reps.none _ _)); intro v136 w14 ho15 hb hg_ hnew_; clear hg_ hnew_; (first | rw [← Ny135.out] at ho15 | (simp only [Int.reduceToNat] at ho15; rw [← Ny135.out] at ho15)); have HO137 := Aside0.mk (Kd.R_lower ho15 (below_size (kB_ HB))); replace HB := Aside0.mk (below_step (kB_ HB) hb); clear hb ho15))
   go_ret2
   exact ⟨_, by first | rfl | (simp [errW_none, errW_some] <;> rfl) | (simp [*, errW_none, errW_some] <;> rfl), by (with_reducible repeat (first | apply Kd.R_alloc | apply Kd.R_drewN | apply Kd.R_drew)); exact HO137.out, kB_ HB⟩
  rw [if_neg c13] at H
  have c13b0 : ((l0.length : Int) == 0) = false := beq_eq_false_iff_ne.mpr c13
  have c13b1 : ((l0.length : Int) != 0) = true := bne_iff_ne.mpr c13
  have c13b2 : ¬ (l0 = []) := fun h_ => c13 (by rw [h_]; rfl)
  obtain ⟨(c16 : 0 < (l0.length : Int)), H⟩ := gd_ H
  have c16b0 : decide (0 < (l0.length : Int)) = true := decide_eq_true c16
  have c16b1 : decide (0 < l0.length) = true := decide_eq_true (by omega)
  clear c16
  have H' := Aside0.mk H
  clear H
  have p138 : 0 ≤ (0 : Int) := (by omega)
  have q138 : 0 < (l0.length : Int) := od_
  obtain ⟨ad138, e138, hx138_0, hx138_1⟩ := at_T43 HR0.out 0 p138 q138
  cases e138
  have qi138 : (0 < l0.length) = True := eq_true (by omega)
  (try rw [show ((0 : Int)).toNat = 0 from rfl] at hx138_0)
  (try rw [show 0 * 2 = 0 from rfl] at hx138_0)
  (try rw [Addr.add_zero'] at hx138_0)
  (try rw [show ((0 : Int)).toNat = 0 from rfl] at hx138_1)
  (try rw [show 0 * 2 = 0 from rfl] at hx138_1)
  (try rw [Addr.add_zero'] at hx138_1)
  replace hx138_0 := (hw_ HB hx138_0 :)
  replace hx138_1 := (hw_ HB hx138_1 :)
  replace p138 := eq_true p138
  replace q138 := eq_true q138
  go_wp2_with (first | ((with_reducible refine gate_dst (N := 5) rfl ?_); refine boxM_ 5 #[.int .i16 0, .int .i16 0] 43 ?_; intro gb139 hg w17 hbox hb; have BK139 := Aside0.mk (hbox); have GW139 := Aside0.mk ((by rw [hg]; exact (below_size (kB_ HB)) : w.heap.size ≤ gb139)); have GE139 := Aside0.mk ((by rw [hg]; exact (below_size (kB_ HB)) : w.heap.size ≤ gb139)); replace HB := Aside0.mk (below_step (kB_ HB) hb); clear hb hbox hg; obtain ⟨⟨hcz18_0, hcz18_1⟩, hfz18_0, hfz18_1⟩ := bq_ BK139))
  go_loopg [6] k1 (fun kq v6 w' => ∃ (x6_2 : Int) (x140000_2 : Int) (x140001_2 : Int), v6 = .int .i64 x6_2 ∧ Aside0 (spec_HullOf.l1 kq l0 x6_2 x140000_2 x140001_2 = some (r1, r2)) ∧ Aside0 (kq ≤ k1) ∧ Aside0 (w'.heap[gb139]? = some (.cells #[.int .i16 x140000_2, .int .i16 x140001_2] 43 (0, 0))) ∧ Aside0 (Below w.heap.size w w'))
  case atStart => exact ⟨(1), ((rd_T43 l0 0).f0), ((rd_T43 l0 0).f1), (by first | rfl | (simp; done) | (simp [*]; done)), H', ⟨Nat.le_refl _⟩, ⟨by (with_reducible repeat (first | refine blk_drewN ?_ _ | refine blk_drew ?_ | refine blk_alloc ?_ _)); refine blk_put (cs := #[.int .i16 ((rd_T43 l0 0).f0), .int .i16 0]) ?_ 1 _ rfl; (with_reducible repeat (first | refine blk_drewN ?_ _ | refine blk_drew ?_ | refine blk_alloc ?_ _)); refine blk_put (cs := #[.int .i16 0, .int .i16 0]) ?_ 0 _ rfl; (with_reducible repeat (first | refine blk_drewN ?_ _ | refine blk_drew ?_ | refine blk_alloc ?_ _)); exact BK139.out⟩, ⟨k1_ HB GE139⟩⟩
  case round =>
   clear H'
   obtain ⟨x6_2, x140000_2, x140001_2, rfl, HA, HK2, BK139, HB⟩ := hrel
   rcases gk with _ | k2
   · exact absurd HA.out (by simp [spec_HullOf.l1])
   have H := HA.out
   clear HA
   simp only [spec_HullOf.l1] at H
   by_cases c19 : x6_2 < (l0.length : Int)
   ·
    rw [if_pos c19] at H
    have c19b0 : decide (x6_2 < (l0.length : Int)) = true := decide_eq_true c19
    clear c19
    obtain ⟨c20b0, H⟩ := gx_ H
    obtain ⟨t141, A21, H⟩ := be_ H
    (try dsimp only at H)
    rcases (Decidable.em (t141 = true)).symm with c22 | c22
    ·
     replace c22 := Bool.eq_false_iff.mpr c22
     subst c22
     replace H := gf_ H
     have H' := Aside0.mk H
     clear H
     try go_wp2
     have n0_ := Aside0.mk (blk_drew BK139.out)
     have n1_ := Aside0.mk (below_drew1 HB.out)
     clear BK139
     clear HB
     have BK139 := n0_
     have HB := n1_
     clear n0_ n1_
     have p140 : 0 ≤ (x6_2 : Int) := od_
     have q140 : x6_2 < (l0.length : Int) := od_
     obtain ⟨ad140, e140, hx140_0, hx140_1⟩ := at_T43 HR0.out x6_2 p140 q140
     have hw140_1 := hx140_1
     have hw140_0 := hx140_0
     obtain rfl : ad138 = ad140 := (by injection e140)
     replace hx140_0 := (hw_ HB hx140_0 :)
     replace hx140_1 := (hw_ HB hx140_1 :)
     replace p140 := eq_true p140
     replace q140 := eq_true q140
     refine start_ (n := 6) (S := fun w' => w'.cell? ⟨gb139, 0, none⟩ = some (.int .i16 x140000_2) ∧ w'.cell? ⟨gb139, 1, none⟩ = some (.int .i16 x140001_2) ∧ w'.cell? (ad138.add ((x6_2).toNat * 2)) = some (.int .i16 ((rd_T43 l0 x6_2).f0)) ∧ w'.cell? ⟨(ad138.add ((x6_2).toNat * 2)).block, (ad138.add ((x6_2).toNat * 2)).off + 1, none⟩ = some (.int .i16 ((rd_T43 l0 x6_2).f1))) (ds := []) #[false, false, false, false, false, false] (by kernel_rfl) rfl rfl ⟨(blk_cell BK139.out 0).trans rfl, (blk_cell BK139.out 1).trans rfl, ((hw_ HB hw140_0 :)), ((hw_ HB hw140_1 :))⟩ (fun hHeld => ?_)
     generalize wr.drew = w26 at BK139 HB hx140_0 hx140_1 hHeld ⊢
     refine pure_ (i := 0) (N := some 43) (v := ?_) (a' := ?_) #[true, false, false, false, false, false] rfl rfl (by kernel_rfl) (fun _ _ _ h => h) (Or.inl ⟨by rfl, ?_⟩) ?_ ?_
     rotate_left
     ·
      intro w'
      go_simp
      with_reducible rfl
     rotate_left
     ·
      simp only [Act.put, List.setIfInBounds_toArray, List.set_cons_zero, List.set_cons_succ, i64_w, i32_w]
      rfl
     refine pure_ (i := 1) (N := some 44) (v := ?_) (a' := ?_) #[true, true, false, false, false, false] rfl rfl (by kernel_rfl) (fun _ _ _ h => h) (Or.inl ⟨by rfl, ?_⟩) ?_ ?_
     rotate_left
     ·
      intro w'
      go_simp
      with_reducible rfl
     rotate_left
     ·
      simp only [Act.put, List.setIfInBounds_toArray, List.set_cons_zero, List.set_cons_succ, i64_w, i32_w]
      rfl
     refine pure_ (i := 2) (N := some 45) (v := ?_) (a' := ?_) #[true, true, true, false, false, false] rfl rfl (by kernel_rfl) (fun _ _ _ h => h) (Or.inl ⟨by rfl, ?_⟩) ?_ ?_
     rotate_left
     ·
      intro w'
      go_simp
      with_reducible rfl
     rotate_left
     ·
      simp only [Act.put, List.setIfInBounds_toArray, List.set_cons_zero, List.set_cons_succ, i64_w, i32_w]
      rfl
     refine take_ (i := 3) (N := some 46) (v := ?_) (a' := ?_) #[true, true, true, true, false, false] rfl rfl (by kernel_rfl) (fun _ _ _ h => h) (Or.inl ⟨by rfl, ?_⟩) hHeld ?_ ?_
     rotate_left
     ·
      rintro w' ⟨s0, s1, s2, s3⟩
      go_simp
      with_reducible rfl
     rotate_left
     ·
      simp only [Act.put, List.setIfInBounds_toArray, List.set_cons_zero, List.set_cons_succ, i64_w, i32_w]
      rfl
     refine take_ (i := 4) (N := some 47) (v := ?_) (a' := ?_) #[true, true, true, true, true, false] rfl rfl (by kernel_rfl) (fun _ _ _ h => h) (Or.inl ⟨by rfl, ?_⟩) hHeld ?_ ?_
     rotate_left
     ·
      rintro w' ⟨s0, s1, s2, s3⟩
      go_simp
      with_reducible rfl
     rotate_left
     ·
      simp only [Act.put, List.setIfInBounds_toArray, List.set_cons_zero, List.set_cons_succ, i64_w, i32_w]
      rfl
     refine one_ (i := 5) (N := some 48) #[true, true, true, true, true, true] rfl rfl (by kernel_rfl) (by decide) (fun K hK => ?_)
     refine goes_ Tryz.func57 (by kernel_rfl) rfl #[.agg #[.int .i16 ((rd_T43 l0 x6_2).f0), .int .i16 ((rd_T43 l0 x6_2).f1)], .agg #[.int .i16 x140000_2, .int .i16 x140001_2]] (by rfl) rfl rfl (by (try simp only [List.map_toArray, List.map_cons, List.map_nil]); first | done | rfl | (simp only [List.length_drop, List.length_take]; rfl)) ?_
     with_reducible refine (spec_l03Before.calls ((rd_T43 l0 x6_2).f0) ((rd_T43 l0 x6_2).f1) x140000_2 x140001_2 false _ A21.out).mono ?_
     rintro e w27 ⟨rfl, hb⟩
     refine ⟨_, rfl, ?_⟩
     have n0_ := bd_ BK139 hb
     have n1_ := Aside0.mk (below_step (k1_ HB GE139) hb)
     clear BK139
     clear HB
     have BK139 := n0_
     have HB := n1_
     clear n0_ n1_
     refine hK.out _ _ ⟨(blk_cell BK139.out 0).trans rfl, (blk_cell BK139.out 1).trans rfl, ((hw_ HB hw140_0 :)), ((hw_ HB hw140_1 :))⟩ (fun hHeld => ?_)
     clear hK K
     refine norm_ (a' := ?_) ?_ ?_
     rotate_left
     ·
      show Act.put _ (some 48) _ = _
      simp only [Act.put, List.setIfInBounds_toArray, List.set_cons_zero, List.set_cons_succ, i64_w, i32_w]
      rfl
     refine done_ (by kernel_rfl) ?_
     try go_wp2
     go_roundg k2
     case measure => have := HK1.out; have := HK2.out; omega
     case rel => exact ⟨(wrap64 (x6_2 + 1)), (x140000_2), (x140001_2), (by first | rfl | (simp; done) | (simp [*]; done)), H', ⟨by have := HK1.out; have := HK2.out; omega⟩, ⟨bk_ BK139⟩, ⟨k1_ HB GE139⟩⟩
    subst c22
    replace H := gt_ H
    have H' := Aside0.mk H
    clear H
    try go_wp2
    have n0_ := Aside0.mk (blk_drew BK139.out)
    have n1_ := Aside0.mk (below_drew1 HB.out)
    clear BK139
    clear HB
    have BK139 := n0_
    have HB := n1_
    clear n0_ n1_
    have p140 : 0 ≤ (x6_2 : Int) := od_
    have q140 : x6_2 < (l0.length : Int) := od_
    obtain ⟨ad140, e140, hx140_0, hx140_1⟩ := at_T43 HR0.out x6_2 p140 q140
    have hw140_1 := hx140_1
    have hw140_0 := hx140_0
    obtain rfl : ad138 = ad140 := (by injection e140)
    replace hx140_0 := (hw_ HB hx140_0 :)
    replace hx140_1 := (hw_ HB hx140_1 :)
    replace p140 := eq_true p140
    replace q140 := eq_true q140
    refine start_ (n := 6) (S := fun w' => w'.cell? ⟨gb139, 0, none⟩ = some (.int .i16 x140000_2) ∧ w'.cell? ⟨gb139, 1, none⟩ = some (.int .i16 x140001_2) ∧ w'.cell? (ad138.add ((x6_2).toNat * 2)) = some (.int .i16 ((rd_T43 l0 x6_2).f0)) ∧ w'.cell? ⟨(ad138.add ((x6_2).toNat * 2)).block, (ad138.add ((x6_2).toNat * 2)).off + 1, none⟩ = some (.int .i16 ((rd_T43 l0 x6_2).f1))) (ds := []) #[false, false, false, false, false, false] (by kernel_rfl) rfl rfl ⟨(blk_cell BK139.out 0).trans rfl, (blk_cell BK139.out 1).trans rfl, ((hw_ HB hw140_0 :)), ((hw_ HB hw140_1 :))⟩ (fun hHeld => ?_)
    generalize wr.drew = w23 at BK139 HB hx140_0 hx140_1 hHeld ⊢
    refine pure_ (i := 0) (N := some 43) (v := ?_) (a' := ?_) #[true, false, false, false, false, false] rfl rfl (by kernel_rfl) (fun _ _ _ h => h) (Or.inl ⟨by rfl, ?_⟩) ?_ ?_
    rotate_left
    ·
     intro w'
     go_simp
     with_reducible rfl
    rotate_left
    ·
     simp only [Act.put, List.setIfInBounds_toArray, List.set_cons_zero, List.set_cons_succ, i64_w, i32_w]
     rfl
    refine pure_ (i := 1) (N := some 44) (v := ?_) (a' := ?_) #[true, true, false, false, false, false] rfl rfl (by kernel_rfl) (fun _ _ _ h => h) (Or.inl ⟨by rfl, ?_⟩) ?_ ?_
    rotate_left
    ·
     intro w'
     go_simp
     with_reducible rfl
    rotate_left
    ·
     simp only [Act.put, List.setIfInBounds_toArray, List.set_cons_zero, List.set_cons_succ, i64_w, i32_w]
     rfl
    refine pure_ (i := 2) (N := some 45) (v := ?_) (a' := ?_) #[true, true, true, false, false, false] rfl rfl (by kernel_rfl) (fun _ _ _ h => h) (Or.inl ⟨by rfl, ?_⟩) ?_ ?_
    rotate_left
    ·
     intro w'
     go_simp
     with_reducible rfl
    rotate_left
    ·
     simp only [Act.put, List.setIfInBounds_toArray, List.set_cons_zero, List.set_cons_succ, i64_w, i32_w]
     rfl
    refine take_ (i := 3) (N := some 46) (v := ?_) (a' := ?_) #[true, true, true, true, false, false] rfl rfl (by kernel_rfl) (fun _ _ _ h => h) (Or.inl ⟨by rfl, ?_⟩) hHeld ?_ ?_
    rotate_left
    ·
     rintro w' ⟨s0, s1, s2, s3⟩
     go_simp
     with_reducible rfl
    rotate_left
    ·
     simp only [Act.put, List.setIfInBounds_toArray, List.set_cons_zero, List.set_cons_succ, i64_w, i32_w]
     rfl
    refine take_ (i := 4) (N := some 47) (v := ?_) (a' := ?_) #[true, true, true, true, true, false] rfl rfl (by kernel_rfl) (fun _ _ _ h => h) (Or.inl ⟨by rfl, ?_⟩) hHeld ?_ ?_
    rotate_left
    ·
     rintro w' ⟨s0, s1, s2, s3⟩
     go_simp
     with_reducible rfl
    rotate_left
    ·
     simp only [Act.put, List.setIfInBounds_toArray, List.set_cons_zero, List.set_cons_succ, i64_w, i32_w]
     rfl
    refine one_ (i := 5) (N := some 48) #[true, true, true, true, true, true] rfl rfl (by kernel_rfl) (by decide) (fun K hK => ?_)
    refine goes_ Tryz.func57 (by kernel_rfl) rfl #[.agg #[.int .i16 ((rd_T43 l0 x6_2).f0), .int .i16 ((rd_T43 l0 x6_2).f1)], .agg #[.int .i16 x140000_2, .int .i16 x140001_2]] (by rfl) rfl rfl (by (try simp only [List.map_toArray, List.map_cons, List.map_nil]); first | done | rfl | (simp only [List.length_drop, List.length_take]; rfl)) ?_
    with_reducible refine (spec_l03Before.calls ((rd_T43 l0 x6_2).f0) ((rd_T43 l0 x6_2).f1) x140000_2 x140001_2 true _ A21.out).mono ?_
    rintro e w24 ⟨rfl, hb⟩
    refine ⟨_, rfl, ?_⟩
    have n0_ := bd_ BK139 hb
    have n1_ := Aside0.mk (below_step (k1_ HB GE139) hb)
    clear BK139
    clear HB
    have BK139 := n0_
    have HB := n1_
    clear n0_ n1_
    refine hK.out _ _ ⟨(blk_cell BK139.out 0).trans rfl, (blk_cell BK139.out 1).trans rfl, ((hw_ HB hw140_0 :)), ((hw_ HB hw140_1 :))⟩ (fun hHeld => ?_)
    clear hK K
    refine norm_ (a' := ?_) ?_ ?_
    rotate_left
    ·
     show Act.put _ (some 48) _ = _
     simp only [Act.put, List.setIfInBounds_toArray, List.set_cons_zero, List.set_cons_succ, i64_w, i32_w]
     rfl
    refine done_ (by kernel_rfl) ?_
    have p142 : 0 ≤ (x6_2 : Int) := od_
    have q142 : x6_2 < (l0.length : Int) := od_
    obtain ⟨ad142, e142, hx142_0, hx142_1⟩ := af_ HB (at_T43 HR0.out x6_2 p142 q142)
    obtain rfl : ad138 = ad142 := (by injection e142)
    replace p142 := eq_true p142
    replace q142 := eq_true q142
    obtain ⟨⟨hcz25_0, hcz25_1⟩, hfz25_0, hfz25_1⟩ := bq_ BK139
    try go_wp2
    go_roundg k2
    case measure => have := HK1.out; have := HK2.out; omega
    case rel => exact ⟨(wrap64 (x6_2 + 1)), ((rd_T43 l0 x6_2).f0), ((rd_T43 l0 x6_2).f1), (by first | rfl | (simp; done) | (simp [*]; done)), H', ⟨by have := HK1.out; have := HK2.out; omega⟩, ⟨by (with_reducible repeat (first | refine blk_drewN ?_ _ | refine blk_drew ?_ | refine blk_alloc ?_ _)); refine blk_put (cs := #[.int .i16 ((rd_T43 l0 x6_2).f0), .int .i16 x140001_2]) ?_ 1 _ rfl; (with_reducible repeat (first | refine blk_drewN ?_ _ | refine blk_drew ?_ | refine blk_alloc ?_ _)); refine blk_put (cs := #[.int .i16 x140000_2, .int .i16 x140001_2]) ?_ 0 _ rfl; (with_reducible repeat (first | refine blk_drewN ?_ _ | refine blk_drew ?_ | refine blk_alloc ?_ _)); exact BK139.out⟩, ⟨k1_ HB GE139⟩⟩
   rw [if_neg c19] at H
   have c19b0 : decide (x6_2 < (l0.length : Int)) = false := decide_eq_false c19
   clear c19
   obtain ⟨y143, hy143⟩ : ∃ y_ : List (S43), y_ = (([] : List (S43))) := ⟨_, rfl⟩
   replace H : (spec_HullOf.l2 k2 l0 y143 x140000_2 x140001_2 x140000_2 x140001_2) = some (r1, r2) := by first | (rw [hy143]; with_reducible exact H) | (have H2_ := (Option.bind_some _ _).symm.trans H; rw [hy143]; with_reducible exact H2_) | (have H2_ := (Option.bind_some _ _).symm.trans H; with_reducible exact H2_) | with_reducible exact H | (rw [hy143]; exact H) | exact H
   have Ny143 := Aside0.mk hy143
   clear hy143
   have H' := Aside0.mk H
   clear H
   go_wp2_with (first | ((with_reducible refine gate_dst (N := 53) rfl ?_); refine Kd.R_lit k43 _ 43 ?hg (N := 53) ?hd (xs := ([] : List (S43))) (inner := []) (ok := fun _ => True) (okp := fun _ => True) ?hr ?hp (fun _ hk => hk) trivial (Below.refl _ _) (Nat.le_refl _) (by simp) ?_; (case hd => rfl); (case hg => rfl); (case hr => first | (go_simp; done) | (go_simp; rfl)); (case hp => exact (Reps.none _ _)); intro v144 w28 ho29 hb hg_ hnew_; clear hg_ hnew_; (first | rw [← Ny143.out] at ho29 | (simp only [Int.reduceToNat] at ho29; rw [← Ny143.out] at ho29)); have HO145 := Aside0.mk (Kd.R_lower (Kd.R_newB ho29 (g := gb139) (o := .cells #[.int .i16 x140000_2, .int .i16 x140001_2] 43 (0, 0)) (kb_ BK139)) (below_size (k1_ HB GE139))); replace BK139 := bd_ BK139 hb; replace HB := Aside0.mk (below_step (k1_ HB GE139) hb); clear hb ho29; obtain ⟨⟨hcz30_0, hcz30_1⟩, hfz30_0, hfz30_1⟩ := bq_ BK139) | ((with_reducible refine gate_dst (N := 8) rfl ?_); refine boxM_ 8 #[.int .i16 0, .int .i16 0] 43 ?_; intro gb146 hg w31 hbox hb; replace HO145 := Aside0.mk (Kd.R_below (Kd.R_elderB (kp_ HO145) gb146 (Nat.le_of_eq hg.symm)) hb); have BK146 := Aside0.mk (hbox); have GW146 := Aside0.mk ((by rw [hg]; exact (below_size (k1_ HB GE139)) : w.heap.size ≤ gb146)); have GE146 := Aside0.mk ((by rw [hg]; exact (below_size (k1_ HB GE139)) : w.heap.size ≤ gb146)); replace HB := Aside0.mk (below_step (k1_ HB GE139) hb); have NB139_146 := nl_ BK139 hg; have NB146_139 := ng_ BK139 hg; replace BK139 := bd_ BK139 hb; clear hb hbox hg; have hnb32 := NB146_139.out; have hnc32 := NB139_146.out; obtain ⟨⟨hcz33_0, hcz33_1⟩, hfz33_0, hfz33_1⟩ := bq_ BK146))
   go_loopg [7] k2 (fun kq v7 w' => ∃ (x7_3 : List (S43)) (x147000_3 : Int) (x147001_3 : Int), Aside0 (spec_HullOf.l2 kq l0 x7_3 x140000_2 x140001_2 x147000_3 x147001_3 = some (r1, r2)) ∧ Aside0 (kq ≤ k2) ∧ Aside0 (Kd.R k43 43 w' w.heap.size (fun k_ => k_ ≠ gb139 ∧ k_ ≠ gb146) v7 x7_3) ∧ Aside0 (w'.heap[gb139]? = some (.cells #[.int .i16 x140000_2, .int .i16 x140001_2] 43 (0, 0))) ∧ Aside0 (w'.heap[gb146]? = some (.cells #[.int .i16 x147000_3, .int .i16 x147001_3] 43 (0, 0))) ∧ Aside0 (Below w.heap.size w w'))
   case atStart => exact ⟨(y143), (x140000_2), (x140001_2), H', ⟨Nat.le_refl _⟩, ⟨by (with_reducible repeat (first | apply Kd.R_alloc | apply Kd.R_drewN | apply Kd.R_drew)); exact Kd.R_mono (Kd.R_far (p := ⟨gb146, 1, none⟩) (Kd.R_far (p := ⟨gb146, 0, none⟩) (Kd.R_mono HO145.out (fun k_ hk => (⟨hk, hk.2⟩ : _ ∧ k_ ≠ gb146))) (fun _ hk => hk.2) (.int .i16 x140000_2)) (fun _ hk => hk.2) (.int .i16 x140001_2)) (fun _ hk => ⟨hk.1.1.2, hk.1.2⟩)⟩, ⟨by (with_reducible repeat (first | refine blk_drewN ?_ _ | refine blk_drew ?_ | refine blk_alloc ?_ _)); refine blk_far ?_ NB139_146.out _; (with_reducible repeat (first | refine blk_drewN ?_ _ | refine blk_drew ?_ | refine blk_alloc ?_ _)); refine blk_far ?_ NB139_146.out _; (with_reducible repeat (first | refine blk_drewN ?_ _ | refine blk_drew ?_ | refine blk_alloc ?_ _)); exact BK139.out⟩, ⟨by (with_reducible repeat (first | refine blk_drewN ?_ _ | refine blk_drew ?_ | refine blk_alloc ?_ _)); refine blk_put (cs := #[.int .i16 x140000_2, .int .i16 0]) ?_ 1 _ rfl; (with_reducible repeat (first | refine blk_drewN ?_ _ | refine blk_drew ?_ | refine blk_alloc ?_ _)); refine blk_put (cs := #[.int .i16 0, .int .i16 0]) ?_ 0 _ rfl; (with_reducible repeat (first | refine blk_drewN ?_ _ | refine blk_drew ?_ | refine blk_alloc ?_ _)); exact BK146.out⟩, ⟨k2_ HB GE139 GE146⟩⟩
   case round =>
    clear H'
    obtain ⟨x7_3, x147000_3, x147001_3, HA, HK3, HO_7, BK139, BK146, HB⟩ := hrel
    rcases gk with _ | k3
    · exact absurd HA.out (by simp [spec_HullOf.l2])
    have H := HA.out
    clear HA
    simp only [spec_HullOf.l2] at H
    obtain ⟨(c34 : x7_3.length < 35184372088832), H⟩ := gd_ H
    have LMc34 := Aside0.mk c34
    clear c34
    obtain ⟨y147, hy147⟩ : ∃ y_ : List (S43), y_ = (x7_3 ++ [(⟨x147000_3, x147001_3⟩ : S43)]) := ⟨_, rfl⟩
    replace H : (spec_HullOf.l3 k3 l0 y147 0 x140000_2 x140001_2 x147000_3 x147001_3 x147000_3 x147001_3) = some (r1, r2) := by first | (rw [hy147]; with_reducible exact H) | (have H2_ := (Option.bind_some _ _).symm.trans H; rw [hy147]; with_reducible exact H2_) | (have H2_ := (Option.bind_some _ _).symm.trans H; with_reducible exact H2_) | with_reducible exact H | (rw [hy147]; exact H) | exact H
    have Ny147 := Aside0.mk hy147
    clear hy147
    have H' := Aside0.mk H
    clear H
    have hnb35 := NB146_139.out
    have hnc35 := NB139_146.out
    obtain ⟨⟨hcz36_0, hcz36_1⟩, hfz36_0, hfz36_1⟩ := bq_ BK146
    go_wp2_with (first | ((with_reducible refine gate_builtin (b := .append) (xs := #[.tmp 55, .tmp 57]) rfl ?_); at_builtin; refine Kd.R_append k43 (w0 := w) w.heap.size rfl (.tmp 55) (.tmp 57) 25 43 (.agg #[(.int .i16 0), (.int .i16 0)]) 4 rfl Tryz.underlying25 info43 rfl (by decide) (by omega) u7 x7_3 (⟨x147000_3, x147001_3⟩ : S43) [.int .i16 x147000_3, .int .i16 x147001_3] (fun k_ => k_ ≠ gb139 ∧ k_ ≠ gb146) (fun _ => False) rfl rfl ?aP (fun _ hk => hk.elim) ?aF ?aO ?aB ?aS ?aL ?_; (case aP => exact k43_mkM _ _ _ (⟨x147000_3, x147001_3⟩ : S43)); (case aB => exact (k2_ HB GE139 GE146)); (case aF => exact (fun k_ hk => ⟨Kd.freshB (g := gb139) (o := .cells #[.int .i16 x140000_2, .int .i16 x140001_2] 43 (0, 0)) (kb_ BK139) k_ hk, Kd.freshB (g := gb146) (o := .cells #[.int .i16 x147000_3, .int .i16 x147001_3] 43 (0, 0)) (kb_ BK146) k_ hk⟩)); (case aO => exact (kp_ HO_7)); (case aS => exact (below_size (k2_ HB GE139 GE146))); (case aL => have := LMc34.out; omega); intro v148 w37 ho hb hg hat; rw [← Ny147.out] at ho; have n0_ := Aside0.mk (blk_grown (g := gb139) (o := .cells #[.int .i16 x140000_2, .int .i16 x140001_2] 43 (0, 0)) (kb_ BK139) hg (Kd.R_away HO_7.out (fun _ hk => hk.1))); have n1_ := Aside0.mk (blk_grown (g := gb146) (o := .cells #[.int .i16 x147000_3, .int .i16 x147001_3] 43 (0, 0)) (kb_ BK146) hg (Kd.R_away HO_7.out (fun _ hk => hk.2))); have n2_ := Aside0.mk (hb); have n3_ := Aside0.mk (ho); clear BK139; clear BK146; clear HB; clear HO_7; have BK139 := n0_; have BK146 := n1_; have HB := n2_; have HO149 := n3_; clear n0_ n1_ n2_ n3_; clear ho hb hg hat; obtain ⟨⟨hcz38_0, hcz38_1⟩, hfz38_0, hfz38_1⟩ := bq_ BK146) | ((with_reducible refine gate_dst (N := 9) rfl ?_); refine boxM_ 9 #[.int .i16 0, .int .i16 0] 43 ?_; intro gb150 hg w39 hbox hb; replace HO149 := Aside0.mk (Kd.R_below (Kd.R_elderB (kp_ HO149) gb150 (Nat.le_of_eq hg.symm)) hb); have BK150 := Aside0.mk (hbox); have GW150 := Aside0.mk ((by rw [hg]; exact (below_size (k2_ HB GE139 GE146)) : w.heap.size ≤ gb150)); have GE150 := Aside0.mk ((by rw [hg]; exact (below_size (k2_ HB GE139 GE146)) : w.heap.size ≤ gb150)); replace HB := Aside0.mk (below_step (k2_ HB GE139 GE146) hb); have NB139_150 := nl_ BK139 hg; have NB150_139 := ng_ BK139 hg; replace BK139 := bd_ BK139 hb; have NB146_150 := nl_ BK146 hg; have NB150_146 := ng_ BK146 hg; replace BK146 := bd_ BK146 hb; clear hb hbox hg; have hnb40 := NB150_139.out; have hnc40 := NB139_150.out; have hnb41 := NB150_146.out; have hnc41 := NB146_150.out; obtain ⟨⟨hcz42_0, hcz42_1⟩, hfz42_0, hfz42_1⟩ := bq_ BK150))
    go_loopg [10] k3 (fun kq v10 w' => ∃ (x10_4 : Int) (x151000_4 : Int) (x151001_4 : Int), v10 = .int .i64 x10_4 ∧ Aside0 (spec_HullOf.l3 kq l0 y147 x10_4 x140000_2 x140001_2 x147000_3 x147001_3 x151000_4 x151001_4 = some (r1, r2)) ∧ Aside0 (kq ≤ k3) ∧ Aside0 (Kd.R k43 43 w' w.heap.size (fun k_ => k_ ≠ gb139 ∧ k_ ≠ gb146 ∧ k_ ≠ gb150) v148 y147) ∧ Aside0 (w'.heap[gb139]? = some (.cells #[.int .i16 x140000_2, .int .i16 x140001_2] 43 (0, 0))) ∧ Aside0 (w'.heap[gb146]? = some (.cells #[.int .i16 x147000_3, .int .i16 x147001_3] 43 (0, 0))) ∧ Aside0 (w'.heap[gb150]? = some (.cells #[.int .i16 x151000_4, .int .i16 x151001_4] 43 (0, 0))) ∧ Aside0 (Below w.heap.size w w'))
    case atStart => exact ⟨(0), (x147000_3), (x147001_3), (by first | rfl | (simp; done) | (simp [*]; done)), H', ⟨Nat.le_refl _⟩, ⟨by (with_reducible repeat (first | apply Kd.R_alloc | apply Kd.R_drewN | apply Kd.R_drew)); exact Kd.R_mono (Kd.R_far (p := ⟨gb150, 1, none⟩) (Kd.R_far (p := ⟨gb150, 0, none⟩) (Kd.R_mono HO149.out (fun k_ hk => (⟨hk, hk.2⟩ : _ ∧ k_ ≠ gb150))) (fun _ hk => hk.2) (.int .i16 x147000_3)) (fun _ hk => hk.2) (.int .i16 x147001_3)) (fun _ hk => ⟨hk.1.1.1, ⟨hk.1.1.2, hk.1.2⟩⟩)⟩, ⟨by (with_reducible repeat (first | refine blk_drewN ?_ _ | refine blk_drew ?_ | refine blk_alloc ?_ _)); refine blk_far ?_ NB139_150.out _; (with_reducible repeat (first | refine blk_drewN ?_ _ | refine blk_drew ?_ | refine blk_alloc ?_ _)); refine blk_far ?_ NB139_150.out _; (with_reducible repeat (first | refine blk_drewN ?_ _ | refine blk_drew ?_ | refine blk_alloc ?_ _)); exact BK139.out⟩, ⟨by (with_reducible repeat (first | refine blk_drewN ?_ _ | refine blk_drew ?_ | refine blk_alloc ?_ _)); refine blk_far ?_ NB146_150.out _; (with_reducible repeat (first | refine blk_drewN ?_ _ | refine blk_drew ?_ | refine blk_alloc ?_ _)); refine blk_far ?_ NB146_150.out _; (with_reducible repeat (first | refine blk_drewN ?_ _ | refine blk_drew ?_ | refine blk_alloc ?_ _)); exact BK146.out⟩, ⟨by (with_reducible repeat (first | refine blk_drewN ?_ _ | refine blk_drew ?_ | refine blk_alloc ?_ _)); refine blk_put (cs := #[.int .i16 x147000_3, .int .i16 0]) ?_ 1 _ rfl; (with_reducible repeat (first | refine blk_drewN ?_ _ | refine blk_drew ?_ | refine blk_alloc ?_ _)); refine blk_put (cs := #[.int .i16 0, .int .i16 0]) ?_ 0 _ rfl; (with_reducible repeat (first | refine blk_drewN ?_ _ | refine blk_drew ?_ | refine blk_alloc ?_ _)); exact BK150.out⟩, ⟨k3_ HB GE139 GE146 GE150⟩⟩
    case round =>
     clear H'
     obtain ⟨x10_4, x151000_4, x151001_4, rfl, HA, HK4, HO_7, BK139, BK146, BK150, HB⟩ := hrel
     rcases gk with _ | k4
     · exact absurd HA.out (by simp [spec_HullOf.l3])
     have H := HA.out
     clear HA
     simp only [spec_HullOf.l3] at H
     rcases (Decidable.em (x10_4 < (l0.length : Int))).symm with c43 | c43
     ·
      rw [if_neg c43] at H
      have c43b0 : decide (x10_4 < (l0.length : Int)) = false := decide_eq_false c43
      clear c43
      rcases (Decidable.em ((x151000_4 == x140000_2 && (x151001_4 == x140001_2)) = true)).symm with c133 | c133
      ·
       rw [if_neg c133] at H
       have c133b0 : (x151000_4 == x140000_2 && (x151001_4 == x140001_2)) = false := by simpa using c133
       (try (have c133b1 : decide (x151000_4 = x140000_2 && (x151001_4 == x140001_2)) = false := by simpa using c133))
       (try (have c133b2 : (x151000_4 == x140000_2 && (x151001_4 == x140001_2)) = false := by simpa using c133))
       (try (have c133b3 : ¬ (x151000_4 = x140000_2 && (x151001_4 == x140001_2)) := by simpa using c133))
       clear c133
       have H' := Aside0.mk H
       clear H
       have hnb161 := NB150_139.out
       have hnc161 := NB139_150.out
       have hnb162 := NB150_146.out
       have hnc162 := NB146_150.out
       obtain ⟨⟨hcz163_0, hcz163_1⟩, hfz163_0, hfz163_1⟩ := bq_ BK150
       have hnb164 := NB146_139.out
       have hnc164 := NB139_146.out
       obtain ⟨⟨hcz165_0, hcz165_1⟩, hfz165_0, hfz165_1⟩ := bq_ BK146
       obtain ⟨⟨hcz166_0, hcz166_1⟩, hfz166_0, hfz166_1⟩ := bq_ BK139
       go_wp2
       go_roundg k4
       case measure => have := HK1.out; have := HK2.out; have := HK3.out; have := HK4.out; omega
       case rel => exact ⟨(y147), (x151000_4), (x151001_4), H', ⟨by have := HK1.out; have := HK2.out; have := HK3.out; have := HK4.out; omega⟩, ⟨by (with_reducible repeat (first | apply Kd.R_alloc | apply Kd.R_drewN | apply Kd.R_drew)); exact Kd.R_mono (Kd.R_far (p := ⟨gb146, 1, none⟩) (Kd.R_far (p := ⟨gb146, 0, none⟩) (Kd.R_mono HO_7.out (fun k_ hk => (⟨hk, hk.2.1⟩ : _ ∧ k_ ≠ gb146))) (fun _ hk => hk.2) (.int .i16 x151000_4)) (fun _ hk => hk.2) (.int .i16 x151001_4)) (fun _ hk => ⟨hk.1.1, hk.1.2.1⟩)⟩, ⟨by (with_reducible repeat (first | refine blk_drewN ?_ _ | refine blk_drew ?_ | refine blk_alloc ?_ _)); refine blk_far ?_ NB139_146.out _; (with_reducible repeat (first | refine blk_drewN ?_ _ | refine blk_drew ?_ | refine blk_alloc ?_ _)); refine blk_far ?_ NB139_146.out _; (with_reducible repeat (first | refine blk_drewN ?_ _ | refine blk_drew ?_ | refine blk_alloc ?_ _)); exact BK139.out⟩, ⟨by (with_reducible repeat (first | refine blk_drewN ?_ _ | refine blk_drew ?_ | refine blk_alloc ?_ _)); refine blk_put (cs := #[.int .i16 x151000_4, .int .i16 x147001_3]) ?_ 1 _ rfl; (with_reducible repeat (first | refine blk_drewN ?_ _ | refine blk_drew ?_ | refine blk_alloc ?_ _)); refine blk_put (cs := #[.int .i16 x147000_3, .int .i16 x147001_3]) ?_ 0 _ rfl; (with_reducible repeat (first | refine blk_drewN ?_ _ | refine blk_drew ?_ | refine blk_alloc ?_ _)); exact BK146.out⟩, ⟨k3_ HB GE139 GE146 GE150⟩⟩
      rw [if_pos c133] at H
      have c133b0 : (x151000_4 == x140000_2 && (x151001_4 == x140001_2)) = true := c133
      (try (have c133b1 : decide (x151000_4 = x140000_2 && (x151001_4 == x140001_2)) = true := by simpa using c133))
      (try (have c133b2 : (x151000_4 == x140000_2 && (x151001_4 == x140001_2)) = true := by simpa using c133))
      clear c133
      by_cases c134 : (y147.length : Int) < 3
      ·
       rw [if_pos c134] at H
       have c134b0 : decide ((y147.length : Int) < 3) = true := decide_eq_true c134
       have c134b1 : decide (y147.length < 3) = true := decide_eq_true (by omega)
       clear c134
       obtain ⟨y155, hy155⟩ : ∃ y_ : List (S43), y_ = (([] : List (S43))) := ⟨_, rfl⟩
       replace H : (some (y155, 4)) = some (r1, r2) := by first | (rw [hy155]; with_reducible exact H) | (have H2_ := (Option.bind_some _ _).symm.trans H; rw [hy155]; with_reducible exact H2_) | (have H2_ := (Option.bind_some _ _).symm.trans H; with_reducible exact H2_) | with_reducible exact H | (rw [hy155]; exact H) | exact H
       have Ny155 := Aside0.mk hy155
       clear hy155
       simp only [Option.some.injEq, Prod.mk.injEq] at H
       obtain ⟨rfl, rfl⟩ := H
       have hnb135 := NB150_139.out
       have hnc135 := NB139_150.out
       have hnb136 := NB150_146.out
       have hnc136 := NB146_150.out
       obtain ⟨⟨hcz137_0, hcz137_1⟩, hfz137_0, hfz137_1⟩ := bq_ BK150
       have hnb138 := NB146_139.out
       have hnc138 := NB139_146.out
       obtain ⟨⟨hcz139_0, hcz139_1⟩, hfz139_0, hfz139_1⟩ := bq_ BK146
       obtain ⟨⟨hcz140_0, hcz140_1⟩, hfz140_0, hfz140_1⟩ := bq_ BK139
       obtain ⟨Ao141, co141, eo141⟩ := Kd.R_slice HO_7.out
       subst eo141
       go_wp2_with (first | ((with_reducible refine gate_dst (N := 102) rfl ?_); refine Kd.R_lit k43 _ 43 ?hg (N := 102) ?hd (xs := ([] : List (S43))) (inner := []) (ok := fun _ => True) (okp := fun _ => True) ?hr ?hp (fun _ hk => hk) trivial (Below.refl _ _) (Nat.le_refl _) (by simp) ?_; (case hd => rfl); (case hg => rfl); (case hr => first | (go_simp; done) | (go_simp; rfl)); (case hp => exact (Reps.none _ _)); intro v156 w142 ho143 hb hg_ hnew_; clear hg_ hnew_; (first | rw [← Ny155.out] at ho143 | (simp only [Int.reduceToNat] at ho143; rw [← Ny155.out] at ho143)); have HO157 := Aside0.mk (Kd.R_lower (Kd.R_newB (Kd.R_newB (Kd.R_newB (Kd.R_new' ho143 (Kd.R_lt (by (with_reducible repeat (first | apply Kd.R_alloc | apply Kd.R_drewN | apply Kd.R_drew)); exact (Kd.R_mono (Kd.R_far (p := ⟨gb146, 1, none⟩) (Kd.R_far (p := ⟨gb146, 0, none⟩) (Kd.R_mono HO_7.out (fun k_ hk => (⟨hk, hk.2.1⟩ : _ ∧ k_ ≠ gb146))) (fun _ hk => hk.2) (.int .i16 x151000_4)) (fun _ hk => hk.2) (.int .i16 x151001_4)) (fun _ h_ => h_.1))))) (g := gb139) (o := .cells #[.int .i16 x140000_2, .int .i16 x140001_2] 43 (0, 0)) (by (with_reducible repeat (first | refine blk_drewN ?_ _ | refine blk_drew ?_ | refine blk_alloc ?_ _)); refine blk_far ?_ NB139_146.out _; (with_reducible repeat (first | refine blk_drewN ?_ _ | refine blk_drew ?_ | refine blk_alloc ?_ _)); refine blk_far ?_ NB139_146.out _; (with_reducible repeat (first | refine blk_drewN ?_ _ | refine blk_drew ?_ | refine blk_alloc ?_ _)); exact BK139.out)) (g := gb146) (o := .cells #[.int .i16 x151000_4, .int .i16 x151001_4] 43 (0, 0)) (by (with_reducible repeat (first | refine blk_drewN ?_ _ | refine blk_drew ?_ | refine blk_alloc ?_ _)); refine blk_put (cs := #[.int .i16 x151000_4, .int .i16 x147001_3]) ?_ 1 _ rfl; (with_reducible repeat (first | refine blk_drewN ?_ _ | refine blk_drew ?_ | refine blk_alloc ?_ _)); refine blk_put (cs := #[.int .i16 x147000_3, .int .i16 x147001_3]) ?_ 0 _ rfl; (with_reducible repeat (first | refine blk_drewN ?_ _ | refine blk_drew ?_ | refine blk_alloc ?_ _)); exact BK146.out)) (g := gb150) (o := .cells #[.int .i16 x151000_4, .int .i16 x151001_4] 43 (0, 0)) (by (with_reducible repeat (first | refine blk_drewN ?_ _ | refine blk_drew ?_ | refine blk_alloc ?_ _)); refine blk_far ?_ NB150_146.out _; (with_reducible repeat (first | refine blk_drewN ?_ _ | refine blk_drew ?_ | refine blk_alloc ?_ _)); refine blk_far ?_ NB150_146.out _; (with_reducible repeat (first | refine blk_drewN ?_ _ | refine blk_drew ?_ | refine blk_alloc ?_ _)); exact BK150.out)) (below_size (k3_ HB GE139 GE146 GE150))); replace HO_7 := Aside0.mk (Kd.R_elder' (by (with_reducible repeat (first | apply Kd.R_alloc | apply Kd.R_drewN | apply Kd.R_drew)); exact (Kd.R_mono (Kd.R_far (p := ⟨gb146, 1, none⟩) (Kd.R_far (p := ⟨gb146, 0, none⟩) (Kd.R_mono HO_7.out (fun k_ hk => (⟨hk, hk.2.1⟩ : _ ∧ k_ ≠ gb146))) (fun _ hk => hk.2) (.int .i16 x151000_4)) (fun _ hk => hk.2) (.int .i16 x151001_4)) (fun _ h_ => h_.1))) (Kd.R_base ho143) hb); replace BK139 := Aside0.mk (blk_below (g := gb139) (o := .cells #[.int .i16 x140000_2, .int .i16 x140001_2] 43 (0, 0)) (by (with_reducible repeat (first | refine blk_drewN ?_ _ | refine blk_drew ?_ | refine blk_alloc ?_ _)); refine blk_far ?_ NB139_146.out _; (with_reducible repeat (first | refine blk_drewN ?_ _ | refine blk_drew ?_ | refine blk_alloc ?_ _)); refine blk_far ?_ NB139_146.out _; (with_reducible repeat (first | refine blk_drewN ?_ _ | refine blk_drew ?_ | refine blk_alloc ?_ _)); exact BK139.out) hb); replace BK146 := Aside0.mk (blk_below (g := gb146) (o := .cells #[.int .i16 x151000_4, .int .i16 x151001_4] 43 (0, 0)) (by (with_reducible repeat (first | refine blk_drewN ?_ _ | refine blk_drew ?_ | refine blk_alloc ?_ _)); refine blk_put (cs := #[.int .i16 x151000_4, .int .i16 x147001_3]) ?_ 1 _ rfl; (with_reducible repeat (first | refine blk_drewN ?_ _ | refine blk_drew ?_ | refine blk_alloc ?_ _)); refine blk_put (cs := #[.int .i16 x147000_3, .int .i16 x147001_3]) ?_ 0 _ rfl; (with_reducible repeat (first | refine blk_drewN ?_ _ | refine blk_drew ?_ | refine blk_alloc ?_ _)); exact BK146.out) hb); replace BK150 := Aside0.mk (blk_below (g := gb150) (o := .cells #[.int .i16 x151000_4, .int .i16 x151001_4] 43 (0, 0)) (by (with_reducible repeat (first | refine blk_drewN ?_ _ | refine blk_drew ?_ | refine blk_alloc ?_ _)); refine blk_far ?_ NB150_146.out _; (with_reducible repeat (first | refine blk_drewN ?_ _ | refine blk_drew ?_ | refine blk_alloc ?_ _)); refine blk_far ?_ NB150_146.out _; (with_reducible repeat (first | refine blk_drewN ?_ _ | refine blk_drew ?_ | refine blk_alloc ?_ _)); exact BK150.out) hb); replace HB := Aside0.mk (below_step (k3_ HB GE139 GE146 GE150) hb); clear hb ho143))
       go_ret2
       exact ⟨_, by first | rfl | (simp [errW_none, errW_some] <;> rfl) | (simp [*, errW_none, errW_some] <;> rfl), by (with_reducible repeat (first | apply Kd.R_alloc | apply Kd.R_drewN | apply Kd.R_drew)); exact Kd.R_mono HO157.out (fun _ hk => trivial), k3_ HB GE139 GE146 GE150⟩
      rw [if_neg c134] at H
      have c134b0 : decide ((y147.length : Int) < 3) = false := decide_eq_false c134
      have c134b1 : decide (y147.length < 3) = false := decide_eq_false (by omega)
      clear c134
      rcases (Decidable.em ((y147.length : Int) > 8)).symm with c144 | c144
      ·
       rw [if_neg c144] at H
       have c144b0 : decide (8 < (y147.length : Int)) = false := decide_eq_false c144
       have c144b1 : decide (8 < y147.length) = false := decide_eq_false (by omega)
       clear c144
       simp only [Option.some.injEq, Prod.mk.injEq] at H
       obtain ⟨rfl, rfl⟩ := H
       have hnb154 := NB150_139.out
       have hnc154 := NB139_150.out
       have hnb155 := NB150_146.out
       have hnc155 := NB146_150.out
       obtain ⟨⟨hcz156_0, hcz156_1⟩, hfz156_0, hfz156_1⟩ := bq_ BK150
       have hnb157 := NB146_139.out
       have hnc157 := NB139_146.out
       obtain ⟨⟨hcz158_0, hcz158_1⟩, hfz158_0, hfz158_1⟩ := bq_ BK146
       obtain ⟨⟨hcz159_0, hcz159_1⟩, hfz159_0, hfz159_1⟩ := bq_ BK139
       obtain ⟨Ao160, co160, eo160⟩ := Kd.R_slice HO_7.out
       subst eo160
       go_wp2
       go_ret2
       exact ⟨_, by first | rfl | (simp [errW_none, errW_some] <;> rfl) | (simp [*, errW_none, errW_some] <;> rfl), by (with_reducible repeat (first | apply Kd.R_alloc | apply Kd.R_drewN | apply Kd.R_drew)); exact Kd.R_mono (Kd.R_far (p := ⟨gb146, 1, none⟩) (Kd.R_far (p := ⟨gb146, 0, none⟩) (Kd.R_mono HO_7.out (fun k_ hk => (⟨hk, hk.2.1⟩ : _ ∧ k_ ≠ gb146))) (fun _ hk => hk.2) (.int .i16 x151000_4)) (fun _ hk => hk.2) (.int .i16 x151001_4)) (fun _ hk => trivial), k3_ HB GE139 GE146 GE150⟩
      rw [if_pos c144] at H
      have c144b0 : decide (8 < (y147.length : Int)) = true := decide_eq_true c144
      have c144b1 : decide (8 < y147.length) = true := decide_eq_true (by omega)
      clear c144
      obtain ⟨y158, hy158⟩ : ∃ y_ : List (S43), y_ = (([] : List (S43))) := ⟨_, rfl⟩
      replace H : (some (y158, 3)) = some (r1, r2) := by first | (rw [hy158]; with_reducible exact H) | (have H2_ := (Option.bind_some _ _).symm.trans H; rw [hy158]; with_reducible exact H2_) | (have H2_ := (Option.bind_some _ _).symm.trans H; with_reducible exact H2_) | with_reducible exact H | (rw [hy158]; exact H) | exact H
      have Ny158 := Aside0.mk hy158
      clear hy158
      simp only [Option.some.injEq, Prod.mk.injEq] at H
      obtain ⟨rfl, rfl⟩ := H
      have hnb145 := NB150_139.out
      have hnc145 := NB139_150.out
      have hnb146 := NB150_146.out
      have hnc146 := NB146_150.out
      obtain ⟨⟨hcz147_0, hcz147_1⟩, hfz147_0, hfz147_1⟩ := bq_ BK150
      have hnb148 := NB146_139.out
      have hnc148 := NB139_146.out
      obtain ⟨⟨hcz149_0, hcz149_1⟩, hfz149_0, hfz149_1⟩ := bq_ BK146
      obtain ⟨⟨hcz150_0, hcz150_1⟩, hfz150_0, hfz150_1⟩ := bq_ BK139
      obtain ⟨Ao151, co151, eo151⟩ := Kd.R_slice HO_7.out
      subst eo151
      go_wp2_with (first | ((with_reducible refine gate_dst (N := 106) rfl ?_); refine Kd.R_lit k43 _ 43 ?hg (N := 106) ?hd (xs := ([] : List (S43))) (inner := []) (ok := fun _ => True) (okp := fun _ => True) ?hr ?hp (fun _ hk => hk) trivial (Below.refl _ _) (Nat.le_refl _) (by simp) ?_; (case hd => rfl); (case hg => rfl); (case hr => first | (go_simp; done) | (go_simp; rfl)); (case hp => exact (Reps.none _ _)); intro v159 w152 ho153 hb hg_ hnew_; clear hg_ hnew_; (first | rw [← Ny158.out] at ho153 | (simp only [Int.reduceToNat] at ho153; rw [← Ny158.out] at ho153)); have HO160 := Aside0.mk (Kd.R_lower (Kd.R_newB (Kd.R_newB (Kd.R_newB (Kd.R_new' ho153 (Kd.R_lt (by (with_reducible repeat (first | apply Kd.R_alloc | apply Kd.R_drewN | apply Kd.R_drew)); exact (Kd.R_mono (Kd.R_far (p := ⟨gb146, 1, none⟩) (Kd.R_far (p := ⟨gb146, 0, none⟩) (Kd.R_mono HO_7.out (fun k_ hk => (⟨hk, hk.2.1⟩ : _ ∧ k_ ≠ gb146))) (fun _ hk => hk.2) (.int .i16 x151000_4)) (fun _ hk => hk.2) (.int .i16 x151001_4)) (fun _ h_ => h_.1))))) (g := gb139) (o := .cells #[.int .i16 x140000_2, .int .i16 x140001_2] 43 (0, 0)) (by (with_reducible repeat (first | refine blk_drewN ?_ _ | refine blk_drew ?_ | refine blk_alloc ?_ _)); refine blk_far ?_ NB139_146.out _; (with_reducible repeat (first | refine blk_drewN ?_ _ | refine blk_drew ?_ | refine blk_alloc ?_ _)); refine blk_far ?_ NB139_146.out _; (with_reducible repeat (first | refine blk_drewN ?_ _ | refine blk_drew ?_ | refine blk_alloc ?_ _)); exact BK139.out)) (g := gb146) (o := .cells #[.int .i16 x151000_4, .int .i16 x151001_4] 43 (0, 0)) (by (with_reducible repeat (first | refine blk_drewN ?_ _ | refine blk_drew ?_ | refine blk_alloc ?_ _)); refine blk_put (cs := #[.int .i16 x151000_4, .int .i16 x147001_3]) ?_ 1 _ rfl; (with_reducible repeat (first | refine blk_drewN ?_ _ | refine blk_drew ?_ | refine blk_alloc ?_ _)); refine blk_put (cs := #[.int .i16 x147000_3, .int .i16 x147001_3]) ?_ 0 _ rfl; (with_reducible repeat (first | refine blk_drewN ?_ _ | refine blk_drew ?_ | refine blk_alloc ?_ _)); exact BK146.out)) (g := gb150) (o := .cells #[.int .i16 x151000_4, .int .i16 x151001_4] 43 (0, 0)) (by (with_reducible repeat (first | refine blk_drewN ?_ _ | refine blk_drew ?_ | refine blk_alloc ?_ _)); refine blk_far ?_ NB150_146.out _; (with_reducible repeat (first | refine blk_drewN ?_ _ | refine blk_drew ?_ | refine blk_alloc ?_ _)); refine blk_far ?_ NB150_146.out _; (with_reducible repeat (first | refine blk_drewN ?_ _ | refine blk_drew ?_ | refine blk_alloc ?_ _)); exact BK150.out)) (below_size (k3_ HB GE139 GE146 GE150))); replace HO_7 := Aside0.mk (Kd.R_elder' (by (with_reducible repeat (first | apply Kd.R_alloc | apply Kd.R_drewN | apply Kd.R_drew)); exact (Kd.R_mono (Kd.R_far (p := ⟨gb146, 1, none⟩) (Kd.R_far (p := ⟨gb146, 0, none⟩) (Kd.R_mono HO_7.out (fun k_ hk => (⟨hk, hk.2.1⟩ : _ ∧ k_ ≠ gb146))) (fun _ hk => hk.2) (.int .i16 x151000_4)) (fun _ hk => hk.2) (.int .i16 x151001_4)) (fun _ h_ => h_.1))) (Kd.R_base ho153) hb); replace BK139 := Aside0.mk (blk_below (g := gb139) (o := .cells #[.int .i16 x140000_2, .int .i16 x140001_2] 43 (0, 0)) (by (with_reducible repeat (first | refine blk_drewN ?_ _ | refine blk_drew ?_ | refine blk_alloc ?_ _)); refine blk_far ?_ NB139_146.out _; (with_reducible repeat (first | refine blk_drewN ?_ _ | refine blk_drew ?_ | refine blk_alloc ?_ _)); refine blk_far ?_ NB139_146.out _; (with_reducible repeat (first | refine blk_drewN ?_ _ | refine blk_drew ?_ | refine blk_alloc ?_ _)); exact BK139.out) hb); replace BK146 := Aside0.mk (blk_below (g := gb146) (o := .cells #[.int .i16 x151000_4, .int .i16 x151001_4] 43 (0, 0)) (by (with_reducible repeat (first | refine blk_drewN ?_ _ | refine blk_drew ?_ | refine blk_alloc ?_ _)); refine blk_put (cs := #[.int .i16 x151000_4, .int .i16 x147001_3]) ?_ 1 _ rfl; (with_reducible repeat (first | refine blk_drewN ?_ _ | refine blk_drew ?_ | refine blk_alloc ?_ _)); refine blk_put (cs := #[.int .i16 x147000_3, .int .i16 x147001_3]) ?_ 0 _ rfl; (with_reducible repeat (first | refine blk_drewN ?_ _ | refine blk_drew ?_ | refine blk_alloc ?_ _)); exact BK146.out) hb); replace BK150 := Aside0.mk (blk_below (g := gb150) (o := .cells #[.int .i16 x151000_4, .int .i16 x151001_4] 43 (0, 0)) (by (with_reducible repeat (first | refine blk_drewN ?_ _ | refine blk_drew ?_ | refine blk_alloc ?_ _)); refine blk_far ?_ NB150_146.out _; (with_reducible repeat (first | refine blk_drewN ?_ _ | refine blk_drew ?_ | refine blk_alloc ?_ _)); refine blk_far ?_ NB150_146.out _; (with_reducible repeat (first | refine blk_drewN ?_ _ | refine blk_drew ?_ | refine blk_alloc ?_ _)); exact BK150.out) hb); replace HB := Aside0.mk (below_step (k3_ HB GE139 GE146 GE150) hb); clear hb ho153))
      go_ret2
      exact ⟨_, by first | rfl | (simp [errW_none, errW_some] <;> rfl) | (simp [*, errW_none, errW_some] <;> rfl), by (with_reducible repeat (first | apply Kd.R_alloc | apply Kd.R_drewN | apply Kd.R_drew)); exact Kd.R_mono HO160.out (fun _ hk => trivial), k3_ HB GE139 GE146 GE150⟩
     rw [if_pos c43] at H
     have c43b0 : decide (x10_4 < (l0.length : Int)) = true := decide_eq_true c43
     clear c43
     obtain ⟨c44b0, H⟩ := gx_ H
     by_cases c45 : (((rd_T43 l0 x10_4).f0) == x147000_3 && (((rd_T43 l0 x10_4).f1) == x147001_3)) = true
     ·
      rw [if_pos c45] at H
      have c45b0 : (((rd_T43 l0 x10_4).f0) == x147000_3 && (((rd_T43 l0 x10_4).f1) == x147001_3)) = true := c45
      (try (have c45b1 : decide (((rd_T43 l0 x10_4).f0) = x147000_3 && (((rd_T43 l0 x10_4).f1) == x147001_3)) = true := by simpa using c45))
      (try (have c45b2 : (((rd_T43 l0 x10_4).f0) == x147000_3 && (((rd_T43 l0 x10_4).f1) == x147001_3)) = true := by simpa using c45))
      clear c45
      have H' := Aside0.mk H
      clear H
      have p151 : 0 ≤ (x10_4 : Int) := od_
      have q151 : x10_4 < (l0.length : Int) := od_
      obtain ⟨ad151, e151, hx151_0, hx151_1⟩ := af_ HB (at_T43 HR0.out x10_4 p151 q151)
      obtain rfl : ad138 = ad151 := (by injection e151)
      replace p151 := eq_true p151
      replace q151 := eq_true q151
      go_wp2_with (first | ((with_reducible refine gate_dst (N := 11) rfl ?_); refine boxM_ 11 #[.int .i16 0, .int .i16 0] 43 ?_; intro gb152 hg w46 hbox hb; replace HO_7 := Aside0.mk (Kd.R_below (Kd.R_elderB (kp_ HO_7) gb152 (Nat.le_of_eq hg.symm)) hb); have BK152 := Aside0.mk (hbox); have GW152 := Aside0.mk ((by rw [hg]; exact (below_size (k3_ HB GE139 GE146 GE150)) : w.heap.size ≤ gb152)); have GE152 := Aside0.mk ((by rw [hg]; exact (below_size (k3_ HB GE139 GE146 GE150)) : w.heap.size ≤ gb152)); replace HB := Aside0.mk (below_step (k3_ HB GE139 GE146 GE150) hb); have NB139_152 := nl_ BK139 hg; have NB152_139 := ng_ BK139 hg; replace BK139 := bd_ BK139 hb; have NB146_152 := nl_ BK146 hg; have NB152_146 := ng_ BK146 hg; replace BK146 := bd_ BK146 hb; have NB150_152 := nl_ BK150 hg; have NB152_150 := ng_ BK150 hg; replace BK150 := bd_ BK150 hb; clear hb hbox hg; have hnb47 := NB152_139.out; have hnc47 := NB139_152.out; have hnb48 := NB152_146.out; have hnc48 := NB146_152.out; have hnb49 := NB152_150.out; have hnc49 := NB150_152.out; obtain ⟨⟨hcz50_0, hcz50_1⟩, hfz50_0, hfz50_1⟩ := bq_ BK152; have hnb51 := NB146_139.out; have hnc51 := NB139_146.out; have hnb52 := NB146_150.out; have hnc52 := NB150_146.out; obtain ⟨⟨hcz53_0, hcz53_1⟩, hfz53_0, hfz53_1⟩ := bq_ BK146))
      go_roundg k4
      case measure => have := HK1.out; have := HK2.out; have := HK3.out; have := HK4.out; omega
      case rel => exact ⟨(wrap64 (x10_4 + 1)), (x151000_4), (x151001_4), (by first | rfl | (simp; done) | (simp [*]; done)), H', ⟨by have := HK1.out; have := HK2.out; have := HK3.out; have := HK4.out; omega⟩, ⟨by (with_reducible repeat (first | apply Kd.R_alloc | apply Kd.R_drewN | apply Kd.R_drew)); exact Kd.R_mono (Kd.R_far (p := ⟨gb152, 1, none⟩) (Kd.R_far (p := ⟨gb152, 0, none⟩) (Kd.R_mono HO_7.out (fun k_ hk => (⟨hk, hk.2⟩ : _ ∧ k_ ≠ gb152))) (fun _ hk => hk.2) (.int .i16 ((rd_T43 l0 x10_4).f0))) (fun _ hk => hk.2) (.int .i16 ((rd_T43 l0 x10_4).f1))) (fun _ hk => ⟨hk.1.1.1, ⟨hk.1.1.2.1, hk.1.1.2.2⟩⟩)⟩, ⟨by (with_reducible repeat (first | refine blk_drewN ?_ _ | refine blk_drew ?_ | refine blk_alloc ?_ _)); refine blk_far ?_ NB139_152.out _; (with_reducible repeat (first | refine blk_drewN ?_ _ | refine blk_drew ?_ | refine blk_alloc ?_ _)); refine blk_far ?_ NB139_152.out _; (with_reducible repeat (first | refine blk_drewN ?_ _ | refine blk_drew ?_ | refine blk_alloc ?_ _)); exact BK139.out⟩, ⟨by (with_reducible repeat (first | refine blk_drewN ?_ _ | refine blk_drew ?_ | refine blk_alloc ?_ _)); refine blk_far ?_ NB146_152.out _; (with_reducible repeat (first | refine blk_drewN ?_ _ | refine blk_drew ?_ | refine blk_alloc ?_ _)); refine blk_far ?_ NB146_152.out _; (with_reducible repeat (first | refine blk_drewN ?_ _ | refine blk_drew ?_ | refine blk_alloc ?_ _)); exact BK146.out⟩, ⟨by (with_reducible repeat (first | refine blk_drewN ?_ _ | refine blk_drew ?_ | refine blk_alloc ?_ _)); refine blk_far ?_ NB150_152.out _; (with_reducible repeat (first | refine blk_drewN ?_ _ | refine blk_drew ?_ | refine blk_alloc ?_ _)); refine blk_far ?_ NB150_152.out _; (with_reducible repeat (first | refine blk_drewN ?_ _ | refine blk_drew ?_ | refine blk_alloc ?_ _)); exact BK150.out⟩, ⟨k4_ HB GE139 GE146 GE150 GE152⟩⟩
     rw [if_neg c45] at H
     have c45b0 : (((rd_T43 l0 x10_4).f0) == x147000_3 && (((rd_T43 l0 x10_4).f1) == x147001_3)) = false := by simpa using c45
     (try (have c45b1 : decide (((rd_T43 l0 x10_4).f0) = x147000_3 && (((rd_T43 l0 x10_4).f1) == x147001_3)) = false := by simpa using c45))
     (try (have c45b2 : (((rd_T43 l0 x10_4).f0) == x147000_3 && (((rd_T43 l0 x10_4).f1) == x147001_3)) = false := by simpa using c45))
     (try (have c45b3 : ¬ (((rd_T43 l0 x10_4).f0) = x147000_3 && (((rd_T43 l0 x10_4).f1) == x147001_3)) := by simpa using c45))
     clear c45
     obtain ⟨t153, A54, H⟩ := be_ H
     (try dsimp only at H)
     by_cases c55 : (x151000_4 == x147000_3 && (x151001_4 == x147001_3)) = true
     ·
      rw [if_pos c55] at H
      have c55b0 : (x151000_4 == x147000_3 && (x151001_4 == x147001_3)) = true := c55
      (try (have c55b1 : decide (x151000_4 = x147000_3 && (x151001_4 == x147001_3)) = true := by simpa using c55))
      (try (have c55b2 : (x151000_4 == x147000_3 && (x151001_4 == x147001_3)) = true := by simpa using c55))
      clear c55
      have H' := Aside0.mk H
      clear H
      have p151 : 0 ≤ (x10_4 : Int) := od_
      have q151 : x10_4 < (l0.length : Int) := od_
      obtain ⟨ad151, e151, hx151_0, hx151_1⟩ := af_ HB (at_T43 HR0.out x10_4 p151 q151)
      obtain rfl : ad138 = ad151 := (by injection e151)
      replace p151 := eq_true p151
      replace q151 := eq_true q151
      go_wp2_with (first | ((with_reducible refine gate_dst (N := 11) rfl ?_); refine boxM_ 11 #[.int .i16 0, .int .i16 0] 43 ?_; intro gb152 hg w56 hbox hb; replace HO_7 := Aside0.mk (Kd.R_below (Kd.R_elderB (kp_ HO_7) gb152 (Nat.le_of_eq hg.symm)) hb); have BK152 := Aside0.mk (hbox); have GW152 := Aside0.mk ((by rw [hg]; exact (below_size (k3_ HB GE139 GE146 GE150)) : w.heap.size ≤ gb152)); have GE152 := Aside0.mk ((by rw [hg]; exact (below_size (k3_ HB GE139 GE146 GE150)) : w.heap.size ≤ gb152)); replace HB := Aside0.mk (below_step (k3_ HB GE139 GE146 GE150) hb); have NB139_152 := nl_ BK139 hg; have NB152_139 := ng_ BK139 hg; replace BK139 := bd_ BK139 hb; have NB146_152 := nl_ BK146 hg; have NB152_146 := ng_ BK146 hg; replace BK146 := bd_ BK146 hb; have NB150_152 := nl_ BK150 hg; have NB152_150 := ng_ BK150 hg; replace BK150 := bd_ BK150 hb; clear hb hbox hg; have hnb57 := NB152_139.out; have hnc57 := NB139_152.out; have hnb58 := NB152_146.out; have hnc58 := NB146_152.out; have hnb59 := NB152_150.out; have hnc59 := NB150_152.out; obtain ⟨⟨hcz60_0, hcz60_1⟩, hfz60_0, hfz60_1⟩ := bq_ BK152; have hnb61 := NB146_139.out; have hnc61 := NB139_146.out; have hnb62 := NB146_150.out; have hnc62 := NB150_146.out; obtain ⟨⟨hcz63_0, hcz63_1⟩, hfz63_0, hfz63_1⟩ := bq_ BK146; have hnb64 := NB150_139.out; have hnc64 := NB139_150.out; obtain ⟨⟨hcz65_0, hcz65_1⟩, hfz65_0, hfz65_1⟩ := bq_ BK150) | ((with_reducible refine gate_callee (f := 58) rfl ?_); refine goM_ (some 76) Tryz.func58 #[.agg #[.int .i16 x147000_3, .int .i16 x147001_3], .agg #[.int .i16 x151000_4, .int .i16 x151001_4], .agg #[.int .i16 ((rd_T43 l0 x10_4).f0), .int .i16 ((rd_T43 l0 x10_4).f1)]] ?_; (with_reducible refine (spec_l03Side.calls x147000_3 x147001_3 x151000_4 x151001_4 ((rd_T43 l0 x10_4).f0) ((rd_T43 l0 x10_4).f1) t153 _ A54.out).mono ?_); rintro e w66 ⟨rfl, hb⟩; refine ⟨_, rfl, ?_⟩; replace HO_7 := Aside0.mk (Kd.R_below (by (with_reducible repeat (first | apply Kd.R_alloc | apply Kd.R_drewN | apply Kd.R_drew)); exact (Kd.R_mono (Kd.R_far (p := ⟨gb152, 1, none⟩) (Kd.R_far (p := ⟨gb152, 0, none⟩) (Kd.R_mono HO_7.out (fun k_ hk => (⟨hk, hk.2⟩ : _ ∧ k_ ≠ gb152))) (fun _ hk => hk.2) (.int .i16 ((rd_T43 l0 x10_4).f0))) (fun _ hk => hk.2) (.int .i16 ((rd_T43 l0 x10_4).f1))) (fun _ h_ => h_.1))) hb); replace BK139 := Aside0.mk (blk_below (g := gb139) (o := .cells #[.int .i16 x140000_2, .int .i16 x140001_2] 43 (0, 0)) (by (with_reducible repeat (first | refine blk_drewN ?_ _ | refine blk_drew ?_ | refine blk_alloc ?_ _)); refine blk_far ?_ NB139_152.out _; (with_reducible repeat (first | refine blk_drewN ?_ _ | refine blk_drew ?_ | refine blk_alloc ?_ _)); refine blk_far ?_ NB139_152.out _; (with_reducible repeat (first | refine blk_drewN ?_ _ | refine blk_drew ?_ | refine blk_alloc ?_ _)); exact BK139.out) hb); replace BK146 := Aside0.mk (blk_below (g := gb146) (o := .cells #[.int .i16 x147000_3, .int .i16 x147001_3] 43 (0, 0)) (by (with_reducible repeat (first | refine blk_drewN ?_ _ | refine blk_drew ?_ | refine blk_alloc ?_ _)); refine blk_far ?_ NB146_152.out _; (with_reducible repeat (first | refine blk_drewN ?_ _ | refine blk_drew ?_ | refine blk_alloc ?_ _)); refine blk_far ?_ NB146_152.out _; (with_reducible repeat (first | refine blk_drewN ?_ _ | refine blk_drew ?_ | refine blk_alloc ?_ _)); exact BK146.out) hb); replace BK150 := Aside0.mk (blk_below (g := gb150) (o := .cells #[.int .i16 x151000_4, .int .i16 x151001_4] 43 (0, 0)) (by (with_reducible repeat (first | refine blk_drewN ?_ _ | refine blk_drew ?_ | refine blk_alloc ?_ _)); refine blk_far ?_ NB150_152.out _; (with_reducible repeat (first | refine blk_drewN ?_ _ | refine blk_drew ?_ | refine blk_alloc ?_ _)); refine blk_far ?_ NB150_152.out _; (with_reducible repeat (first | refine blk_drewN ?_ _ | refine blk_drew ?_ | refine blk_alloc ?_ _)); exact BK150.out) hb); replace BK152 := Aside0.mk (blk_below (g := gb152) (o := .cells #[.int .i16 ((rd_T43 l0 x10_4).f0), .int .i16 ((rd_T43 l0 x10_4).f1)] 43 (0, 0)) (by (with_reducible repeat (first | refine blk_drewN ?_ _ | refine blk_drew ?_ | refine blk_alloc ?_ _)); refine blk_put (cs := #[.int .i16 ((rd_T43 l0 x10_4).f0), .int .i16 0]) ?_ 1 _ rfl; (with_reducible repeat (first | refine blk_drewN ?_ _ | refine blk_drew ?_ | refine blk_alloc ?_ _)); refine blk_put (cs := #[.int .i16 0, .int .i16 0]) ?_ 0 _ rfl; (with_reducible repeat (first | refine blk_drewN ?_ _ | refine blk_drew ?_ | refine blk_alloc ?_ _)); exact BK152.out) hb); replace HB := Aside0.mk (below_step (k4_ HB GE139 GE146 GE150 GE152) hb); clear hb; obtain ⟨⟨hcz67_0, hcz67_1⟩, hfz67_0, hfz67_1⟩ := bq_ BK150; obtain ⟨⟨hcz68_0, hcz68_1⟩, hfz68_0, hfz68_1⟩ := bq_ BK146; obtain ⟨⟨hcz69_0, hcz69_1⟩, hfz69_0, hfz69_1⟩ := bq_ BK152))
      go_roundg k4
      case measure => have := HK1.out; have := HK2.out; have := HK3.out; have := HK4.out; omega
      case rel => exact ⟨(wrap64 (x10_4 + 1)), ((rd_T43 l0 x10_4).f0), ((rd_T43 l0 x10_4).f1), (by first | rfl | (simp; done) | (simp [*]; done)), H', ⟨by have := HK1.out; have := HK2.out; have := HK3.out; have := HK4.out; omega⟩, ⟨by (with_reducible repeat (first | apply Kd.R_alloc | apply Kd.R_drewN | apply Kd.R_drew)); exact Kd.R_mono (Kd.R_far (p := ⟨gb150, 1, none⟩) (Kd.R_far (p := ⟨gb150, 0, none⟩) (Kd.R_mono HO_7.out (fun k_ hk => (⟨hk, hk.1.2.2⟩ : _ ∧ k_ ≠ gb150))) (fun _ hk => hk.2) (.int .i16 ((rd_T43 l0 x10_4).f0))) (fun _ hk => hk.2) (.int .i16 ((rd_T43 l0 x10_4).f1))) (fun _ hk => ⟨hk.1.1.1, ⟨hk.1.1.2.1, hk.1.1.2.2⟩⟩)⟩, ⟨by (with_reducible repeat (first | refine blk_drewN ?_ _ | refine blk_drew ?_ | refine blk_alloc ?_ _)); refine blk_far ?_ NB139_150.out _; (with_reducible repeat (first | refine blk_drewN ?_ _ | refine blk_drew ?_ | refine blk_alloc ?_ _)); refine blk_far ?_ NB139_150.out _; (with_reducible repeat (first | refine blk_drewN ?_ _ | refine blk_drew ?_ | refine blk_alloc ?_ _)); exact BK139.out⟩, ⟨by (with_reducible repeat (first | refine blk_drewN ?_ _ | refine blk_drew ?_ | refine blk_alloc ?_ _)); refine blk_far ?_ NB146_150.out _; (with_reducible repeat (first | refine blk_drewN ?_ _ | refine blk_drew ?_ | refine blk_alloc ?_ _)); refine blk_far ?_ NB146_150.out _; (with_reducible repeat (first | refine blk_drewN ?_ _ | refine blk_drew ?_ | refine blk_alloc ?_ _)); exact BK146.out⟩, ⟨by (with_reducible repeat (first | refine blk_drewN ?_ _ | refine blk_drew ?_ | refine blk_alloc ?_ _)); refine blk_put (cs := #[.int .i16 ((rd_T43 l0 x10_4).f0), .int .i16 x151001_4]) ?_ 1 _ rfl; (with_reducible repeat (first | refine blk_drewN ?_ _ | refine blk_drew ?_ | refine blk_alloc ?_ _)); refine blk_put (cs := #[.int .i16 x151000_4, .int .i16 x151001_4]) ?_ 0 _ rfl; (with_reducible repeat (first | refine blk_drewN ?_ _ | refine blk_drew ?_ | refine blk_alloc ?_ _)); exact BK150.out⟩, ⟨k4_ HB GE139 GE146 GE150 GE152⟩⟩
     rw [if_neg c55] at H
     have c55b0 : (x151000_4 == x147000_3 && (x151001_4 == x147001_3)) = false := by simpa using c55
     (try (have c55b1 : decide (x151000_4 = x147000_3 && (x151001_4 == x147001_3)) = false := by simpa using c55))
     (try (have c55b2 : (x151000_4 == x147000_3 && (x151001_4 == x147001_3)) = false := by simpa using c55))
     (try (have c55b3 : ¬ (x151000_4 = x147000_3 && (x151001_4 == x147001_3)) := by simpa using c55))
     clear c55
     by_cases c70 : t153 < 0
     ·
      rw [if_pos c70] at H
      have c70b0 : decide (t153 < 0) = true := decide_eq_true c70
      clear c70
      have H' := Aside0.mk H
      clear H
      have p151 : 0 ≤ (x10_4 : Int) := od_
      have q151 : x10_4 < (l0.length : Int) := od_
      obtain ⟨ad151, e151, hx151_0, hx151_1⟩ := af_ HB (at_T43 HR0.out x10_4 p151 q151)
      obtain rfl : ad138 = ad151 := (by injection e151)
      replace p151 := eq_true p151
      replace q151 := eq_true q151
      go_wp2_with (first | ((with_reducible refine gate_dst (N := 11) rfl ?_); refine boxM_ 11 #[.int .i16 0, .int .i16 0] 43 ?_; intro gb152 hg w71 hbox hb; replace HO_7 := Aside0.mk (Kd.R_below (Kd.R_elderB (kp_ HO_7) gb152 (Nat.le_of_eq hg.symm)) hb); have BK152 := Aside0.mk (hbox); have GW152 := Aside0.mk ((by rw [hg]; exact (below_size (k3_ HB GE139 GE146 GE150)) : w.heap.size ≤ gb152)); have GE152 := Aside0.mk ((by rw [hg]; exact (below_size (k3_ HB GE139 GE146 GE150)) : w.heap.size ≤ gb152)); replace HB := Aside0.mk (below_step (k3_ HB GE139 GE146 GE150) hb); have NB139_152 := nl_ BK139 hg; have NB152_139 := ng_ BK139 hg; replace BK139 := bd_ BK139 hb; have NB146_152 := nl_ BK146 hg; have NB152_146 := ng_ BK146 hg; replace BK146 := bd_ BK146 hb; have NB150_152 := nl_ BK150 hg; have NB152_150 := ng_ BK150 hg; replace BK150 := bd_ BK150 hb; clear hb hbox hg; have hnb72 := NB152_139.out; have hnc72 := NB139_152.out; have hnb73 := NB152_146.out; have hnc73 := NB146_152.out; have hnb74 := NB152_150.out; have hnc74 := NB150_152.out; obtain ⟨⟨hcz75_0, hcz75_1⟩, hfz75_0, hfz75_1⟩ := bq_ BK152; have hnb76 := NB146_139.out; have hnc76 := NB139_146.out; have hnb77 := NB146_150.out; have hnc77 := NB150_146.out; obtain ⟨⟨hcz78_0, hcz78_1⟩, hfz78_0, hfz78_1⟩ := bq_ BK146; have hnb79 := NB150_139.out; have hnc79 := NB139_150.out; obtain ⟨⟨hcz80_0, hcz80_1⟩, hfz80_0, hfz80_1⟩ := bq_ BK150) | ((with_reducible refine gate_callee (f := 58) rfl ?_); refine goM_ (some 76) Tryz.func58 #[.agg #[.int .i16 x147000_3, .int .i16 x147001_3], .agg #[.int .i16 x151000_4, .int .i16 x151001_4], .agg #[.int .i16 ((rd_T43 l0 x10_4).f0), .int .i16 ((rd_T43 l0 x10_4).f1)]] ?_; (with_reducible refine (spec_l03Side.calls x147000_3 x147001_3 x151000_4 x151001_4 ((rd_T43 l0 x10_4).f0) ((rd_T43 l0 x10_4).f1) t153 _ A54.out).mono ?_); rintro e w81 ⟨rfl, hb⟩; refine ⟨_, rfl, ?_⟩; replace HO_7 := Aside0.mk (Kd.R_below (by (with_reducible repeat (first | apply Kd.R_alloc | apply Kd.R_drewN | apply Kd.R_drew)); exact (Kd.R_mono (Kd.R_far (p := ⟨gb152, 1, none⟩) (Kd.R_far (p := ⟨gb152, 0, none⟩) (Kd.R_mono HO_7.out (fun k_ hk => (⟨hk, hk.2⟩ : _ ∧ k_ ≠ gb152))) (fun _ hk => hk.2) (.int .i16 ((rd_T43 l0 x10_4).f0))) (fun _ hk => hk.2) (.int .i16 ((rd_T43 l0 x10_4).f1))) (fun _ h_ => h_.1))) hb); replace BK139 := Aside0.mk (blk_below (g := gb139) (o := .cells #[.int .i16 x140000_2, .int .i16 x140001_2] 43 (0, 0)) (by (with_reducible repeat (first | refine blk_drewN ?_ _ | refine blk_drew ?_ | refine blk_alloc ?_ _)); refine blk_far ?_ NB139_152.out _; (with_reducible repeat (first | refine blk_drewN ?_ _ | refine blk_drew ?_ | refine blk_alloc ?_ _)); refine blk_far ?_ NB139_152.out _; (with_reducible repeat (first | refine blk_drewN ?_ _ | refine blk_drew ?_ | refine blk_alloc ?_ _)); exact BK139.out) hb); replace BK146 := Aside0.mk (blk_below (g := gb146) (o := .cells #[.int .i16 x147000_3, .int .i16 x147001_3] 43 (0, 0)) (by (with_reducible repeat (first | refine blk_drewN ?_ _ | refine blk_drew ?_ | refine blk_alloc ?_ _)); refine blk_far ?_ NB146_152.out _; (with_reducible repeat (first | refine blk_drewN ?_ _ | refine blk_drew ?_ | refine blk_alloc ?_ _)); refine blk_far ?_ NB146_152.out _; (with_reducible repeat (first | refine blk_drewN ?_ _ | refine blk_drew ?_ | refine blk_alloc ?_ _)); exact BK146.out) hb); replace BK150 := Aside0.mk (blk_below (g := gb150) (o := .cells #[.int .i16 x151000_4, .int .i16 x151001_4] 43 (0, 0)) (by (with_reducible repeat (first | refine blk_drewN ?_ _ | refine blk_drew ?_ | refine blk_alloc ?_ _)); refine blk_far ?_ NB150_152.out _; (with_reducible repeat (first | refine blk_drewN ?_ _ | refine blk_drew ?_ | refine blk_alloc ?_ _)); refine blk_far ?_ NB150_152.out _; (with_reducible repeat (first | refine blk_drewN ?_ _ | refine blk_drew ?_ | refine blk_alloc ?_ _)); exact BK150.out) hb); replace BK152 := Aside0.mk (blk_below (g := gb152) (o := .cells #[.int .i16 ((rd_T43 l0 x10_4).f0), .int .i16 ((rd_T43 l0 x10_4).f1)] 43 (0, 0)) (by (with_reducible repeat (first | refine blk_drewN ?_ _ | refine blk_drew ?_ | refine blk_alloc ?_ _)); refine blk_put (cs := #[.int .i16 ((rd_T43 l0 x10_4).f0), .int .i16 0]) ?_ 1 _ rfl; (with_reducible repeat (first | refine blk_drewN ?_ _ | refine blk_drew ?_ | refine blk_alloc ?_ _)); refine blk_put (cs := #[.int .i16 0, .int .i16 0]) ?_ 0 _ rfl; (with_reducible repeat (first | refine blk_drewN ?_ _ | refine blk_drew ?_ | refine blk_alloc ?_ _)); exact BK152.out) hb); replace HB := Aside0.mk (below_step (k4_ HB GE139 GE146 GE150 GE152) hb); clear hb; obtain ⟨⟨hcz82_0, hcz82_1⟩, hfz82_0, hfz82_1⟩ := bq_ BK150; obtain ⟨⟨hcz83_0, hcz83_1⟩, hfz83_0, hfz83_1⟩ := bq_ BK146; obtain ⟨⟨hcz84_0, hcz84_1⟩, hfz84_0, hfz84_1⟩ := bq_ BK152))
      go_roundg k4
      case measure => have := HK1.out; have := HK2.out; have := HK3.out; have := HK4.out; omega
      case rel => exact ⟨(wrap64 (x10_4 + 1)), ((rd_T43 l0 x10_4).f0), ((rd_T43 l0 x10_4).f1), (by first | rfl | (simp; done) | (simp [*]; done)), H', ⟨by have := HK1.out; have := HK2.out; have := HK3.out; have := HK4.out; omega⟩, ⟨by (with_reducible repeat (first | apply Kd.R_alloc | apply Kd.R_drewN | apply Kd.R_drew)); exact Kd.R_mono (Kd.R_far (p := ⟨gb150, 1, none⟩) (Kd.R_far (p := ⟨gb150, 0, none⟩) (Kd.R_mono HO_7.out (fun k_ hk => (⟨hk, hk.1.2.2⟩ : _ ∧ k_ ≠ gb150))) (fun _ hk => hk.2) (.int .i16 ((rd_T43 l0 x10_4).f0))) (fun _ hk => hk.2) (.int .i16 ((rd_T43 l0 x10_4).f1))) (fun _ hk => ⟨hk.1.1.1, ⟨hk.1.1.2.1, hk.1.1.2.2⟩⟩)⟩, ⟨by (with_reducible repeat (first | refine blk_drewN ?_ _ | refine blk_drew ?_ | refine blk_alloc ?_ _)); refine blk_far ?_ NB139_150.out _; (with_reducible repeat (first | refine blk_drewN ?_ _ | refine blk_drew ?_ | refine blk_alloc ?_ _)); refine blk_far ?_ NB139_150.out _; (with_reducible repeat (first | refine blk_drewN ?_ _ | refine blk_drew ?_ | refine blk_alloc ?_ _)); exact BK139.out⟩, ⟨by (with_reducible repeat (first | refine blk_drewN ?_ _ | refine blk_drew ?_ | refine blk_alloc ?_ _)); refine blk_far ?_ NB146_150.out _; (with_reducible repeat (first | refine blk_drewN ?_ _ | refine blk_drew ?_ | refine blk_alloc ?_ _)); refine blk_far ?_ NB146_150.out _; (with_reducible repeat (first | refine blk_drewN ?_ _ | refine blk_drew ?_ | refine blk_alloc ?_ _)); exact BK146.out⟩, ⟨by (with_reducible repeat (first | refine blk_drewN ?_ _ | refine blk_drew ?_ | refine blk_alloc ?_ _)); refine blk_put (cs := #[.int .i16 ((rd_T43 l0 x10_4).f0), .int .i16 x151001_4]) ?_ 1 _ rfl; (with_reducible repeat (first | refine blk_drewN ?_ _ | refine blk_drew ?_ | refine blk_alloc ?_ _)); refine blk_put (cs := #[.int .i16 x151000_4, .int .i16 x151001_4]) ?_ 0 _ rfl; (with_reducible repeat (first | refine blk_drewN ?_ _ | refine blk_drew ?_ | refine blk_alloc ?_ _)); exact BK150.out⟩, ⟨k4_ HB GE139 GE146 GE150 GE152⟩⟩
     rw [if_neg c70] at H
     have c70b0 : decide (t153 < 0) = false := decide_eq_false c70
     clear c70
     rcases (Decidable.em (t153 = 0)).symm with c85 | c85
     ·
      rw [if_neg c85] at H
      have c85b0 : (t153 == 0) = false := beq_eq_false_iff_ne.mpr c85
      have c85b1 : (t153 != 0) = true := bne_iff_ne.mpr c85
      have H' := Aside0.mk H
      clear H
      have p151 : 0 ≤ (x10_4 : Int) := od_
      have q151 : x10_4 < (l0.length : Int) := od_
      obtain ⟨ad151, e151, hx151_0, hx151_1⟩ := af_ HB (at_T43 HR0.out x10_4 p151 q151)
      obtain rfl : ad138 = ad151 := (by injection e151)
      replace p151 := eq_true p151
      replace q151 := eq_true q151
      go_wp2_with (first | ((with_reducible refine gate_dst (N := 11) rfl ?_); refine boxM_ 11 #[.int .i16 0, .int .i16 0] 43 ?_; intro gb152 hg w120 hbox hb; replace HO_7 := Aside0.mk (Kd.R_below (Kd.R_elderB (kp_ HO_7) gb152 (Nat.le_of_eq hg.symm)) hb); have BK152 := Aside0.mk (hbox); have GW152 := Aside0.mk ((by rw [hg]; exact (below_size (k3_ HB GE139 GE146 GE150)) : w.heap.size ≤ gb152)); have GE152 := Aside0.mk ((by rw [hg]; exact (below_size (k3_ HB GE139 GE146 GE150)) : w.heap.size ≤ gb152)); replace HB := Aside0.mk (below_step (k3_ HB GE139 GE146 GE150) hb); have NB139_152 := nl_ BK139 hg; have NB152_139 := ng_ BK139 hg; replace BK139 := bd_ BK139 hb; have NB146_152 := nl_ BK146 hg; have NB152_146 := ng_ BK146 hg; replace BK146 := bd_ BK146 hb; have NB150_152 := nl_ BK150 hg; have NB152_150 := ng_ BK150 hg; replace BK150 := bd_ BK150 hb; clear hb hbox hg; have hnb121 := NB152_139.out; have hnc121 := NB139_152.out; have hnb122 := NB152_146.out; have hnc122 := NB146_152.out; have hnb123 := NB152_150.out; have hnc123 := NB150_152.out; obtain ⟨⟨hcz124_0, hcz124_1⟩, hfz124_0, hfz124_1⟩ := bq_ BK152; have hnb125 := NB146_139.out; have hnc125 := NB139_146.out; have hnb126 := NB146_150.out; have hnc126 := NB150_146.out; obtain ⟨⟨hcz127_0, hcz127_1⟩, hfz127_0, hfz127_1⟩ := bq_ BK146; have hnb128 := NB150_139.out; have hnc128 := NB139_150.out; obtain ⟨⟨hcz129_0, hcz129_1⟩, hfz129_0, hfz129_1⟩ := bq_ BK150) | ((with_reducible refine gate_callee (f := 58) rfl ?_); refine goM_ (some 76) Tryz.func58 #[.agg #[.int .i16 x147000_3, .int .i16 x147001_3], .agg #[.int .i16 x151000_4, .int .i16 x151001_4], .agg #[.int .i16 ((rd_T43 l0 x10_4).f0), .int .i16 ((rd_T43 l0 x10_4).f1)]] ?_; (with_reducible refine (spec_l03Side.calls x147000_3 x147001_3 x151000_4 x151001_4 ((rd_T43 l0 x10_4).f0) ((rd_T43 l0 x10_4).f1) t153 _ A54.out).mono ?_); rintro e w130 ⟨rfl, hb⟩; refine ⟨_, rfl, ?_⟩; replace HO_7 := Aside0.mk (Kd.R_below (by (with_reducible repeat (first | apply Kd.R_alloc | apply Kd.R_drewN | apply Kd.R_drew)); exact (Kd.R_mono (Kd.R_far (p := ⟨gb152, 1, none⟩) (Kd.R_far (p := ⟨gb152, 0, none⟩) (Kd.R_mono HO_7.out (fun k_ hk => (⟨hk, hk.2⟩ : _ ∧ k_ ≠ gb152))) (fun _ hk => hk.2) (.int .i16 ((rd_T43 l0 x10_4).f0))) (fun _ hk => hk.2) (.int .i16 ((rd_T43 l0 x10_4).f1))) (fun _ h_ => h_.1))) hb); replace BK139 := Aside0.mk (blk_below (g := gb139) (o := .cells #[.int .i16 x140000_2, .int .i16 x140001_2] 43 (0, 0)) (by (with_reducible repeat (first | refine blk_drewN ?_ _ | refine blk_drew ?_ | refine blk_alloc ?_ _)); refine blk_far ?_ NB139_152.out _; (with_reducible repeat (first | refine blk_drewN ?_ _ | refine blk_drew ?_ | refine blk_alloc ?_ _)); refine blk_far ?_ NB139_152.out _; (with_reducible repeat (first | refine blk_drewN ?_ _ | refine blk_drew ?_ | refine blk_alloc ?_ _)); exact BK139.out) hb); replace BK146 := Aside0.mk (blk_below (g := gb146) (o := .cells #[.int .i16 x147000_3, .int .i16 x147001_3] 43 (0, 0)) (by (with_reducible repeat (first | refine blk_drewN ?_ _ | refine blk_drew ?_ | refine blk_alloc ?_ _)); refine blk_far ?_ NB146_152.out _; (with_reducible repeat (first | refine blk_drewN ?_ _ | refine blk_drew ?_ | refine blk_alloc ?_ _)); refine blk_far ?_ NB146_152.out _; (with_reducible repeat (first | refine blk_drewN ?_ _ | refine blk_drew ?_ | refine blk_alloc ?_ _)); exact BK146.out) hb); replace BK150 := Aside0.mk (blk_below (g := gb150) (o := .cells #[.int .i16 x151000_4, .int .i16 x151001_4] 43 (0, 0)) (by (with_reducible repeat (first | refine blk_drewN ?_ _ | refine blk_drew ?_ | refine blk_alloc ?_ _)); refine blk_far ?_ NB150_152.out _; (with_reducible repeat (first | refine blk_drewN ?_ _ | refine blk_drew ?_ | refine blk_alloc ?_ _)); refine blk_far ?_ NB150_152.out _; (with_reducible repeat (first | refine blk_drewN ?_ _ | refine blk_drew ?_ | refine blk_alloc ?_ _)); exact BK150.out) hb); replace BK152 := Aside0.mk (blk_below (g := gb152) (o := .cells #[.int .i16 ((rd_T43 l0 x10_4).f0), .int .i16 ((rd_T43 l0 x10_4).f1)] 43 (0, 0)) (by (with_reducible repeat (first | refine blk_drewN ?_ _ | refine blk_drew ?_ | refine blk_alloc ?_ _)); refine blk_put (cs := #[.int .i16 ((rd_T43 l0 x10_4).f0), .int .i16 0]) ?_ 1 _ rfl; (with_reducible repeat (first | refine blk_drewN ?_ _ | refine blk_drew ?_ | refine blk_alloc ?_ _)); refine blk_put (cs := #[.int .i16 0, .int .i16 0]) ?_ 0 _ rfl; (with_reducible repeat (first | refine blk_drewN ?_ _ | refine blk_drew ?_ | refine blk_alloc ?_ _)); exact BK152.out) hb); replace HB := Aside0.mk (below_step (k4_ HB GE139 GE146 GE150 GE152) hb); clear hb; obtain ⟨⟨hcz131_0, hcz131_1⟩, hfz131_0, hfz131_1⟩ := bq_ BK150; obtain ⟨⟨hcz132_0, hcz132_1⟩, hfz132_0, hfz132_1⟩ := bq_ BK146))
      go_roundg k4
      case measure => have := HK1.out; have := HK2.out; have := HK3.out; have := HK4.out; omega
      case rel => exact ⟨(wrap64 (x10_4 + 1)), (x151000_4), (x151001_4), (by first | rfl | (simp; done) | (simp [*]; done)), H', ⟨by have := HK1.out; have := HK2.out; have := HK3.out; have := HK4.out; omega⟩, ⟨by (with_reducible repeat (first | apply Kd.R_alloc | apply Kd.R_drewN | apply Kd.R_drew)); exact Kd.R_mono HO_7.out (fun _ hk => ⟨hk.1.1, ⟨hk.1.2.1, hk.1.2.2⟩⟩)⟩, ⟨bk_ BK139⟩, ⟨bk_ BK146⟩, ⟨bk_ BK150⟩, ⟨k4_ HB GE139 GE146 GE150 GE152⟩⟩
     rw [if_pos c85] at H
     have c85b0 : (t153 == 0) = true := beq_iff_eq.mpr c85
     have c85b1 : (t153 != 0) = false := bne_eq_false_iff_eq.mpr c85
     clear c85
     obtain ⟨t154, A86, H⟩ := be_ H
     (try dsimp only at H)
     by_cases c87 : t154 = true
     ·
      subst c87
      replace H := gt_ H
      have H' := Aside0.mk H
      clear H
      have p151 : 0 ≤ (x10_4 : Int) := od_
      have q151 : x10_4 < (l0.length : Int) := od_
      obtain ⟨ad151, e151, hx151_0, hx151_1⟩ := af_ HB (at_T43 HR0.out x10_4 p151 q151)
      obtain rfl : ad138 = ad151 := (by injection e151)
      replace p151 := eq_true p151
      replace q151 := eq_true q151
      go_wp2_with (first | ((with_reducible refine gate_dst (N := 11) rfl ?_); refine boxM_ 11 #[.int .i16 0, .int .i16 0] 43 ?_; intro gb152 hg w88 hbox hb; replace HO_7 := Aside0.mk (Kd.R_below (Kd.R_elderB (kp_ HO_7) gb152 (Nat.le_of_eq hg.symm)) hb); have BK152 := Aside0.mk (hbox); have GW152 := Aside0.mk ((by rw [hg]; exact (below_size (k3_ HB GE139 GE146 GE150)) : w.heap.size ≤ gb152)); have GE152 := Aside0.mk ((by rw [hg]; exact (below_size (k3_ HB GE139 GE146 GE150)) : w.heap.size ≤ gb152)); replace HB := Aside0.mk (below_step (k3_ HB GE139 GE146 GE150) hb); have NB139_152 := nl_ BK139 hg; have NB152_139 := ng_ BK139 hg; replace BK139 := bd_ BK139 hb; have NB146_152 := nl_ BK146 hg; have NB152_146 := ng_ BK146 hg; replace BK146 := bd_ BK146 hb; have NB150_152 := nl_ BK150 hg; have NB152_150 := ng_ BK150 hg; replace BK150 := bd_ BK150 hb; clear hb hbox hg; have hnb89 := NB152_139.out; have hnc89 := NB139_152.out; have hnb90 := NB152_146.out; have hnc90 := NB146_152.out; have hnb91 := NB152_150.out; have hnc91 := NB150_152.out; obtain ⟨⟨hcz92_0, hcz92_1⟩, hfz92_0, hfz92_1⟩ := bq_ BK152; have hnb93 := NB146_139.out; have hnc93 := NB139_146.out; have hnb94 := NB146_150.out; have hnc94 := NB150_146.out; obtain ⟨⟨hcz95_0, hcz95_1⟩, hfz95_0, hfz95_1⟩ := bq_ BK146; have hnb96 := NB150_139.out; have hnc96 := NB139_150.out; obtain ⟨⟨hcz97_0, hcz97_1⟩, hfz97_0, hfz97_1⟩ := bq_ BK150) | ((with_reducible refine gate_callee (f := 58) rfl ?_); refine goM_ (some 76) Tryz.func58 #[.agg #[.int .i16 x147000_3, .int .i16 x147001_3], .agg #[.int .i16 x151000_4, .int .i16 x151001_4], .agg #[.int .i16 ((rd_T43 l0 x10_4).f0), .int .i16 ((rd_T43 l0 x10_4).f1)]] ?_; (with_reducible refine (spec_l03Side.calls x147000_3 x147001_3 x151000_4 x151001_4 ((rd_T43 l0 x10_4).f0) ((rd_T43 l0 x10_4).f1) t153 _ A54.out).mono ?_); rintro e w98 ⟨rfl, hb⟩; refine ⟨_, rfl, ?_⟩; replace HO_7 := Aside0.mk (Kd.R_below (by (with_reducible repeat (first | apply Kd.R_alloc | apply Kd.R_drewN | apply Kd.R_drew)); exact (Kd.R_mono (Kd.R_far (p := ⟨gb152, 1, none⟩) (Kd.R_far (p := ⟨gb152, 0, none⟩) (Kd.R_mono HO_7.out (fun k_ hk => (⟨hk, hk.2⟩ : _ ∧ k_ ≠ gb152))) (fun _ hk => hk.2) (.int .i16 ((rd_T43 l0 x10_4).f0))) (fun _ hk => hk.2) (.int .i16 ((rd_T43 l0 x10_4).f1))) (fun _ h_ => h_.1))) hb); replace BK139 := Aside0.mk (blk_below (g := gb139) (o := .cells #[.int .i16 x140000_2, .int .i16 x140001_2] 43 (0, 0)) (by (with_reducible repeat (first | refine blk_drewN ?_ _ | refine blk_drew ?_ | refine blk_alloc ?_ _)); refine blk_far ?_ NB139_152.out _; (with_reducible repeat (first | refine blk_drewN ?_ _ | refine blk_drew ?_ | refine blk_alloc ?_ _)); refine blk_far ?_ NB139_152.out _; (with_reducible repeat (first | refine blk_drewN ?_ _ | refine blk_drew ?_ | refine blk_alloc ?_ _)); exact BK139.out) hb); replace BK146 := Aside0.mk (blk_below (g := gb146) (o := .cells #[.int .i16 x147000_3, .int .i16 x147001_3] 43 (0, 0)) (by (with_reducible repeat (first | refine blk_drewN ?_ _ | refine blk_drew ?_ | refine blk_alloc ?_ _)); refine blk_far ?_ NB146_152.out _; (with_reducible repeat (first | refine blk_drewN ?_ _ | refine blk_drew ?_ | refine blk_alloc ?_ _)); refine blk_far ?_ NB146_152.out _; (with_reducible repeat (first | refine blk_drewN ?_ _ | refine blk_drew ?_ | refine blk_alloc ?_ _)); exact BK146.out) hb); replace BK150 := Aside0.mk (blk_below (g := gb150) (o := .cells #[.int .i16 x151000_4, .int .i16 x151001_4] 43 (0, 0)) (by (with_reducible repeat (first | refine blk_drewN ?_ _ | refine blk_drew ?_ | refine blk_alloc ?_ _)); refine blk_far ?_ NB150_152.out _; (with_reducible repeat (first | refine blk_drewN ?_ _ | refine blk_drew ?_ | refine blk_alloc ?_ _)); refine blk_far ?_ NB150_152.out _; (with_reducible repeat (first | refine blk_drewN ?_ _ | refine blk_drew ?_ | refine blk_alloc ?_ _)); exact BK150.out) hb); replace BK152 := Aside0.mk (blk_below (g := gb152) (o := .cells #[.int .i16 ((rd_T43 l0 x10_4).f0), .int .i16 ((rd_T43 l0 x10_4).f1)] 43 (0, 0)) (by (with_reducible repeat (first | refine blk_drewN ?_ _ | refine blk_drew ?_ | refine blk_alloc ?_ _)); refine blk_put (cs := #[.int .i16 ((rd_T43 l0 x10_4).f0), .int .i16 0]) ?_ 1 _ rfl; (with_reducible repeat (first | refine blk_drewN ?_ _ | refine blk_drew ?_ | refine blk_alloc ?_ _)); refine blk_put (cs := #[.int .i16 0, .int .i16 0]) ?_ 0 _ rfl; (with_reducible repeat (first | refine blk_drewN ?_ _ | refine blk_drew ?_ | refine blk_alloc ?_ _)); exact BK152.out) hb); replace HB := Aside0.mk (below_step (k4_ HB GE139 GE146 GE150 GE152) hb); clear hb; obtain ⟨⟨hcz99_0, hcz99_1⟩, hfz99_0, hfz99_1⟩ := bq_ BK150; obtain ⟨⟨hcz100_0, hcz100_1⟩, hfz100_0, hfz100_1⟩ := bq_ BK146; obtain ⟨⟨hcz101_0, hcz101_1⟩, hfz101_0, hfz101_1⟩ := bq_ BK152) | (go_at_call 59; (with_reducible refine (spec_l03Between.calls x151000_4 x151001_4 x147000_3 x147001_3 ((rd_T43 l0 x10_4).f0) ((rd_T43 l0 x10_4).f1) true _ A86.out).mono ?_); rintro e w102 ⟨rfl, hb⟩; replace HO_7 := Aside0.mk (Kd.R_below (kp_ HO_7) hb); replace BK139 := bd_ BK139 hb; replace BK146 := bd_ BK146 hb; replace BK150 := bd_ BK150 hb; replace BK152 := bd_ BK152 hb; replace HB := Aside0.mk (below_step (k4_ HB GE139 GE146 GE150 GE152) hb); clear hb; obtain ⟨⟨hcz103_0, hcz103_1⟩, hfz103_0, hfz103_1⟩ := bq_ BK152; obtain ⟨⟨hcz104_0, hcz104_1⟩, hfz104_0, hfz104_1⟩ := bq_ BK150))
      go_roundg k4
      case measure => have := HK1.out; have := HK2.out; have := HK3.out; have := HK4.out; omega
      case rel => exact ⟨(wrap64 (x10_4 + 1)), ((rd_T43 l0 x10_4).f0), ((rd_T43 l0 x10_4).f1), (by first | rfl | (simp; done) | (simp [*]; done)), H', ⟨by have := HK1.out; have := HK2.out; have := HK3.out; have := HK4.out; omega⟩, ⟨by (with_reducible repeat (first | apply Kd.R_alloc | apply Kd.R_drewN | apply Kd.R_drew)); exact Kd.R_mono (Kd.R_far (p := ⟨gb150, 1, none⟩) (Kd.R_far (p := ⟨gb150, 0, none⟩) (Kd.R_mono HO_7.out (fun k_ hk => (⟨hk, hk.1.2.2⟩ : _ ∧ k_ ≠ gb150))) (fun _ hk => hk.2) (.int .i16 ((rd_T43 l0 x10_4).f0))) (fun _ hk => hk.2) (.int .i16 ((rd_T43 l0 x10_4).f1))) (fun _ hk => ⟨hk.1.1.1, ⟨hk.1.1.2.1, hk.1.1.2.2⟩⟩)⟩, ⟨by (with_reducible repeat (first | refine blk_drewN ?_ _ | refine blk_drew ?_ | refine blk_alloc ?_ _)); refine blk_far ?_ NB139_150.out _; (with_reducible repeat (first | refine blk_drewN ?_ _ | refine blk_drew ?_ | refine blk_alloc ?_ _)); refine blk_far ?_ NB139_150.out _; (with_reducible repeat (first | refine blk_drewN ?_ _ | refine blk_drew ?_ | refine blk_alloc ?_ _)); exact BK139.out⟩, ⟨by (with_reducible repeat (first | refine blk_drewN ?_ _ | refine blk_drew ?_ | refine blk_alloc ?_ _)); refine blk_far ?_ NB146_150.out _; (with_reducible repeat (first | refine blk_drewN ?_ _ | refine blk_drew ?_ | refine blk_alloc ?_ _)); refine blk_far ?_ NB146_150.out _; (with_reducible repeat (first | refine blk_drewN ?_ _ | refine blk_drew ?_ | refine blk_alloc ?_ _)); exact BK146.out⟩, ⟨by (with_reducible repeat (first | refine blk_drewN ?_ _ | refine blk_drew ?_ | refine blk_alloc ?_ _)); refine blk_put (cs := #[.int .i16 ((rd_T43 l0 x10_4).f0), .int .i16 x151001_4]) ?_ 1 _ rfl; (with_reducible repeat (first | refine blk_drewN ?_ _ | refine blk_drew ?_ | refine blk_alloc ?_ _)); refine blk_put (cs := #[.int .i16 x151000_4, .int .i16 x151001_4]) ?_ 0 _ rfl; (with_reducible repeat (first | refine blk_drewN ?_ _ | refine blk_drew ?_ | refine blk_alloc ?_ _)); exact BK150.out⟩, ⟨k4_ HB GE139 GE146 GE150 GE152⟩⟩
     replace c87 := Bool.eq_false_iff.mpr c87
     subst c87
     replace H := gf_ H
     have H' := Aside0.mk H
     clear H
     have p151 : 0 ≤ (x10_4 : Int) := od_
     have q151 : x10_4 < (l0.length : Int) := od_
     obtain ⟨ad151, e151, hx151_0, hx151_1⟩ := af_ HB (at_T43 HR0.out x10_4 p151 q151)
     obtain rfl : ad138 = ad151 := (by injection e151)
     replace p151 := eq_true p151
     replace q151 := eq_true q151
     go_wp2_with (first | ((with_reducible refine gate_dst (N := 11) rfl ?_); refine boxM_ 11 #[.int .i16 0, .int .i16 0] 43 ?_; intro gb152 hg w105 hbox hb; replace HO_7 := Aside0.mk (Kd.R_below (Kd.R_elderB (kp_ HO_7) gb152 (Nat.le_of_eq hg.symm)) hb); have BK152 := Aside0.mk (hbox); have GW152 := Aside0.mk ((by rw [hg]; exact (below_size (k3_ HB GE139 GE146 GE150)) : w.heap.size ≤ gb152)); have GE152 := Aside0.mk ((by rw [hg]; exact (below_size (k3_ HB GE139 GE146 GE150)) : w.heap.size ≤ gb152)); replace HB := Aside0.mk (below_step (k3_ HB GE139 GE146 GE150) hb); have NB139_152 := nl_ BK139 hg; have NB152_139 := ng_ BK139 hg; replace BK139 := bd_ BK139 hb; have NB146_152 := nl_ BK146 hg; have NB152_146 := ng_ BK146 hg; replace BK146 := bd_ BK146 hb; have NB150_152 := nl_ BK150 hg; have NB152_150 := ng_ BK150 hg; replace BK150 := bd_ BK150 hb; clear hb hbox hg; have hnb106 := NB152_139.out; have hnc106 := NB139_152.out; have hnb107 := NB152_146.out; have hnc107 := NB146_152.out; have hnb108 := NB152_150.out; have hnc108 := NB150_152.out; obtain ⟨⟨hcz109_0, hcz109_1⟩, hfz109_0, hfz109_1⟩ := bq_ BK152; have hnb110 := NB146_139.out; have hnc110 := NB139_146.out; have hnb111 := NB146_150.out; have hnc111 := NB150_146.out; obtain ⟨⟨hcz112_0, hcz112_1⟩, hfz112_0, hfz112_1⟩ := bq_ BK146; have hnb113 := NB150_139.out; have hnc113 := NB139_150.out; obtain ⟨⟨hcz114_0, hcz114_1⟩, hfz114_0, hfz114_1⟩ := bq_ BK150) | ((with_reducible refine gate_callee (f := 58) rfl ?_); refine goM_ (some 76) Tryz.func58 #[.agg #[.int .i16 x147000_3, .int .i16 x147001_3], .agg #[.int .i16 x151000_4, .int .i16 x151001_4], .agg #[.int .i16 ((rd_T43 l0 x10_4).f0), .int .i16 ((rd_T43 l0 x10_4).f1)]] ?_; (with_reducible refine (spec_l03Side.calls x147000_3 x147001_3 x151000_4 x151001_4 ((rd_T43 l0 x10_4).f0) ((rd_T43 l0 x10_4).f1) t153 _ A54.out).mono ?_); rintro e w115 ⟨rfl, hb⟩; refine ⟨_, rfl, ?_⟩; replace HO_7 := Aside0.mk (Kd.R_below (by (with_reducible repeat (first | apply Kd.R_alloc | apply Kd.R_drewN | apply Kd.R_drew)); exact (Kd.R_mono (Kd.R_far (p := ⟨gb152, 1, none⟩) (Kd.R_far (p := ⟨gb152, 0, none⟩) (Kd.R_mono HO_7.out (fun k_ hk => (⟨hk, hk.2⟩ : _ ∧ k_ ≠ gb152))) (fun _ hk => hk.2) (.int .i16 ((rd_T43 l0 x10_4).f0))) (fun _ hk => hk.2) (.int .i16 ((rd_T43 l0 x10_4).f1))) (fun _ h_ => h_.1))) hb); replace BK139 := Aside0.mk (blk_below (g := gb139) (o := .cells #[.int .i16 x140000_2, .int .i16 x140001_2] 43 (0, 0)) (by (with_reducible repeat (first | refine blk_drewN ?_ _ | refine blk_drew ?_ | refine blk_alloc ?_ _)); refine blk_far ?_ NB139_152.out _; (with_reducible repeat (first | refine blk_drewN ?_ _ | refine blk_drew ?_ | refine blk_alloc ?_ _)); refine blk_far ?_ NB139_152.out _; (with_reducible repeat (first | refine blk_drewN ?_ _ | refine blk_drew ?_ | refine blk_alloc ?_ _)); exact BK139.out) hb); replace BK146 := Aside0.mk (blk_below (g := gb146) (o := .cells #[.int .i16 x147000_3, .int .i16 x147001_3] 43 (0, 0)) (by (with_reducible repeat (first | refine blk_drewN ?_ _ | refine blk_drew ?_ | refine blk_alloc ?_ _)); refine blk_far ?_ NB146_152.out _; (with_reducible repeat (first | refine blk_drewN ?_ _ | refine blk_drew ?_ | refine blk_alloc ?_ _)); refine blk_far ?_ NB146_152.out _; (with_reducible repeat (first | refine blk_drewN ?_ _ | refine blk_drew ?_ | refine blk_alloc ?_ _)); exact BK146.out) hb); replace BK150 := Aside0.mk (blk_below (g := gb150) (o := .cells #[.int .i16 x151000_4, .int .i16 x151001_4] 43 (0, 0)) (by (with_reducible repeat (first | refine blk_drewN ?_ _ | refine blk_drew ?_ | refine blk_alloc ?_ _)); refine blk_far ?_ NB150_152.out _; (with_reducible repeat (first | refine blk_drewN ?_ _ | refine blk_drew ?_ | refine blk_alloc ?_ _)); refine blk_far ?_ NB150_152.out _; (with_reducible repeat (first | refine blk_drewN ?_ _ | refine blk_drew ?_ | refine blk_alloc ?_ _)); exact BK150.out) hb); replace BK152 := Aside0.mk (blk_below (g := gb152) (o := .cells #[.int .i16 ((rd_T43 l0 x10_4).f0), .int .i16 ((rd_T43 l0 x10_4).f1)] 43 (0, 0)) (by (with_reducible repeat (first | refine blk_drewN ?_ _ | refine blk_drew ?_ | refine blk_alloc ?_ _)); refine blk_put (cs := #[.int .i16 ((rd_T43 l0 x10_4).f0), .int .i16 0]) ?_ 1 _ rfl; (with_reducible repeat (first | refine blk_drewN ?_ _ | refine blk_drew ?_ | refine blk_alloc ?_ _)); refine blk_put (cs := #[.int .i16 0, .int .i16 0]) ?_ 0 _ rfl; (with_reducible repeat (first | refine blk_drewN ?_ _ | refine blk_drew ?_ | refine blk_alloc ?_ _)); exact BK152.out) hb); replace HB := Aside0.mk (below_step (k4_ HB GE139 GE146 GE150 GE152) hb); clear hb; obtain ⟨⟨hcz116_0, hcz116_1⟩, hfz116_0, hfz116_1⟩ := bq_ BK150; obtain ⟨⟨hcz117_0, hcz117_1⟩, hfz117_0, hfz117_1⟩ := bq_ BK146; obtain ⟨⟨hcz118_0, hcz118_1⟩, hfz118_0, hfz118_1⟩ := bq_ BK152) | (go_at_call 59; (with_reducible refine (spec_l03Between.calls x151000_4 x151001_4 x147000_3 x147001_3 ((rd_T43 l0 x10_4).f0) ((rd_T43 l0 x10_4).f1) false _ A86.out).mono ?_); rintro e w119 ⟨rfl, hb⟩; replace HO_7 := Aside0.mk (Kd.R_below (kp_ HO_7) hb); replace BK139 := bd_ BK139 hb; replace BK146 := bd_ BK146 hb; replace BK150 := bd_ BK150 hb; replace BK152 := bd_ BK152 hb; replace HB := Aside0.mk (below_step (k4_ HB GE139 GE146 GE150 GE152) hb); clear hb))
     go_roundg k4
     case measure => have := HK1.out; have := HK2.out; have := HK3.out; have := HK4.out; omega
     case rel => exact ⟨(wrap64 (x10_4 + 1)), (x151000_4), (x151001_4), (by first | rfl | (simp; done) | (simp [*]; done)), H', ⟨by have := HK1.out; have := HK2.out; have := HK3.out; have := HK4.out; omega⟩, ⟨by (with_reducible repeat (first | apply Kd.R_alloc | apply Kd.R_drewN | apply Kd.R_drew)); exact Kd.R_mono HO_7.out (fun _ hk => ⟨hk.1.1, ⟨hk.1.2.1, hk.1.2.2⟩⟩)⟩, ⟨bk_ BK139⟩, ⟨bk_ BK146⟩, ⟨bk_ BK150⟩, ⟨k4_ HB GE139 GE146 GE150 GE152⟩⟩
end Go.Proofs.YthbogbaaikjhbaaGreatDoor.PA
