/- Pure functions, and that Go's functions come to them. -/
import Derived.Test.YtmglnofmmgokkaaPAx0
import Derived.Test.YtmglnofmmgokkaaPAxm21
import Derived.Test.YtmglnofmmgokkaaPAxgSpec
namespace Go.Proofs.Ytmglnofmmgokkaa.PA
open Go.RowKit Go.Proofs.YtmglnofmmgokkaaW.PrintWords Go.Proofs.YtmglnofmmgokkaaW.PrintLast Go.Proofs.YtmglnofmmgokkaaW.PrintMore
set_option linter.unusedVariables false
set_option linter.unusedSimpArgs false

/-! ### spec_SplitStone: function 15 -/
mutual
def spec_SplitStone.j0 : Nat → List (S34) → Int → Int → Int → Bool → Option ((List (S34)) × (List (S34)) × Int)
 | 0, _, _, _, _, _ => none
 | k + 1, x0, x1, x2, x9, x28 => if x28 = true then (some ((([] : List (S34))), (([] : List (S34))), 2)) else (if x1 = x2 then (spec_SplitStone.j1 k x0 x1 x2 true) else (if x9 = 0 then (none) else (if (Int.tmod (wrap64 (x1 + 1)) x9) = x2 then (spec_SplitStone.j1 k x0 x1 x2 true) else (spec_SplitStone.j1 k x0 x1 x2 ((Int.tmod (wrap64 (x2 + 1)) x9) == x1)))))
def spec_SplitStone.j1 : Nat → List (S34) → Int → Int → Bool → Option ((List (S34)) × (List (S34)) × Int)
 | 0, _, _, _, _ => none
 | k + 1, x0, x1, x2, x49 => if x49 = true then (some ((([] : List (S34))), (([] : List (S34))), 4)) else ((spec_l03Part.f k x0 x1 x2).bind fun t414 => ((spec_l03Part.f k x0 x2 x1).bind fun t417 => (some (t414, t417, 0))))
end
def spec_SplitStone.f (k : Nat) (l0 : List (S34)) (a1 : Int) (a2 : Int) : Option ((List (S34)) × (List (S34)) × Int) := (spec_l03Ok.f k l0).bind fun t393 => (if t393 = true then ((spec_l00In.f a1 0 (wrap64 ((l0.length : Int) - 1))).bind fun t400 => (if t400 = true then ((spec_l00In.f a2 0 (wrap64 ((l0.length : Int) - 1))).bind fun t401 => (spec_SplitStone.j0 k l0 a1 a2 (l0.length : Int) (!t401))) else (spec_SplitStone.j0 k l0 a1 a2 (l0.length : Int) true))) else (some ((([] : List (S34))), (([] : List (S34))), 1)))
theorem spec_SplitStone.mono_l : ∀ k, (∀ y0 y1 y2 y3 y4, LeO (spec_SplitStone.j0 k y0 y1 y2 y3 y4) (spec_SplitStone.j0 (k + 1) y0 y1 y2 y3 y4)) ∧ (∀ y0 y1 y2 y3, LeO (spec_SplitStone.j1 k y0 y1 y2 y3) (spec_SplitStone.j1 (k + 1) y0 y1 y2 y3))
 | 0 => ⟨fun _ _ _ _ _ r h => by simp [spec_SplitStone.j0] at h, fun _ _ _ _ r h => by simp [spec_SplitStone.j1] at h⟩
 | k + 1 => by
  obtain ⟨ih0, ih1⟩ := spec_SplitStone.mono_l k
  refine ⟨?_, ?_⟩ <;> intros
  all_goals first | unfold spec_SplitStone.j0 | unfold spec_SplitStone.j1
  all_goals repeat' first | (with_reducible first | exact ih0 _ _ _ _ _ | exact ih1 _ _ _ _ | exact spec_l03Ok.mono _ _ | exact spec_l03Part.mono _ _ _ _ | exact LeO.refl _ | exact LeO.none _ | refine LeO.ite ?_ ?_ | refine LeO.bind ?_ (fun _ => ?_))
theorem spec_SplitStone.mono : ∀ a0 a1 a2 k, LeO (spec_SplitStone.f k a0 a1 a2) (spec_SplitStone.f (k + 1) a0 a1 a2) := by
 intro a0 a1 a2 k
 obtain ⟨ih0, ih1⟩ := spec_SplitStone.mono_l k
 unfold spec_SplitStone.f
 repeat' first | (with_reducible first | exact ih0 _ _ _ _ _ | exact ih1 _ _ _ _ | exact spec_l03Ok.mono _ _ | exact spec_l03Part.mono _ _ _ _ | exact LeO.refl _ | exact LeO.none _ | refine LeO.ite ?_ ?_ | refine LeO.bind ?_ (fun _ => ?_))
set_option maxHeartbeats 8000000 in
set_option maxRecDepth 100000 in
theorem spec_SplitStone.calls (k : Nat) (A0 : Option Addr) (c0 : Nat) (l0 : List (S34)) (a1 : Int) (a2 : Int) (r1 : List (S34)) (r2 : List (S34)) (r3 : Int) (w : World) (hr0 : Kd.C k34 w A0 l0.length l0) (hc0 : l0.length ≤ c0) (h : spec_SplitStone.f k l0 a1 a2 = some (r1, r2, r3)) :
  Calls Try.prog 15 #[.slice A0 l0.length c0, .int .i64 a1, .int .i64 a2] w fun e w' => ∃ v0_ v1_ : Value, e = .returned (.tuple #[v0_, v1_, .int .i64 r3]) ∧ Kd.R k34 34 w' w.heap.size (fun k_ => some k_ ≠ (v1_ : Value).ownBlock) v0_ r1 ∧ Kd.R k34 34 w' w.heap.size (fun k_ => some k_ ≠ (v0_ : Value).ownBlock) v1_ r2 ∧ Below w.heap.size w w' := by
 have HR0 := Aside0.mk hr0
 have HC0 := Aside0.mk hc0
 clear hr0 hc0
 have HB := Aside0.mk (Below.refl w.heap.size w)
 have H : ((spec_l03Ok.f k l0).bind fun t393 => (if t393 = true then ((spec_l00In.f a1 0 (wrap64 ((l0.length : Int) - 1))).bind fun t400 => (if t400 = true then ((spec_l00In.f a2 0 (wrap64 ((l0.length : Int) - 1))).bind fun t401 => (spec_SplitStone.j0 k l0 a1 a2 (l0.length : Int) (!t401))) else (spec_SplitStone.j0 k l0 a1 a2 (l0.length : Int) true))) else (some ((([] : List (S34))), (([] : List (S34))), 1)))) = some (r1, r2, r3) := h
 clear h
 obtain ⟨t393, A4, H⟩ := be_ H
 (try dsimp only at H)
 rcases (Decidable.em (t393 = true)).symm with c5 | c5
 ·
  replace c5 := Bool.eq_false_iff.mpr c5
  subst c5
  replace H := gf_ H
  obtain ⟨y394, hy394⟩ : ∃ y_ : List (S34), y_ = (([] : List (S34))) := ⟨_, rfl⟩
  replace H : (some (y394, (([] : List (S34))), 1)) = some (r1, r2, r3) := by first | (rw [hy394]; with_reducible exact H) | (have H2_ := (Option.bind_some _ _).symm.trans H; rw [hy394]; with_reducible exact H2_) | (have H2_ := (Option.bind_some _ _).symm.trans H; with_reducible exact H2_) | with_reducible exact H | (rw [hy394]; exact H) | exact H
  have Ny394 := Aside0.mk hy394
  clear hy394
  obtain ⟨y397, hy397⟩ : ∃ y_ : List (S34), y_ = (([] : List (S34))) := ⟨_, rfl⟩
  replace H : (some (y394, y397, 1)) = some (r1, r2, r3) := by first | (rw [hy397]; with_reducible exact H) | (have H2_ := (Option.bind_some _ _).symm.trans H; rw [hy397]; with_reducible exact H2_) | (have H2_ := (Option.bind_some _ _).symm.trans H; with_reducible exact H2_) | with_reducible exact H | (rw [hy397]; exact H) | exact H
  have Ny397 := Aside0.mk hy397
  clear hy397
  simp only [Option.some.injEq, Prod.mk.injEq] at H
  obtain ⟨rfl, rfl, rfl⟩ := H
  go_enter Try.func15, Try.ntmps15
  go_wp2_with (first | ((with_reducible refine gate_callee (f := 27) rfl ?_); refine goM_ (some 11) Try.func27 #[.slice A0 l0.length c0] ?_; (with_reducible refine (spec_l03Ok.calls k _ _ l0 false _ ?side1 ?side2 A4.out).mono ?_); (case side1 => exact kc_ HR0.out); (case side2 => exact HC0.out); rintro e w29 ⟨rfl, hb⟩; refine ⟨_, rfl, ?_⟩; replace HB := bs_ HB hb; clear hb) | ((with_reducible refine gate_dst (N := 13) rfl ?_); refine Kd.R_lit k34 _ 34 ?hg (N := 13) ?hd (xs := ([] : List (S34))) (inner := []) (ok := fun _ => True) (okp := fun _ => True) ?hr ?hp (fun _ hk => hk) trivial (Below.refl _ _) (Nat.le_refl _) (by simp) ?_; (case hd => rfl); (case hg => rfl); (case hr => first | (go_simp; done) | (go_simp; rfl)); (case hp => exact (Reps.none _ _)); intro v395 w30 ho31 hb hg_ hnew_; clear hg_ hnew_; (first | rw [← Ny394.out] at ho31 | (simp only [Int.reduceToNat] at ho31; rw [← Ny394.out] at ho31)); have HO396 := Aside0.mk (Kd.R_lower ho31 (below_size (kB_ HB))); replace HB := bs_ HB hb; clear hb ho31) | ((with_reducible refine gate_dst (N := 14) rfl ?_); refine Kd.R_lit k34 _ 34 ?hg (N := 14) ?hd (xs := ([] : List (S34))) (inner := []) (ok := fun _ => True) (okp := fun _ => True) ?hr ?hp (fun _ hk => hk) trivial (Below.refl _ _) (Nat.le_refl _) (by simp) ?_; (case hd => rfl); (case hg => rfl); (case hr => first | (go_simp; done) | (go_simp; rfl)); (case hp => exact (Reps.none _ _)); intro v398 w32 ho33 hb hg_ hnew_; clear hg_ hnew_; (first | rw [← Ny397.out] at ho33 | (simp only [Int.reduceToNat] at ho33; rw [← Ny397.out] at ho33)); have HO399 := Aside0.mk (Kd.R_lower (Kd.R_new' ho33 (Kd.R_lt (kp_ HO396))) (below_size (kB_ HB))); replace HO396 := Aside0.mk (Kd.R_elder' (kp_ HO396) (Kd.R_base ho33) hb); replace HB := bs_ HB hb; clear hb ho33))
  go_ret3
  exact ⟨_, _, by first | rfl | (simp [errW_none, errW_some] <;> rfl) | (simp [*, errW_none, errW_some] <;> rfl), by (with_reducible repeat (first | apply Kd.R_alloc | apply Kd.R_drewN | apply Kd.R_drew)); exact Kd.R_mono HO396.out (fun _ hk => hk.2), by (with_reducible repeat (first | apply Kd.R_alloc | apply Kd.R_drewN | apply Kd.R_drew)); exact Kd.R_mono HO399.out (fun _ hk => hk.2), bl_ HB⟩

 subst c5
 replace H := gt_ H
 have HC6 := Aside0.mk H
 clear H
 go_enter Try.func15, Try.ntmps15
 go_upto_region 4 with (first | ((with_reducible refine gate_callee (f := 27) rfl ?_); refine goM_ (some 11) Try.func27 #[.slice A0 l0.length c0] ?_; (with_reducible refine (spec_l03Ok.calls k _ _ l0 true _ ?side1 ?side2 A4.out).mono ?_); (case side1 => exact kc_ HR0.out); (case side2 => exact HC0.out); rintro e w7 ⟨rfl, hb⟩; refine ⟨_, rfl, ?_⟩; replace HB := bs_ HB hb; clear hb))
 (try simp only [Act.put, List.setIfInBounds_toArray, List.set_cons_zero, List.set_cons_succ])
 go_cut [28] (fun v28 wc => ∃ (kq : Nat) (x28_5 : Bool), v28 = .bool x28_5 ∧ Aside0 (spec_SplitStone.j0 kq l0 a1 a2 (l0.length : Int) x28_5 = some (r1, r2, r3)) ∧ Aside0 (kq ≤ k) ∧ Aside0 (Below w.heap.size w wc))
 case first =>
  have H := HC6.out
  clear HC6
  obtain ⟨t400, A8, H⟩ := be_ H
  (try dsimp only at H)
  rcases (Decidable.em (t400 = true)).symm with c9 | c9
  ·
   replace c9 := Bool.eq_false_iff.mpr c9
   subst c9
   replace H := gf_ H
   have H' := Aside0.mk H
   clear H
   go_wp2_with (first | ((with_reducible refine gate_callee (f := 37) rfl ?_); refine goM_ (some 20) Try.func37 #[.int .i64 a1, .int .i64 0, .int .i64 (wrap64 ((l0.length : Int) - 1))] ?_; (with_reducible refine (spec_l00In.calls a1 0 (wrap64 ((l0.length : Int) - 1)) false _ A8.out).mono ?_); rintro e w' ⟨rfl, ⟨nd, rfl⟩⟩; refine ⟨_, rfl, ?_⟩))
   go_meet
   case rel => exact ⟨_, (true), (by first | rfl | (simp; done) | (simp [*]; done)), H', ⟨by first | omega | exact Nat.le_refl _⟩, ⟨bl_ HB⟩⟩
  subst c9
  replace H := gt_ H
  obtain ⟨t401, A10, H⟩ := be_ H
  (try dsimp only at H)
  have H' := Aside0.mk H
  clear H
  go_wp2_with (first | ((with_reducible refine gate_callee (f := 37) rfl ?_); refine goM_ (some 20) Try.func37 #[.int .i64 a1, .int .i64 0, .int .i64 (wrap64 ((l0.length : Int) - 1))] ?_; (with_reducible refine (spec_l00In.calls a1 0 (wrap64 ((l0.length : Int) - 1)) true _ A8.out).mono ?_); rintro e w' ⟨rfl, ⟨nd, rfl⟩⟩; refine ⟨_, rfl, ?_⟩) | (go_at_call 37; (with_reducible refine (spec_l00In.calls a2 0 (wrap64 ((l0.length : Int) - 1)) t401 _ A10.out).mono ?_); rintro e w' ⟨rfl, ⟨nd, rfl⟩⟩))
  go_meet
  case rel => exact ⟨_, (!t401), (by first | rfl | (simp; done) | (simp [*]; done)), H', ⟨by first | omega | exact Nat.le_refl _⟩, ⟨bl_ HB⟩⟩
 case rest =>
  clear HC6
  obtain ⟨kq, x28_5, rfl, HA, HJ5, HB⟩ := hcut
  rcases kq with _ | kj5
  · exact absurd HA.out (by simp [spec_SplitStone.j0])
  have H := HA.out
  clear HA
  simp only [spec_SplitStone.j0] at H
  by_cases c11 : x28_5 = true
  ·
   subst c11
   replace H := gt_ H
   obtain ⟨y402, hy402⟩ : ∃ y_ : List (S34), y_ = (([] : List (S34))) := ⟨_, rfl⟩
   replace H : (some (y402, (([] : List (S34))), 2)) = some (r1, r2, r3) := by first | (rw [hy402]; with_reducible exact H) | (have H2_ := (Option.bind_some _ _).symm.trans H; rw [hy402]; with_reducible exact H2_) | (have H2_ := (Option.bind_some _ _).symm.trans H; with_reducible exact H2_) | with_reducible exact H | (rw [hy402]; exact H) | exact H
   have Ny402 := Aside0.mk hy402
   clear hy402
   obtain ⟨y405, hy405⟩ : ∃ y_ : List (S34), y_ = (([] : List (S34))) := ⟨_, rfl⟩
   replace H : (some (y402, y405, 2)) = some (r1, r2, r3) := by first | (rw [hy405]; with_reducible exact H) | (have H2_ := (Option.bind_some _ _).symm.trans H; rw [hy405]; with_reducible exact H2_) | (have H2_ := (Option.bind_some _ _).symm.trans H; with_reducible exact H2_) | with_reducible exact H | (rw [hy405]; exact H) | exact H
   have Ny405 := Aside0.mk hy405
   clear hy405
   simp only [Option.some.injEq, Prod.mk.injEq] at H
   obtain ⟨rfl, rfl, rfl⟩ := H
   go_wp2_with (first | ((with_reducible refine gate_dst (N := 29) rfl ?_); refine Kd.R_lit k34 _ 34 ?hg (N := 29) ?hd (xs := ([] : List (S34))) (inner := []) (ok := fun _ => True) (okp := fun _ => True) ?hr ?hp (fun _ hk => hk) trivial (Below.refl _ _) (Nat.le_refl _) (by simp) ?_; (case hd => rfl); (case hg => rfl); (case hr => first | (go_simp; done) | (go_simp; rfl)); (case hp => exact (Reps.none _ _)); intro v403 w12 ho13 hb hg_ hnew_; clear hg_ hnew_; (first | rw [← Ny402.out] at ho13 | (simp only [Int.reduceToNat] at ho13; rw [← Ny402.out] at ho13)); have HO404 := Aside0.mk (Kd.R_lower ho13 (below_size (kB_ HB))); replace HB := bs_ HB hb; clear hb ho13) | ((with_reducible refine gate_dst (N := 30) rfl ?_); refine Kd.R_lit k34 _ 34 ?hg (N := 30) ?hd (xs := ([] : List (S34))) (inner := []) (ok := fun _ => True) (okp := fun _ => True) ?hr ?hp (fun _ hk => hk) trivial (Below.refl _ _) (Nat.le_refl _) (by simp) ?_; (case hd => rfl); (case hg => rfl); (case hr => first | (go_simp; done) | (go_simp; rfl)); (case hp => exact (Reps.none _ _)); intro v406 w14 ho15 hb hg_ hnew_; clear hg_ hnew_; (first | rw [← Ny405.out] at ho15 | (simp only [Int.reduceToNat] at ho15; rw [← Ny405.out] at ho15)); have HO407 := Aside0.mk (Kd.R_lower (Kd.R_new' ho15 (Kd.R_lt (kp_ HO404))) (below_size (kB_ HB))); replace HO404 := Aside0.mk (Kd.R_elder' (kp_ HO404) (Kd.R_base ho15) hb); replace HB := bs_ HB hb; clear hb ho15))
   go_ret3
   exact ⟨_, _, by first | rfl | (simp [errW_none, errW_some] <;> rfl) | (simp [*, errW_none, errW_some] <;> rfl), by (with_reducible repeat (first | apply Kd.R_alloc | apply Kd.R_drewN | apply Kd.R_drew)); exact Kd.R_mono HO404.out (fun _ hk => hk.2), by (with_reducible repeat (first | apply Kd.R_alloc | apply Kd.R_drewN | apply Kd.R_drew)); exact Kd.R_mono HO407.out (fun _ hk => hk.2), bl_ HB⟩
  replace c11 := Bool.eq_false_iff.mpr c11
  subst c11
  replace H := gf_ H
  have HC16 := Aside0.mk H
  clear H
  go_upto_region 6 with (fail)
  go_cut [49] (fun v49 wc => ∃ (kq : Nat) (x49_15 : Bool), v49 = .bool x49_15 ∧ Aside0 (spec_SplitStone.j1 kq l0 a1 a2 x49_15 = some (r1, r2, r3)) ∧ Aside0 (kq ≤ kj5) ∧ Aside0 (Below w.heap.size w wc))
  case first =>
   have H := HC16.out
   clear HC16
   by_cases c17 : a1 = a2
   ·
    rw [if_pos c17] at H
    have c17b0 : (a1 == a2) = true := beq_iff_eq.mpr c17
    have c17b1 : (a1 != a2) = false := bne_eq_false_iff_eq.mpr c17
    clear c17
    (first | rw [c17b0] | (simp only [i64_w, i32_w]; rw [c17b0]) | skip)
    have H' := Aside0.mk H
    clear H
    go_wp2
    go_meet
    case rel => exact ⟨_, (true), (by first | rfl | (simp; done) | (simp [*]; done)), H', ⟨by have := HJ5.out; first | omega | exact Nat.le_refl _⟩, ⟨bl_ HB⟩⟩
   rw [if_neg c17] at H
   have c17b0 : (a1 == a2) = false := beq_eq_false_iff_ne.mpr c17
   have c17b1 : (a1 != a2) = true := bne_iff_ne.mpr c17
   (first | rw [c17b0] | (simp only [i64_w, i32_w]; rw [c17b0]) | skip)
   by_cases c18 : (l0.length : Int) = 0
   ·
    rw [if_pos c18] at H
    exact absurd H (by simp)
   rw [if_neg c18] at H
   have c18b0 : ((l0.length : Int) == 0) = false := beq_eq_false_iff_ne.mpr c18
   have c18b1 : ((l0.length : Int) != 0) = true := bne_iff_ne.mpr c18
   have c18b2 : ¬ (l0 = []) := fun h_ => c18 (by rw [h_]; rfl)
   by_cases c19 : (Int.tmod (wrap64 (a1 + 1)) (l0.length : Int)) = a2
   ·
    rw [if_pos c19] at H
    have c19b0 : ((Int.tmod (wrap64 (a1 + 1)) (l0.length : Int)) == a2) = true := beq_iff_eq.mpr c19
    have c19b1 : ((Int.tmod (wrap64 (a1 + 1)) (l0.length : Int)) != a2) = false := bne_eq_false_iff_eq.mpr c19
    clear c19
    have H' := Aside0.mk H
    clear H
    go_wp2
    go_meet
    case rel => exact ⟨_, (true), (by first | rfl | (simp; done) | (simp [*]; done)), H', ⟨by have := HJ5.out; first | omega | exact Nat.le_refl _⟩, ⟨bl_ HB⟩⟩
   ·
    rw [if_neg c19] at H
    have c19b0 : ((Int.tmod (wrap64 (a1 + 1)) (l0.length : Int)) == a2) = false := beq_eq_false_iff_ne.mpr c19
    have c19b1 : ((Int.tmod (wrap64 (a1 + 1)) (l0.length : Int)) != a2) = true := bne_iff_ne.mpr c19
    have H' := Aside0.mk H
    clear H
    go_wp2
    go_meet
    case rel => exact ⟨_, (((Int.tmod (wrap64 (a2 + 1)) (l0.length : Int)) == a1)), (by first | rfl | (simp; done) | (simp [*]; done)), H', ⟨by have := HJ5.out; first | omega | exact Nat.le_refl _⟩, ⟨bl_ HB⟩⟩
  case rest =>
   clear HC16
   obtain ⟨kq, x49_15, rfl, HA, HJ15, HB⟩ := hcut
   rcases kq with _ | kj15
   · exact absurd HA.out (by simp [spec_SplitStone.j1])
   have H := HA.out
   clear HA
   simp only [spec_SplitStone.j1] at H
   by_cases c20 : x49_15 = true
   ·
    subst c20
    replace H := gt_ H
    obtain ⟨y408, hy408⟩ : ∃ y_ : List (S34), y_ = (([] : List (S34))) := ⟨_, rfl⟩
    replace H : (some (y408, (([] : List (S34))), 4)) = some (r1, r2, r3) := by first | (rw [hy408]; with_reducible exact H) | (have H2_ := (Option.bind_some _ _).symm.trans H; rw [hy408]; with_reducible exact H2_) | (have H2_ := (Option.bind_some _ _).symm.trans H; with_reducible exact H2_) | with_reducible exact H | (rw [hy408]; exact H) | exact H
    have Ny408 := Aside0.mk hy408
    clear hy408
    obtain ⟨y411, hy411⟩ : ∃ y_ : List (S34), y_ = (([] : List (S34))) := ⟨_, rfl⟩
    replace H : (some (y408, y411, 4)) = some (r1, r2, r3) := by first | (rw [hy411]; with_reducible exact H) | (have H2_ := (Option.bind_some _ _).symm.trans H; rw [hy411]; with_reducible exact H2_) | (have H2_ := (Option.bind_some _ _).symm.trans H; with_reducible exact H2_) | with_reducible exact H | (rw [hy411]; exact H) | exact H
    have Ny411 := Aside0.mk hy411
    clear hy411
    simp only [Option.some.injEq, Prod.mk.injEq] at H
    obtain ⟨rfl, rfl, rfl⟩ := H
    go_wp2_with (first | ((with_reducible refine gate_dst (N := 50) rfl ?_); refine Kd.R_lit k34 _ 34 ?hg (N := 50) ?hd (xs := ([] : List (S34))) (inner := []) (ok := fun _ => True) (okp := fun _ => True) ?hr ?hp (fun _ hk => hk) trivial (Below.refl _ _) (Nat.le_refl _) (by simp) ?_; (case hd => rfl); (case hg => rfl); (case hr => first | (go_simp; done) | (go_simp; rfl)); (case hp => exact (Reps.none _ _)); intro v409 w21 ho22 hb hg_ hnew_; clear hg_ hnew_; (first | rw [← Ny408.out] at ho22 | (simp only [Int.reduceToNat] at ho22; rw [← Ny408.out] at ho22)); have HO410 := Aside0.mk (Kd.R_lower ho22 (below_size (kB_ HB))); replace HB := bs_ HB hb; clear hb ho22) | ((with_reducible refine gate_dst (N := 51) rfl ?_); refine Kd.R_lit k34 _ 34 ?hg (N := 51) ?hd (xs := ([] : List (S34))) (inner := []) (ok := fun _ => True) (okp := fun _ => True) ?hr ?hp (fun _ hk => hk) trivial (Below.refl _ _) (Nat.le_refl _) (by simp) ?_; (case hd => rfl); (case hg => rfl); (case hr => first | (go_simp; done) | (go_simp; rfl)); (case hp => exact (Reps.none _ _)); intro v412 w23 ho24 hb hg_ hnew_; clear hg_ hnew_; (first | rw [← Ny411.out] at ho24 | (simp only [Int.reduceToNat] at ho24; rw [← Ny411.out] at ho24)); have HO413 := Aside0.mk (Kd.R_lower (Kd.R_new' ho24 (Kd.R_lt (kp_ HO410))) (below_size (kB_ HB))); replace HO410 := Aside0.mk (Kd.R_elder' (kp_ HO410) (Kd.R_base ho24) hb); replace HB := bs_ HB hb; clear hb ho24))
    go_ret3
    exact ⟨_, _, by first | rfl | (simp [errW_none, errW_some] <;> rfl) | (simp [*, errW_none, errW_some] <;> rfl), by (with_reducible repeat (first | apply Kd.R_alloc | apply Kd.R_drewN | apply Kd.R_drew)); exact Kd.R_mono HO410.out (fun _ hk => hk.2), by (with_reducible repeat (first | apply Kd.R_alloc | apply Kd.R_drewN | apply Kd.R_drew)); exact Kd.R_mono HO413.out (fun _ hk => hk.2), bl_ HB⟩
   replace c20 := Bool.eq_false_iff.mpr c20
   subst c20
   replace H := gf_ H
   obtain ⟨t414, A25, H⟩ := be_ H
   (try dsimp only at H)
   obtain ⟨t417, A26, H⟩ := be_ H
   (try dsimp only at H)
   simp only [Option.some.injEq, Prod.mk.injEq] at H
   obtain ⟨rfl, rfl, rfl⟩ := H
   go_wp2_with (first | ((with_reducible refine gate_callee (f := 38) rfl ?_); refine goM_ (some 55) Try.func38 #[.slice A0 l0.length c0, .int .i64 a1, .int .i64 a2] ?_; (with_reducible refine (spec_l03Part.calls kj15 _ _ l0 a1 a2 t414 _ ?side1 ?side2 A25.out).mono ?_); (case side1 => exact kc_ (Kd.C_below HR0.out HB.out)); (case side2 => exact HC0.out); rintro e w27 ⟨v415, rfl, ho0, hb⟩; refine ⟨_, rfl, ?_⟩; have HO416 := Aside0.mk (Kd.R_lower ho0 (below_size (kB_ HB))); replace HB := bs_ HB hb; clear hb; (try clear ho0)) | ((with_reducible refine gate_callee (f := 38) rfl ?_); refine goM_ (some 59) Try.func38 #[.slice A0 l0.length c0, .int .i64 a2, .int .i64 a1] ?_; (with_reducible refine (spec_l03Part.calls kj15 _ _ l0 a2 a1 t417 _ ?side1 ?side2 A26.out).mono ?_); (case side1 => exact kc_ (Kd.C_below HR0.out HB.out)); (case side2 => exact HC0.out); rintro e w28 ⟨v418, rfl, ho0, hb⟩; refine ⟨_, rfl, ?_⟩; have HO419 := Aside0.mk (Kd.R_lower (Kd.R_new' ho0 (Kd.R_lt (kp_ HO416))) (below_size (kB_ HB))); replace HO416 := Aside0.mk (Kd.R_elder' (kp_ HO416) (Kd.R_base ho0) hb); replace HB := bs_ HB hb; clear hb; (try clear ho0)))
   go_ret3
   exact ⟨_, _, by first | rfl | (simp [errW_none, errW_some] <;> rfl) | (simp [*, errW_none, errW_some] <;> rfl), by (with_reducible repeat (first | apply Kd.R_alloc | apply Kd.R_drewN | apply Kd.R_drew)); exact Kd.R_mono HO416.out (fun _ hk => hk.2), by (with_reducible repeat (first | apply Kd.R_alloc | apply Kd.R_drewN | apply Kd.R_drew)); exact Kd.R_mono HO419.out (fun _ hk => hk.2), bl_ HB⟩
end Go.Proofs.Ytmglnofmmgokkaa.PA
