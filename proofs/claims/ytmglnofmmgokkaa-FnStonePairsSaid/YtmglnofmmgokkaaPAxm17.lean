/- Pure functions, and that Go's functions come to them. -/
import Derived.Test.YtmglnofmmgokkaaPAx0
import Derived.Test.YtmglnofmmgokkaaPAxf35
import Derived.Test.YtmglnofmmgokkaaPAxgImpl
namespace Go.Proofs.Ytmglnofmmgokkaa.PA
open Go.RowKit Go.Proofs.YtmglnofmmgokkaaW.PrintWords Go.Proofs.YtmglnofmmgokkaaW.PrintLast Go.Proofs.YtmglnofmmgokkaaW.PrintMore
set_option linter.unusedVariables false
set_option linter.unusedSimpArgs false

/-! ### impl_WhereIs: function 12 -/
def impl_WhereIs.f (k : Nat) (l0 : List (S34)) (a1 : Int) (a2 : Int) : Option (Int × Int) := (impl_ValidStone.f k l0).bind fun t353 => ((impl_within.f a1 (-1000) 1000).bind fun t354 => (if t354 = true then ((impl_within.f a2 (-1000) 1000).bind fun t355 => ((impl_codeOf.f t353 t355).bind fun t356 => (if t356 = 0 then ((impl_Stone_where.f k l0 (IntKind.i16.wrap (a1)) (IntKind.i16.wrap (a2))).bind fun t357 => (some (t357, 0))) else (some (0, t356))))) else ((impl_codeOf.f t353 false).bind fun t358 => (if t358 = 0 then ((impl_Stone_where.f k l0 (IntKind.i16.wrap (a1)) (IntKind.i16.wrap (a2))).bind fun t359 => (some (t359, 0))) else (some (0, t358))))))
theorem impl_WhereIs.mono : ∀ a0 a1 a2 k, LeO (impl_WhereIs.f k a0 a1 a2) (impl_WhereIs.f (k + 1) a0 a1 a2) := by
 intro a0 a1 a2 k
 unfold impl_WhereIs.f
 repeat' first | (with_reducible first | exact impl_Stone_where.mono _ _ _ _ | exact impl_ValidStone.mono _ _ | exact LeO.refl _ | exact LeO.none _ | refine LeO.ite ?_ ?_ | refine LeO.bind ?_ (fun _ => ?_))
set_option maxHeartbeats 8000000 in
set_option maxRecDepth 100000 in
theorem impl_WhereIs.calls (k : Nat) (A0 : Option Addr) (c0 : Nat) (l0 : List (S34)) (a1 : Int) (a2 : Int) (r1 : Int) (r2 : Int) (w : World) (hr0 : Kd.C k34 w A0 l0.length l0) (hc0 : l0.length ≤ c0) (h : impl_WhereIs.f k l0 a1 a2 = some (r1, r2)) :
  Calls Try.prog 12 #[.slice A0 l0.length c0, .int .i64 a1, .int .i64 a2] w fun e w' => e = .returned (.tuple #[.int .i64 r1, .int .i64 r2]) ∧ Below w.heap.size w w' := by
 have hu34 := Try.underlying34
 have HR0 := Aside0.mk hr0
 have HC0 := Aside0.mk hc0
 clear hr0 hc0
 have HB := Aside0.mk (Below.refl w.heap.size w)
 have H : ((impl_ValidStone.f k l0).bind fun t353 => ((impl_within.f a1 (-1000) 1000).bind fun t354 => (if t354 = true then ((impl_within.f a2 (-1000) 1000).bind fun t355 => ((impl_codeOf.f t353 t355).bind fun t356 => (if t356 = 0 then ((impl_Stone_where.f k l0 (IntKind.i16.wrap (a1)) (IntKind.i16.wrap (a2))).bind fun t357 => (some (t357, 0))) else (some (0, t356))))) else ((impl_codeOf.f t353 false).bind fun t358 => (if t358 = 0 then ((impl_Stone_where.f k l0 (IntKind.i16.wrap (a1)) (IntKind.i16.wrap (a2))).bind fun t359 => (some (t359, 0))) else (some (0, t358))))))) = some (r1, r2) := h
 clear h
 obtain ⟨t353, A4, H⟩ := be_ H
 (try dsimp only at H)
 obtain ⟨t354, A5, H⟩ := be_ H
 (try dsimp only at H)
 rcases (Decidable.em (t354 = true)).symm with c6 | c6
 ·
  replace c6 := Bool.eq_false_iff.mpr c6
  subst c6
  replace H := gf_ H
  obtain ⟨t358, A14, H⟩ := be_ H
  (try dsimp only at H)
  rcases (Decidable.em (t358 = 0)).symm with c15 | c15
  ·
   rw [if_neg c15] at H
   have c15b0 : (t358 == 0) = false := beq_eq_false_iff_ne.mpr c15
   have c15b1 : (t358 != 0) = true := bne_iff_ne.mpr c15
   simp only [Option.some.injEq, Prod.mk.injEq] at H
   obtain ⟨rfl, rfl⟩ := H
   go_enter Try.func12, Try.ntmps12
   go_wp2_with (first | ((with_reducible refine gate_callee (f := 25) rfl ?_); refine goM_ (some 10) Try.func25 #[.slice A0 l0.length c0] ?_; (with_reducible refine (impl_ValidStone.calls k _ _ l0 t353 _ ?side1 ?side2 A4.out).mono ?_); (case side1 => exact kc_ HR0.out); (case side2 => exact HC0.out); rintro e w19 ⟨rfl, hb⟩; refine ⟨_, rfl, ?_⟩; replace HB := bs_ HB hb; clear hb) | ((with_reducible refine gate_callee (f := 34) rfl ?_); refine goM_ (some 12) Try.func34 #[.int .i64 a1, .int .i64 (-1000), .int .i64 1000] ?_; (with_reducible refine (impl_within.calls a1 (-1000) 1000 false _ A5.out).mono ?_); rintro e w' ⟨rfl, ⟨nd, rfl⟩⟩; refine ⟨_, rfl, ?_⟩) | ((with_reducible refine gate_callee (f := 33) rfl ?_); refine goM_ (some 17) Try.func33 #[.bool t353, .bool false] ?_; (with_reducible refine (impl_codeOf.calls t353 false t358 _ A14.out).mono ?_); rintro e w' ⟨rfl, ⟨nd, rfl⟩⟩; refine ⟨_, rfl, ?_⟩))
   go_ret2
   exact ⟨rt_, bl_ HB⟩

  rw [if_pos c15] at H
  have c15b0 : (t358 == 0) = true := beq_iff_eq.mpr c15
  have c15b1 : (t358 != 0) = false := bne_eq_false_iff_eq.mpr c15
  clear c15
  obtain ⟨t359, A16, H⟩ := be_ H
  (try dsimp only at H)
  simp only [Option.some.injEq, Prod.mk.injEq] at H
  obtain ⟨rfl, rfl⟩ := H
  go_enter Try.func12, Try.ntmps12
  go_wp2_with (first | ((with_reducible refine gate_callee (f := 25) rfl ?_); refine goM_ (some 10) Try.func25 #[.slice A0 l0.length c0] ?_; (with_reducible refine (impl_ValidStone.calls k _ _ l0 t353 _ ?side1 ?side2 A4.out).mono ?_); (case side1 => exact kc_ HR0.out); (case side2 => exact HC0.out); rintro e w17 ⟨rfl, hb⟩; refine ⟨_, rfl, ?_⟩; replace HB := bs_ HB hb; clear hb) | ((with_reducible refine gate_callee (f := 34) rfl ?_); refine goM_ (some 12) Try.func34 #[.int .i64 a1, .int .i64 (-1000), .int .i64 1000] ?_; (with_reducible refine (impl_within.calls a1 (-1000) 1000 false _ A5.out).mono ?_); rintro e w' ⟨rfl, ⟨nd, rfl⟩⟩; refine ⟨_, rfl, ?_⟩) | ((with_reducible refine gate_callee (f := 33) rfl ?_); refine goM_ (some 17) Try.func33 #[.bool t353, .bool false] ?_; (with_reducible refine (impl_codeOf.calls t353 false t358 _ A14.out).mono ?_); rintro e w' ⟨rfl, ⟨nd, rfl⟩⟩; refine ⟨_, rfl, ?_⟩) | ((with_reducible refine gate_callee (f := 35) rfl ?_); refine goM_ (some 27) Try.func35 #[.slice A0 l0.length c0, .agg #[.int .i16 (IntKind.i16.wrap (a1)), .int .i16 (IntKind.i16.wrap (a2))]] ?_; (with_reducible refine (impl_Stone_where.calls k _ _ l0 (IntKind.i16.wrap (a1)) (IntKind.i16.wrap (a2)) t359 _ ?side1 ?side2 A16.out).mono ?_); (case side1 => repeat (first | exact (Kd.C_below HR0.out (kB_ HB)) | (with_reducible refine Kd.C_alloc ?_ _) | (with_reducible refine Kd.C_drewN ?_ _) | (with_reducible refine Kd.C_drew ?_))); (case side2 => exact HC0.out); rintro e w18 ⟨rfl, hb⟩; refine ⟨_, rfl, ?_⟩; replace HB := bs_ HB hb; clear hb))
  go_ret2
  exact ⟨rt_, bl_ HB⟩
 subst c6
 replace H := gt_ H
 obtain ⟨t355, A7, H⟩ := be_ H
 (try dsimp only at H)
 obtain ⟨t356, A8, H⟩ := be_ H
 (try dsimp only at H)
 rcases (Decidable.em (t356 = 0)).symm with c9 | c9
 ·
  rw [if_neg c9] at H
  have c9b0 : (t356 == 0) = false := beq_eq_false_iff_ne.mpr c9
  have c9b1 : (t356 != 0) = true := bne_iff_ne.mpr c9
  simp only [Option.some.injEq, Prod.mk.injEq] at H
  obtain ⟨rfl, rfl⟩ := H
  go_enter Try.func12, Try.ntmps12
  go_wp2_with (first | ((with_reducible refine gate_callee (f := 25) rfl ?_); refine goM_ (some 10) Try.func25 #[.slice A0 l0.length c0] ?_; (with_reducible refine (impl_ValidStone.calls k _ _ l0 t353 _ ?side1 ?side2 A4.out).mono ?_); (case side1 => exact kc_ HR0.out); (case side2 => exact HC0.out); rintro e w13 ⟨rfl, hb⟩; refine ⟨_, rfl, ?_⟩; replace HB := bs_ HB hb; clear hb) | ((with_reducible refine gate_callee (f := 34) rfl ?_); refine goM_ (some 12) Try.func34 #[.int .i64 a1, .int .i64 (-1000), .int .i64 1000] ?_; (with_reducible refine (impl_within.calls a1 (-1000) 1000 true _ A5.out).mono ?_); rintro e w' ⟨rfl, ⟨nd, rfl⟩⟩; refine ⟨_, rfl, ?_⟩) | (go_at_call 34; (with_reducible refine (impl_within.calls a2 (-1000) 1000 t355 _ A7.out).mono ?_); rintro e w' ⟨rfl, ⟨nd, rfl⟩⟩) | ((with_reducible refine gate_callee (f := 33) rfl ?_); refine goM_ (some 17) Try.func33 #[.bool t353, .bool t355] ?_; (with_reducible refine (impl_codeOf.calls t353 t355 t356 _ A8.out).mono ?_); rintro e w' ⟨rfl, ⟨nd, rfl⟩⟩; refine ⟨_, rfl, ?_⟩))
  go_ret2
  exact ⟨rt_, bl_ HB⟩
 rw [if_pos c9] at H
 have c9b0 : (t356 == 0) = true := beq_iff_eq.mpr c9
 have c9b1 : (t356 != 0) = false := bne_eq_false_iff_eq.mpr c9
 clear c9
 obtain ⟨t357, A10, H⟩ := be_ H
 (try dsimp only at H)
 simp only [Option.some.injEq, Prod.mk.injEq] at H
 obtain ⟨rfl, rfl⟩ := H
 go_enter Try.func12, Try.ntmps12
 go_wp2_with (first | ((with_reducible refine gate_callee (f := 25) rfl ?_); refine goM_ (some 10) Try.func25 #[.slice A0 l0.length c0] ?_; (with_reducible refine (impl_ValidStone.calls k _ _ l0 t353 _ ?side1 ?side2 A4.out).mono ?_); (case side1 => exact kc_ HR0.out); (case side2 => exact HC0.out); rintro e w11 ⟨rfl, hb⟩; refine ⟨_, rfl, ?_⟩; replace HB := bs_ HB hb; clear hb) | ((with_reducible refine gate_callee (f := 34) rfl ?_); refine goM_ (some 12) Try.func34 #[.int .i64 a1, .int .i64 (-1000), .int .i64 1000] ?_; (with_reducible refine (impl_within.calls a1 (-1000) 1000 true _ A5.out).mono ?_); rintro e w' ⟨rfl, ⟨nd, rfl⟩⟩; refine ⟨_, rfl, ?_⟩) | (go_at_call 34; (with_reducible refine (impl_within.calls a2 (-1000) 1000 t355 _ A7.out).mono ?_); rintro e w' ⟨rfl, ⟨nd, rfl⟩⟩) | ((with_reducible refine gate_callee (f := 33) rfl ?_); refine goM_ (some 17) Try.func33 #[.bool t353, .bool t355] ?_; (with_reducible refine (impl_codeOf.calls t353 t355 t356 _ A8.out).mono ?_); rintro e w' ⟨rfl, ⟨nd, rfl⟩⟩; refine ⟨_, rfl, ?_⟩) | ((with_reducible refine gate_callee (f := 35) rfl ?_); refine goM_ (some 27) Try.func35 #[.slice A0 l0.length c0, .agg #[.int .i16 (IntKind.i16.wrap (a1)), .int .i16 (IntKind.i16.wrap (a2))]] ?_; (with_reducible refine (impl_Stone_where.calls k _ _ l0 (IntKind.i16.wrap (a1)) (IntKind.i16.wrap (a2)) t357 _ ?side1 ?side2 A10.out).mono ?_); (case side1 => repeat (first | exact (Kd.C_below HR0.out (kB_ HB)) | (with_reducible refine Kd.C_alloc ?_ _) | (with_reducible refine Kd.C_drewN ?_ _) | (with_reducible refine Kd.C_drew ?_))); (case side2 => exact HC0.out); rintro e w12 ⟨rfl, hb⟩; refine ⟨_, rfl, ?_⟩; replace HB := bs_ HB hb; clear hb))
 go_ret2
 exact ⟨rt_, bl_ HB⟩

/-! ### impl_Stone_area: function 40 -/
def impl_Stone_area.l0 : Nat → List (S34) → Int → List (S34) → Int → Int → Option (Int)
 | 0, _, _, _, _, _ => none
 | k + 1, x0, x3, x7, x8, x9 => if x9 < x8 then (if 0 ≤ x9 then (if x9 < (x7.length : Int) then (if (x0.length : Int) = 0 then (none) else (if 0 ≤ (Int.tmod (wrap64 (x9 + 1)) (x0.length : Int)) then (if (Int.tmod (wrap64 (x9 + 1)) (x0.length : Int)) < (x0.length : Int) then (impl_Stone_area.l0 k x0 (wrap64 (x3 + (wrap64 ((wrap64 ((wrap64 ((rd_T34 x7 x9).f0)) * (wrap64 ((rd_T34 x0 (Int.tmod (wrap64 (x9 + 1)) (x0.length : Int))).f1)))) - (wrap64 ((wrap64 ((rd_T34 x0 (Int.tmod (wrap64 (x9 + 1)) (x0.length : Int))).f0)) * (wrap64 ((rd_T34 x7 x9).f1)))))))) x7 x8 (wrap64 (x9 + 1))) else (none)) else (none))) else (none)) else (none)) else (some x3)
def impl_Stone_area.f (k : Nat) (l0 : List (S34)) : Option (Int) := impl_Stone_area.l0 k l0 0 l0 (l0.length : Int) 0
theorem impl_Stone_area.mono_l : ∀ k, (∀ y0 y1 y2 y3 y4, LeO (impl_Stone_area.l0 k y0 y1 y2 y3 y4) (impl_Stone_area.l0 (k + 1) y0 y1 y2 y3 y4))
 | 0 => fun _ _ _ _ _ r h => by simp [impl_Stone_area.l0] at h
 | k + 1 => by
  have ih0 := impl_Stone_area.mono_l k
  ·
   intro y0 y1 y2 y3 y4
   unfold impl_Stone_area.l0
   repeat' first | (with_reducible first | exact ih0 _ _ _ _ _ | exact LeO.refl _ | exact LeO.none _ | refine LeO.ite ?_ ?_ | refine LeO.bind ?_ (fun _ => ?_))
theorem impl_Stone_area.mono : ∀ a0 k, LeO (impl_Stone_area.f k a0) (impl_Stone_area.f (k + 1) a0) := by
 intro a0 k
 have ih0 := impl_Stone_area.mono_l k
 unfold impl_Stone_area.f
 repeat' first | (with_reducible first | exact ih0 _ _ _ _ _ | exact LeO.refl _ | exact LeO.none _ | refine LeO.ite ?_ ?_ | refine LeO.bind ?_ (fun _ => ?_))
set_option maxHeartbeats 8000000 in
set_option maxRecDepth 100000 in
theorem impl_Stone_area.calls (k : Nat) (A0 : Option Addr) (c0 : Nat) (l0 : List (S34)) (r : Int) (w : World) (hr0 : Kd.C k34 w A0 l0.length l0) (hc0 : l0.length ≤ c0) (h : impl_Stone_area.f k l0 = some r) :
  Calls Try.prog 40 #[.slice A0 l0.length c0] w fun e w' => e = .returned (.int .i64 r) ∧ Below w.heap.size w w' := by
 have hu34 := Try.underlying34
 have HR0 := Aside0.mk hr0
 have HC0 := Aside0.mk hc0
 clear hr0 hc0
 have HB := Aside0.mk (Below.refl w.heap.size w)
 have H : (impl_Stone_area.l0 k l0 0 l0 (l0.length : Int) 0) = some r := h
 clear h
 have H' := Aside0.mk H
 clear H
 go_enter Try.func40, Try.ntmps40
 go_wp2
 go_loopg [3, 9] k (fun kq v3 v9 w' => ∃ (x3_1 : Int) (x9_1 : Int), v3 = .int .i64 x3_1 ∧ v9 = .int .i64 x9_1 ∧ Aside0 (impl_Stone_area.l0 kq l0 x3_1 l0 (l0.length : Int) x9_1 = some r) ∧ Aside0 (kq ≤ k) ∧ Aside0 (Below w.heap.size w w'))
 case atStart => exact ⟨(0), (0), (by first | rfl | (simp; done) | (simp [*]; done)), (by first | rfl | (simp; done) | (simp [*]; done)), H', ⟨Nat.le_refl _⟩, ⟨kB_ HB⟩⟩
 case round =>
  clear H'
  obtain ⟨x3_1, x9_1, rfl, rfl, HA, HK1, HB⟩ := hrel
  rcases gk with _ | k1
  · exact absurd HA.out (by simp [impl_Stone_area.l0])
  have H := HA.out
  clear HA
  simp only [impl_Stone_area.l0] at H
  rcases (Decidable.em (x9_1 < (l0.length : Int))).symm with c2 | c2
  ·
   rw [if_neg c2] at H
   have c2b0 : decide (x9_1 < (l0.length : Int)) = false := decide_eq_false c2
   clear c2
   obtain rfl := Option.some.inj H
   go_wp2
   go_ret
   exact ⟨rt_, kB_ HB⟩

  rw [if_pos c2] at H
  have c2b0 : decide (x9_1 < (l0.length : Int)) = true := decide_eq_true c2
  clear c2
  obtain ⟨c3b0, H⟩ := gx_ H
  obtain ⟨c4b0, H⟩ := gx_ H
  by_cases c5 : (l0.length : Int) = 0
  ·
   rw [if_pos c5] at H
   exact absurd H (by simp)
  rw [if_neg c5] at H
  have c5b0 : ((l0.length : Int) == 0) = false := beq_eq_false_iff_ne.mpr c5
  have c5b1 : ((l0.length : Int) != 0) = true := bne_iff_ne.mpr c5
  have c5b2 : ¬ (l0 = []) := fun h_ => c5 (by rw [h_]; rfl)
  obtain ⟨ji6, hji6⟩ : ∃ j_ : Int, (Int.tmod (wrap64 (x9_1 + 1)) (l0.length : Int)) = j_ := ⟨_, rfl⟩
  replace H : (if 0 ≤ (ji6) then (if (ji6) < (l0.length : Int) then (impl_Stone_area.l0 k1 l0 (wrap64 (x3_1 + (wrap64 ((wrap64 ((wrap64 ((rd_T34 l0 x9_1).f0)) * (wrap64 ((rd_T34 l0 (ji6)).f1)))) - (wrap64 ((wrap64 ((rd_T34 l0 (ji6)).f0)) * (wrap64 ((rd_T34 l0 x9_1).f1)))))))) l0 (l0.length : Int) (wrap64 (x9_1 + 1))) else (none)) else (none)) = some r := by first | (rw [hji6] at H; exact H) | (simp only [hji6] at H ⊢; exact H)
  obtain ⟨c7b0, H⟩ := gx_ H
  obtain ⟨c8b0, H⟩ := gx_ H
  have H' := Aside0.mk H
  clear H
  have p423 : 0 ≤ (x9_1 : Int) := od_
  have q423 : x9_1 < (l0.length : Int) := od_
  obtain ⟨ad423, e423, hx423_0, hx423_1⟩ := af_ HB (at_T34 HR0.out x9_1 p423 q423)
  cases e423
  replace p423 := eq_true p423
  replace q423 := eq_true q423
  go_wp2_with (first | ((with_reducible refine gate_dst (N := 5) rfl ?_); refine boxM_ 5 #[.int .i16 0, .int .i16 0] 34 ?_; intro gb424 hg w9 hbox hb; have BK424 := Aside0.mk (hbox); have GW424 := Aside0.mk ((by rw [hg]; exact (below_size (kB_ HB)) : w.heap.size ≤ gb424)); have GE424 := Aside0.mk ((by rw [hg]; exact (below_size (kB_ HB)) : w.heap.size ≤ gb424)); replace HB := Aside0.mk (below_step (kB_ HB) hb); clear hb hbox hg; obtain ⟨⟨hcz10_0, hcz10_1⟩, hfz10_0, hfz10_1⟩ := bq_ BK424; have p425 : 0 ≤ ((ji6) : Int) := od_; have q425 : (ji6) < (l0.length : Int) := od_; obtain ⟨ad425, e425, hx425_0, hx425_1⟩ := at_T34 HR0.out (ji6) p425 q425; obtain rfl : ad423 = ad425 := (by injection e425); have hn425_0 : ad423.block ≠ gb424 := Nat.ne_of_lt (Nat.lt_of_lt_of_le (by have := World.block_lt_of_cell? _ _ hx425_0; first | rwa [add_block] at this | exact this) GW424.out); have hn425_1 : ad423.block ≠ gb424 := Nat.ne_of_lt (Nat.lt_of_lt_of_le (by have := World.block_lt_of_cell? _ _ hx425_0; first | rwa [add_block] at this | exact this) GW424.out); replace hx425_0 := (hw_ HB hx425_0 :); replace hx425_1 := (hw_ HB hx425_1 :); replace hx425_0 := (cell_far (p := ⟨gb424, 0, none⟩) (by first | (rw [add_block]; exact hn425_0) | (show (Addr.add _ _).block ≠ _; rw [add_block]; exact hn425_0) | exact hn425_0) (.int .i16 ((rd_T34 l0 x9_1).f0))).trans hx425_0; replace hx425_1 := (cell_far (p := ⟨gb424, 0, none⟩) (by first | (rw [add_block]; exact hn425_0) | (show (Addr.add _ _).block ≠ _; rw [add_block]; exact hn425_0) | exact hn425_0) (.int .i16 ((rd_T34 l0 x9_1).f0))).trans hx425_1; replace hx425_0 := (cell_far (p := ⟨gb424, 1, none⟩) (by first | (rw [add_block]; exact hn425_1) | (show (Addr.add _ _).block ≠ _; rw [add_block]; exact hn425_1) | exact hn425_1) (.int .i16 ((rd_T34 l0 x9_1).f1))).trans hx425_0; replace hx425_1 := (cell_far (p := ⟨gb424, 1, none⟩) (by first | (rw [add_block]; exact hn425_1) | (show (Addr.add _ _).block ≠ _; rw [add_block]; exact hn425_1) | exact hn425_1) (.int .i16 ((rd_T34 l0 x9_1).f1))).trans hx425_1; clear hn425_0; clear hn425_1; replace p425 := eq_true p425; replace q425 := eq_true q425) | ((with_reducible refine gate_dst (N := 6) rfl ?_); refine boxM_ 6 #[.int .i16 0, .int .i16 0] 34 ?_; intro gb426 hg w11 hbox hb; have BK426 := Aside0.mk (hbox); have GW426 := Aside0.mk ((by rw [hg]; exact (below_size (k1_ HB GE424)) : w.heap.size ≤ gb426)); have GE426 := Aside0.mk ((by rw [hg]; exact (below_size (k1_ HB GE424)) : w.heap.size ≤ gb426)); replace HB := Aside0.mk (below_step (k1_ HB GE424) hb); have NB424_426 := Aside0.mk ((by rw [hg]; exact Nat.ne_of_lt (blk_lt (g := gb424) (o := .cells #[.int .i16 ((rd_T34 l0 x9_1).f0), .int .i16 ((rd_T34 l0 x9_1).f1)] 34 (0, 0)) (by (with_reducible repeat (first | refine blk_drewN ?_ _ | refine blk_drew ?_ | refine blk_alloc ?_ _)); refine blk_put (cs := #[.int .i16 ((rd_T34 l0 x9_1).f0), .int .i16 0]) ?_ 1 _ rfl; (with_reducible repeat (first | refine blk_drewN ?_ _ | refine blk_drew ?_ | refine blk_alloc ?_ _)); refine blk_put (cs := #[.int .i16 0, .int .i16 0]) ?_ 0 _ rfl; (with_reducible repeat (first | refine blk_drewN ?_ _ | refine blk_drew ?_ | refine blk_alloc ?_ _)); exact BK424.out)) : gb424 ≠ gb426)); have NB426_424 := Aside0.mk ((by rw [hg]; exact Nat.ne_of_gt (blk_lt (g := gb424) (o := .cells #[.int .i16 ((rd_T34 l0 x9_1).f0), .int .i16 ((rd_T34 l0 x9_1).f1)] 34 (0, 0)) (by (with_reducible repeat (first | refine blk_drewN ?_ _ | refine blk_drew ?_ | refine blk_alloc ?_ _)); refine blk_put (cs := #[.int .i16 ((rd_T34 l0 x9_1).f0), .int .i16 0]) ?_ 1 _ rfl; (with_reducible repeat (first | refine blk_drewN ?_ _ | refine blk_drew ?_ | refine blk_alloc ?_ _)); refine blk_put (cs := #[.int .i16 0, .int .i16 0]) ?_ 0 _ rfl; (with_reducible repeat (first | refine blk_drewN ?_ _ | refine blk_drew ?_ | refine blk_alloc ?_ _)); exact BK424.out)) : gb426 ≠ gb424)); replace BK424 := Aside0.mk (blk_below (g := gb424) (o := .cells #[.int .i16 ((rd_T34 l0 x9_1).f0), .int .i16 ((rd_T34 l0 x9_1).f1)] 34 (0, 0)) (by (with_reducible repeat (first | refine blk_drewN ?_ _ | refine blk_drew ?_ | refine blk_alloc ?_ _)); refine blk_put (cs := #[.int .i16 ((rd_T34 l0 x9_1).f0), .int .i16 0]) ?_ 1 _ rfl; (with_reducible repeat (first | refine blk_drewN ?_ _ | refine blk_drew ?_ | refine blk_alloc ?_ _)); refine blk_put (cs := #[.int .i16 0, .int .i16 0]) ?_ 0 _ rfl; (with_reducible repeat (first | refine blk_drewN ?_ _ | refine blk_drew ?_ | refine blk_alloc ?_ _)); exact BK424.out) hb); clear hb hbox hg; have hnb12 := NB426_424.out; have hnc12 := NB424_426.out; obtain ⟨⟨hcz13_0, hcz13_1⟩, hfz13_0, hfz13_1⟩ := bq_ BK426; obtain ⟨⟨hcz14_0, hcz14_1⟩, hfz14_0, hfz14_1⟩ := bq_ BK424))
  go_roundg k1
  case measure => have := HK1.out; omega
  case rel => exact ⟨(wrap64 (x3_1 + (wrap64 ((wrap64 ((wrap64 ((rd_T34 l0 x9_1).f0)) * (wrap64 ((rd_T34 l0 (ji6)).f1)))) - (wrap64 ((wrap64 ((rd_T34 l0 (ji6)).f0)) * (wrap64 ((rd_T34 l0 x9_1).f1)))))))), (wrap64 (x9_1 + 1)), (by first | rfl | (simp; done) | (simp only [← hji6] <;> (first | rfl | simp)) | (simp [*]; done)), (by first | rfl | (simp; done) | (simp [*]; done)), H', ⟨by have := HK1.out; omega⟩, ⟨k2_ HB GE424 GE426⟩⟩
end Go.Proofs.Ytmglnofmmgokkaa.PA
