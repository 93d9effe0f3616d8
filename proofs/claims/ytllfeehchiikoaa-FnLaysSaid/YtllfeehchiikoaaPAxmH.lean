/- Pure functions, and that Go's functions come to them. -/
import Derived.Test.YtllfeehchiikoaaPAx0
import Derived.Test.YtllfeehchiikoaaPAxmG
import Derived.Test.YtllfeehchiikoaaPAxgImpl
namespace Go.Proofs.Ytllfeehchiikoaa.PA
open Go.RowKit Go.Proofs.YtllfeehchiikoaaW.PrintWords Go.Proofs.YtllfeehchiikoaaW.PrintLast Go.Proofs.YtllfeehchiikoaaW.PrintMore
set_option linter.unusedVariables false
set_option linter.unusedSimpArgs false

/-! ### impl_WhereIs: function 15 -/
def impl_WhereIs.f (k : Nat) (l0 : List (S43)) (a1 : Int) (a2 : Int) : Option (Int × Int) := (impl_ValidStone.f k l0).bind fun t407 => ((impl_within.f a1 (-1000) 1000).bind fun t408 => (if t408 = true then ((impl_within.f a2 (-1000) 1000).bind fun t409 => ((impl_codeOf.f t407 t409).bind fun t410 => (if t410 = 0 then ((impl_Stone_where.f k l0 (IntKind.i16.wrap (a1)) (IntKind.i16.wrap (a2))).bind fun t411 => (some (t411, 0))) else (some (0, t410))))) else ((impl_codeOf.f t407 false).bind fun t412 => (if t412 = 0 then ((impl_Stone_where.f k l0 (IntKind.i16.wrap (a1)) (IntKind.i16.wrap (a2))).bind fun t413 => (some (t413, 0))) else (some (0, t412))))))
theorem impl_WhereIs.mono : ∀ a0 a1 a2 k, LeO (impl_WhereIs.f k a0 a1 a2) (impl_WhereIs.f (k + 1) a0 a1 a2) := by
 intro a0 a1 a2 k
 unfold impl_WhereIs.f
 repeat' first
   | (with_reducible exact impl_Stone_where.mono _ _ _ _)
   | (with_reducible exact impl_ValidStone.mono _ _)
   | (with_reducible exact LeO.refl _)
   | (with_reducible exact LeO.none _)
   | (with_reducible refine LeO.ite ?_ ?_)
   | (with_reducible refine LeO.bind ?_ (fun _ => ?_))
set_option maxHeartbeats 8000000 in
set_option maxRecDepth 100000 in
theorem impl_WhereIs.calls (k : Nat) (A0 : Option Addr) (c0 : Nat) (l0 : List (S43)) (a1 : Int) (a2 : Int) (r1 : Int) (r2 : Int) (w : World) (hr0 : Kd.C k43 w A0 l0.length l0) (hc0 : l0.length ≤ c0) (h : impl_WhereIs.f k l0 a1 a2 = some (r1, r2)) :
  Calls Try.prog 15 #[.slice A0 l0.length c0, .int .i64 a1, .int .i64 a2] w fun e w' => e = .returned (.tuple #[.int .i64 r1, .int .i64 r2]) ∧ Below w.heap.size w w' := by
 have hu43 := Try.underlying43
 have HR0 := Aside0.mk hr0
 have HC0 := Aside0.mk hc0
 clear hr0 hc0
 have HB := Aside0.mk (Below.refl w.heap.size w)
 have H : ((impl_ValidStone.f k l0).bind fun t407 => ((impl_within.f a1 (-1000) 1000).bind fun t408 => (if t408 = true then ((impl_within.f a2 (-1000) 1000).bind fun t409 => ((impl_codeOf.f t407 t409).bind fun t410 => (if t410 = 0 then ((impl_Stone_where.f k l0 (IntKind.i16.wrap (a1)) (IntKind.i16.wrap (a2))).bind fun t411 => (some (t411, 0))) else (some (0, t410))))) else ((impl_codeOf.f t407 false).bind fun t412 => (if t412 = 0 then ((impl_Stone_where.f k l0 (IntKind.i16.wrap (a1)) (IntKind.i16.wrap (a2))).bind fun t413 => (some (t413, 0))) else (some (0, t412))))))) = some (r1, r2) := h
 clear h
 replace H := Option.bind_eq_some_iff.mp H
 obtain ⟨t407, A40, H⟩ := H
 (try dsimp only at H)
 have A4 := Aside0.mk A40
 clear A40
 replace H := Option.bind_eq_some_iff.mp H
 obtain ⟨t408, A50, H⟩ := H
 (try dsimp only at H)
 have A5 := Aside0.mk A50
 clear A50
 rcases (Decidable.em (t408 = true)).symm with c6 | c6
 ·
  replace c6 := Bool.eq_false_iff.mpr c6
  subst c6
  replace H := gf_ H
  replace H := Option.bind_eq_some_iff.mp H
  obtain ⟨t412, A140, H⟩ := H
  (try dsimp only at H)
  have A14 := Aside0.mk A140
  clear A140
  rcases (Decidable.em (t412 = 0)).symm with c15 | c15
  ·
   rw [if_neg c15] at H
   have c15b0 : (t412 == 0) = false := beq_eq_false_iff_ne.mpr c15
   have c15b1 : (t412 != 0) = true := bne_iff_ne.mpr c15
   simp only [Option.some.injEq, Prod.mk.injEq] at H
   obtain ⟨rfl, rfl⟩ := H
   go_enter Try.func15, Try.ntmps15
   go_wp2_with (first | ((with_reducible refine gate_callee (f := 31) rfl ?_); refine goM_ (some 10) Try.func31 #[.slice A0 l0.length c0] ?_; (with_reducible refine (impl_ValidStone.calls k _ _ l0 t407 _ ?side1 ?side2 A4.out).mono ?_); (case side1 => exact kc_ HR0.out); (case side2 => exact HC0.out); rintro e w19 ⟨rfl, hb⟩; refine ⟨_, rfl, ?_⟩; replace HB := bs_ HB hb; clear hb) | ((with_reducible refine gate_callee (f := 36) rfl ?_); refine goM_ (some 12) Try.func36 #[.int .i64 a1, .int .i64 (-1000), .int .i64 1000] ?_; (with_reducible refine (impl_within.calls a1 (-1000) 1000 false _ A5.out).mono ?_); rintro e w' ⟨rfl, ⟨nd, rfl⟩⟩; refine ⟨_, rfl, ?_⟩) | ((with_reducible refine gate_callee (f := 35) rfl ?_); refine goM_ (some 17) Try.func35 #[.bool t407, .bool false] ?_; (with_reducible refine (impl_codeOf.calls t407 false t412 _ A14.out).mono ?_); rintro e w' ⟨rfl, ⟨nd, rfl⟩⟩; refine ⟨_, rfl, ?_⟩))
   go_ret2
   exact ⟨rt_, bl_ HB⟩

  rw [if_pos c15] at H
  have c15b0 : (t412 == 0) = true := beq_iff_eq.mpr c15
  have c15b1 : (t412 != 0) = false := bne_eq_false_iff_eq.mpr c15
  clear c15
  replace H := Option.bind_eq_some_iff.mp H
  obtain ⟨t413, A160, H⟩ := H
  (try dsimp only at H)
  have A16 := Aside0.mk A160
  clear A160
  simp only [Option.some.injEq, Prod.mk.injEq] at H
  obtain ⟨rfl, rfl⟩ := H
  go_enter Try.func15, Try.ntmps15
  go_wp2_with (first | ((with_reducible refine gate_callee (f := 31) rfl ?_); refine goM_ (some 10) Try.func31 #[.slice A0 l0.length c0] ?_; (with_reducible refine (impl_ValidStone.calls k _ _ l0 t407 _ ?side1 ?side2 A4.out).mono ?_); (case side1 => exact kc_ HR0.out); (case side2 => exact HC0.out); rintro e w17 ⟨rfl, hb⟩; refine ⟨_, rfl, ?_⟩; replace HB := bs_ HB hb; clear hb) | ((with_reducible refine gate_callee (f := 36) rfl ?_); refine goM_ (some 12) Try.func36 #[.int .i64 a1, .int .i64 (-1000), .int .i64 1000] ?_; (with_reducible refine (impl_within.calls a1 (-1000) 1000 false _ A5.out).mono ?_); rintro e w' ⟨rfl, ⟨nd, rfl⟩⟩; refine ⟨_, rfl, ?_⟩) | ((with_reducible refine gate_callee (f := 35) rfl ?_); refine goM_ (some 17) Try.func35 #[.bool t407, .bool false] ?_; (with_reducible refine (impl_codeOf.calls t407 false t412 _ A14.out).mono ?_); rintro e w' ⟨rfl, ⟨nd, rfl⟩⟩; refine ⟨_, rfl, ?_⟩) | ((with_reducible refine gate_callee (f := 39) rfl ?_); refine goM_ (some 27) Try.func39 #[.slice A0 l0.length c0, .agg #[.int .i16 (IntKind.i16.wrap (a1)), .int .i16 (IntKind.i16.wrap (a2))]] ?_; (with_reducible refine (impl_Stone_where.calls k _ _ l0 (IntKind.i16.wrap (a1)) (IntKind.i16.wrap (a2)) t413 _ ?side1 ?side2 A16.out).mono ?_); (case side1 => repeat (first | exact (Kd.C_below HR0.out (kB_ HB)) | (with_reducible refine Kd.C_alloc ?_ _) | (with_reducible refine Kd.C_drewN ?_ _) | (with_reducible refine Kd.C_drew ?_))); (case side2 => exact HC0.out); rintro e w18 ⟨rfl, hb⟩; refine ⟨_, rfl, ?_⟩; replace HB := bs_ HB hb; clear hb))
  go_ret2
  exact ⟨rt_, bl_ HB⟩
 subst c6
 replace H := gt_ H
 replace H := Option.bind_eq_some_iff.mp H
 obtain ⟨t409, A70, H⟩ := H
 (try dsimp only at H)
 have A7 := Aside0.mk A70
 clear A70
 replace H := Option.bind_eq_some_iff.mp H
 obtain ⟨t410, A80, H⟩ := H
 (try dsimp only at H)
 have A8 := Aside0.mk A80
 clear A80
 rcases (Decidable.em (t410 = 0)).symm with c9 | c9
 ·
  rw [if_neg c9] at H
  have c9b0 : (t410 == 0) = false := beq_eq_false_iff_ne.mpr c9
  have c9b1 : (t410 != 0) = true := bne_iff_ne.mpr c9
  simp only [Option.some.injEq, Prod.mk.injEq] at H
  obtain ⟨rfl, rfl⟩ := H
  go_enter Try.func15, Try.ntmps15
  go_wp2_with (first | ((with_reducible refine gate_callee (f := 31) rfl ?_); refine goM_ (some 10) Try.func31 #[.slice A0 l0.length c0] ?_; (with_reducible refine (impl_ValidStone.calls k _ _ l0 t407 _ ?side1 ?side2 A4.out).mono ?_); (case side1 => exact kc_ HR0.out); (case side2 => exact HC0.out); rintro e w13 ⟨rfl, hb⟩; refine ⟨_, rfl, ?_⟩; replace HB := bs_ HB hb; clear hb) | ((with_reducible refine gate_callee (f := 36) rfl ?_); refine goM_ (some 12) Try.func36 #[.int .i64 a1, .int .i64 (-1000), .int .i64 1000] ?_; (with_reducible refine (impl_within.calls a1 (-1000) 1000 true _ A5.out).mono ?_); rintro e w' ⟨rfl, ⟨nd, rfl⟩⟩; refine ⟨_, rfl, ?_⟩) | (go_at_call 36; (with_reducible refine (impl_within.calls a2 (-1000) 1000 t409 _ A7.out).mono ?_); rintro e w' ⟨rfl, ⟨nd, rfl⟩⟩) | ((with_reducible refine gate_callee (f := 35) rfl ?_); refine goM_ (some 17) Try.func35 #[.bool t407, .bool t409] ?_; (with_reducible refine (impl_codeOf.calls t407 t409 t410 _ A8.out).mono ?_); rintro e w' ⟨rfl, ⟨nd, rfl⟩⟩; refine ⟨_, rfl, ?_⟩))
  go_ret2
  exact ⟨rt_, bl_ HB⟩
 rw [if_pos c9] at H
 have c9b0 : (t410 == 0) = true := beq_iff_eq.mpr c9
 have c9b1 : (t410 != 0) = false := bne_eq_false_iff_eq.mpr c9
 clear c9
 replace H := Option.bind_eq_some_iff.mp H
 obtain ⟨t411, A100, H⟩ := H
 (try dsimp only at H)
 have A10 := Aside0.mk A100
 clear A100
 simp only [Option.some.injEq, Prod.mk.injEq] at H
 obtain ⟨rfl, rfl⟩ := H
 go_enter Try.func15, Try.ntmps15
 go_wp2_with (first | ((with_reducible refine gate_callee (f := 31) rfl ?_); refine goM_ (some 10) Try.func31 #[.slice A0 l0.length c0] ?_; (with_reducible refine (impl_ValidStone.calls k _ _ l0 t407 _ ?side1 ?side2 A4.out).mono ?_); (case side1 => exact kc_ HR0.out); (case side2 => exact HC0.out); rintro e w11 ⟨rfl, hb⟩; refine ⟨_, rfl, ?_⟩; replace HB := bs_ HB hb; clear hb) | ((with_reducible refine gate_callee (f := 36) rfl ?_); refine goM_ (some 12) Try.func36 #[.int .i64 a1, .int .i64 (-1000), .int .i64 1000] ?_; (with_reducible refine (impl_within.calls a1 (-1000) 1000 true _ A5.out).mono ?_); rintro e w' ⟨rfl, ⟨nd, rfl⟩⟩; refine ⟨_, rfl, ?_⟩) | (go_at_call 36; (with_reducible refine (impl_within.calls a2 (-1000) 1000 t409 _ A7.out).mono ?_); rintro e w' ⟨rfl, ⟨nd, rfl⟩⟩) | ((with_reducible refine gate_callee (f := 35) rfl ?_); refine goM_ (some 17) Try.func35 #[.bool t407, .bool t409] ?_; (with_reducible refine (impl_codeOf.calls t407 t409 t410 _ A8.out).mono ?_); rintro e w' ⟨rfl, ⟨nd, rfl⟩⟩; refine ⟨_, rfl, ?_⟩) | ((with_reducible refine gate_callee (f := 39) rfl ?_); refine goM_ (some 27) Try.func39 #[.slice A0 l0.length c0, .agg #[.int .i16 (IntKind.i16.wrap (a1)), .int .i16 (IntKind.i16.wrap (a2))]] ?_; (with_reducible refine (impl_Stone_where.calls k _ _ l0 (IntKind.i16.wrap (a1)) (IntKind.i16.wrap (a2)) t411 _ ?side1 ?side2 A10.out).mono ?_); (case side1 => repeat (first | exact (Kd.C_below HR0.out (kB_ HB)) | (with_reducible refine Kd.C_alloc ?_ _) | (with_reducible refine Kd.C_drewN ?_ _) | (with_reducible refine Kd.C_drew ?_))); (case side2 => exact HC0.out); rintro e w12 ⟨rfl, hb⟩; refine ⟨_, rfl, ?_⟩; replace HB := bs_ HB hb; clear hb))
 go_ret2
 exact ⟨rt_, bl_ HB⟩
end Go.Proofs.Ytllfeehchiikoaa.PA
namespace Go.Proofs.Ytllfeehchiikoaa.PA
open Go.RowKit Go.Proofs.YtllfeehchiikoaaW.PrintWords Go.Proofs.YtllfeehchiikoaaW.PrintLast Go.Proofs.YtllfeehchiikoaaW.PrintMore
set_option linter.unusedVariables false
set_option linter.unusedSimpArgs false

/-! ### impl_cornerLess: function 75 -/
def impl_cornerLess.f (a0_0 : Int) (a0_1 : Int) (a1_0 : Int) (a1_1 : Int) : Option (Bool) := if a0_0 < a1_0 then (some true) else (if a0_0 = a1_0 then (some (decide (a0_1 < a1_1))) else (some false))
set_option maxHeartbeats 8000000 in
set_option maxRecDepth 100000 in
theorem impl_cornerLess.calls (a0_0 : Int) (a0_1 : Int) (a1_0 : Int) (a1_1 : Int) (r : Bool) (w : World) (h : impl_cornerLess.f a0_0 a0_1 a1_0 a1_1 = some r) :
  Calls Try.prog 75 #[.agg #[.int .i16 a0_0, .int .i16 a0_1], .agg #[.int .i16 a1_0, .int .i16 a1_1]] w fun e w' => e = .returned (.bool r) ∧ Below w.heap.size w w' := by
 have hu43 := Try.underlying43
 have HB := Aside0.mk (Below.refl w.heap.size w)
 have H : (if a0_0 < a1_0 then (some true) else (if a0_0 = a1_0 then (some (decide (a0_1 < a1_1))) else (some false))) = some r := h
 clear h
 by_cases c3 : a0_0 < a1_0
 ·
  rw [if_pos c3] at H
  have c3b0 : decide (a0_0 < a1_0) = true := decide_eq_true c3
  clear c3
  obtain rfl := Option.some.inj H
  go_enter Try.func75, Try.ntmps75
  go_wp2_with (first | ((with_reducible refine gate_dst (N := 2) rfl ?_); refine boxM_ 2 #[.int .i16 a0_0, .int .i16 a0_1] 43 ?_; intro gb414 hg w4 hbox hb; have BK414 := Aside0.mk (hbox); have GW414 := ge_ HB hg; have GE414 := ge_ HB hg; replace HB := bs_ HB hb; clear hb hbox hg) | ((with_reducible refine gate_dst (N := 3) rfl ?_); refine boxM_ 3 #[.int .i16 a1_0, .int .i16 a1_1] 43 ?_; intro gb415 hg w5 hbox hb; have BK415 := Aside0.mk (hbox); have GW415 := ge_ HB hg; have GE415 := ge_ HB hg; replace HB := bs_ HB hb; have NB414_415 := nl_ BK414 hg; have NB415_414 := ng_ BK414 hg; replace BK414 := bd_ BK414 hb; clear hb hbox hg; have hnb6 := NB414_415.out; have hnc6 := NB415_414.out; obtain ⟨⟨hcz7_0, hcz7_1⟩, hfz7_0, hfz7_1⟩ := bq_ BK414; obtain ⟨⟨hcz8_0, hcz8_1⟩, hfz8_0, hfz8_1⟩ := bq_ BK415))
  go_ret
  exact ⟨rt_, bl_ HB⟩
 rw [if_neg c3] at H
 have c3b0 : decide (a0_0 < a1_0) = false := decide_eq_false c3
 clear c3
 by_cases c9 : a0_0 = a1_0
 ·
  rw [if_pos c9] at H
  have c9b0 : (a0_0 == a1_0) = true := beq_iff_eq.mpr c9
  have c9b1 : (a0_0 != a1_0) = false := bne_eq_false_iff_eq.mpr c9
  clear c9
  obtain rfl := Option.some.inj H
  go_enter Try.func75, Try.ntmps75
  go_wp2_with (first | ((with_reducible refine gate_dst (N := 2) rfl ?_); refine boxM_ 2 #[.int .i16 a0_0, .int .i16 a0_1] 43 ?_; intro gb414 hg w10 hbox hb; have BK414 := Aside0.mk (hbox); have GW414 := ge_ HB hg; have GE414 := ge_ HB hg; replace HB := bs_ HB hb; clear hb hbox hg) | ((with_reducible refine gate_dst (N := 3) rfl ?_); refine boxM_ 3 #[.int .i16 a1_0, .int .i16 a1_1] 43 ?_; intro gb415 hg w11 hbox hb; have BK415 := Aside0.mk (hbox); have GW415 := ge_ HB hg; have GE415 := ge_ HB hg; replace HB := bs_ HB hb; have NB414_415 := nl_ BK414 hg; have NB415_414 := ng_ BK414 hg; replace BK414 := bd_ BK414 hb; clear hb hbox hg; have hnb12 := NB414_415.out; have hnc12 := NB415_414.out; obtain ⟨⟨hcz13_0, hcz13_1⟩, hfz13_0, hfz13_1⟩ := bq_ BK414; obtain ⟨⟨hcz14_0, hcz14_1⟩, hfz14_0, hfz14_1⟩ := bq_ BK415))
  go_ret
  exact ⟨rt_, bl_ HB⟩
 ·
  rw [if_neg c9] at H
  have c9b0 : (a0_0 == a1_0) = false := beq_eq_false_iff_ne.mpr c9
  have c9b1 : (a0_0 != a1_0) = true := bne_iff_ne.mpr c9
  obtain rfl := Option.some.inj H
  go_enter Try.func75, Try.ntmps75
  go_wp2_with (first | ((with_reducible refine gate_dst (N := 2) rfl ?_); refine boxM_ 2 #[.int .i16 a0_0, .int .i16 a0_1] 43 ?_; intro gb414 hg w15 hbox hb; have BK414 := Aside0.mk (hbox); have GW414 := ge_ HB hg; have GE414 := ge_ HB hg; replace HB := bs_ HB hb; clear hb hbox hg) | ((with_reducible refine gate_dst (N := 3) rfl ?_); refine boxM_ 3 #[.int .i16 a1_0, .int .i16 a1_1] 43 ?_; intro gb415 hg w16 hbox hb; have BK415 := Aside0.mk (hbox); have GW415 := ge_ HB hg; have GE415 := ge_ HB hg; replace HB := bs_ HB hb; have NB414_415 := nl_ BK414 hg; have NB415_414 := ng_ BK414 hg; replace BK414 := bd_ BK414 hb; clear hb hbox hg; have hnb17 := NB414_415.out; have hnc17 := NB415_414.out; obtain ⟨⟨hcz18_0, hcz18_1⟩, hfz18_0, hfz18_1⟩ := bq_ BK414; obtain ⟨⟨hcz19_0, hcz19_1⟩, hfz19_0, hfz19_1⟩ := bq_ BK415))
  go_ret
  exact ⟨rt_, bl_ HB⟩

end Go.Proofs.Ytllfeehchiikoaa.PA
