/- Pure functions, and that Go's functions come to them. -/
import Derived.Test.YthbogbaaikjhbaaGreatDoorPAx0
import Derived.Test.YthbogbaaikjhbaaGreatDoorPAxf46
import Derived.Test.YthbogbaaikjhbaaGreatDoorPAxgImpl
import Derived.Test.YthbogbaaikjhbaaGreatDoorPAxm29
import Derived.Test.YthbogbaaikjhbaaGreatDoorPAxf45
import Derived.Test.YthbogbaaikjhbaaGreatDoorPAxgSpec
namespace Go.Proofs.YthbogbaaikjhbaaGreatDoor.PA
open Go.RowKit Go.Proofs.YthbogbaaikjhbaaGreatDoorW.PrintWords Go.Proofs.YthbogbaaikjhbaaGreatDoorW.PrintLast Go.Proofs.YthbogbaaikjhbaaGreatDoorW.PrintMore
set_option linter.unusedVariables false
set_option linter.unusedSimpArgs false

/-! ### impl_WhereIs: function 22 -/
def impl_WhereIs.f (k : Nat) (l0 : List (S43)) (a1 : Int) (a2 : Int) : Option (Int × Int) := (impl_ValidStone.f k l0).bind fun t477 => ((impl_within.f a1 (-1000) 1000).bind fun t478 => (if t478 = true then ((impl_within.f a2 (-1000) 1000).bind fun t479 => ((impl_codeOf.f t477 t479).bind fun t480 => (if t480 = 0 then ((impl_Stone_where.f k l0 (IntKind.i16.wrap (a1)) (IntKind.i16.wrap (a2))).bind fun t481 => (some (t481, 0))) else (some (0, t480))))) else ((impl_codeOf.f t477 false).bind fun t482 => (if t482 = 0 then ((impl_Stone_where.f k l0 (IntKind.i16.wrap (a1)) (IntKind.i16.wrap (a2))).bind fun t483 => (some (t483, 0))) else (some (0, t482))))))
theorem impl_WhereIs.mono : ∀ a0 a1 a2 k, LeO (impl_WhereIs.f k a0 a1 a2) (impl_WhereIs.f (k + 1) a0 a1 a2) := by
 intro a0 a1 a2 k
 unfold impl_WhereIs.f
 repeat' first | (with_reducible first | exact impl_Stone_where.mono _ _ _ _ | exact impl_ValidStone.mono _ _ | exact LeO.refl _ | exact LeO.none _ | refine LeO.ite ?_ ?_ | refine LeO.bind ?_ (fun _ => ?_))
set_option maxHeartbeats 8000000 in
set_option maxRecDepth 100000 in
theorem impl_WhereIs.calls (k : Nat) (A0 : Option Addr) (c0 : Nat) (l0 : List (S43)) (a1 : Int) (a2 : Int) (r1 : Int) (r2 : Int) (w : World) (hr0 : Kd.C k43 w A0 l0.length l0) (hc0 : l0.length ≤ c0) (h : impl_WhereIs.f k l0 a1 a2 = some (r1, r2)) :
  Calls Tryz.prog 22 #[.slice A0 l0.length c0, .int .i64 a1, .int .i64 a2] w fun e w' => e = .returned (.tuple #[.int .i64 r1, .int .i64 r2]) ∧ Below w.heap.size w w' := by
 have hu43 := Tryz.underlying43
 have HR0 := Aside0.mk hr0
 have HC0 := Aside0.mk hc0
 clear hr0 hc0
 have HB := Aside0.mk (Below.refl w.heap.size w)
 have H : ((impl_ValidStone.f k l0).bind fun t477 => ((impl_within.f a1 (-1000) 1000).bind fun t478 => (if t478 = true then ((impl_within.f a2 (-1000) 1000).bind fun t479 => ((impl_codeOf.f t477 t479).bind fun t480 => (if t480 = 0 then ((impl_Stone_where.f k l0 (IntKind.i16.wrap (a1)) (IntKind.i16.wrap (a2))).bind fun t481 => (some (t481, 0))) else (some (0, t480))))) else ((impl_codeOf.f t477 false).bind fun t482 => (if t482 = 0 then ((impl_Stone_where.f k l0 (IntKind.i16.wrap (a1)) (IntKind.i16.wrap (a2))).bind fun t483 => (some (t483, 0))) else (some (0, t482))))))) = some (r1, r2) := h
 clear h
 obtain ⟨t477, A4, H⟩ := be_ H
 (try dsimp only at H)
 obtain ⟨t478, A5, H⟩ := be_ H
 (try dsimp only at H)
 rcases (Decidable.em (t478 = true)).symm with c6 | c6
 ·
  replace c6 := Bool.eq_false_iff.mpr c6
  subst c6
  replace H := gf_ H
  obtain ⟨t482, A14, H⟩ := be_ H
  (try dsimp only at H)
  rcases (Decidable.em (t482 = 0)).symm with c15 | c15
  ·
   rw [if_neg c15] at H
   have c15b0 : (t482 == 0) = false := beq_eq_false_iff_ne.mpr c15
   have c15b1 : (t482 != 0) = true := bne_iff_ne.mpr c15
   simp only [Option.some.injEq, Prod.mk.injEq] at H
   obtain ⟨rfl, rfl⟩ := H
   go_enter Tryz.func22, Tryz.ntmps22
   go_wp2_with (first | ((with_reducible refine gate_callee (f := 14) rfl ?_); refine goM_ (some 10) Tryz.func14 #[.slice A0 l0.length c0] ?_; (with_reducible refine (impl_ValidStone.calls k _ _ l0 t477 _ ?side1 ?side2 A4.out).mono ?_); (case side1 => exact kc_ HR0.out); (case side2 => exact HC0.out); rintro e w19 ⟨rfl, hb⟩; refine ⟨_, rfl, ?_⟩; replace HB := bs_ HB hb; clear hb) | ((with_reducible refine gate_callee (f := 41) rfl ?_); refine goM_ (some 12) Tryz.func41 #[.int .i64 a1, .int .i64 (-1000), .int .i64 1000] ?_; (with_reducible refine (impl_within.calls a1 (-1000) 1000 false _ A5.out).mono ?_); rintro e w' ⟨rfl, ⟨nd, rfl⟩⟩; refine ⟨_, rfl, ?_⟩) | ((with_reducible refine gate_callee (f := 40) rfl ?_); refine goM_ (some 17) Tryz.func40 #[.bool t477, .bool false] ?_; (with_reducible refine (impl_codeOf.calls t477 false t482 _ A14.out).mono ?_); rintro e w' ⟨rfl, ⟨nd, rfl⟩⟩; refine ⟨_, rfl, ?_⟩))
   go_ret2
   exact ⟨rt_, bl_ HB⟩

  rw [if_pos c15] at H
  have c15b0 : (t482 == 0) = true := beq_iff_eq.mpr c15
  have c15b1 : (t482 != 0) = false := bne_eq_false_iff_eq.mpr c15
  clear c15
  obtain ⟨t483, A16, H⟩ := be_ H
  (try dsimp only at H)
  simp only [Option.some.injEq, Prod.mk.injEq] at H
  obtain ⟨rfl, rfl⟩ := H
  go_enter Tryz.func22, Tryz.ntmps22
  go_wp2_with (first | ((with_reducible refine gate_callee (f := 14) rfl ?_); refine goM_ (some 10) Tryz.func14 #[.slice A0 l0.length c0] ?_; (with_reducible refine (impl_ValidStone.calls k _ _ l0 t477 _ ?side1 ?side2 A4.out).mono ?_); (case side1 => exact kc_ HR0.out); (case side2 => exact HC0.out); rintro e w17 ⟨rfl, hb⟩; refine ⟨_, rfl, ?_⟩; replace HB := bs_ HB hb; clear hb) | ((with_reducible refine gate_callee (f := 41) rfl ?_); refine goM_ (some 12) Tryz.func41 #[.int .i64 a1, .int .i64 (-1000), .int .i64 1000] ?_; (with_reducible refine (impl_within.calls a1 (-1000) 1000 false _ A5.out).mono ?_); rintro e w' ⟨rfl, ⟨nd, rfl⟩⟩; refine ⟨_, rfl, ?_⟩) | ((with_reducible refine gate_callee (f := 40) rfl ?_); refine goM_ (some 17) Tryz.func40 #[.bool t477, .bool false] ?_; (with_reducible refine (impl_codeOf.calls t477 false t482 _ A14.out).mono ?_); rintro e w' ⟨rfl, ⟨nd, rfl⟩⟩; refine ⟨_, rfl, ?_⟩) | ((with_reducible refine gate_callee (f := 46) rfl ?_); refine goM_ (some 27) Tryz.func46 #[.slice A0 l0.length c0, .agg #[.int .i16 (IntKind.i16.wrap (a1)), .int .i16 (IntKind.i16.wrap (a2))]] ?_; (with_reducible refine (impl_Stone_where.calls k _ _ l0 (IntKind.i16.wrap (a1)) (IntKind.i16.wrap (a2)) t483 _ ?side1 ?side2 A16.out).mono ?_); (case side1 => repeat (first | exact (Kd.C_below HR0.out (kB_ HB)) | (with_reducible refine Kd.C_alloc ?_ _) | (with_reducible refine Kd.C_drewN ?_ _) | (with_reducible refine Kd.C_drew ?_))); (case side2 => exact HC0.out); rintro e w18 ⟨rfl, hb⟩; refine ⟨_, rfl, ?_⟩; replace HB := bs_ HB hb; clear hb))
  go_ret2
  exact ⟨rt_, bl_ HB⟩
 subst c6
 replace H := gt_ H
 obtain ⟨t479, A7, H⟩ := be_ H
 (try dsimp only at H)
 obtain ⟨t480, A8, H⟩ := be_ H
 (try dsimp only at H)
 rcases (Decidable.em (t480 = 0)).symm with c9 | c9
 ·
  rw [if_neg c9] at H
  have c9b0 : (t480 == 0) = false := beq_eq_false_iff_ne.mpr c9
  have c9b1 : (t480 != 0) = true := bne_iff_ne.mpr c9
  simp only [Option.some.injEq, Prod.mk.injEq] at H
  obtain ⟨rfl, rfl⟩ := H
  go_enter Tryz.func22, Tryz.ntmps22
  go_wp2_with (first | ((with_reducible refine gate_callee (f := 14) rfl ?_); refine goM_ (some 10) Tryz.func14 #[.slice A0 l0.length c0] ?_; (with_reducible refine (impl_ValidStone.calls k _ _ l0 t477 _ ?side1 ?side2 A4.out).mono ?_); (case side1 => exact kc_ HR0.out); (case side2 => exact HC0.out); rintro e w13 ⟨rfl, hb⟩; refine ⟨_, rfl, ?_⟩; replace HB := bs_ HB hb; clear hb) | ((with_reducible refine gate_callee (f := 41) rfl ?_); refine goM_ (some 12) Tryz.func41 #[.int .i64 a1, .int .i64 (-1000), .int .i64 1000] ?_; (with_reducible refine (impl_within.calls a1 (-1000) 1000 true _ A5.out).mono ?_); rintro e w' ⟨rfl, ⟨nd, rfl⟩⟩; refine ⟨_, rfl, ?_⟩) | (go_at_call 41; (with_reducible refine (impl_within.calls a2 (-1000) 1000 t479 _ A7.out).mono ?_); rintro e w' ⟨rfl, ⟨nd, rfl⟩⟩) | ((with_reducible refine gate_callee (f := 40) rfl ?_); refine goM_ (some 17) Tryz.func40 #[.bool t477, .bool t479] ?_; (with_reducible refine (impl_codeOf.calls t477 t479 t480 _ A8.out).mono ?_); rintro e w' ⟨rfl, ⟨nd, rfl⟩⟩; refine ⟨_, rfl, ?_⟩))
  go_ret2
  exact ⟨rt_, bl_ HB⟩
 rw [if_pos c9] at H
 have c9b0 : (t480 == 0) = true := beq_iff_eq.mpr c9
 have c9b1 : (t480 != 0) = false := bne_eq_false_iff_eq.mpr c9
 clear c9
 obtain ⟨t481, A10, H⟩ := be_ H
 (try dsimp only at H)
 simp only [Option.some.injEq, Prod.mk.injEq] at H
 obtain ⟨rfl, rfl⟩ := H
 go_enter Tryz.func22, Tryz.ntmps22
 go_wp2_with (first | ((with_reducible refine gate_callee (f := 14) rfl ?_); refine goM_ (some 10) Tryz.func14 #[.slice A0 l0.length c0] ?_; (with_reducible refine (impl_ValidStone.calls k _ _ l0 t477 _ ?side1 ?side2 A4.out).mono ?_); (case side1 => exact kc_ HR0.out); (case side2 => exact HC0.out); rintro e w11 ⟨rfl, hb⟩; refine ⟨_, rfl, ?_⟩; replace HB := bs_ HB hb; clear hb) | ((with_reducible refine gate_callee (f := 41) rfl ?_); refine goM_ (some 12) Tryz.func41 #[.int .i64 a1, .int .i64 (-1000), .int .i64 1000] ?_; (with_reducible refine (impl_within.calls a1 (-1000) 1000 true _ A5.out).mono ?_); rintro e w' ⟨rfl, ⟨nd, rfl⟩⟩; refine ⟨_, rfl, ?_⟩) | (go_at_call 41; (with_reducible refine (impl_within.calls a2 (-1000) 1000 t479 _ A7.out).mono ?_); rintro e w' ⟨rfl, ⟨nd, rfl⟩⟩) | ((with_reducible refine gate_callee (f := 40) rfl ?_); refine goM_ (some 17) Tryz.func40 #[.bool t477, .bool t479] ?_; (with_reducible refine (impl_codeOf.calls t477 t479 t480 _ A8.out).mono ?_); rintro e w' ⟨rfl, ⟨nd, rfl⟩⟩; refine ⟨_, rfl, ?_⟩) | ((with_reducible refine gate_callee (f := 46) rfl ?_); refine goM_ (some 27) Tryz.func46 #[.slice A0 l0.length c0, .agg #[.int .i16 (IntKind.i16.wrap (a1)), .int .i16 (IntKind.i16.wrap (a2))]] ?_; (with_reducible refine (impl_Stone_where.calls k _ _ l0 (IntKind.i16.wrap (a1)) (IntKind.i16.wrap (a2)) t481 _ ?side1 ?side2 A10.out).mono ?_); (case side1 => repeat (first | exact (Kd.C_below HR0.out (kB_ HB)) | (with_reducible refine Kd.C_alloc ?_ _) | (with_reducible refine Kd.C_drewN ?_ _) | (with_reducible refine Kd.C_drew ?_))); (case side2 => exact HC0.out); rintro e w12 ⟨rfl, hb⟩; refine ⟨_, rfl, ?_⟩; replace HB := bs_ HB hb; clear hb))
 go_ret2
 exact ⟨rt_, bl_ HB⟩

/-! ### spec_l00Min: function 78 -/
def spec_l00Min.f (a0 : Int) (a1 : Int) : Option (Int) := if a0 < a1 then (some a0) else (some a1)
set_option maxHeartbeats 8000000 in
set_option maxRecDepth 100000 in
theorem spec_l00Min.calls (a0 : Int) (a1 : Int) (r : Int) (w : World) (h : spec_l00Min.f a0 a1 = some r) :
  Calls Tryz.prog 78 #[.int .i64 a0, .int .i64 a1] w fun e w' => e = .returned (.int .i64 r) ∧ Drawn0 w w' := by
 have H : (if a0 < a1 then (some a0) else (some a1)) = some r := h
 clear h
 by_cases c3 : a0 < a1
 ·
  rw [if_pos c3] at H
  have c3b0 : decide (a0 < a1) = true := decide_eq_true c3
  clear c3
  obtain rfl := Option.some.inj H
  go_enter Tryz.func78, Tryz.ntmps78
  go_wp2
  go_ret
  exact ⟨by first | rfl | (simp; done) | (simp [*]; done), by repeat (first | exact Drawn0.refl _ | apply Drawn0.step)⟩
 rw [if_neg c3] at H
 have c3b0 : decide (a0 < a1) = false := decide_eq_false c3
 clear c3
 obtain rfl := Option.some.inj H
 go_enter Tryz.func78, Tryz.ntmps78
 go_wp2
 go_ret
 exact ⟨by first | rfl | (simp; done) | (simp [*]; done), by repeat (first | exact Drawn0.refl _ | apply Drawn0.step)⟩

/-! ### spec_l00Max: function 79 -/
def spec_l00Max.f (a0 : Int) (a1 : Int) : Option (Int) := if a0 > a1 then (some a0) else (some a1)
set_option maxHeartbeats 8000000 in
set_option maxRecDepth 100000 in
theorem spec_l00Max.calls (a0 : Int) (a1 : Int) (r : Int) (w : World) (h : spec_l00Max.f a0 a1 = some r) :
  Calls Tryz.prog 79 #[.int .i64 a0, .int .i64 a1] w fun e w' => e = .returned (.int .i64 r) ∧ Drawn0 w w' := by
 have H : (if a0 > a1 then (some a0) else (some a1)) = some r := h
 clear h
 by_cases c3 : a0 > a1
 ·
  rw [if_pos c3] at H
  have c3b0 : decide (a1 < a0) = true := decide_eq_true c3
  clear c3
  obtain rfl := Option.some.inj H
  go_enter Tryz.func79, Tryz.ntmps79
  go_wp2
  go_ret
  exact ⟨by first | rfl | (simp; done) | (simp [*]; done), by repeat (first | exact Drawn0.refl _ | apply Drawn0.step)⟩
 rw [if_neg c3] at H
 have c3b0 : decide (a1 < a0) = false := decide_eq_false c3
 clear c3
 obtain rfl := Option.some.inj H
 go_enter Tryz.func79, Tryz.ntmps79
 go_wp2
 go_ret
 exact ⟨by first | rfl | (simp; done) | (simp [*]; done), by repeat (first | exact Drawn0.refl _ | apply Drawn0.step)⟩


/-! ### impl_HullOf_1: function 49 -/
def impl_HullOf_1.f (a0_0 : Int) (a0_1 : Int) : Option (Bool) := (impl_isPlaced.f a0_0 a0_1).bind fun t502 => (some (!t502))
set_option maxHeartbeats 8000000 in
set_option maxRecDepth 100000 in
theorem impl_HullOf_1.calls (a0_0 : Int) (a0_1 : Int) (r : Bool) (w : World) (h : impl_HullOf_1.f a0_0 a0_1 = some r) :
  Calls Tryz.prog 49 #[.agg #[.int .i16 a0_0, .int .i16 a0_1]] w fun e w' => e = .returned (.bool r) ∧ Below w.heap.size w w' := by
 have hu43 := Tryz.underlying43
 have HB := Aside0.mk (Below.refl w.heap.size w)
 have H : ((impl_isPlaced.f a0_0 a0_1).bind fun t502 => (some (!t502))) = some r := h
 clear h
 obtain ⟨t502, A2, H⟩ := be_ H
 (try dsimp only at H)
 obtain rfl := Option.some.inj H
 go_enter Tryz.func49, Tryz.ntmps49
 go_wp2_with (first | ((with_reducible refine gate_dst (N := 1) rfl ?_); refine boxM_ 1 #[.int .i16 a0_0, .int .i16 a0_1] 43 ?_; intro gb501 hg w3 hbox hb; have BK501 := Aside0.mk (hbox); have GW501 := ge_ HB hg; have GE501 := ge_ HB hg; replace HB := bs_ HB hb; clear hb hbox hg; obtain ⟨⟨hcz4_0, hcz4_1⟩, hfz4_0, hfz4_1⟩ := bq_ BK501) | ((with_reducible refine gate_callee (f := 42) rfl ?_); refine goM_ (some 4) Tryz.func42 #[.agg #[.int .i16 a0_0, .int .i16 a0_1]] ?_; (with_reducible refine (impl_isPlaced.calls a0_0 a0_1 t502 _ A2.out).mono ?_); rintro e w5 ⟨rfl, hb⟩; refine ⟨_, rfl, ?_⟩; replace BK501 := bd_ BK501 hb; replace HB := bs_ HB hb; clear hb))
 go_ret
 exact ⟨rt_, k1_ HB GE501⟩

/-! ### impl_HullOf_1_any: function 49 -/
def impl_HullOf_1_any.f (l0 : List (S43)) : Option Bool := (Base.idxO (fun x : S43 => impl_HullOf_1.f x.f0 x.f1) l0 0).bind fun i => some (decide (0 ≤ i))
theorem impl_HullOf_1_any.calls (A0 : Option Addr) (c0 : Nat) (l0 : List (S43)) (r : Bool) (w : World) (hr0 : Kd.C k43 w A0 l0.length l0) (hc0 : l0.length ≤ c0) (h : impl_HullOf_1_any.f l0 = some r) :
  Calls Tryz.prog 48 #[.slice A0 l0.length c0, .func (.func 49) #[] #[]] w fun e w' => e = .returned (.bool r) ∧ Below w.heap.size w w' :=
 impl_Corner_48.anyB 49 #[] (enters_of Tryz.func49 (by kernel_rfl) rfl) (fun x : S43 => impl_HullOf_1.f x.f0 x.f1) A0 c0 l0 r w hr0 hc0 h (fun W x b hb _ hx => (impl_HullOf_1.calls x.f0 x.f1 b W hx).mono fun e w' h => ⟨h.1, below_then hb hb.size h.2⟩)


/-! ### spec_FirstStone: function 21 -/
def spec_FirstStone.f (k : Nat) (l0 : List (S43)) : Option ((List (S43)) × Int) := (spec_l03Ok.f k l0).bind fun t465 => (if t465 = true then ((spec_l03First.f k l0).bind fun t466 => (some (t466, 0))) else (some ((([] : List (S43))), 1)))
theorem spec_FirstStone.mono : ∀ a0 k, LeO (spec_FirstStone.f k a0) (spec_FirstStone.f (k + 1) a0) := by
 intro a0 k
 unfold spec_FirstStone.f
 repeat' first | (with_reducible first | exact spec_l03First.mono _ _ | exact spec_l03Ok.mono _ _ | exact LeO.refl _ | exact LeO.none _ | refine LeO.ite ?_ ?_ | refine LeO.bind ?_ (fun _ => ?_))
set_option maxHeartbeats 8000000 in
set_option maxRecDepth 100000 in
theorem spec_FirstStone.calls (k : Nat) (A0 : Option Addr) (c0 : Nat) (l0 : List (S43)) (r1 : List (S43)) (r2 : Int) (w : World) (hr0 : Kd.C k43 w A0 l0.length l0) (hc0 : l0.length ≤ c0) (h : spec_FirstStone.f k l0 = some (r1, r2)) :
  Calls Tryz.prog 21 #[.slice A0 l0.length c0] w fun e w' => ∃ v0_ : Value, e = .returned (.tuple #[v0_, .int .i64 r2]) ∧ Kd.R k43 43 w' w.heap.size (fun _ => True) v0_ r1 ∧ Below w.heap.size w w' := by
 have HR0 := Aside0.mk hr0
 have HC0 := Aside0.mk hc0
 clear hr0 hc0
 have HB := Aside0.mk (Below.refl w.heap.size w)
 have H : ((spec_l03Ok.f k l0).bind fun t465 => (if t465 = true then ((spec_l03First.f k l0).bind fun t466 => (some (t466, 0))) else (some ((([] : List (S43))), 1)))) = some (r1, r2) := h
 clear h
 obtain ⟨t465, A2, H⟩ := be_ H
 (try dsimp only at H)
 by_cases c3 : t465 = true
 ·
  subst c3
  replace H := gt_ H
  obtain ⟨t466, A4, H⟩ := be_ H
  (try dsimp only at H)
  simp only [Option.some.injEq, Prod.mk.injEq] at H
  obtain ⟨rfl, rfl⟩ := H
  go_enter Tryz.func21, Tryz.ntmps21
  go_wp2_with (first | ((with_reducible refine gate_callee (f := 35) rfl ?_); refine goM_ (some 5) Tryz.func35 #[.slice A0 l0.length c0] ?_; (with_reducible refine (spec_l03Ok.calls k _ _ l0 true _ ?side1 ?side2 A2.out).mono ?_); (case side1 => exact kc_ HR0.out); (case side2 => exact HC0.out); rintro e w5 ⟨rfl, hb⟩; refine ⟨_, rfl, ?_⟩; replace HB := bs_ HB hb; clear hb) | ((with_reducible refine gate_callee (f := 45) rfl ?_); refine goM_ (some 9) Tryz.func45 #[.slice A0 l0.length c0] ?_; (with_reducible refine (spec_l03First.calls k _ _ l0 t466 _ ?side1 ?side2 A4.out).mono ?_); (case side1 => exact kc_ (Kd.C_below HR0.out HB.out)); (case side2 => exact HC0.out); rintro e w6 ⟨v467, rfl, ho0, hb⟩; refine ⟨_, rfl, ?_⟩; have HO468 := Aside0.mk (Kd.R_lower ho0 (below_size (kB_ HB))); replace HB := bs_ HB hb; clear hb; (try clear ho0)))
  go_ret2
  exact ⟨_, by first | rfl | (simp [errW_none, errW_some] <;> rfl) | (simp [*, errW_none, errW_some] <;> rfl), by (with_reducible repeat (first | apply Kd.R_alloc | apply Kd.R_drewN | apply Kd.R_drew)); exact HO468.out, bl_ HB⟩
 replace c3 := Bool.eq_false_iff.mpr c3
 subst c3
 replace H := gf_ H
 obtain ⟨y469, hy469⟩ : ∃ y_ : List (S43), y_ = (([] : List (S43))) := ⟨_, rfl⟩
 replace H : (some (y469, 1)) = some (r1, r2) := by first | (rw [hy469]; with_reducible exact H) | (have H2_ := (Option.bind_some _ _).symm.trans H; rw [hy469]; with_reducible exact H2_) | (have H2_ := (Option.bind_some _ _).symm.trans H; with_reducible exact H2_) | with_reducible exact H | (rw [hy469]; exact H) | exact H
 have Ny469 := Aside0.mk hy469
 clear hy469
 simp only [Option.some.injEq, Prod.mk.injEq] at H
 obtain ⟨rfl, rfl⟩ := H
 go_enter Tryz.func21, Tryz.ntmps21
 go_wp2_with (first | ((with_reducible refine gate_callee (f := 35) rfl ?_); refine goM_ (some 5) Tryz.func35 #[.slice A0 l0.length c0] ?_; (with_reducible refine (spec_l03Ok.calls k _ _ l0 false _ ?side1 ?side2 A2.out).mono ?_); (case side1 => exact kc_ HR0.out); (case side2 => exact HC0.out); rintro e w7 ⟨rfl, hb⟩; refine ⟨_, rfl, ?_⟩; replace HB := bs_ HB hb; clear hb) | ((with_reducible refine gate_dst (N := 7) rfl ?_); refine Kd.R_lit k43 _ 43 ?hg (N := 7) ?hd (xs := ([] : List (S43))) (inner := []) (ok := fun _ => True) (okp := fun _ => True) ?hr ?hp (fun _ hk => hk) trivial (Below.refl _ _) (Nat.le_refl _) (by simp) ?_; (case hd => rfl); (case hg => rfl); (case hr => first | (go_simp; done) | (go_simp; rfl)); (case hp => exact (Reps.none _ _)); intro v470 w8 ho9 hb hg_ hnew_; clear hg_ hnew_; (first | rw [← Ny469.out] at ho9 | (simp only [Int.reduceToNat] at ho9; rw [← Ny469.out] at ho9)); have HO471 := Aside0.mk (Kd.R_lower ho9 (below_size (kB_ HB))); replace HB := bs_ HB hb; clear hb ho9))
 go_ret2
 exact ⟨_, by first | rfl | (simp [errW_none, errW_some] <;> rfl) | (simp [*, errW_none, errW_some] <;> rfl), by (with_reducible repeat (first | apply Kd.R_alloc | apply Kd.R_drewN | apply Kd.R_drew)); exact HO471.out, bl_ HB⟩

end Go.Proofs.YthbogbaaikjhbaaGreatDoor.PA
