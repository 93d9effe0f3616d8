/- Pure functions, and that Go's functions come to them. -/
import Derived.Test.YthbogbaaikjhbaaGreatDoorPAx0
import Derived.Test.YthbogbaaikjhbaaGreatDoorPAxm29
import Derived.Test.YthbogbaaikjhbaaGreatDoorPAxm22
import Derived.Test.YthbogbaaikjhbaaGreatDoorPAxgImpl
import Derived.Test.YthbogbaaikjhbaaGreatDoorShelfB
import Derived.Test.YthbogbaaikjhbaaGreatDoorPAxm17
import Derived.Test.YthbogbaaikjhbaaGreatDoorPAxm25
namespace Go.Proofs.YthbogbaaikjhbaaGreatDoor.PA
open Go.RowKit Go.Proofs.YthbogbaaikjhbaaGreatDoorW.PrintWords Go.Proofs.YthbogbaaikjhbaaGreatDoorW.PrintLast Go.Proofs.YthbogbaaikjhbaaGreatDoorW.PrintMore
set_option linter.unusedVariables false
set_option linter.unusedSimpArgs false

attribute [local go_sem high] eqA43
/-! ### impl_Corner_38: function 38 -/
def impl_Corner_38.l0 : Nat → List (S43) → List (S43) → Int → Int → Option (Bool)
 | 0, _, _, _, _ => none
 | k + 1, x0, x1, x12, x13 => if x13 < x12 then (if 0 ≤ x13 then (if x13 < (x0.length : Int) then (if x13 < (x1.length : Int) then (if (!(((rd_T43 x0 x13).f0) == ((rd_T43 x1 x13).f0)) || (!(((rd_T43 x0 x13).f1) == ((rd_T43 x1 x13).f1)))) = true then (some false) else (impl_Corner_38.l0 k x0 x1 x12 (wrap64 (x13 + 1)))) else (none)) else (none)) else (none)) else (some true)
def impl_Corner_38.f (k : Nat) (l0 : List (S43)) (l1 : List (S43)) : Option (Bool) := if (l0.length : Int) = (l1.length : Int) then (impl_Corner_38.l0 k l0 l1 (l0.length : Int) 0) else (some false)
theorem impl_Corner_38.mono_l : ∀ k, (∀ y0 y1 y2 y3, LeO (impl_Corner_38.l0 k y0 y1 y2 y3) (impl_Corner_38.l0 (k + 1) y0 y1 y2 y3))
 | 0 => fun _ _ _ _ r h => by simp [impl_Corner_38.l0] at h
 | k + 1 => by
  have ih0 := impl_Corner_38.mono_l k
  ·
   intro y0 y1 y2 y3
   unfold impl_Corner_38.l0
   repeat' first | (with_reducible first | exact ih0 _ _ _ _ | exact LeO.refl _ | exact LeO.none _ | refine LeO.ite ?_ ?_ | refine LeO.bind ?_ (fun _ => ?_))
theorem impl_Corner_38.mono : ∀ a0 a1 k, LeO (impl_Corner_38.f k a0 a1) (impl_Corner_38.f (k + 1) a0 a1) := by
 intro a0 a1 k
 have ih0 := impl_Corner_38.mono_l k
 unfold impl_Corner_38.f
 repeat' first | (with_reducible first | exact ih0 _ _ _ _ | exact LeO.refl _ | exact LeO.none _ | refine LeO.ite ?_ ?_ | refine LeO.bind ?_ (fun _ => ?_))
set_option maxHeartbeats 8000000 in
set_option maxRecDepth 100000 in
theorem impl_Corner_38.calls (k : Nat) (A0 : Option Addr) (c0 : Nat) (l0 : List (S43)) (A1 : Option Addr) (c1 : Nat) (l1 : List (S43)) (r : Bool) (w : World) (hr0 : Kd.C k43 w A0 l0.length l0) (hc0 : l0.length ≤ c0) (hr1 : Kd.C k43 w A1 l1.length l1) (hc1 : l1.length ≤ c1) (h : impl_Corner_38.f k l0 l1 = some r) :
  Calls Tryz.prog 38 #[.slice A0 l0.length c0, .slice A1 l1.length c1] w fun e w' => e = .returned (.bool r) ∧ Drawn0 w w' := by
 have hu43 := Tryz.underlying43
 have HR0 := Aside0.mk hr0
 have HC0 := Aside0.mk hc0
 clear hr0 hc0
 have HR1 := Aside0.mk hr1
 have HC1 := Aside0.mk hc1
 clear hr1 hc1
 have H : (if (l0.length : Int) = (l1.length : Int) then (impl_Corner_38.l0 k l0 l1 (l0.length : Int) 0) else (some false)) = some r := h
 clear h
 rcases (Decidable.em ((l0.length : Int) = (l1.length : Int))).symm with c3 | c3
 ·
  rw [if_neg c3] at H
  have c3b0 : ((l0.length : Int) == (l1.length : Int)) = false := beq_eq_false_iff_ne.mpr c3
  have c3b1 : ((l0.length : Int) != (l1.length : Int)) = true := bne_iff_ne.mpr c3
  have c3b2 : (l0.length == l1.length) = false := by first | simpa using c3 | (simp at c3 ⊢; omega)
  obtain rfl := Option.some.inj H
  go_enter Tryz.func38, Tryz.ntmps38
  go_wp2
  repeat (go_quiet (fail); try go_wp2)
  go_ret
  exact ⟨by first | rfl | (simp; done) | (simp [*]; done), by repeat (first | exact Drawn0.refl _ | apply Drawn0.step)⟩

 rw [if_pos c3] at H
 have c3b0 : ((l0.length : Int) == (l1.length : Int)) = true := beq_iff_eq.mpr c3
 have c3b1 : ((l0.length : Int) != (l1.length : Int)) = false := bne_eq_false_iff_eq.mpr c3
 have c3b2 : (l0.length == l1.length) = true := by first | simpa using c3 | (simp at c3 ⊢; omega)
 clear c3
 have H' := Aside0.mk H
 clear H
 go_enter Tryz.func38, Tryz.ntmps38
 go_wp2
 repeat (go_quiet (fail); try go_wp2)
 go_loopg [13] k (fun kq v13 w' => ∃ (x13_1 : Int), v13 = .int .i64 x13_1 ∧ Aside0 (impl_Corner_38.l0 kq l0 l1 (l0.length : Int) x13_1 = some r) ∧ Aside0 (kq ≤ k) ∧ Drawn0 w w')
 case atStart => exact ⟨(0), (by first | rfl | (simp; done) | (simp [*]; done)), H', ⟨Nat.le_refl _⟩, by repeat (first | exact Drawn0.refl _ | apply Drawn0.step)⟩
 case round =>
  clear H'
  obtain ⟨x13_1, rfl, HA, HK1, ⟨m1, rfl⟩⟩ := hrel
  rcases gk with _ | k1
  · exact absurd HA.out (by simp [impl_Corner_38.l0])
  have H := HA.out
  clear HA
  simp only [impl_Corner_38.l0] at H
  rcases (Decidable.em (x13_1 < (l0.length : Int))).symm with c4 | c4
  ·
   rw [if_neg c4] at H
   have c4b0 : decide (x13_1 < (l0.length : Int)) = false := decide_eq_false c4
   clear c4
   obtain rfl := Option.some.inj H
   go_wp2
   repeat (go_quiet (fail); try go_wp2)
   go_ret
   exact ⟨by first | rfl | (simp; done) | (simp [*]; done), by repeat (first | exact Drawn0.refl _ | apply Drawn0.step)⟩
  rw [if_pos c4] at H
  have c4b0 : decide (x13_1 < (l0.length : Int)) = true := decide_eq_true c4
  clear c4
  obtain ⟨c5b0, H⟩ := gx_ H
  obtain ⟨c6b0, H⟩ := gx_ H
  obtain ⟨c7b0, H⟩ := gx_ H
  by_cases c8 : (!(((rd_T43 l0 x13_1).f0) == ((rd_T43 l1 x13_1).f0)) || (!(((rd_T43 l0 x13_1).f1) == ((rd_T43 l1 x13_1).f1)))) = true
  ·
   rw [if_pos c8] at H
   have c8b0 : (!(((rd_T43 l0 x13_1).f0) == ((rd_T43 l1 x13_1).f0)) || (!(((rd_T43 l0 x13_1).f1) == ((rd_T43 l1 x13_1).f1)))) = true := c8
   clear c8
   obtain rfl := Option.some.inj H
   have p359 : 0 ≤ (x13_1 : Int) := od_
   have q359 : x13_1 < (l0.length : Int) := od_
   obtain ⟨ad359, e359, hx359_0, hx359_1⟩ := at_T43 HR0.out x13_1 p359 q359
   cases e359
   replace p359 := eq_true p359
   replace q359 := eq_true q359
   have p360 : 0 ≤ (x13_1 : Int) := od_
   have q360 : x13_1 < (l1.length : Int) := od_
   obtain ⟨ad360, e360, hx360_0, hx360_1⟩ := at_T43 HR1.out x13_1 p360 q360
   cases e360
   replace p360 := eq_true p360
   replace q360 := eq_true q360
   go_wp2
   repeat (go_quiet (fail); try go_wp2)
   go_ret
   exact ⟨by first | rfl | (simp; done) | (simp [*]; done), by repeat (first | exact Drawn0.refl _ | apply Drawn0.step)⟩
  rw [if_neg c8] at H
  have c8b0 : (!(((rd_T43 l0 x13_1).f0) == ((rd_T43 l1 x13_1).f0)) || (!(((rd_T43 l0 x13_1).f1) == ((rd_T43 l1 x13_1).f1)))) = false := by simpa using c8
  clear c8
  have H' := Aside0.mk H
  clear H
  have p359 : 0 ≤ (x13_1 : Int) := od_
  have q359 : x13_1 < (l0.length : Int) := od_
  obtain ⟨ad359, e359, hx359_0, hx359_1⟩ := at_T43 HR0.out x13_1 p359 q359
  cases e359
  replace p359 := eq_true p359
  replace q359 := eq_true q359
  have p360 : 0 ≤ (x13_1 : Int) := od_
  have q360 : x13_1 < (l1.length : Int) := od_
  obtain ⟨ad360, e360, hx360_0, hx360_1⟩ := at_T43 HR1.out x13_1 p360 q360
  cases e360
  replace p360 := eq_true p360
  replace q360 := eq_true q360
  go_wp2
  repeat (go_quiet (fail); try go_wp2)
  go_roundg k1
  case measure => have := HK1.out; omega
  case rel => exact ⟨(wrap64 (x13_1 + 1)), (by first | rfl | (simp; done) | (simp [*]; done)), H', ⟨by have := HK1.out; omega⟩, by repeat (first | exact Drawn0.refl _ | apply Drawn0.step)⟩
end Go.Proofs.YthbogbaaikjhbaaGreatDoor.PA
namespace Go.Proofs.YthbogbaaikjhbaaGreatDoor.PA
open Go.RowKit Go.Proofs.YthbogbaaikjhbaaGreatDoorW.PrintWords Go.Proofs.YthbogbaaikjhbaaGreatDoorW.PrintLast Go.Proofs.YthbogbaaikjhbaaGreatDoorW.PrintMore
set_option linter.unusedVariables false
set_option linter.unusedSimpArgs false

/-! ### impl_AreaTwice: function 8 -/
def impl_AreaTwice.f (k : Nat) (l0 : List (S43)) : Option (Int × Int) := (impl_ValidStone.f k l0).bind fun t317 => (if t317 = true then ((impl_Stone_area.f k l0).bind fun t318 => (some (t318, 0))) else (some (0, 1)))
theorem impl_AreaTwice.mono : ∀ a0 k, LeO (impl_AreaTwice.f k a0) (impl_AreaTwice.f (k + 1) a0) := by
 intro a0 k
 unfold impl_AreaTwice.f
 repeat' first | (with_reducible first | exact impl_Stone_area.mono _ _ | exact impl_ValidStone.mono _ _ | exact LeO.refl _ | exact LeO.none _ | refine LeO.ite ?_ ?_ | refine LeO.bind ?_ (fun _ => ?_))
set_option maxHeartbeats 8000000 in
set_option maxRecDepth 100000 in
theorem impl_AreaTwice.calls (k : Nat) (A0 : Option Addr) (c0 : Nat) (l0 : List (S43)) (r1 : Int) (r2 : Int) (w : World) (hr0 : Kd.C k43 w A0 l0.length l0) (hc0 : l0.length ≤ c0) (h : impl_AreaTwice.f k l0 = some (r1, r2)) :
  Calls Tryz.prog 8 #[.slice A0 l0.length c0] w fun e w' => e = .returned (.tuple #[.int .i64 r1, .int .i64 r2]) ∧ Below w.heap.size w w' := by
 have HR0 := Aside0.mk hr0
 have HC0 := Aside0.mk hc0
 clear hr0 hc0
 have HB := Aside0.mk (Below.refl w.heap.size w)
 have H : ((impl_ValidStone.f k l0).bind fun t317 => (if t317 = true then ((impl_Stone_area.f k l0).bind fun t318 => (some (t318, 0))) else (some (0, 1)))) = some (r1, r2) := h
 clear h
 obtain ⟨t317, A2, H⟩ := be_ H
 (try dsimp only at H)
 rcases (Decidable.em (t317 = true)).symm with c3 | c3
 ·
  replace c3 := Bool.eq_false_iff.mpr c3
  subst c3
  replace H := gf_ H
  simp only [Option.some.injEq, Prod.mk.injEq] at H
  obtain ⟨rfl, rfl⟩ := H
  go_enter Tryz.func8, Tryz.ntmps8
  go_wp2_with (first | ((with_reducible refine gate_callee (f := 14) rfl ?_); refine goM_ (some 5) Tryz.func14 #[.slice A0 l0.length c0] ?_; (with_reducible refine (impl_ValidStone.calls k _ _ l0 false _ ?side1 ?side2 A2.out).mono ?_); (case side1 => exact kc_ HR0.out); (case side2 => exact HC0.out); rintro e w7 ⟨rfl, hb⟩; refine ⟨_, rfl, ?_⟩; replace HB := bs_ HB hb; clear hb))
  go_ret2
  exact ⟨rt_, bl_ HB⟩

 subst c3
 replace H := gt_ H
 obtain ⟨t318, A4, H⟩ := be_ H
 (try dsimp only at H)
 simp only [Option.some.injEq, Prod.mk.injEq] at H
 obtain ⟨rfl, rfl⟩ := H
 go_enter Tryz.func8, Tryz.ntmps8
 go_wp2_with (first | ((with_reducible refine gate_callee (f := 14) rfl ?_); refine goM_ (some 5) Tryz.func14 #[.slice A0 l0.length c0] ?_; (with_reducible refine (impl_ValidStone.calls k _ _ l0 true _ ?side1 ?side2 A2.out).mono ?_); (case side1 => exact kc_ HR0.out); (case side2 => exact HC0.out); rintro e w5 ⟨rfl, hb⟩; refine ⟨_, rfl, ?_⟩; replace HB := bs_ HB hb; clear hb) | ((with_reducible refine gate_callee (f := 34) rfl ?_); refine goM_ (some 8) Tryz.func34 #[.slice A0 l0.length c0] ?_; (with_reducible refine (impl_Stone_area.calls k _ _ l0 t318 _ ?side1 ?side2 A4.out).mono ?_); (case side1 => exact kc_ (Kd.C_below HR0.out HB.out)); (case side2 => exact HC0.out); rintro e w6 ⟨rfl, hb⟩; refine ⟨_, rfl, ?_⟩; replace HB := bs_ HB hb; clear hb))
 go_ret2
 exact ⟨rt_, bl_ HB⟩

/-! ### impl_Corner_50: function 50 -/
def impl_Corner_50.f (l0 : List S43) : Option (List S43) := if l0.length < 1048576 then some l0 else none
theorem impl_Corner_50.eqn (a : Option Addr) (n c : Nat) (W : World) : (binOp .eql 24 (.slice a n c) (.slice none 0 0)).run Tryz.prog W = .ok (.bool a.isNone) W := by
 have h : ∀ d : Nat, (Op.equalIn (d + 1) 24 (.slice a n c) (.slice none 0 0)).run Tryz.prog W = .ok a.isNone W := fun d => by
  cases a <;> simp [Op.equalIn, run_underlying Tryz.underlying24]
 simp only [binOp]
 simp [Op.equal, Op.maxDepth, h 9999]
set_option maxHeartbeats 4000000 in
set_option maxRecDepth 100000 in
theorem impl_Corner_50.calls (A0 : Option Addr) (c0 : Nat) (l0 : List S43) (r : List S43) (w : World) (hr0 : Kd.C k43 w A0 l0.length l0) (hc0 : l0.length ≤ c0) (h : impl_Corner_50.f l0 = some r) :
  Calls Tryz.prog 50 #[.slice A0 l0.length c0] w fun e w' => ∃ v0_ : Value, e = .returned (v0_) ∧ Kd.R k43 43 w' w.heap.size (fun _ => True) v0_ r ∧ Below w.heap.size w w' := by
 have hu := Tryz.underlying24
 have hu2 := Tryz.underlying43
 unfold impl_Corner_50.f at h
 rcases (Decidable.em (l0.length < 1048576)).symm with c1 | c1
 ·
  rw [if_neg c1] at h; exact absurd h (by simp)

 rw [if_pos c1] at h
 obtain rfl := Option.some.inj h
 clear h
 cases A0 with
 | none =>
  have hn : l0 = [] := by
   cases l0 with
   | nil => rfl
   | cons x xs =>
    obtain ⟨ad, e, _⟩ := at_T43 hr0 0 (by omega) (by simp)
    cases e
  subst hn
  have hq : ∀ W : World, (binOp .eql 24 (.slice none 0 c0) (.slice none 0 0)).run Tryz.prog W = .ok (.bool true) W := fun W => impl_Corner_50.eqn none 0 c0 W
  clear hr0 hc0 c1
  go_enter Tryz.func50, Tryz.ntmps50
  go_wp2
  go_ret
  exact ⟨_, rfl, Kd.R_nil _ _ _ _ _, Below.refl _ _⟩
 | some ad =>
  have hq : ∀ W : World, (binOp .eql 24 (.slice (some ad) l0.length c0) (.slice none 0 0)).run Tryz.prog W = .ok (.bool false) W := fun W => impl_Corner_50.eqn (some ad) l0.length c0 W
  have HR0 := Aside0.mk hr0
  have HC0 := Aside0.mk hc0
  have LM := Aside0.mk c1
  clear hr0 hc0 c1
  go_enter Tryz.func50, Tryz.ntmps50
  go_wp2_with (first
   | ((with_reducible refine gate_dst (N := 5) rfl ?_); refine Kd.R_lit k43 _ 43 ?hg (N := 5) ?hd (xs := ([] : List S43)) (inner := []) (ok := fun _ => True) (okp := fun _ => True) ?hr ?hp (fun _ hk => hk) trivial (Below.refl _ _) (Nat.le_refl _) (by simp) ?_; (case hd => rfl); (case hg => rfl); (case hr => first | (go_simp; done) | (go_simp; rfl)); (case hp => exact (Reps.none _ _)); intro v1 w1 ho hb hg_ hnew_; clear hg_ hnew_; have HO := Aside0.mk (Kd.R_lower ho (Nat.le_refl _)); have HB := Aside0.mk hb; clear hb ho)
   | ((with_reducible refine gate_builtin (b := .append) (xs := #[.tmp 5, .tmp 6]) rfl ?_); at_builtin; refine Kd.R_append_rows k43 (w0 := w) w.heap.size rfl (.tmp 5) (.tmp 6) 24 43 (.agg #[.int .i16 0, .int .i16 0]) 4 rfl Tryz.underlying24 info43 rfl (by decide) (by omega) v1 [] l0 _ _ _ (fun _ => True) (fun _ => False) rfl rfl ?aO ?aR (fun _ _ h => h) (fun _ h => h.elim) ?aF ?aB ?aS ?aL ?_; (case aR => exact kc_ (Kd.C_below HR0.out HB.out)); (case aB => exact (by repeat (first | exact HB.out | apply pw_below_drewN | apply below_drew1))); (case aF => exact (fun _ _ => trivial)); (case aO => exact (kp_ HO)); (case aS => exact (below_size (by repeat (first | exact HB.out | apply pw_below_drewN | apply below_drew1)))); (case aL => have := LM.out; simp; omega); intro v2 w2 ho hb hg hat; have HB2 := Aside0.mk hb; have HO2 := Aside0.mk ho; clear ho hb hg hat))
  go_ret
  exact ⟨_, rfl, HO2.out, HB2.out⟩

/-! ### impl_Corner_51: function 51 -/
namespace CS
open Go.Shelf Go.Lib Go.Sort
instance : Inhabited S43 := ⟨z43⟩
def enc (c : S43) : List Value := [.int .i16 c.f0, .int .i16 c.f1]
theorem enc_len (c : S43) : (enc c).length = 2 := rfl
theorem enc_one (c : S43) : ∀ v ∈ enc c, v.oneCell' = true := by
 intro v hv
 simp [enc] at hv
 rcases hv with rfl | rfl <;> rfl
def lt (a b : S43) : Bool := decide (a.f0 < b.f0) || (decide (a.f0 = b.f0) && decide (a.f1 < b.f1))
def cf (a b : S43) : Int := if lt a b = true then -1 else if lt b a = true then 1 else 0
theorem less_is (a b : S43) : impl_cornerLess.f a.f0 a.f1 b.f0 b.f1 = some (lt a b) := by
 unfold impl_cornerLess.f lt
 by_cases h1 : a.f0 < b.f0
 ·
  rw [if_pos h1, decide_eq_true h1, Bool.true_or]
 ·
  rw [if_neg h1, decide_eq_false h1, Bool.false_or]
  by_cases h2 : a.f0 = b.f0
  ·
   rw [if_pos h2, decide_eq_true h2, Bool.true_and]
  ·
   rw [if_neg h2, decide_eq_false h2, Bool.false_and]
theorem cf_is (a b : S43) : impl_HullOf_2.f a.f0 a.f1 b.f0 b.f1 = some (cf a b) := by
 unfold impl_HullOf_2.f cf
 rw [less_is, Option.bind_some]
 by_cases h : lt a b = true
 ·
  rw [if_pos h, if_pos h]
 ·
  rw [if_neg h, if_neg h, less_is, Option.bind_some]
  by_cases h2 : lt b a = true
  ·
   rw [if_pos h2, if_pos h2]
  ·
   rw [if_neg h2, if_neg h2]
theorem ltOf_cf (a b : S43) : ltOf cf a b = lt a b := by
 unfold ltOf cf
 by_cases h : lt a b = true
 ·
  rw [if_pos h, h]; rfl
 ·
  rw [if_neg h]
  rw [Bool.not_eq_true] at h
  rw [h]
  split <;> rfl
theorem lt_iff (a b : S43) : lt a b = true ↔ a.f0 < b.f0 ∨ (a.f0 = b.f0 ∧ a.f1 < b.f1) := by
 unfold lt; simp
theorem ext2 {a b : S43} (h : a.f0 = b.f0) (h2 : a.f1 = b.f1) : a = b := by cases a; cases b; simp_all
theorem total (x y : S43) (h1 : ltOf cf x y = false) (h2 : ltOf cf y x = false) : x = y := by
 rw [ltOf_cf, ← Bool.not_eq_true, lt_iff] at h1 h2
 exact ext2 (by omega) (by omega)
theorem swo : SWO (ltOf cf) := by
 constructor
 ·
  intro x
  rw [ltOf_cf, ← Bool.not_eq_true, lt_iff]; omega
 ·
  intro x y z h1 h2
  rw [ltOf_cf, lt_iff] at h1 h2 ⊢; omega
 ·
  intro x y z h1 h2
  rw [ltOf_cf, ← Bool.not_eq_true, lt_iff] at h1 h2 ⊢
  omega
def flat (l : List S43) : List Value := l.flatMap enc
theorem flat_len (l : List S43) : (flat l).length = l.length * 2 := by
 induction l with
 | nil => rfl
 | cons c l ih => rw [flat, List.flatMap_cons, List.length_append, ← flat, ih, enc_len, List.length_cons]; omega
theorem flat_snoc (l : List S43) (c : S43) : flat (l ++ [c]) = flat l ++ enc c := by simp [flat]
theorem flat_reps (w : World) (base : Nat) (ok : Nat → Prop) : ∀ n (l : List S43), l.length = n → Reps (k43.M w base ok) 2 l (flat l)
 | 0, l, h => by
  obtain rfl := List.eq_nil_of_length_eq_zero h
  exact Reps.none _ _
 | n + 1, l, h => by
  rcases List.eq_nil_or_concat l with rfl | ⟨m, c, rfl⟩
  ·
   cases h
  ·
   rw [List.concat_eq_append] at h ⊢
   rw [flat_snoc]
   exact (flat_reps w base ok n m (by simpa using h)).snoc (k43_mkM w base ok c) (enc_len c)
theorem flat_get (l : List S43) : ∀ i, i < l.length → (flat l).drop (i * 2) = enc (l.getD i z43) ++ (flat l).drop (i * 2 + 2) := by
 induction l with
 | nil => intro i h; exact absurd h (by simp)
 | cons c l ih =>
  intro i h
  have e : flat (c :: l) = enc c ++ flat l := by simp [flat]
  rw [e]
  cases i with
  | zero => rfl
  | succ i =>
   have h2 : (i + 1) * 2 = i * 2 + 2 := by omega
   have := ih i (by simpa using h)
   rw [h2]
   show (flat l).drop (i * 2) = enc (l.getD i z43) ++ (flat l).drop (i * 2 + 2)
   exact this
theorem flatK_is (l : List S43) : flatK enc 2 l.toArray = (flat l).toArray := by
 apply Array.ext
 ·
  simp [flat_len]
 ·
  intro t h1 h2
  have ht : t < l.length * 2 := by simpa using h1
  have hi : t / 2 < l.length := by omega
  have h := flat_get l (t / 2) hi
  have e1 := get_flatK enc 2 l.toArray t (by simpa using ht)
  rw [getElem!_pos _ t h1] at e1
  rw [e1]
  have hg : l.toArray[t / 2]! = l.getD (t / 2) z43 := by
   rw [getElem!_def, List.getElem?_toArray, List.getD_eq_getElem?_getD]
   rw [List.getElem?_eq_getElem hi]; rfl
  rw [hg]
  have h3 : (flat l)[t]? = (enc (l.getD (t / 2) z43))[t % 2]? := by
   have e2 : (flat l)[t]? = ((flat l).drop (t / 2 * 2))[t % 2]? := by
    rw [List.getElem?_drop]; congr 1; omega
   rw [e2, h, List.getElem?_append_left (by rw [enc_len]; omega)]
  have h4 : (flat l).toArray[t] = (flat l)[t]'(by simpa using h2) := by simp
  rw [h4]
  rw [List.getElem?_eq_getElem (by simpa using h2)] at h3
  have hm : t % 2 = 0 ∨ t % 2 = 1 := by omega
  rcases hm with hm | hm <;> rw [hm] at h3 ⊢ <;> simp [enc] at h3 ⊢ <;> exact h3.symm
/-- The row, read as the sort reads it. -/
theorem holds {W : World} {base g n cap : Nat} {ok : Nat → Prop} {xs : List S43} (h : Kd.R k43 43 W base ok (.slice (some ⟨g, 0, none⟩) n cap) xs) : HoldsK enc 2 W g 0 xs.toArray := by
 unfold HoldsK
 intro j hj
 have hj' : j < xs.length * 2 := by simpa using hj
 have hn := (Kd.R_reads' h).1
 obtain ⟨c, hl, hM, hc, hf⟩ := Kd.R_elem h z43 ((j / 2 : Nat) : Int) (by omega) (by omega)
 obtain rfl := k43_openM hM
 rw [Int.toNat_natCast] at hc hf hM
 have hd : j / 2 * 2 + j % 2 = j := by omega
 have e1 := get_flatK enc 2 xs.toArray j (by simpa using hj')
 have hg : xs.toArray[j / 2]! = xs.getD (j / 2) z43 := by
  rw [getElem!_def, List.getElem?_toArray, List.getD_eq_getElem?_getD, List.getElem?_eq_getElem (by omega)]; rfl
 rw [hg] at e1
 have hf' := hf (j % 2)
 rw [show j / 2 * k43.sz = j / 2 * 2 from rfl, hd] at hf'
 refine ⟨?_, by rw [Nat.zero_add]; exact hf'⟩
 rw [Nat.zero_add, e1]
 have hm : j % 2 = 0 ∨ j % 2 = 1 := by omega
 rcases hm with hm | hm
 ·
  have := hc 0 _ rfl
  rw [show j / 2 * k43.sz + 0 = j from by show j / 2 * 2 + 0 = j; omega] at this
  rw [this, hm]; simp [enc]
 ·
  have := hc 1 _ rfl
  rw [show j / 2 * k43.sz + 1 = j from by show j / 2 * 2 + 1 = j; omega] at this
  rw [this, hm]; simp [enc]
/-- The row behind the sort. -/
theorem back {W : World} {base g n cap q : Nat} {os : Array Obj} {ok : Nat → Prop} {xs ys : List S43} (h : Kd.R k43 43 W base ok (.slice (some ⟨g, 0, none⟩) n cap) xs) (hy : ys.length = xs.length) :
  Kd.R k43 43 (sortWorldK enc 2 W g 0 q ys.toArray os) base ok (.slice (some ⟨g, 0, none⟩) n cap) ys ∧ W.grownBy (sortWorldK enc 2 W g 0 q ys.toArray os) (some g) := by
 obtain ⟨hn, hnc, _⟩ := Kd.R_reads' h
 obtain ⟨hok, inner, ho, hr⟩ := h
 obtain ⟨ho1, ho2⟩ := ho
 rcases ho2 with ⟨hv, _⟩ | ⟨g', cap', cur, hv, hb, hh, hnc', hcm, hcs, ht⟩
 ·
  cases hv
 injection hv with ha _ hc
 injection ha with ha
 injection ha with hg
 subst hg; subst hc
 have hlt : g < W.heap.size := by
  rcases Nat.lt_or_ge g W.heap.size with h' | h'
  ·
   exact h'
  ·
   rw [Array.getElem?_eq_none h'] at hh; cases hh
 have hsz : (putRowK enc 2 (Sort.ahead W q) g 0 ys.toArray).heap.size = W.heap.size := by simp [putRowK, putRow, mapBlock, Sort.ahead]
 have hget : (sortWorldK enc 2 W g 0 q ys.toArray os).heap[g]? = some (.cells (putCells id 0 (flatK enc 2 ys.toArray) cur) 43 (0, 0)) := by
  unfold sortWorldK grow
  show ((putRowK enc 2 (Sort.ahead W q) g 0 ys.toArray).heap ++ os)[g]? = _
  rw [Array.getElem?_append_left (by rw [hsz]; exact hlt)]
  simp [putRowK, putRow, mapBlock, Sort.ahead, Array.getElem?_modify, hh, onCells]
 have hfar : ∀ k, k < W.heap.size → k ≠ g → (sortWorldK enc 2 W g 0 q ys.toArray os).heap[k]? = W.heap[k]? := by
  intro k hk hne
  unfold sortWorldK grow
  show ((putRowK enc 2 (Sort.ahead W q) g 0 ys.toArray).heap ++ os)[k]? = _
  rw [Array.getElem?_append_left (by rw [hsz]; exact hk)]
  simp [putRowK, putRow, mapBlock, Sort.ahead, Array.getElem?_modify, Ne.symm hne]
 have hG : W.grownBy (sortWorldK enc 2 W g 0 q ys.toArray os) (some g) := ⟨rfl, rfl, rfl, by
  unfold sortWorldK grow
  show _ ≤ ((putRowK enc 2 (Sort.ahead W q) g 0 ys.toArray).heap ++ os).size
  rw [Array.size_append, hsz]; omega, fun k hk hne => hfar k hk (fun e => hne (by rw [e]))⟩
 refine ⟨⟨hok, flat ys, ⟨flat_len ys, .inr ⟨g, cap, _, by rw [hn, hy], hb, hget, by omega, hcm, by simpa [putCells] using hcs, ?_⟩⟩, flat_reps _ _ _ _ ys rfl⟩, hG⟩
 rw [flatK_is]
 have hcz : ys.length * 2 ≤ cur.size := by
  rw [hcs]; exact Nat.mul_le_mul_right 2 (by omega)
 apply List.ext_getElem?
 intro j
 rw [List.getElem?_take, Array.getElem?_toList]
 by_cases hj : j < ys.length * 2
 ·
  rw [if_pos (show j < ys.length * k43.sz from hj)]
  have hjc : j < cur.size := by omega
  simp only [putCells, Array.getElem?_mapIdx, Array.getElem?_eq_getElem hjc, Option.map_some]
  rw [if_pos (by simp [flat_len]; exact hj), List.getElem?_eq_getElem (by rw [flat_len]; exact hj)]
  simp [getElem!_pos, flat_len, hj]
 ·
  rw [if_neg (show ¬ j < ys.length * k43.sz from hj), List.getElem?_eq_none (by rw [flat_len]; omega)]
end CS
def impl_Corner_51.f (l0 : List (S43)) : Option (List (S43)) := if l0.length < 1048576 then some (l0.mergeSort fun x y => !CS.lt y x) else none
set_option maxHeartbeats 4000000 in
theorem impl_Corner_51.less_grow (x y : S43) (W : World) : Calls Tryz.prog 43 #[.agg #[.int .i16 x.f0, .int .i16 x.f1], .agg #[.int .i16 y.f0, .int .i16 y.f1]] W fun e w' => e = .returned (.bool (CS.lt x y)) ∧ ∃ q os', w' = Sort.grow (W.drewN q) os' := by
 have hu := Tryz.underlying43
 by_cases h1 : x.f0 < y.f0
 ·
  have e : CS.lt x y = true := (CS.lt_iff x y).2 (Or.inl h1)
  have d1 := decide_eq_true h1
  rw [e]
  go_enter Tryz.func43, Tryz.ntmps43
  go_wp2
  go_ret
  exact ⟨rfl, 0, _, by rw [Sort.alloc_eq_grow, Sort.alloc_eq_grow, Sort.grow_grow]; rfl⟩
 ·
  have d1 := decide_eq_false h1
  by_cases h2 : x.f0 = y.f0
  ·
   have d2 : (x.f0 == y.f0) = true := beq_iff_eq.2 h2
   by_cases h3 : x.f1 < y.f1
   ·
    have e : CS.lt x y = true := (CS.lt_iff x y).2 (Or.inr ⟨h2, h3⟩)
    have d3 := decide_eq_true h3
    rw [e]
    go_enter Tryz.func43, Tryz.ntmps43
    go_wp2
    go_ret
    exact ⟨rfl, 0, _, by rw [Sort.alloc_eq_grow, Sort.alloc_eq_grow, Sort.grow_grow]; rfl⟩
   ·
    have e : CS.lt x y = false := by rw [← Bool.not_eq_true, CS.lt_iff]; omega
    have d3 := decide_eq_false h3
    rw [e]
    go_enter Tryz.func43, Tryz.ntmps43
    go_wp2
    go_ret
    exact ⟨rfl, 0, _, by rw [Sort.alloc_eq_grow, Sort.alloc_eq_grow, Sort.grow_grow]; rfl⟩
  ·
   have d2 : (x.f0 == y.f0) = false := beq_eq_false_iff_ne.2 h2
   have e : CS.lt x y = false := by rw [← Bool.not_eq_true, CS.lt_iff]; omega
   rw [e]
   go_enter Tryz.func43, Tryz.ntmps43
   go_wp2
   go_ret
   exact ⟨rfl, 0, _, by rw [Sort.alloc_eq_grow, Sort.alloc_eq_grow, Sort.grow_grow]; rfl⟩
theorem impl_Corner_51.gblk (W : World) (a b : Array Value) (e q : Nat) (os : Array Obj) : (Sort.grow (((W.alloc (.cells a e)).alloc (.cells b e)).drewN q) os).heap[W.heap.size]? = some (.cells a e (0, 0)) ∧ (Sort.grow (((W.alloc (.cells a e)).alloc (.cells b e)).drewN q) os).heap[W.heap.size + 1]? = some (.cells b e (0, 0)) := by
 have n1 := heap_alloc_new W (.cells a e)
 have n2 := heap_alloc_new (W.alloc (.cells a e)) (.cells b e)
 have s1 : (W.alloc (.cells a e)).heap.size = W.heap.size + 1 := by simp
 have s2 : ((W.alloc (.cells a e)).alloc (.cells b e)).heap.size = W.heap.size + 1 + 1 := by simp
 rw [s1] at n2
 have n3 := blk_alloc n1 (.cells b e)
 have hs : ∀ k, k < W.heap.size + 1 + 1 → (Sort.grow (((W.alloc (.cells a e)).alloc (.cells b e)).drewN q) os).heap[k]? = ((W.alloc (.cells a e)).alloc (.cells b e)).heap[k]? := by
  intro k hk
  show (((W.alloc (.cells a e)).alloc (.cells b e)).heap ++ os)[k]? = _
  rw [Array.getElem?_append_left (by rw [s2]; exact hk)]
 exact ⟨(hs _ (by omega)).trans n3, (hs _ (by omega)).trans n2⟩
theorem impl_Corner_51.gr2 (W : World) (a b : Obj) (q q' : Nat) (os os' : Array Obj) : Sort.grow ((Sort.grow (((W.alloc a).alloc b).drewN q) os).drewN q') os' = Sort.grow (W.drewN (q + q')) (#[a] ++ #[b] ++ os ++ os') := by
 rw [Sort.alloc_eq_grow, Sort.alloc_eq_grow]
 simp only [Sort.grow, World.drewN, Array.append_assoc, Nat.add_assoc]
set_option maxHeartbeats 4000000 in
theorem impl_Corner_51.cmp_grow (x y : S43) (W : World) : Calls Tryz.prog 52 #[.agg #[.int .i16 x.f0, .int .i16 x.f1], .agg #[.int .i16 y.f0, .int .i16 y.f1]] W fun e w' => e = .returned (.int .i64 (CS.cf x y)) ∧ ∃ q os', w' = Sort.grow (W.drewN q) os' := by
 have hu := Tryz.underlying43
 have h1 := fun W => impl_Corner_51.less_grow x y W
 have h2 := fun W => impl_Corner_51.less_grow y x W
 have hz : ∀ q os, ((Sort.grow (((W.alloc (.cells #[.int .i16 x.f0, .int .i16 x.f1] 43)).alloc (.cells #[.int .i16 y.f0, .int .i16 y.f1] 43)).drewN q) os).cell? ⟨W.heap.size, 0, none⟩ = some (.int .i16 x.f0)) ∧ ((Sort.grow (((W.alloc (.cells #[.int .i16 x.f0, .int .i16 x.f1] 43)).alloc (.cells #[.int .i16 y.f0, .int .i16 y.f1] 43)).drewN q) os).cell? ⟨W.heap.size, 1, none⟩ = some (.int .i16 x.f1)) ∧ ((Sort.grow (((W.alloc (.cells #[.int .i16 x.f0, .int .i16 x.f1] 43)).alloc (.cells #[.int .i16 y.f0, .int .i16 y.f1] 43)).drewN q) os).cell? ⟨W.heap.size + 1, 0, none⟩ = some (.int .i16 y.f0)) ∧ ((Sort.grow (((W.alloc (.cells #[.int .i16 x.f0, .int .i16 x.f1] 43)).alloc (.cells #[.int .i16 y.f0, .int .i16 y.f1] 43)).drewN q) os).cell? ⟨W.heap.size + 1, 1, none⟩ = some (.int .i16 y.f1)) := by
  intro q os
  obtain ⟨g1, g2⟩ := impl_Corner_51.gblk W #[.int .i16 x.f0, .int .i16 x.f1] #[.int .i16 y.f0, .int .i16 y.f1] 43 q os
  exact ⟨(blk_cell g1 0).trans rfl, (blk_cell g1 1).trans rfl, (blk_cell g2 0).trans rfl, (blk_cell g2 1).trans rfl⟩
 have hz1 := fun q os => (hz q os).1
 have hz2 := fun q os => (hz q os).2.1
 have hz3 := fun q os => (hz q os).2.2.1
 have hz4 := fun q os => (hz q os).2.2.2
 clear hz
 unfold CS.cf
 generalize CS.lt x y = b1 at h1 ⊢
 generalize CS.lt y x = b2 at h2 ⊢
 cases b1 with
 | true =>
  rw [if_pos rfl]
  go_enter Tryz.func52, Tryz.ntmps52
  go_wp2_with (first | (go_at_call 43; (with_reducible refine (h1 _).mono ?_); rintro e w1 ⟨rfl, q1, os1, rfl⟩) | (go_at_call 43; (with_reducible refine (h2 _).mono ?_); rintro e w2 ⟨rfl, q2, os2, rfl⟩))
  go_ret
  exact ⟨rfl, _, _, impl_Corner_51.gr2 W _ _ q1 0 os1 #[]⟩
 | false =>
  rw [if_neg (by decide)]
  cases b2 with
  | true =>
   rw [if_pos rfl]
   go_enter Tryz.func52, Tryz.ntmps52
   go_wp2_with (first | (go_at_call 43; (with_reducible refine (h1 _).mono ?_); rintro e w1 ⟨rfl, q1, os1, rfl⟩) | (go_at_call 43; (with_reducible refine (h2 _).mono ?_); rintro e w2 ⟨rfl, q2, os2, rfl⟩))
   go_ret
   exact ⟨rfl, _, _, impl_Corner_51.gr2 W _ _ q1 q2 os1 os2⟩
  | false =>
   rw [if_neg (by decide)]
   go_enter Tryz.func52, Tryz.ntmps52
   go_wp2_with (first | (go_at_call 43; (with_reducible refine (h1 _).mono ?_); rintro e w1 ⟨rfl, q1, os1, rfl⟩) | (go_at_call 43; (with_reducible refine (h2 _).mono ?_); rintro e w2 ⟨rfl, q2, os2, rfl⟩))
   go_ret
   exact ⟨rfl, _, _, impl_Corner_51.gr2 W _ _ q1 q2 os1 os2⟩
theorem impl_Corner_51.calls (P0_ : Nat → Prop) (u9000_ : Value) (l0 : List (S43)) (r : List (S43)) (w0 w : World) (hB : Below w0.heap.size w0 w) (ho0 : Kd.R k43 43 w w0.heap.size P0_ u9000_ l0) (h : impl_Corner_51.f l0 = some r) :
  Calls Tryz.prog 51 #[u9000_, .func (.func 52) #[] #[]] w fun e w' => e = .returned (.tuple #[]) ∧ Kd.R k43 43 w' w0.heap.size (fun k_ => (P0_ k_ ∨ w.heap.size ≤ k_)) u9000_ r ∧ Below w0.heap.size w0 w' ∧ Kept w w' (fun k_ => P0_ k_) := by
 unfold impl_Corner_51.f at h
 by_cases hl : l0.length < 1048576
 rotate_left
 ·
  rw [if_neg hl] at h; exact absurd h (by simp)
 rw [if_pos hl] at h
 obtain rfl := Option.some.inj h
 by_cases hne : l0 = []
 ·
  subst hne
  obtain ⟨A, c, e⟩ := Kd.R_slice ho0
  subst e
  refine (AnyF.slices_SortFunc_none Tryz.sortC A c (.func (.func 52) #[] #[]) w).mono ?_
  rintro e w' ⟨rfl, rfl⟩
  rw [show ([] : List (S43)).mergeSort (fun x y => !CS.lt y x) = [] by simp]
  exact ⟨rfl, Kd.R_mono ho0 (fun k_ hk => .inl hk), hB, Kept.refl _ _⟩
 ·
  have hp : 0 < l0.length := List.length_pos_iff.2 hne
  obtain ⟨g, cap, e, hg, hgl, _⟩ := Kd.R_form ho0 hp
  subst e
  have hP : P0_ g := ho0.1 g rfl
  have key := AnyQ.slices_SortFunc_total Tryz.sortC 2 Tryz.isAgg43 Tryz.sizeOf43 CS.enc CS.enc_len CS.enc_one CS.cf CS.swo 52 #[] g 0 cap l0.toArray w (enters_of Tryz.func52 (by kernel_rfl) rfl) (fun m os dk _ x y => impl_Corner_51.cmp_grow x y _) (CS.holds ho0) hgl (by simp; omega) CS.total
  have hsz : l0.toArray.size = l0.length := by simp
  rw [hsz] at key
  refine key.mono ?_
  rintro e w' ⟨rfl, q, os, rfl⟩
  have hm : (l0.toArray.toList.mergeSort fun x y => !(ltOf CS.cf) y x) = l0.mergeSort fun x y => !CS.lt y x := by
   congr 1
   funext x y
   rw [CS.ltOf_cf]
  rw [hm]
  obtain ⟨h1, h2⟩ := CS.back (q := q) (os := os) (ys := l0.mergeSort fun x y => !CS.lt y x) ho0 (List.length_mergeSort _)
  exact ⟨rfl, Kd.R_mono h1 (fun k_ hk => .inl hk), hB.grown h2 (below_size hB) (fun k_ e_ => by injection e_ with e_; rw [← e_]; exact hg), Kept.of_grown (S := fun k_ => P0_ k_) h2 (Kept.refl _ _) (fun k_ e_ => by injection e_ with e_; rw [← e_]; exact .inl hP)⟩

end Go.Proofs.YthbogbaaikjhbaaGreatDoor.PA
