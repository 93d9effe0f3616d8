/- Pure functions, and that Go's functions come to them. -/
import Derived.Test.YtmglnofmmgokkaaPAx0
import Derived.Test.YtmglnofmmgokkaaPAxm21
import Derived.Test.YtmglnofmmgokkaaPAxm15
import Derived.Test.YtmglnofmmgokkaaPAxm14
import Derived.Test.YtmglnofmmgokkaaPAxgImpl
namespace Go.Proofs.Ytmglnofmmgokkaa.PA
open Go.RowKit Go.Proofs.YtmglnofmmgokkaaW.PrintWords Go.Proofs.YtmglnofmmgokkaaW.PrintLast Go.Proofs.YtmglnofmmgokkaaW.PrintMore
set_option linter.unusedVariables false
set_option linter.unusedSimpArgs false

attribute [local go_sem high] eqA34
/-! ### spec_l03Same: function 39 -/
def spec_l03Same.l0 : Nat → List (S34) → List (S34) → Int → Option (Bool)
 | 0, _, _, _ => none
 | k + 1, x0, x1, x5 => if x5 < (x0.length : Int) then (if 0 ≤ x5 then (if x5 < (x1.length : Int) then (if (!(((rd_T34 x0 x5).f0) == ((rd_T34 x1 x5).f0)) || (!(((rd_T34 x0 x5).f1) == ((rd_T34 x1 x5).f1)))) = true then (some false) else (spec_l03Same.l0 k x0 x1 (wrap64 (x5 + 1)))) else (none)) else (none)) else (some true)
def spec_l03Same.f (k : Nat) (l0 : List (S34)) (l1 : List (S34)) : Option (Bool) := if (l0.length : Int) = (l1.length : Int) then (spec_l03Same.l0 k l0 l1 0) else (some false)
theorem spec_l03Same.mono_l : ∀ k, (∀ y0 y1 y2, LeO (spec_l03Same.l0 k y0 y1 y2) (spec_l03Same.l0 (k + 1) y0 y1 y2))
 | 0 => fun _ _ _ r h => by simp [spec_l03Same.l0] at h
 | k + 1 => by
  have ih0 := spec_l03Same.mono_l k
  ·
   intro y0 y1 y2
   unfold spec_l03Same.l0
   repeat' first | (with_reducible first | exact ih0 _ _ _ | exact LeO.refl _ | exact LeO.none _ | refine LeO.ite ?_ ?_ | refine LeO.bind ?_ (fun _ => ?_))
theorem spec_l03Same.mono : ∀ a0 a1 k, LeO (spec_l03Same.f k a0 a1) (spec_l03Same.f (k + 1) a0 a1) := by
 intro a0 a1 k
 have ih0 := spec_l03Same.mono_l k
 unfold spec_l03Same.f
 repeat' first | (with_reducible first | exact ih0 _ _ _ | exact LeO.refl _ | exact LeO.none _ | refine LeO.ite ?_ ?_ | refine LeO.bind ?_ (fun _ => ?_))
set_option maxHeartbeats 8000000 in
set_option maxRecDepth 100000 in
theorem spec_l03Same.calls (k : Nat) (A0 : Option Addr) (c0 : Nat) (l0 : List (S34)) (A1 : Option Addr) (c1 : Nat) (l1 : List (S34)) (r : Bool) (w : World) (hr0 : Kd.C k34 w A0 l0.length l0) (hc0 : l0.length ≤ c0) (hr1 : Kd.C k34 w A1 l1.length l1) (hc1 : l1.length ≤ c1) (h : spec_l03Same.f k l0 l1 = some r) :
  Calls Try.prog 39 #[.slice A0 l0.length c0, .slice A1 l1.length c1] w fun e w' => e = .returned (.bool r) ∧ Drawn0 w w' := by
 have hu34 := Try.underlying34
 have HR0 := Aside0.mk hr0
 have HC0 := Aside0.mk hc0
 clear hr0 hc0
 have HR1 := Aside0.mk hr1
 have HC1 := Aside0.mk hc1
 clear hr1 hc1
 have H : (if (l0.length : Int) = (l1.length : Int) then (spec_l03Same.l0 k l0 l1 0) else (some false)) = some r := h
 clear h
 rcases (Decidable.em ((l0.length : Int) = (l1.length : Int))).symm with c3 | c3
 ·
  rw [if_neg c3] at H
  have c3b0 : ((l0.length : Int) == (l1.length : Int)) = false := beq_eq_false_iff_ne.mpr c3
  have c3b1 : ((l0.length : Int) != (l1.length : Int)) = true := bne_iff_ne.mpr c3
  have c3b2 : (l0.length == l1.length) = false := by first | simpa using c3 | (simp at c3 ⊢; omega)
  obtain rfl := Option.some.inj H
  go_enter Try.func39, Try.ntmps39
  go_wp2
  repeat (go_quiet (fail); try go_wp2)
  go_ret
  exact ⟨by first | rfl | (simp; done) | (simp [*]; done), by repeat (first | exact Drawn0.refl _ | apply Drawn0.step)⟩

 rw [if_pos c3] at H
 have c3b0 : ((l0.length : Int) == (l1.length : Int)) = true := beq_iff_eq.mpr c3
 have c3b1 : ((l0.length : Int) != (l1.length : Int)) = false := bne_eq_false_iff_eq.mpr c3
 have c3b2 : (l0.length == l1.length) = true := by first | simpa using c3 | (simp at c3 ⊢; omega)
 clear c3
 have H' := Aside0.mk H
 clear H
 go_enter Try.func39, Try.ntmps39
 go_wp2
 repeat (go_quiet (fail); try go_wp2)
 go_loopg [5] k (fun kq v5 w' => ∃ (x5_1 : Int), v5 = .int .i64 x5_1 ∧ Aside0 (spec_l03Same.l0 kq l0 l1 x5_1 = some r) ∧ Aside0 (kq ≤ k) ∧ Drawn0 w w')
 case atStart => exact ⟨(0), (by first | rfl | (simp; done) | (simp [*]; done)), H', ⟨Nat.le_refl _⟩, by repeat (first | exact Drawn0.refl _ | apply Drawn0.step)⟩
 case round =>
  clear H'
  obtain ⟨x5_1, rfl, HA, HK1, ⟨m1, rfl⟩⟩ := hrel
  rcases gk with _ | k1
  · exact absurd HA.out (by simp [spec_l03Same.l0])
  have H := HA.out
  clear HA
  simp only [spec_l03Same.l0] at H
  rcases (Decidable.em (x5_1 < (l0.length : Int))).symm with c4 | c4
  ·
   rw [if_neg c4] at H
   have c4b0 : decide (x5_1 < (l0.length : Int)) = false := decide_eq_false c4
   clear c4
   obtain rfl := Option.some.inj H
   go_wp2
   repeat (go_quiet (fail); try go_wp2)
   go_ret
   exact ⟨by first | rfl | (simp; done) | (simp [*]; done), by repeat (first | exact Drawn0.refl _ | apply Drawn0.step)⟩
  rw [if_pos c4] at H
  have c4b0 : decide (x5_1 < (l0.length : Int)) = true := decide_eq_true c4
  clear c4
  obtain ⟨c5b0, H⟩ := gx_ H
  obtain ⟨c6b0, H⟩ := gx_ H
  by_cases c7 : (!(((rd_T34 l0 x5_1).f0) == ((rd_T34 l1 x5_1).f0)) || (!(((rd_T34 l0 x5_1).f1) == ((rd_T34 l1 x5_1).f1)))) = true
  ·
   rw [if_pos c7] at H
   have c7b0 : (!(((rd_T34 l0 x5_1).f0) == ((rd_T34 l1 x5_1).f0)) || (!(((rd_T34 l0 x5_1).f1) == ((rd_T34 l1 x5_1).f1)))) = true := c7
   clear c7
   obtain rfl := Option.some.inj H
   have p420 : 0 ≤ (x5_1 : Int) := od_
   have q420 : x5_1 < (l0.length : Int) := od_
   obtain ⟨ad420, e420, hx420_0, hx420_1⟩ := at_T34 HR0.out x5_1 p420 q420
   cases e420
   replace p420 := eq_true p420
   replace q420 := eq_true q420
   have p421 : 0 ≤ (x5_1 : Int) := od_
   have q421 : x5_1 < (l1.length : Int) := od_
   obtain ⟨ad421, e421, hx421_0, hx421_1⟩ := at_T34 HR1.out x5_1 p421 q421
   cases e421
   replace p421 := eq_true p421
   replace q421 := eq_true q421
   go_wp2
   repeat (go_quiet (fail); try go_wp2)
   go_ret
   exact ⟨by first | rfl | (simp; done) | (simp [*]; done), by repeat (first | exact Drawn0.refl _ | apply Drawn0.step)⟩
  rw [if_neg c7] at H
  have c7b0 : (!(((rd_T34 l0 x5_1).f0) == ((rd_T34 l1 x5_1).f0)) || (!(((rd_T34 l0 x5_1).f1) == ((rd_T34 l1 x5_1).f1)))) = false := by simpa using c7
  clear c7
  have H' := Aside0.mk H
  clear H
  have p420 : 0 ≤ (x5_1 : Int) := od_
  have q420 : x5_1 < (l0.length : Int) := od_
  obtain ⟨ad420, e420, hx420_0, hx420_1⟩ := at_T34 HR0.out x5_1 p420 q420
  cases e420
  replace p420 := eq_true p420
  replace q420 := eq_true q420
  have p421 : 0 ≤ (x5_1 : Int) := od_
  have q421 : x5_1 < (l1.length : Int) := od_
  obtain ⟨ad421, e421, hx421_0, hx421_1⟩ := at_T34 HR1.out x5_1 p421 q421
  cases e421
  replace p421 := eq_true p421
  replace q421 := eq_true q421
  go_wp2
  repeat (go_quiet (fail); try go_wp2)
  go_roundg k1
  case measure => have := HK1.out; omega
  case rel => exact ⟨(wrap64 (x5_1 + 1)), (by first | rfl | (simp; done) | (simp [*]; done)), H', ⟨by have := HK1.out; omega⟩, by repeat (first | exact Drawn0.refl _ | apply Drawn0.step)⟩
end Go.Proofs.Ytmglnofmmgokkaa.PA
namespace Go.Proofs.Ytmglnofmmgokkaa.PA
open Go.RowKit Go.Proofs.YtmglnofmmgokkaaW.PrintWords Go.Proofs.YtmglnofmmgokkaaW.PrintLast Go.Proofs.YtmglnofmmgokkaaW.PrintMore
set_option linter.unusedVariables false
set_option linter.unusedSimpArgs false

/-! ### spec_l00Src_pick: function 23 -/
def spec_l00Src_pick.f (s0_0 : List Int) (s0_1 : Int) (s0_2 : Int) (a1 : Int) : Option (Int × Int × Int) := if a1 ≤ 1 then (some (0, s0_1, s0_2)) else ((spec_l00Src_next.f s0_0 s0_1 s0_2).bind fun bt103 => (if a1 > 200 then ((spec_l00Src_next.f s0_0 bt103.2.1 bt103.2.2).bind fun bt106 => (if a1 = 0 then (none) else (some (Int.tmod (wrap64 ((wrap64 (bt103.1 * 256)) + bt106.1)) a1, bt106.2.1, bt106.2.2)))) else (if a1 = 0 then (none) else (some (Int.tmod bt103.1 a1, bt103.2.1, bt103.2.2)))))
set_option maxHeartbeats 8000000 in
set_option maxRecDepth 100000 in
theorem spec_l00Src_pick.calls (g : Nat) (s0_0 : List Int) (s0_1 : Int) (s0_2 : Int) (a1 : Int) (r1 : Int) (r2 : Int) (r3 : Int) (w0 w : World) (hI : IsS66 w0 w g s0_0 s0_1 s0_2) (hB : Below w0.heap.size w0 w) (h : spec_l00Src_pick.f s0_0 s0_1 s0_2 a1 = some (r1, r2, r3)) :
  Calls Try.prog 23 #[.pointer (some ⟨g, 0, none⟩), .int .i64 a1] w fun e w' => e = .returned (.int .i64 r1) ∧ IsS66 w0 w' g s0_0 r2 r3 ∧ Below w0.heap.size w0 w' ∧ KeepBut w w' g none := by
 have HI0 := Aside0.mk hI
 have HK := Aside0.mk (KeepBut.refl w g none)
 have HL := Aside0.mk hB.size
 clear hI
 have HW0 := Aside0.mk hB.size
 have HB := Aside0.mk hB
 clear hB
 have H : (if a1 ≤ 1 then (some (0, s0_1, s0_2)) else ((spec_l00Src_next.f s0_0 s0_1 s0_2).bind fun bt103 => (if a1 > 200 then ((spec_l00Src_next.f s0_0 bt103.2.1 bt103.2.2).bind fun bt106 => (if a1 = 0 then (none) else (some (Int.tmod (wrap64 ((wrap64 (bt103.1 * 256)) + bt106.1)) a1, bt106.2.1, bt106.2.2)))) else (if a1 = 0 then (none) else (some (Int.tmod bt103.1 a1, bt103.2.1, bt103.2.2)))))) = some (r1, r2, r3) := h
 clear h
 by_cases c3 : a1 ≤ 1
 ·
  rw [if_pos c3] at H
  have c3b0 : decide (a1 ≤ 1) = true := decide_eq_true c3
  clear c3
  simp only [Option.some.injEq, Prod.mk.injEq] at H
  obtain ⟨rfl, rfl, rfl⟩ := H
  go_enter Try.func23, Try.ntmps23
  go_wp2
  go_ret
  exact ⟨rt_, by repeat (first | (with_reducible first | exact HI0.out | apply IsS66.alloc | apply IsS66.drewN | apply IsS66.drew | apply IsS66.set_1 | apply IsS66.set_2) | exact HI0.out), by repeat (first | (with_reducible first | exact HB.out | apply below_alloc | apply pw_below_drewN | apply below_drew1 | refine below_set ?_ (IsS66.ge HI0.out)) | exact HB.out), kk_ HK⟩
 rw [if_neg c3] at H
 have c3b0 : decide (a1 ≤ 1) = false := decide_eq_false c3
 clear c3
 obtain ⟨⟨t103, t104, t105⟩, A4, H⟩ := be_ H
 (try dsimp only at H)
 rcases (Decidable.em (a1 > 200)).symm with c5 | c5
 ·
  rw [if_neg c5] at H
  have c5b0 : decide (200 < a1) = false := decide_eq_false c5
  clear c5
  by_cases c10 : a1 = 0
  ·
   rw [if_pos c10] at H
   exact absurd H (by simp)
  rw [if_neg c10] at H
  have c10b0 : (a1 == 0) = false := beq_eq_false_iff_ne.mpr c10
  have c10b1 : (a1 != 0) = true := bne_iff_ne.mpr c10
  simp only [Option.some.injEq, Prod.mk.injEq] at H
  obtain ⟨rfl, rfl, rfl⟩ := H
  go_enter Try.func23, Try.ntmps23
  go_wp2_with (first | ((with_reducible refine gate_callee (f := 49) rfl ?_); refine goM_ (some 9) Try.func49 #[.pointer (some ⟨g, 0, none⟩)] ?_; (with_reducible refine (spec_l00Src_next.calls g s0_0 s0_1 s0_2 t103 t104 t105 w0 _ ?side1 ?side2 A4.out).mono ?_); (case side1 => repeat (first | (with_reducible first | exact HI0.out | apply IsS66.alloc | apply IsS66.drewN | apply IsS66.drew | apply IsS66.set_1 | apply IsS66.set_2) | exact HI0.out)); (case side2 => repeat (first | (with_reducible first | exact HB.out | apply below_alloc | apply pw_below_drewN | apply below_drew1 | refine below_set ?_ (IsS66.ge HI0.out)) | exact HB.out)); rintro e w11 ⟨rfl, hi, hb, hk⟩; refine ⟨_, rfl, ?_⟩; replace HK := Aside0.mk (KeepBut.trans (kk_ HK) hk (.inl rfl)); replace HB := Aside0.mk (hb); replace HI0 := Aside0.mk (hi); clear hb; clear hk; clear hi))
  go_ret
  exact ⟨rt_, by repeat (first | (with_reducible first | exact HI0.out | apply IsS66.alloc | apply IsS66.drewN | apply IsS66.drew | apply IsS66.set_1 | apply IsS66.set_2) | exact HI0.out), by repeat (first | (with_reducible first | exact HB.out | apply below_alloc | apply pw_below_drewN | apply below_drew1 | refine below_set ?_ (IsS66.ge HI0.out)) | exact HB.out), kk_ HK⟩

 rw [if_pos c5] at H
 have c5b0 : decide (200 < a1) = true := decide_eq_true c5
 clear c5
 obtain ⟨⟨t106, t107, t108⟩, A6, H⟩ := be_ H
 (try dsimp only at H)
 by_cases c7 : a1 = 0
 ·
  rw [if_pos c7] at H
  exact absurd H (by simp)
 rw [if_neg c7] at H
 have c7b0 : (a1 == 0) = false := beq_eq_false_iff_ne.mpr c7
 have c7b1 : (a1 != 0) = true := bne_iff_ne.mpr c7
 simp only [Option.some.injEq, Prod.mk.injEq] at H
 obtain ⟨rfl, rfl, rfl⟩ := H
 go_enter Try.func23, Try.ntmps23
 go_wp2_with (first | ((with_reducible refine gate_callee (f := 49) rfl ?_); refine goM_ (some 9) Try.func49 #[.pointer (some ⟨g, 0, none⟩)] ?_; (with_reducible refine (spec_l00Src_next.calls g s0_0 s0_1 s0_2 t103 t104 t105 w0 _ ?side1 ?side2 A4.out).mono ?_); (case side1 => repeat (first | (with_reducible first | exact HI0.out | apply IsS66.alloc | apply IsS66.drewN | apply IsS66.drew | apply IsS66.set_1 | apply IsS66.set_2) | exact HI0.out)); (case side2 => repeat (first | (with_reducible first | exact HB.out | apply below_alloc | apply pw_below_drewN | apply below_drew1 | refine below_set ?_ (IsS66.ge HI0.out)) | exact HB.out)); rintro e w8 ⟨rfl, hi, hb, hk⟩; refine ⟨_, rfl, ?_⟩; replace HK := Aside0.mk (KeepBut.trans (kk_ HK) hk (.inl rfl)); replace HB := Aside0.mk (hb); replace HI0 := Aside0.mk (hi); clear hb; clear hk; clear hi) | ((with_reducible refine gate_callee (f := 49) rfl ?_); refine goM_ (some 15) Try.func49 #[.pointer (some ⟨g, 0, none⟩)] ?_; (with_reducible refine (spec_l00Src_next.calls g s0_0 t104 t105 t106 t107 t108 w0 _ ?side1 ?side2 A6.out).mono ?_); (case side1 => repeat (first | (with_reducible first | exact HI0.out | apply IsS66.alloc | apply IsS66.drewN | apply IsS66.drew | apply IsS66.set_1 | apply IsS66.set_2) | exact HI0.out)); (case side2 => repeat (first | (with_reducible first | exact HB.out | apply below_alloc | apply pw_below_drewN | apply below_drew1 | refine below_set ?_ (IsS66.ge HI0.out)) | exact HB.out)); rintro e w9 ⟨rfl, hi, hb, hk⟩; refine ⟨_, rfl, ?_⟩; replace HK := Aside0.mk (KeepBut.trans (kk_ HK) hk (.inl rfl)); replace HB := Aside0.mk (hb); replace HI0 := Aside0.mk (hi); clear hb; clear hk; clear hi))
 go_ret
 exact ⟨rt_, by repeat (first | (with_reducible first | exact HI0.out | apply IsS66.alloc | apply IsS66.drewN | apply IsS66.drew | apply IsS66.set_1 | apply IsS66.set_2) | exact HI0.out), by repeat (first | (with_reducible first | exact HB.out | apply below_alloc | apply pw_below_drewN | apply below_drew1 | refine below_set ?_ (IsS66.ge HI0.out)) | exact HB.out), kk_ HK⟩

/-! ### impl_SplitStone: function 14 -/
mutual
def impl_SplitStone.j0 : Nat → List (S34) → Int → Int → Int → Int → Option ((List (S34)) × (List (S34)) × Int)
 | 0, _, _, _, _, _ => none
 | k + 1, x0, x1, x2, x9, x10 => if x10 = 0 then (if x1 = x2 then (impl_SplitStone.j1 k x0 x1 x2 true) else (if x9 = 0 then (none) else (if (Int.tmod (wrap64 (x1 + 1)) x9) = x2 then (impl_SplitStone.j1 k x0 x1 x2 true) else (impl_SplitStone.j1 k x0 x1 x2 ((Int.tmod (wrap64 (x2 + 1)) x9) == x1))))) else (some (([] : List (S34)), ([] : List (S34)), x10))
def impl_SplitStone.j1 : Nat → List (S34) → Int → Int → Bool → Option ((List (S34)) × (List (S34)) × Int)
 | 0, _, _, _, _ => none
 | k + 1, x0, x1, x2, x47 => if x47 = true then (some (([] : List (S34)), ([] : List (S34)), 4)) else ((impl_Stone_upTo.f k x0 x1 x2).bind fun t380 => ((impl_Stone_upTo.f k x0 x2 x1).bind fun t383 => (some (t380, t383, 0))))
end
def impl_SplitStone.f (k : Nat) (l0 : List (S34)) (a1 : Int) (a2 : Int) : Option ((List (S34)) × (List (S34)) × Int) := (impl_ValidStone.f k l0).bind fun t375 => ((impl_within.f a1 0 (wrap64 ((l0.length : Int) - 1))).bind fun t376 => (if t376 = true then ((impl_within.f a2 0 (wrap64 ((l0.length : Int) - 1))).bind fun t377 => ((impl_codeOf.f t375 t377).bind fun t378 => (impl_SplitStone.j0 k l0 a1 a2 (l0.length : Int) t378))) else ((impl_codeOf.f t375 false).bind fun t379 => (impl_SplitStone.j0 k l0 a1 a2 (l0.length : Int) t379))))
theorem impl_SplitStone.mono_l : ∀ k, (∀ y0 y1 y2 y3 y4, LeO (impl_SplitStone.j0 k y0 y1 y2 y3 y4) (impl_SplitStone.j0 (k + 1) y0 y1 y2 y3 y4)) ∧ (∀ y0 y1 y2 y3, LeO (impl_SplitStone.j1 k y0 y1 y2 y3) (impl_SplitStone.j1 (k + 1) y0 y1 y2 y3))
 | 0 => ⟨fun _ _ _ _ _ r h => by simp [impl_SplitStone.j0] at h, fun _ _ _ _ r h => by simp [impl_SplitStone.j1] at h⟩
 | k + 1 => by
  obtain ⟨ih0, ih1⟩ := impl_SplitStone.mono_l k
  refine ⟨?_, ?_⟩ <;> intros
  all_goals first | unfold impl_SplitStone.j0 | unfold impl_SplitStone.j1
  all_goals repeat' first | (with_reducible first | exact ih0 _ _ _ _ _ | exact ih1 _ _ _ _ | exact impl_Stone_upTo.mono _ _ _ _ | exact impl_ValidStone.mono _ _ | exact LeO.refl _ | exact LeO.none _ | refine LeO.ite ?_ ?_ | refine LeO.bind ?_ (fun _ => ?_))
theorem impl_SplitStone.mono : ∀ a0 a1 a2 k, LeO (impl_SplitStone.f k a0 a1 a2) (impl_SplitStone.f (k + 1) a0 a1 a2) := by
 intro a0 a1 a2 k
 obtain ⟨ih0, ih1⟩ := impl_SplitStone.mono_l k
 unfold impl_SplitStone.f
 repeat' first | (with_reducible first | exact ih0 _ _ _ _ _ | exact ih1 _ _ _ _ | exact impl_Stone_upTo.mono _ _ _ _ | exact impl_ValidStone.mono _ _ | exact LeO.refl _ | exact LeO.none _ | refine LeO.ite ?_ ?_ | refine LeO.bind ?_ (fun _ => ?_))
set_option maxHeartbeats 8000000 in
set_option maxRecDepth 100000 in
theorem impl_SplitStone.calls (k : Nat) (A0 : Option Addr) (c0 : Nat) (l0 : List (S34)) (a1 : Int) (a2 : Int) (r1 : List (S34)) (r2 : List (S34)) (r3 : Int) (w : World) (hr0 : Kd.C k34 w A0 l0.length l0) (hc0 : l0.length ≤ c0) (h : impl_SplitStone.f k l0 a1 a2 = some (r1, r2, r3)) :
  Calls Try.prog 14 #[.slice A0 l0.length c0, .int .i64 a1, .int .i64 a2] w fun e w' => ∃ v0_ v1_ : Value, e = .returned (.tuple #[v0_, v1_, .int .i64 r3]) ∧ Kd.R k34 34 w' w.heap.size (fun k_ => some k_ ≠ (v1_ : Value).ownBlock) v0_ r1 ∧ Kd.R k34 34 w' w.heap.size (fun k_ => some k_ ≠ (v0_ : Value).ownBlock) v1_ r2 ∧ Below w.heap.size w w' := by
 have HR0 := Aside0.mk hr0
 have HC0 := Aside0.mk hc0
 clear hr0 hc0
 have HB := Aside0.mk (Below.refl w.heap.size w)
 have H : ((impl_ValidStone.f k l0).bind fun t375 => ((impl_within.f a1 0 (wrap64 ((l0.length : Int) - 1))).bind fun t376 => (if t376 = true then ((impl_within.f a2 0 (wrap64 ((l0.length : Int) - 1))).bind fun t377 => ((impl_codeOf.f t375 t377).bind fun t378 => (impl_SplitStone.j0 k l0 a1 a2 (l0.length : Int) t378))) else ((impl_codeOf.f t375 false).bind fun t379 => (impl_SplitStone.j0 k l0 a1 a2 (l0.length : Int) t379))))) = some (r1, r2, r3) := h
 clear h
 have HC4 := Aside0.mk H
 clear H
 go_enter Try.func14, Try.ntmps14
 go_upto_region 2 with (fail)
 go_cut [10] (fun v10 wc => ∃ (kq : Nat) (x10_3 : Int), v10 = .int .i64 x10_3 ∧ Aside0 (impl_SplitStone.j0 kq l0 a1 a2 (l0.length : Int) x10_3 = some (r1, r2, r3)) ∧ Aside0 (kq ≤ k) ∧ Aside0 (Below w.heap.size w wc))
 case first =>
  have H := HC4.out
  clear HC4
  obtain ⟨t375, A5, H⟩ := be_ H
  (try dsimp only at H)
  obtain ⟨t376, A6, H⟩ := be_ H
  (try dsimp only at H)
  rcases (Decidable.em (t376 = true)).symm with c7 | c7
  ·
   replace c7 := Bool.eq_false_iff.mpr c7
   subst c7
   replace H := gf_ H
   obtain ⟨t379, A11, H⟩ := be_ H
   (try dsimp only at H)
   have H' := Aside0.mk H
   clear H
   go_wp2_with (first | ((with_reducible refine gate_callee (f := 25) rfl ?_); refine goM_ (some 14) Try.func25 #[.slice A0 l0.length c0] ?_; (with_reducible refine (impl_ValidStone.calls k _ _ l0 t375 _ ?side1 ?side2 A5.out).mono ?_); (case side1 => exact kc_ (Kd.C_below HR0.out HB.out)); (case side2 => exact HC0.out); rintro e w12 ⟨rfl, hb⟩; refine ⟨_, rfl, ?_⟩; replace HB := bs_ HB hb; clear hb) | ((with_reducible refine gate_callee (f := 34) rfl ?_); refine goM_ (some 18) Try.func34 #[.int .i64 a1, .int .i64 0, .int .i64 (wrap64 ((l0.length : Int) - 1))] ?_; (with_reducible refine (impl_within.calls a1 0 (wrap64 ((l0.length : Int) - 1)) false _ A6.out).mono ?_); rintro e w' ⟨rfl, ⟨nd, rfl⟩⟩; refine ⟨_, rfl, ?_⟩) | ((with_reducible refine gate_callee (f := 33) rfl ?_); refine goM_ (some 25) Try.func33 #[.bool t375, .bool false] ?_; (with_reducible refine (impl_codeOf.calls t375 false t379 _ A11.out).mono ?_); rintro e w' ⟨rfl, ⟨nd, rfl⟩⟩; refine ⟨_, rfl, ?_⟩))
   go_meet
   case rel => exact ⟨_, (t379), (by first | rfl | (simp; done) | (simp [*]; done)), H', ⟨by first | omega | exact Nat.le_refl _⟩, ⟨bl_ HB⟩⟩
  subst c7
  replace H := gt_ H
  obtain ⟨t377, A8, H⟩ := be_ H
  (try dsimp only at H)
  obtain ⟨t378, A9, H⟩ := be_ H
  (try dsimp only at H)
  have H' := Aside0.mk H
  clear H
  go_wp2_with (first | ((with_reducible refine gate_callee (f := 25) rfl ?_); refine goM_ (some 14) Try.func25 #[.slice A0 l0.length c0] ?_; (with_reducible refine (impl_ValidStone.calls k _ _ l0 t375 _ ?side1 ?side2 A5.out).mono ?_); (case side1 => exact kc_ (Kd.C_below HR0.out HB.out)); (case side2 => exact HC0.out); rintro e w10 ⟨rfl, hb⟩; refine ⟨_, rfl, ?_⟩; replace HB := bs_ HB hb; clear hb) | ((with_reducible refine gate_callee (f := 34) rfl ?_); refine goM_ (some 18) Try.func34 #[.int .i64 a1, .int .i64 0, .int .i64 (wrap64 ((l0.length : Int) - 1))] ?_; (with_reducible refine (impl_within.calls a1 0 (wrap64 ((l0.length : Int) - 1)) true _ A6.out).mono ?_); rintro e w' ⟨rfl, ⟨nd, rfl⟩⟩; refine ⟨_, rfl, ?_⟩) | (go_at_call 34; (with_reducible refine (impl_within.calls a2 0 (wrap64 ((l0.length : Int) - 1)) t377 _ A8.out).mono ?_); rintro e w' ⟨rfl, ⟨nd, rfl⟩⟩) | ((with_reducible refine gate_callee (f := 33) rfl ?_); refine goM_ (some 25) Try.func33 #[.bool t375, .bool t377] ?_; (with_reducible refine (impl_codeOf.calls t375 t377 t378 _ A9.out).mono ?_); rintro e w' ⟨rfl, ⟨nd, rfl⟩⟩; refine ⟨_, rfl, ?_⟩))
  go_meet
  case rel => exact ⟨_, (t378), (by first | rfl | (simp; done) | (simp [*]; done)), H', ⟨by first | omega | exact Nat.le_refl _⟩, ⟨bl_ HB⟩⟩
 case rest =>
  clear HC4
  obtain ⟨kq, x10_3, rfl, HA, HJ3, HB⟩ := hcut
  rcases kq with _ | kj3
  · exact absurd HA.out (by simp [impl_SplitStone.j0])
  have H := HA.out
  clear HA
  simp only [impl_SplitStone.j0] at H
  rcases (Decidable.em (x10_3 = 0)).symm with c13 | c13
  ·
   rw [if_neg c13] at H
   have c13b0 : (x10_3 == 0) = false := beq_eq_false_iff_ne.mpr c13
   have c13b1 : (x10_3 != 0) = true := bne_iff_ne.mpr c13
   simp only [Option.some.injEq, Prod.mk.injEq] at H
   obtain ⟨rfl, rfl, rfl⟩ := H
   go_wp2
   go_ret3
   exact ⟨_, _, by first | rfl | (simp [errW_none, errW_some] <;> rfl) | (simp [*, errW_none, errW_some] <;> rfl), by first | exact Kd.R_nil _ _ _ _ _ | exact Kd.N_nil _ _ _ _ _ | exact Kd.V_nil _ _ _ _ _ | exact Kd.Q_nil _ _ _ _ _ | exact Kd.S_nil _ _ _ _ _, by first | exact Kd.R_nil _ _ _ _ _ | exact Kd.N_nil _ _ _ _ _ | exact Kd.V_nil _ _ _ _ _ | exact Kd.Q_nil _ _ _ _ _ | exact Kd.S_nil _ _ _ _ _, bl_ HB⟩

  rw [if_pos c13] at H
  have c13b0 : (x10_3 == 0) = true := beq_iff_eq.mpr c13
  have c13b1 : (x10_3 != 0) = false := bne_eq_false_iff_eq.mpr c13
  clear c13
  have HC14 := Aside0.mk H
  clear H
  go_upto_region 5 with (fail)
  go_cut [47] (fun v47 wc => ∃ (kq : Nat) (x47_13 : Bool), v47 = .bool x47_13 ∧ Aside0 (impl_SplitStone.j1 kq l0 a1 a2 x47_13 = some (r1, r2, r3)) ∧ Aside0 (kq ≤ kj3) ∧ Aside0 (Below w.heap.size w wc))
  case first =>
   have H := HC14.out
   clear HC14
   by_cases c15 : a1 = a2
   ·
    rw [if_pos c15] at H
    have c15b0 : (a1 == a2) = true := beq_iff_eq.mpr c15
    have c15b1 : (a1 != a2) = false := bne_eq_false_iff_eq.mpr c15
    clear c15
    (first | rw [c15b0] | (simp only [i64_w, i32_w]; rw [c15b0]) | skip)
    have H' := Aside0.mk H
    clear H
    go_wp2
    go_meet
    case rel => exact ⟨_, (true), (by first | rfl | (simp; done) | (simp [*]; done)), H', ⟨by have := HJ3.out; first | omega | exact Nat.le_refl _⟩, ⟨bl_ HB⟩⟩
   rw [if_neg c15] at H
   have c15b0 : (a1 == a2) = false := beq_eq_false_iff_ne.mpr c15
   have c15b1 : (a1 != a2) = true := bne_iff_ne.mpr c15
   (first | rw [c15b0] | (simp only [i64_w, i32_w]; rw [c15b0]) | skip)
   by_cases c16 : (l0.length : Int) = 0
   ·
    rw [if_pos c16] at H
    exact absurd H (by simp)
   rw [if_neg c16] at H
   have c16b0 : ((l0.length : Int) == 0) = false := beq_eq_false_iff_ne.mpr c16
   have c16b1 : ((l0.length : Int) != 0) = true := bne_iff_ne.mpr c16
   have c16b2 : ¬ (l0 = []) := fun h_ => c16 (by rw [h_]; rfl)
   by_cases c17 : (Int.tmod (wrap64 (a1 + 1)) (l0.length : Int)) = a2
   ·
    rw [if_pos c17] at H
    have c17b0 : ((Int.tmod (wrap64 (a1 + 1)) (l0.length : Int)) == a2) = true := beq_iff_eq.mpr c17
    have c17b1 : ((Int.tmod (wrap64 (a1 + 1)) (l0.length : Int)) != a2) = false := bne_eq_false_iff_eq.mpr c17
    clear c17
    have H' := Aside0.mk H
    clear H
    go_wp2
    go_meet
    case rel => exact ⟨_, (true), (by first | rfl | (simp; done) | (simp [*]; done)), H', ⟨by have := HJ3.out; first | omega | exact Nat.le_refl _⟩, ⟨bl_ HB⟩⟩
   ·
    rw [if_neg c17] at H
    have c17b0 : ((Int.tmod (wrap64 (a1 + 1)) (l0.length : Int)) == a2) = false := beq_eq_false_iff_ne.mpr c17
    have c17b1 : ((Int.tmod (wrap64 (a1 + 1)) (l0.length : Int)) != a2) = true := bne_iff_ne.mpr c17
    have H' := Aside0.mk H
    clear H
    go_wp2
    go_meet
    case rel => exact ⟨_, (((Int.tmod (wrap64 (a2 + 1)) (l0.length : Int)) == a1)), (by first | rfl | (simp; done) | (simp [*]; done)), H', ⟨by have := HJ3.out; first | omega | exact Nat.le_refl _⟩, ⟨bl_ HB⟩⟩
  case rest =>
   clear HC14
   obtain ⟨kq, x47_13, rfl, HA, HJ13, HB⟩ := hcut
   rcases kq with _ | kj13
   · exact absurd HA.out (by simp [impl_SplitStone.j1])
   have H := HA.out
   clear HA
   simp only [impl_SplitStone.j1] at H
   by_cases c18 : x47_13 = true
   ·
    subst c18
    replace H := gt_ H
    simp only [Option.some.injEq, Prod.mk.injEq] at H
    obtain ⟨rfl, rfl, rfl⟩ := H
    go_wp2
    go_ret3
    exact ⟨_, _, by first | rfl | (simp [errW_none, errW_some] <;> rfl) | (simp [*, errW_none, errW_some] <;> rfl), by first | exact Kd.R_nil _ _ _ _ _ | exact Kd.N_nil _ _ _ _ _ | exact Kd.V_nil _ _ _ _ _ | exact Kd.Q_nil _ _ _ _ _ | exact Kd.S_nil _ _ _ _ _, by first | exact Kd.R_nil _ _ _ _ _ | exact Kd.N_nil _ _ _ _ _ | exact Kd.V_nil _ _ _ _ _ | exact Kd.Q_nil _ _ _ _ _ | exact Kd.S_nil _ _ _ _ _, bl_ HB⟩
   replace c18 := Bool.eq_false_iff.mpr c18
   subst c18
   replace H := gf_ H
   obtain ⟨t380, A19, H⟩ := be_ H
   (try dsimp only at H)
   obtain ⟨t383, A20, H⟩ := be_ H
   (try dsimp only at H)
   simp only [Option.some.injEq, Prod.mk.injEq] at H
   obtain ⟨rfl, rfl, rfl⟩ := H
   go_wp2_with (first | ((with_reducible refine gate_callee (f := 36) rfl ?_); refine goM_ (some 51) Try.func36 #[.slice A0 l0.length c0, .int .i64 a1, .int .i64 a2] ?_; (with_reducible refine (impl_Stone_upTo.calls kj13 _ _ l0 a1 a2 t380 _ ?side1 ?side2 A19.out).mono ?_); (case side1 => exact kc_ (Kd.C_below HR0.out HB.out)); (case side2 => exact HC0.out); rintro e w21 ⟨v381, rfl, ho0, hb⟩; refine ⟨_, rfl, ?_⟩; have HO382 := Aside0.mk (Kd.R_lower ho0 (below_size (kB_ HB))); replace HB := bs_ HB hb; clear hb; (try clear ho0)) | ((with_reducible refine gate_callee (f := 36) rfl ?_); refine goM_ (some 55) Try.func36 #[.slice A0 l0.length c0, .int .i64 a2, .int .i64 a1] ?_; (with_reducible refine (impl_Stone_upTo.calls kj13 _ _ l0 a2 a1 t383 _ ?side1 ?side2 A20.out).mono ?_); (case side1 => exact kc_ (Kd.C_below HR0.out HB.out)); (case side2 => exact HC0.out); rintro e w22 ⟨v384, rfl, ho0, hb⟩; refine ⟨_, rfl, ?_⟩; have HO385 := Aside0.mk (Kd.R_lower (Kd.R_new' ho0 (Kd.R_lt (kp_ HO382))) (below_size (kB_ HB))); replace HO382 := Aside0.mk (Kd.R_elder' (kp_ HO382) (Kd.R_base ho0) hb); replace HB := bs_ HB hb; clear hb; (try clear ho0)))
   go_ret3
   exact ⟨_, _, by first | rfl | (simp [errW_none, errW_some] <;> rfl) | (simp [*, errW_none, errW_some] <;> rfl), by (with_reducible repeat (first | apply Kd.R_alloc | apply Kd.R_drewN | apply Kd.R_drew)); exact Kd.R_mono HO382.out (fun _ hk => hk.2), by (with_reducible repeat (first | apply Kd.R_alloc | apply Kd.R_drewN | apply Kd.R_drew)); exact Kd.R_mono HO385.out (fun _ hk => hk.2), bl_ HB⟩
end Go.Proofs.Ytmglnofmmgokkaa.PA
