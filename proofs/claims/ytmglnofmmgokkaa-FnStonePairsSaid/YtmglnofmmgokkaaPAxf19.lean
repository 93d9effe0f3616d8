/- Pure functions, and that Go's functions come to them. -/
import Derived.Test.YtmglnofmmgokkaaPAx0
import Derived.Test.YtmglnofmmgokkaaPAxm21
import Derived.Test.YtmglnofmmgokkaaPAxm19
import Derived.Test.YtmglnofmmgokkaaPAxf43
import Derived.Test.YtmglnofmmgokkaaPAxgImpl
namespace Go.Proofs.Ytmglnofmmgokkaa.PA
open Go.RowKit Go.Proofs.YtmglnofmmgokkaaW.PrintWords Go.Proofs.YtmglnofmmgokkaaW.PrintLast Go.Proofs.YtmglnofmmgokkaaW.PrintMore
set_option linter.unusedVariables false
set_option linter.unusedSimpArgs false

attribute [local go_sem high] eqA34
/-! ### impl_JoinStones: function 19 -/
mutual
def impl_JoinStones.j0 : Nat → List (S34) → List (S34) → Bool → Option ((List (S34)) × Int)
 | 0, _, _, _ => none
 | k + 1, x0, x1, x19 => if x19 = true then (some (([] : List (S34)), 1)) else (impl_JoinStones.l0 k x0 x1 x0 (x0.length : Int) 0)
def impl_JoinStones.l0 : Nat → List (S34) → List (S34) → List (S34) → Int → Int → Option ((List (S34)) × Int)
 | 0, _, _, _, _, _ => none
 | k + 1, x0, x1, x20, x21, x22 => if x22 < x21 then (if 0 ≤ x22 then (if x22 < (x20.length : Int) then (if (x0.length : Int) = 0 then (none) else (if 0 ≤ (Int.tmod (wrap64 (x22 + 1)) (x0.length : Int)) then (if (Int.tmod (wrap64 (x22 + 1)) (x0.length : Int)) < (x0.length : Int) then ((impl_Corner_42.f k x1 ((rd_T34 x0 (Int.tmod (wrap64 (x22 + 1)) (x0.length : Int))).f0) ((rd_T34 x0 (Int.tmod (wrap64 (x22 + 1)) (x0.length : Int))).f1)).bind fun t475 => (if t475 < 0 then (impl_JoinStones.j2 k x0 x1 (Int.tmod (wrap64 (x22 + 1)) (x0.length : Int)) t475 x20 x21 x22 true) else (if (x1.length : Int) = 0 then (none) else (if 0 ≤ (Int.tmod (wrap64 (t475 + 1)) (x1.length : Int)) then (if (Int.tmod (wrap64 (t475 + 1)) (x1.length : Int)) < (x1.length : Int) then (impl_JoinStones.j2 k x0 x1 (Int.tmod (wrap64 (x22 + 1)) (x0.length : Int)) t475 x20 x21 x22 (!(((rd_T34 x1 (Int.tmod (wrap64 (t475 + 1)) (x1.length : Int))).f0) == ((rd_T34 x20 x22).f0)) || (!(((rd_T34 x1 (Int.tmod (wrap64 (t475 + 1)) (x1.length : Int))).f1) == ((rd_T34 x20 x22).f1))))) else (none)) else (none))))) else (none)) else (none))) else (none)) else (none)) else (some (([] : List (S34)), 6))
def impl_JoinStones.j2 : Nat → List (S34) → List (S34) → Int → Int → List (S34) → Int → Int → Bool → Option ((List (S34)) × Int)
 | 0, _, _, _, _, _, _, _, _ => none
 | k + 1, x0, x1, x8, x10, x20, x21, x22, x56 => if x56 = true then (impl_JoinStones.l0 k x0 x1 x20 x21 (wrap64 (x22 + 1))) else ((impl_Stone_from.f k x0 x8).bind fun t477 => ((impl_Stone_from.f k x1 x10).bind fun t480 => (if 2 ≤ (t480.length : Int) then ((some (t480.drop 2 : List (S34))).bind fun y483 => (if t477.length + y483.length < 35184372088832 then ((impl_straight.f k (t477 ++ y483)).bind fun t490 => ((impl_isConvex.f k t490).bind fun t493 => (if t493 = true then (if (t490.length : Int) > 8 then (some (([] : List (S34)), 3)) else (some (t490, 0))) else (some (([] : List (S34)), 4))))) else (none))) else (none))))
end
def impl_JoinStones.f (k : Nat) (l0 : List (S34)) (l1 : List (S34)) : Option ((List (S34)) × Int) := (impl_ValidStone.f k l0).bind fun t469 => (if t469 = true then ((impl_ValidStone.f k l1).bind fun t470 => (impl_JoinStones.j0 k l0 l1 (!t470))) else (impl_JoinStones.j0 k l0 l1 true))
theorem impl_JoinStones.mono_l : ∀ k, (∀ y0 y1 y2, LeO (impl_JoinStones.j0 k y0 y1 y2) (impl_JoinStones.j0 (k + 1) y0 y1 y2)) ∧ (∀ y0 y1 y2 y3 y4, LeO (impl_JoinStones.l0 k y0 y1 y2 y3 y4) (impl_JoinStones.l0 (k + 1) y0 y1 y2 y3 y4)) ∧ (∀ y0 y1 y2 y3 y4 y5 y6 y7, LeO (impl_JoinStones.j2 k y0 y1 y2 y3 y4 y5 y6 y7) (impl_JoinStones.j2 (k + 1) y0 y1 y2 y3 y4 y5 y6 y7))
 | 0 => ⟨fun _ _ _ r h => by simp [impl_JoinStones.j0] at h, fun _ _ _ _ _ r h => by simp [impl_JoinStones.l0] at h, fun _ _ _ _ _ _ _ _ r h => by simp [impl_JoinStones.j2] at h⟩
 | k + 1 => by
  obtain ⟨ih0, ih1, ih2⟩ := impl_JoinStones.mono_l k
  refine ⟨?_, ?_, ?_⟩ <;> intros
  all_goals first | unfold impl_JoinStones.j0 | unfold impl_JoinStones.l0 | unfold impl_JoinStones.j2
  all_goals repeat' first | (with_reducible first | exact ih0 _ _ _ | exact ih1 _ _ _ _ _ | exact ih2 _ _ _ _ _ _ _ _ | exact impl_Corner_42.mono _ _ _ _ | exact impl_Stone_from.mono _ _ _ | exact impl_ValidStone.mono _ _ | exact impl_isConvex.mono _ _ | exact impl_straight.mono _ _ | exact LeO.refl _ | exact LeO.none _ | refine LeO.ite ?_ ?_ | refine LeO.bind ?_ (fun _ => ?_))
theorem impl_JoinStones.mono : ∀ a0 a1 k, LeO (impl_JoinStones.f k a0 a1) (impl_JoinStones.f (k + 1) a0 a1) := by
 intro a0 a1 k
 obtain ⟨ih0, ih1, ih2⟩ := impl_JoinStones.mono_l k
 unfold impl_JoinStones.f
 repeat' first | (with_reducible first | exact ih0 _ _ _ | exact ih1 _ _ _ _ _ | exact ih2 _ _ _ _ _ _ _ _ | exact impl_Corner_42.mono _ _ _ _ | exact impl_Stone_from.mono _ _ _ | exact impl_ValidStone.mono _ _ | exact impl_isConvex.mono _ _ | exact impl_straight.mono _ _ | exact LeO.refl _ | exact LeO.none _ | refine LeO.ite ?_ ?_ | refine LeO.bind ?_ (fun _ => ?_))
def impl_JoinStones.T6 : Bool × List (List Nat × List Nat) := (true, [([], []), ([0], [0]), ([], []), ([2], [2]), ([1, 3], [1, 3]), ([], []), ([], []), ([6], [6]), ([], []), ([8], [8]), ([7, 9], [7, 9]), ([5, 10], [5, 10]), ([11], [11]), ([], []), ([4, 0, 1, 2, 3, 4, 13], [4]), ([13, 12, 14, 0, 1, 2, 3, 4, 5, 6, 7, 8, 9, 10, 11, 12, 13, 14], [12, 13])])
def impl_JoinStones.B6 : List Nat := [0, 1, 0, 4, 15, 0, 0, 64, 0, 256, 960, 2016, 4064, 0, 8223, 32767]
theorem impl_JoinStones.tab6 : rtab .any (opsOf Try.f19 6) = impl_JoinStones.T6 := by kernel_rfl
theorem impl_JoinStones.bits6 : waitsOk impl_JoinStones.T6.2 impl_JoinStones.B6 = true := by kernel_rfl
def impl_JoinStones.T8 : Bool × List (List Nat × List Nat) := (true, [([], []), ([0], [0]), ([1], [1]), ([2], [2]), ([2], [2]), ([4, 2], [2, 4]), ([2], [2]), ([6, 2], [2, 6]), ([5, 7, 2], [2, 5, 7]), ([3, 8, 2], [2, 3, 8]), ([9, 2], [2, 9]), ([2], [2]), ([10, 11, 2], [2, 10, 11]), ([2, 12], [2, 12])])
def impl_JoinStones.B8 : List Nat := [0, 1, 3, 7, 7, 23, 7, 71, 247, 511, 1023, 7, 4095, 8191]
theorem impl_JoinStones.tab8 : rtab .any (opsOf Try.f19 8) = impl_JoinStones.T8 := by kernel_rfl
theorem impl_JoinStones.bits8 : waitsOk impl_JoinStones.T8.2 impl_JoinStones.B8 = true := by kernel_rfl
set_option maxHeartbeats 8000000 in
set_option maxRecDepth 100000 in
theorem impl_JoinStones.calls (k : Nat) (A0 : Option Addr) (c0 : Nat) (l0 : List (S34)) (A1 : Option Addr) (c1 : Nat) (l1 : List (S34)) (r1 : List (S34)) (r2 : Int) (w : World) (hr0 : Kd.C k34 w A0 l0.length l0) (hc0 : l0.length ≤ c0) (hr1 : Kd.C k34 w A1 l1.length l1) (hc1 : l1.length ≤ c1) (h : impl_JoinStones.f k l0 l1 = some (r1, r2)) :
  Calls Try.prog 19 #[.slice A0 l0.length c0, .slice A1 l1.length c1] w fun e w' => ∃ v0_ : Value, e = .returned (.tuple #[v0_, .int .i64 r2]) ∧ Kd.R k34 34 w' w.heap.size (fun _ => True) v0_ r1 ∧ Below w.heap.size w w' := by
 have hu34 := Try.underlying34
 have HR0 := Aside0.mk hr0
 have HC0 := Aside0.mk hc0
 clear hr0 hc0
 have HR1 := Aside0.mk hr1
 have HC1 := Aside0.mk hc1
 clear hr1 hc1
 have HB := Aside0.mk (Below.refl w.heap.size w)
 have H : ((impl_ValidStone.f k l0).bind fun t469 => (if t469 = true then ((impl_ValidStone.f k l1).bind fun t470 => (impl_JoinStones.j0 k l0 l1 (!t470))) else (impl_JoinStones.j0 k l0 l1 true))) = some (r1, r2) := h
 clear h
 have HC3 := Aside0.mk H
 clear H
 go_enter Try.func19, Try.ntmps19
 go_upto_region 1 with (fail)
 go_cut [19] (fun v19 wc => ∃ (kq : Nat) (x19_2 : Bool), v19 = .bool x19_2 ∧ Aside0 (impl_JoinStones.j0 kq l0 l1 x19_2 = some (r1, r2)) ∧ Aside0 (kq ≤ k) ∧ Aside0 (Below w.heap.size w wc))
 case first =>
  have H := HC3.out
  clear HC3
  obtain ⟨t469, A4, H⟩ := be_ H
  (try dsimp only at H)
  rcases (Decidable.em (t469 = true)).symm with c5 | c5
  ·
   replace c5 := Bool.eq_false_iff.mpr c5
   subst c5
   replace H := gf_ H
   have H' := Aside0.mk H
   clear H
   go_wp2_with (first | ((with_reducible refine gate_callee (f := 25) rfl ?_); refine goM_ (some 13) Try.func25 #[.slice A0 l0.length c0] ?_; (with_reducible refine (impl_ValidStone.calls k _ _ l0 false _ ?side1 ?side2 A4.out).mono ?_); (case side1 => exact kc_ (Kd.C_below HR0.out HB.out)); (case side2 => exact HC0.out); rintro e w9 ⟨rfl, hb⟩; refine ⟨_, rfl, ?_⟩; replace HB := Aside0.mk (below_step (kB_ HB) hb); clear hb))
   go_meet
   case rel => exact ⟨_, (true), (by first | rfl | (simp; done) | (simp [*]; done)), H', ⟨by first | omega | exact Nat.le_refl _⟩, ⟨kB_ HB⟩⟩
  subst c5
  replace H := gt_ H
  obtain ⟨t470, A6, H⟩ := be_ H
  (try dsimp only at H)
  have H' := Aside0.mk H
  clear H
  go_wp2_with (first | ((with_reducible refine gate_callee (f := 25) rfl ?_); refine goM_ (some 13) Try.func25 #[.slice A0 l0.length c0] ?_; (with_reducible refine (impl_ValidStone.calls k _ _ l0 true _ ?side1 ?side2 A4.out).mono ?_); (case side1 => exact kc_ (Kd.C_below HR0.out HB.out)); (case side2 => exact HC0.out); rintro e w7 ⟨rfl, hb⟩; refine ⟨_, rfl, ?_⟩; replace HB := Aside0.mk (below_step (kB_ HB) hb); clear hb) | (go_at_call 25; (with_reducible refine (impl_ValidStone.calls k _ _ l1 t470 _ ?side1 ?side2 A6.out).mono ?_); (case side1 => exact kc_ (Kd.C_below HR1.out HB.out)); (case side2 => exact HC1.out); rintro e w8 ⟨rfl, hb⟩; replace HB := Aside0.mk (below_step (kB_ HB) hb); clear hb))
  go_meet
  case rel => exact ⟨_, (!t470), (by first | rfl | (simp; done) | (simp [*]; done)), H', ⟨by first | omega | exact Nat.le_refl _⟩, ⟨kB_ HB⟩⟩
 case rest =>
  clear HC3
  obtain ⟨kq, x19_2, rfl, HA, HJ2, HB⟩ := hcut
  rcases kq with _ | kj2
  · exact absurd HA.out (by simp [impl_JoinStones.j0])
  have H := HA.out
  clear HA
  simp only [impl_JoinStones.j0] at H
  by_cases c10 : x19_2 = true
  ·
   subst c10
   replace H := gt_ H
   simp only [Option.some.injEq, Prod.mk.injEq] at H
   obtain ⟨rfl, rfl⟩ := H
   go_wp2
   go_ret2
   exact ⟨_, by first | rfl | (simp [errW_none, errW_some] <;> rfl) | (simp [*, errW_none, errW_some] <;> rfl), by first | exact Kd.R_nil _ _ _ _ _ | exact Kd.N_nil _ _ _ _ _ | exact Kd.V_nil _ _ _ _ _ | exact Kd.Q_nil _ _ _ _ _ | exact Kd.S_nil _ _ _ _ _, kB_ HB⟩
  replace c10 := Bool.eq_false_iff.mpr c10
  subst c10
  replace H := gf_ H
  have H' := Aside0.mk H
  clear H
  go_wp2
  go_loopg [22] kj2 (fun kq v22 w' => ∃ (x22_2 : Int), v22 = .int .i64 x22_2 ∧ Aside0 (impl_JoinStones.l0 kq l0 l1 l0 (l0.length : Int) x22_2 = some (r1, r2)) ∧ Aside0 (kq ≤ kj2) ∧ Aside0 (Below w.heap.size w w'))
  case atStart => exact ⟨(0), (by first | rfl | (simp; done) | (simp [*]; done)), H', ⟨Nat.le_refl _⟩, ⟨kB_ HB⟩⟩
  case round =>
   clear H'
   obtain ⟨x22_2, rfl, HA, HK2, HB⟩ := hrel
   rcases gk with _ | k2
   · exact absurd HA.out (by simp [impl_JoinStones.l0])
   have H := HA.out
   clear HA
   simp only [impl_JoinStones.l0] at H
   rcases (Decidable.em (x22_2 < (l0.length : Int))).symm with c11 | c11
   ·
    rw [if_neg c11] at H
    have c11b0 : decide (x22_2 < (l0.length : Int)) = false := decide_eq_false c11
    clear c11
    simp only [Option.some.injEq, Prod.mk.injEq] at H
    obtain ⟨rfl, rfl⟩ := H
    go_wp2
    go_ret2
    exact ⟨_, by first | rfl | (simp [errW_none, errW_some] <;> rfl) | (simp [*, errW_none, errW_some] <;> rfl), by first | exact Kd.R_nil _ _ _ _ _ | exact Kd.N_nil _ _ _ _ _ | exact Kd.V_nil _ _ _ _ _ | exact Kd.Q_nil _ _ _ _ _ | exact Kd.S_nil _ _ _ _ _, kB_ HB⟩

   rw [if_pos c11] at H
   have c11b0 : decide (x22_2 < (l0.length : Int)) = true := decide_eq_true c11
   clear c11
   obtain ⟨c12b0, H⟩ := gx_ H
   obtain ⟨c13b0, H⟩ := gx_ H
   by_cases c14 : (l0.length : Int) = 0
   ·
    rw [if_pos c14] at H
    exact absurd H (by simp)
   rw [if_neg c14] at H
   have c14b0 : ((l0.length : Int) == 0) = false := beq_eq_false_iff_ne.mpr c14
   have c14b1 : ((l0.length : Int) != 0) = true := bne_iff_ne.mpr c14
   have c14b2 : ¬ (l0 = []) := fun h_ => c14 (by rw [h_]; rfl)
   obtain ⟨ji15, hji15⟩ : ∃ j_ : Int, (Int.tmod (wrap64 (x22_2 + 1)) (l0.length : Int)) = j_ := ⟨_, rfl⟩
   replace H : (if 0 ≤ (ji15) then (if (ji15) < (l0.length : Int) then ((impl_Corner_42.f k2 l1 ((rd_T34 l0 (ji15)).f0) ((rd_T34 l0 (ji15)).f1)).bind fun t475 => (if t475 < 0 then (impl_JoinStones.j2 k2 l0 l1 ji15 t475 l0 (l0.length : Int) x22_2 true) else (if (l1.length : Int) = 0 then (none) else (if 0 ≤ (Int.tmod (wrap64 (t475 + 1)) (l1.length : Int)) then (if (Int.tmod (wrap64 (t475 + 1)) (l1.length : Int)) < (l1.length : Int) then (impl_JoinStones.j2 k2 l0 l1 ji15 t475 l0 (l0.length : Int) x22_2 (!(((rd_T34 l1 (Int.tmod (wrap64 (t475 + 1)) (l1.length : Int))).f0) == ((rd_T34 l0 x22_2).f0)) || (!(((rd_T34 l1 (Int.tmod (wrap64 (t475 + 1)) (l1.length : Int))).f1) == ((rd_T34 l0 x22_2).f1))))) else (none)) else (none))))) else (none)) else (none)) = some (r1, r2) := by first | (rw [hji15] at H; exact H) | (simp only [hji15] at H ⊢; exact H)
   obtain ⟨c16b0, H⟩ := gx_ H
   obtain ⟨c17b0, H⟩ := gx_ H
   obtain ⟨t475, A18, H⟩ := be_ H
   (try dsimp only at H)
   have HC19 := Aside0.mk H
   clear H
   have p471 : 0 ≤ (x22_2 : Int) := od_
   have q471 : x22_2 < (l0.length : Int) := od_
   obtain ⟨ad471, e471, hx471_0, hx471_1⟩ := af_ HB (at_T34 HR0.out x22_2 p471 q471)
   cases e471
   replace p471 := eq_true p471
   replace q471 := eq_true q471
   try go_wp2_with (first | ((with_reducible refine gate_dst (N := 7) rfl ?_); (try (refine gate_guard (by rfl) ?_; dsimp only)); refine boxM_ 7 #[.int .i16 0, .int .i16 0] 34 ?_; intro gb472 hg w20 hbox hb; have BK472 := Aside0.mk (hbox); have GW472 := Aside0.mk ((by rw [hg]; exact (below_size (kB_ HB)) : w.heap.size ≤ gb472)); have GE472 := Aside0.mk ((by rw [hg]; exact (below_size (kB_ HB)) : w.heap.size ≤ gb472)); replace HB := Aside0.mk (below_step (kB_ HB) hb); clear hb hbox hg; obtain ⟨⟨hcz21_0, hcz21_1⟩, hfz21_0, hfz21_1⟩ := bq_ BK472))
   have n0_ : Aside0 (((w20.setCell ⟨gb472, 0, none⟩ (.int .i16 ((rd_T34 l0 x22_2).f0))).setCell ⟨gb472, 1, none⟩ (.int .i16 ((rd_T34 l0 x22_2).f1))).heap[gb472]? = some (.cells #[.int .i16 ((rd_T34 l0 x22_2).f0), .int .i16 ((rd_T34 l0 x22_2).f1)] 34 (0, 0))) := ⟨by (with_reducible repeat (first | refine blk_drewN ?_ _ | refine blk_drew ?_ | refine blk_alloc ?_ _)); refine blk_put (cs := #[.int .i16 ((rd_T34 l0 x22_2).f0), .int .i16 0]) ?_ 1 _ rfl; (with_reducible repeat (first | refine blk_drewN ?_ _ | refine blk_drew ?_ | refine blk_alloc ?_ _)); refine blk_put (cs := #[.int .i16 0, .int .i16 0]) ?_ 0 _ rfl; (with_reducible repeat (first | refine blk_drewN ?_ _ | refine blk_drew ?_ | refine blk_alloc ?_ _)); exact BK472.out⟩
   have n1_ : Aside0 (Below w.heap.size w ((w20.setCell ⟨gb472, 0, none⟩ (.int .i16 ((rd_T34 l0 x22_2).f0))).setCell ⟨gb472, 1, none⟩ (.int .i16 ((rd_T34 l0 x22_2).f1)))) := ⟨k1_ HB GE472⟩
   generalize ((w20.setCell ⟨gb472, 0, none⟩ (.int .i16 ((rd_T34 l0 x22_2).f0))).setCell ⟨gb472, 1, none⟩ (.int .i16 ((rd_T34 l0 x22_2).f1))) = w22 at n0_ n1_ ⊢
   have BK472 := n0_
   have HB := n1_
   clear n0_ n1_
   have n0_ := Aside0.mk (blk_drew BK472.out)
   have n1_ := Aside0.mk (below_drew1 HB.out)
   clear BK472
   clear HB
   have BK472 := n0_
   have HB := n1_
   clear n0_ n1_
   have p473 : 0 ≤ ((ji15) : Int) := od_
   have q473 : (ji15) < (l0.length : Int) := od_
   obtain ⟨ad473, e473, hx473_0, hx473_1⟩ := at_T34 HR0.out (ji15) p473 q473
   have hw473_1 := hx473_1
   have hw473_0 := hx473_0
   obtain rfl : ad471 = ad473 := (by injection e473)
   replace hx473_0 := (hw_ HB hx473_0 :)
   replace hx473_1 := (hw_ HB hx473_1 :)
   replace p473 := eq_true p473
   replace q473 := eq_true q473
   refine start_ (n := 16) (S := fun w' => w'.cell? (ad471.add (((ji15)).toNat * 2)) = some (.int .i16 ((rd_T34 l0 (ji15)).f0)) ∧ w'.cell? ⟨(ad471.add (((ji15)).toNat * 2)).block, (ad471.add (((ji15)).toNat * 2)).off + 1, none⟩ = some (.int .i16 ((rd_T34 l0 (ji15)).f1))) (ds := []) #[false, false, false, false, false, false, false, false, false, false, false, false, false, false, false, false] (by kernel_rfl) rfl rfl ⟨((hw_ HB hw473_0 :)), ((hw_ HB hw473_1 :))⟩ (fun hHeld => ?_); refine with_tabW impl_JoinStones.tab6 impl_JoinStones.bits6 (fun HT_ HW_ => ?_)
   generalize w22.drew = w23 at BK472 HB hx473_0 hx473_1 hHeld ⊢
   refine pu_ 0 27 (lA 16 1) ?_ ?_ HT_ ?_
   refine pu_ 1 28 (lA 16 3) ?_ ?_ HT_ ?_
   refine pu_ 2 29 (lA 16 7) ?_ ?_ HT_ ?_
   refine pu_ 3 30 (lA 16 15) ?_ ?_ HT_ ?_
   refine pu_ 4 31 (lA 16 31) ?_ ?_ HT_ ?_
   refine pu_ 5 32 (lA 16 63) ?_ ?_ HT_ ?_
   refine pu_ 6 33 (lA 16 127) ?_ ?_ HT_ ?_
   refine pu_ 7 34 (lA 16 255) ?_ ?_ HT_ ?_
   refine pu_ 8 35 (lA 16 511) ?_ ?_ HT_ ?_
   refine pu_ 9 36 (lA 16 1023) ?_ ?_ HT_ ?_
   refine pu_ 10 37 (lA 16 2047) ?_ ?_ HT_ ?_
   refine pu_ 11 38 (lA 16 4095) ?_ ?_ HT_ ?_
   refine tk_ 12 39 (lA 16 8191) ?_ ?_ HT_ HW_ hHeld ?_
   refine one_ (i := 13) (N := some 9) #[true, true, true, true, true, true, true, true, true, true, true, true, true, true, false, false] rfl rfl (one_of HT_.out (by kernel_rfl)) (by decide) (fun K hK => ?_)
   refine box_step ?hg (N := 9) ?hd (cs := #[.int .i16 0, .int .i16 0]) (t := 34) ?hr ?_; (case hd => rfl); (case hg => rfl); (case hr => first | (go_simp; done) | (go_simp; rfl))
   intro gb474 hg w24 hbox hb
   have n0_ := bd_ BK472 hb
   have n1_ := Aside0.mk (below_step (k1_ HB GE472) hb)
   have n2_ := Aside0.mk (hbox)
   have n3_ := Aside0.mk ((by rw [hg]; exact (below_size (k1_ HB GE472)) : w.heap.size ≤ gb474))
   have n4_ := Aside0.mk ((by rw [hg]; exact (below_size (k1_ HB GE472)) : w.heap.size ≤ gb474))
   have n5_ := nl_ BK472 hg
   have n6_ := ng_ BK472 hg
   clear BK472
   clear HB
   have BK472 := n0_
   have HB := n1_
   have BK474 := n2_
   have GW474 := n3_
   have GE474 := n4_
   have NB472_474 := n5_
   have NB474_472 := n6_
   clear n0_ n1_ n2_ n3_ n4_ n5_ n6_
   clear hb hbox hg
   refine hK.out _ _ ⟨((hw_ HB hw473_0 :)), ((hw_ HB hw473_1 :))⟩ (fun hHeld => ?_)
   clear hK K
   refine norm_ (a' := ?_) ?_ ?_
   rotate_left
   ·
    show Act.put _ (some 9) _ = _
    simp only [Act.put, List.setIfInBounds_toArray, List.set_cons_zero, List.set_cons_succ, i64_w, i32_w]
    rfl
   refine pu_ 14 8 (lA 16 32767) ?_ ?_ HT_ ?_
   refine one_ (i := 15) (N := none) #[true, true, true, true, true, true, true, true, true, true, true, true, true, true, true, true] rfl rfl (one_of HT_.out (by kernel_rfl)) (by decide) (fun K hK => ?_)
   have hs25 : w24.cell? ⟨gb474, 0, none⟩ = some (.int .i16 0) := (blk_cell BK474.out 0).trans rfl
   have hfs25 := blk_frozen BK474.out 0
   have hns25_0 := NB472_474.out
   have hms25_0 := NB474_472.out
   have hs26 : w24.cell? ⟨gb474, 1, none⟩ = some (.int .i16 0) := (blk_cell BK474.out 1).trans rfl
   have hfs26 := blk_frozen BK474.out 1
   have hns26_0 := NB472_474.out
   have hms26_0 := NB474_472.out
   refine skip_ (w1 := ?_) (by rfl) rfl ?_ ?_
   rotate_left
   ·
    go_simp
    rfl
   refine hK.out _ _ ⟨((cell_far (p := ⟨gb474, _, none⟩) (by first | exact Nat.ne_of_lt (Nat.lt_of_lt_of_le (by have := World.block_lt_of_cell? _ _ hw473_0; first | rwa [add_block] at this | exact this) GW474.out) | (rw [add_block]; exact Nat.ne_of_lt (Nat.lt_of_lt_of_le (by have := World.block_lt_of_cell? _ _ hw473_0; first | rwa [add_block] at this | exact this) GW474.out)) | (show (Addr.add _ _).block ≠ _; rw [add_block]; exact Nat.ne_of_lt (Nat.lt_of_lt_of_le (by have := World.block_lt_of_cell? _ _ hw473_0; first | rwa [add_block] at this | exact this) GW474.out)) | (dsimp only; exact Nat.ne_of_lt (Nat.lt_of_lt_of_le (by have := World.block_lt_of_cell? _ _ hw473_0; first | rwa [add_block] at this | exact this) GW474.out))) _).trans (((cell_far (p := ⟨gb474, _, none⟩) (by first | exact Nat.ne_of_lt (Nat.lt_of_lt_of_le (by have := World.block_lt_of_cell? _ _ hw473_0; first | rwa [add_block] at this | exact this) GW474.out) | (rw [add_block]; exact Nat.ne_of_lt (Nat.lt_of_lt_of_le (by have := World.block_lt_of_cell? _ _ hw473_0; first | rwa [add_block] at this | exact this) GW474.out)) | (show (Addr.add _ _).block ≠ _; rw [add_block]; exact Nat.ne_of_lt (Nat.lt_of_lt_of_le (by have := World.block_lt_of_cell? _ _ hw473_0; first | rwa [add_block] at this | exact this) GW474.out)) | (dsimp only; exact Nat.ne_of_lt (Nat.lt_of_lt_of_le (by have := World.block_lt_of_cell? _ _ hw473_0; first | rwa [add_block] at this | exact this) GW474.out))) _).trans (hHeld.1)))), ((cell_far (p := ⟨gb474, _, none⟩) (by first | exact Nat.ne_of_lt (Nat.lt_of_lt_of_le (by have := World.block_lt_of_cell? _ _ hw473_1; first | rwa [add_block] at this | exact this) GW474.out) | (rw [add_block]; exact Nat.ne_of_lt (Nat.lt_of_lt_of_le (by have := World.block_lt_of_cell? _ _ hw473_1; first | rwa [add_block] at this | exact this) GW474.out)) | (show (Addr.add _ _).block ≠ _; rw [add_block]; exact Nat.ne_of_lt (Nat.lt_of_lt_of_le (by have := World.block_lt_of_cell? _ _ hw473_1; first | rwa [add_block] at this | exact this) GW474.out)) | (dsimp only; exact Nat.ne_of_lt (Nat.lt_of_lt_of_le (by have := World.block_lt_of_cell? _ _ hw473_1; first | rwa [add_block] at this | exact this) GW474.out))) _).trans (((cell_far (p := ⟨gb474, _, none⟩) (by first | exact Nat.ne_of_lt (Nat.lt_of_lt_of_le (by have := World.block_lt_of_cell? _ _ hw473_1; first | rwa [add_block] at this | exact this) GW474.out) | (rw [add_block]; exact Nat.ne_of_lt (Nat.lt_of_lt_of_le (by have := World.block_lt_of_cell? _ _ hw473_1; first | rwa [add_block] at this | exact this) GW474.out)) | (show (Addr.add _ _).block ≠ _; rw [add_block]; exact Nat.ne_of_lt (Nat.lt_of_lt_of_le (by have := World.block_lt_of_cell? _ _ hw473_1; first | rwa [add_block] at this | exact this) GW474.out)) | (dsimp only; exact Nat.ne_of_lt (Nat.lt_of_lt_of_le (by have := World.block_lt_of_cell? _ _ hw473_1; first | rwa [add_block] at this | exact this) GW474.out))) _).trans (hHeld.2))))⟩ (fun hHeld => ?_)
   clear hK K
   refine done_ (done_of HT_.out (by kernel_rfl)) ?_
   have hnb27 := NB474_472.out
   have hnc27 := NB472_474.out
   obtain ⟨⟨hcz28_0, hcz28_1⟩, hfz28_0, hfz28_1⟩ := bq_ BK474
   go_upto_region 8 with (first | ((with_reducible refine gate_callee (f := 42) rfl ?_); refine goesL_ (some 42) rfl rfl Try.func42 (by kernel_rfl) rfl #[.slice A1 l1.length c1, .agg #[.int .i16 ((rd_T34 l0 (ji15)).f0), .int .i16 ((rd_T34 l0 (ji15)).f1)]] rfl (by (try simp only [List.map_toArray, List.map_cons, List.map_nil]); first | done | (simp only [hji15]; rfl) | rfl | (simp only [List.length_drop, List.length_take]; rfl)) ?_; (with_reducible refine (impl_Corner_42.calls k2 _ _ l1 ((rd_T34 l0 (ji15)).f0) ((rd_T34 l0 (ji15)).f1) t475 _ ?side1 ?side2 A18.out).mono ?_); (case side1 => exact Kd.C_below HR1.out (k2_ HB GE472 GE474)); (case side2 => exact HC1.out); rintro e w29 ⟨rfl, hb⟩; refine ⟨_, rfl, ?_⟩; replace BK472 := Aside0.mk (blk_below (g := gb472) (o := .cells #[.int .i16 ((rd_T34 l0 x22_2).f0), .int .i16 ((rd_T34 l0 x22_2).f1)] 34 (0, 0)) (by (with_reducible repeat (first | refine blk_drewN ?_ _ | refine blk_drew ?_ | refine blk_alloc ?_ _)); refine blk_far ?_ NB472_474.out _; (with_reducible repeat (first | refine blk_drewN ?_ _ | refine blk_drew ?_ | refine blk_alloc ?_ _)); refine blk_far ?_ NB472_474.out _; (with_reducible repeat (first | refine blk_drewN ?_ _ | refine blk_drew ?_ | refine blk_alloc ?_ _)); exact BK472.out) hb); replace BK474 := Aside0.mk (blk_below (g := gb474) (o := .cells #[.int .i16 ((rd_T34 l0 (ji15)).f0), .int .i16 ((rd_T34 l0 (ji15)).f1)] 34 (0, 0)) (by (with_reducible repeat (first | refine blk_drewN ?_ _ | refine blk_drew ?_ | refine blk_alloc ?_ _)); refine blk_put (cs := #[.int .i16 ((rd_T34 l0 (ji15)).f0), .int .i16 0]) ?_ 1 _ rfl; (with_reducible repeat (first | refine blk_drewN ?_ _ | refine blk_drew ?_ | refine blk_alloc ?_ _)); refine blk_put (cs := #[.int .i16 0, .int .i16 0]) ?_ 0 _ rfl; (with_reducible repeat (first | refine blk_drewN ?_ _ | refine blk_drew ?_ | refine blk_alloc ?_ _)); exact BK474.out) hb); replace HB := Aside0.mk (below_step (k2_ HB GE472 GE474) hb); clear hb))
   (try simp only [Act.put, List.setIfInBounds_toArray, List.set_cons_zero, List.set_cons_succ])
   go_cut [56] (fun v56 wc => ∃ (kq : Nat) (x56_18 : Bool), v56 = .bool x56_18 ∧ Aside0 (impl_JoinStones.j2 kq l0 l1 ji15 t475 l0 (l0.length : Int) x22_2 x56_18 = some (r1, r2)) ∧ Aside0 (kq ≤ k2) ∧ Aside0 (wc.heap[gb472]? = some (.cells #[.int .i16 ((rd_T34 l0 x22_2).f0), .int .i16 ((rd_T34 l0 x22_2).f1)] 34 (0, 0))) ∧ Aside0 (wc.heap[gb474]? = some (.cells #[.int .i16 ((rd_T34 l0 (ji15)).f0), .int .i16 ((rd_T34 l0 (ji15)).f1)] 34 (0, 0))) ∧ Aside0 (Below w.heap.size w wc))
   case first =>
    have H := HC19.out
    clear HC19
    by_cases c30 : t475 < 0
    ·
     rw [if_pos c30] at H
     have c30b0 : decide (t475 < 0) = true := decide_eq_true c30
     clear c30
     (first | rw [c30b0] | (simp only [i64_w, i32_w]; rw [c30b0]) | skip)
     have H' := Aside0.mk H
     clear H
     try go_wp2
     have n0_ := Aside0.mk (blk_drew BK472.out)
     have n1_ := Aside0.mk (blk_drew BK474.out)
     have n2_ := Aside0.mk (below_drew1 HB.out)
     clear BK472
     clear BK474
     clear HB
     have BK472 := n0_
     have BK474 := n1_
     have HB := n2_
     clear n0_ n1_ n2_
     refine start_ (n := 14) (S := fun w' => True) (ds := []) #[false, false, false, false, false, false, false, false, false, false, false, false, false, false] (by kernel_rfl) rfl rfl trivial (fun hHeld => ?_); refine with_tabW impl_JoinStones.tab8 impl_JoinStones.bits8 (fun HT_ HW_ => ?_)
     generalize w29.drew = w31 at BK472 BK474 HB hHeld ⊢
     refine pu_ 0 43 (lA 14 1) ?_ ?_ HT_ ?_
     refine pu_ 1 44 (lA 14 3) ?_ ?_ HT_ ?_
     refine pu_ 2 45 (lA 14 7) ?_ ?_ HT_ ?_
     refine pn_ 3 46 (lA 14 15) ?_ HT_ ?_
     refine pn_ 4 47 (lA 14 31) ?_ HT_ ?_
     refine pn_ 5 48 (lA 14 63) ?_ HT_ ?_
     refine pn_ 6 49 (lA 14 127) ?_ HT_ ?_
     refine pn_ 7 50 (lA 14 255) ?_ HT_ ?_
     refine pn_ 8 51 (lA 14 511) ?_ HT_ ?_
     refine pn_ 9 52 (lA 14 1023) ?_ HT_ ?_
     refine pn_ 10 53 (lA 14 2047) ?_ HT_ ?_
     refine pn_ 11 54 (lA 14 4095) ?_ HT_ ?_
     refine pn_ 12 55 (lA 14 8191) ?_ HT_ ?_
     refine pu_ 13 56 (lA 14 16383) ?_ ?_ HT_ ?_
     refine done_ (done_of HT_.out (by kernel_rfl)) ?_
     try go_wp2
     go_meet
     case rel => exact ⟨_, (true), (by first | rfl | (simp; done) | (simp [*]; done)), H', ⟨by have := HJ2.out; have := HK2.out; first | omega | exact Nat.le_refl _⟩, ⟨bk_ BK472⟩, ⟨bk_ BK474⟩, ⟨k2_ HB GE472 GE474⟩⟩
    rw [if_neg c30] at H
    have c30b0 : decide (t475 < 0) = false := decide_eq_false c30
    clear c30
    (first | rw [c30b0] | (simp only [i64_w, i32_w]; rw [c30b0]) | skip)
    by_cases c32 : (l1.length : Int) = 0
    ·
     rw [if_pos c32] at H
     exact absurd H (by simp)
    rw [if_neg c32] at H
    have c32b0 : ((l1.length : Int) == 0) = false := beq_eq_false_iff_ne.mpr c32
    have c32b1 : ((l1.length : Int) != 0) = true := bne_iff_ne.mpr c32
    have c32b2 : ¬ (l1 = []) := fun h_ => c32 (by rw [h_]; rfl)
    obtain ⟨ji33, hji33⟩ : ∃ j_ : Int, (Int.tmod (wrap64 (t475 + 1)) (l1.length : Int)) = j_ := ⟨_, rfl⟩
    replace H : (if 0 ≤ (ji33) then (if (ji33) < (l1.length : Int) then (impl_JoinStones.j2 k2 l0 l1 ji15 t475 l0 (l0.length : Int) x22_2 (!(((rd_T34 l1 (ji33)).f0) == ((rd_T34 l0 x22_2).f0)) || (!(((rd_T34 l1 (ji33)).f1) == ((rd_T34 l0 x22_2).f1))))) else (none)) else (none)) = some (r1, r2) := by first | (rw [hji33] at H; exact H) | (simp only [hji33] at H ⊢; exact H)
    obtain ⟨c34b0, H⟩ := gx_ H
    obtain ⟨c35b0, H⟩ := gx_ H
    have H' := Aside0.mk H
    clear H
    try go_wp2
    have n0_ := Aside0.mk (blk_drew BK472.out)
    have n1_ := Aside0.mk (blk_drew BK474.out)
    have n2_ := Aside0.mk (below_drew1 HB.out)
    clear BK472
    clear BK474
    clear HB
    have BK472 := n0_
    have BK474 := n1_
    have HB := n2_
    clear n0_ n1_ n2_
    have p476 : 0 ≤ ((ji33) : Int) := od_
    have q476 : (ji33) < (l1.length : Int) := od_
    obtain ⟨ad476, e476, hx476_0, hx476_1⟩ := at_T34 HR1.out (ji33) p476 q476
    have hw476_1 := hx476_1
    have hw476_0 := hx476_0
    cases e476
    replace hx476_0 := (hw_ HB hx476_0 :)
    replace hx476_1 := (hw_ HB hx476_1 :)
    replace p476 := eq_true p476
    replace q476 := eq_true q476
    refine start_ (n := 14) (S := fun w' => w'.cell? ⟨gb472, 0, none⟩ = some (.int .i16 ((rd_T34 l0 x22_2).f0)) ∧ w'.cell? ⟨gb472, 1, none⟩ = some (.int .i16 ((rd_T34 l0 x22_2).f1)) ∧ w'.cell? (ad476.add (((ji33)).toNat * 2)) = some (.int .i16 ((rd_T34 l1 (ji33)).f0)) ∧ w'.cell? ⟨(ad476.add (((ji33)).toNat * 2)).block, (ad476.add (((ji33)).toNat * 2)).off + 1, none⟩ = some (.int .i16 ((rd_T34 l1 (ji33)).f1))) (ds := []) #[false, false, false, false, false, false, false, false, false, false, false, false, false, false] (by kernel_rfl) rfl rfl ⟨(blk_cell BK472.out 0).trans rfl, (blk_cell BK472.out 1).trans rfl, ((hw_ HB hw476_0 :)), ((hw_ HB hw476_1 :))⟩ (fun hHeld => ?_); refine with_tabW impl_JoinStones.tab8 impl_JoinStones.bits8 (fun HT_ HW_ => ?_)
    generalize w29.drew = w36 at BK472 BK474 HB hx476_0 hx476_1 hHeld ⊢
    refine pu_ 0 43 (lA 14 1) ?_ ?_ HT_ ?_
    refine pu_ 1 44 (lA 14 3) ?_ ?_ HT_ ?_
    refine pu_ 2 45 (lA 14 7) ?_ ?_ HT_ ?_
    refine pu_ 3 46 (lA 14 15) ?_ ?_ HT_ ?_
    refine pu_ 4 47 (lA 14 31) ?_ ?_ HT_ ?_
    refine pu_ 5 48 (lA 14 63) ?_ ?_ HT_ ?_
    refine pu_ 6 49 (lA 14 127) ?_ ?_ HT_ ?_
    refine pu_ 7 50 (lA 14 255) ?_ ?_ HT_ ?_
    refine pu_ 8 51 (lA 14 511) ?_ ?_ HT_ ?_
    refine pu_ 9 52 (lA 14 1023) ?_ ?_ HT_ ?_
    refine tk_ 10 53 (lA 14 2047) ?_ ?_ HT_ HW_ hHeld ?_
    refine tk_ 11 54 (lA 14 4095) ?_ ?_ HT_ HW_ hHeld ?_
    refine pu_ 12 55 (lA 14 8191) ?_ ?_ HT_ ?_
    refine pu_ 13 56 (lA 14 16383) ?_ ?_ HT_ ?_
    refine done_ (done_of HT_.out (by kernel_rfl)) ?_
    try go_wp2
    go_meet
    case rel => exact ⟨_, ((!(((rd_T34 l1 (ji33)).f0) == ((rd_T34 l0 x22_2).f0)) || (!(((rd_T34 l1 (ji33)).f1) == ((rd_T34 l0 x22_2).f1))))), (by first | rfl | (simp; done) | (simp only [← hji33] <;> (first | rfl | simp)) | (simp [*]; done)), H', ⟨by have := HJ2.out; have := HK2.out; first | omega | exact Nat.le_refl _⟩, ⟨bk_ BK472⟩, ⟨bk_ BK474⟩, ⟨k2_ HB GE472 GE474⟩⟩
   case rest =>
    clear HC19
    obtain ⟨kq, x56_18, rfl, HA, HJ18, BK472, BK474, HB⟩ := hcut
    rcases kq with _ | kj18
    · exact absurd HA.out (by simp [impl_JoinStones.j2])
    have H := HA.out
    clear HA
    simp only [impl_JoinStones.j2] at H
    by_cases c37 : x56_18 = true
    ·
     subst c37
     replace H := gt_ H
     have H' := Aside0.mk H
     clear H
     go_wp2
     go_roundg kj18
     case measure => have := HJ2.out; have := HK2.out; have := HJ18.out; omega
     case rel => exact ⟨(wrap64 (x22_2 + 1)), (by first | rfl | (simp; done) | (simp [*]; done)), H', ⟨by have := HJ2.out; have := HK2.out; have := HJ18.out; omega⟩, ⟨k2_ HB GE472 GE474⟩⟩
    replace c37 := Bool.eq_false_iff.mpr c37
    subst c37
    replace H := gf_ H
    obtain ⟨t477, A38, H⟩ := be_ H
    (try dsimp only at H)
    obtain ⟨t480, A39, H⟩ := be_ H
    (try dsimp only at H)
    obtain ⟨(c40 : 2 ≤ (t480.length : Int)), H⟩ := gd_ H
    have c40b0 := eq_true c40
    have c40b1 : decide (2 ≤ (t480.length : Int)) = true := decide_eq_true c40
    clear c40
    obtain ⟨y483, hy483⟩ : ∃ y_ : List (S34), y_ = (t480.drop 2) := ⟨_, rfl⟩
    replace H : (if t477.length + y483.length < 35184372088832 then ((impl_straight.f kj18 (t477 ++ y483)).bind fun t490 => ((impl_isConvex.f kj18 t490).bind fun t493 => (if t493 = true then (if (t490.length : Int) > 8 then (some (([] : List (S34)), 3)) else (some (t490, 0))) else (some (([] : List (S34)), 4))))) else (none)) = some (r1, r2) := by first | (rw [hy483]; with_reducible exact H) | (have H2_ := (Option.bind_some _ _).symm.trans H; rw [hy483]; with_reducible exact H2_) | (have H2_ := (Option.bind_some _ _).symm.trans H; with_reducible exact H2_) | with_reducible exact H | (rw [hy483]; exact H) | exact H
    have Ny483 := Aside0.mk hy483
    clear hy483
    obtain ⟨(c41 : t477.length + y483.length < 35184372088832), H⟩ := gd_ H
    have LMc41 := Aside0.mk c41
    clear c41
    obtain ⟨y487, hy487⟩ : ∃ y_ : List (S34), y_ = (t477 ++ y483) := ⟨_, rfl⟩
    replace H : ((impl_straight.f kj18 y487).bind fun t490 => ((impl_isConvex.f kj18 t490).bind fun t493 => (if t493 = true then (if (t490.length : Int) > 8 then (some (([] : List (S34)), 3)) else (some (t490, 0))) else (some (([] : List (S34)), 4))))) = some (r1, r2) := by first | (rw [hy487]; with_reducible exact H) | (have H2_ := (Option.bind_some _ _).symm.trans H; rw [hy487]; with_reducible exact H2_) | (have H2_ := (Option.bind_some _ _).symm.trans H; with_reducible exact H2_) | with_reducible exact H | (rw [hy487]; exact H) | exact H
    have Ny487 := Aside0.mk hy487
    clear hy487
    obtain ⟨t490, A42, H⟩ := be_ H
    (try dsimp only at H)
    obtain ⟨t493, A43, H⟩ := be_ H
    (try dsimp only at H)
    rcases (Decidable.em (t493 = true)).symm with c44 | c44
    ·
     replace c44 := Bool.eq_false_iff.mpr c44
     subst c44
     replace H := gf_ H
     simp only [Option.some.injEq, Prod.mk.injEq] at H
     obtain ⟨rfl, rfl⟩ := H
     go_wp2_with (first | ((with_reducible refine gate_callee (f := 44) rfl ?_); refine goesL_ (some 59) rfl rfl Try.func44 (by kernel_rfl) rfl #[.slice (some ad471) l0.length c0, .int .i64 ji15] rfl (by (try simp only [List.map_toArray, List.map_cons, List.map_nil]); first | done | (simp only [hji15]; rfl) | rfl | (simp only [List.length_drop, List.length_take]; rfl)) ?_; (with_reducible refine (impl_Stone_from.calls kj18 (fun k_ => k_ < w.heap.size) _ _ l0 ji15 t477 _ ?side1 A38.out).mono ?_); (case side1 => exact Kd.V_mk HC0.out (Kd.F_below (Kd.C_F k34_heap HR0.out) (k2_ HB GE472 GE474))); rintro e w64 ⟨v478, rfl, ho0, hb⟩; refine ⟨_, rfl, ?_⟩; have HO479 := Aside0.mk (Kd.R_lower (Kd.R_newB (Kd.R_newB (Kd.R_mono (ok' := fun k_ => True) ho0 (fun _ hk_ => trivial)) (g := gb472) (o := .cells #[.int .i16 ((rd_T34 l0 x22_2).f0), .int .i16 ((rd_T34 l0 x22_2).f1)] 34 (0, 0)) (kb_ BK472)) (g := gb474) (o := .cells #[.int .i16 ((rd_T34 l0 (ji15)).f0), .int .i16 ((rd_T34 l0 (ji15)).f1)] 34 (0, 0)) (kb_ BK474)) (below_size (k2_ HB GE472 GE474))); replace BK472 := bd_ BK472 hb; replace BK474 := bd_ BK474 hb; replace HB := Aside0.mk (below_step (k2_ HB GE472 GE474) hb); clear hb; (try clear ho0)) | ((with_reducible refine gate_callee (f := 44) rfl ?_); refine goM_ (some 62) Try.func44 #[.slice A1 l1.length c1, .int .i64 t475] ?_; (with_reducible refine (impl_Stone_from.calls kj18 (fun k_ => k_ < w.heap.size) _ _ l1 t475 t480 _ ?side1 A39.out).mono ?_); (case side1 => exact Kd.V_mk HC1.out (Kd.F_below (Kd.C_F k34_heap HR1.out) (k2_ HB GE472 GE474))); rintro e w65 ⟨v481, rfl, ho0, hb⟩; refine ⟨_, rfl, ?_⟩; have HO482 := Aside0.mk (Kd.R_lower (Kd.R_newB (Kd.R_newB (Kd.R_new' (Kd.R_mono (ok' := fun k_ => True) ho0 (fun _ hk_ => trivial)) (Kd.R_lt (kp_ HO479))) (g := gb472) (o := .cells #[.int .i16 ((rd_T34 l0 x22_2).f0), .int .i16 ((rd_T34 l0 x22_2).f1)] 34 (0, 0)) (kb_ BK472)) (g := gb474) (o := .cells #[.int .i16 ((rd_T34 l0 (ji15)).f0), .int .i16 ((rd_T34 l0 (ji15)).f1)] 34 (0, 0)) (kb_ BK474)) (below_size (k2_ HB GE472 GE474))); replace HO479 := Aside0.mk (Kd.R_elder' (kp_ HO479) (Kd.R_base ho0) hb); replace BK472 := bd_ BK472 hb; replace BK474 := bd_ BK474 hb; replace HB := Aside0.mk (below_step (k2_ HB GE472 GE474) hb); clear hb; (try clear ho0); obtain ⟨Ao67, co67, eo67⟩ := Kd.R_slice HO482.out; subst eo67; have q66 : (2 : Int) ≤ ((t480.length : Int) : Int) := od_; obtain ⟨i066, hi066, _, hsz66, _⟩ := info_parts info34; have hroom66 : t480.length ≤ co67 := (Kd.R_reads' HO482.out).2.1; have hC66 : Kd.C k34 _ Ao67 t480.length t480 := (Kd.R_reads' HO482.out).2.2; have hcut66 := cut_from (P := Try.prog) 25 34 .i64 Try.underlying25 hi066 2 hsz66 Ao67 t480.length co67 2 (by omega) q66; have hr66 := Kd.C_drop (m := (2 : Int).toNat) (c := co67) hC66 (by omega) hroom66; obtain ⟨A66, hA66⟩ : ∃ A1, A1 = (if co67 = (2 : Int).toNat then Ao67 else (Ao67 : Option Addr).map (·.add ((2 : Int).toNat * 2))) := ⟨_, rfl⟩; obtain ⟨c66, hc66⟩ : ∃ c1, c1 = co67 - (2 : Int).toNat := ⟨_, rfl⟩; have hy66 : y483.length = t480.length - (2 : Int).toNat := (by rw [Ny483.out, List.length_drop] <;> omega); rw [show (t480).drop (2 : Int).toNat = y483 from Ny483.out.symm] at hr66; replace hr66 : Kd.C k34 _ A66 y483.length y483 := (by rw [hA66]; exact hr66); rw [← hy66, ← hA66, ← hc66] at hcut66; have HR486 := Aside0.mk hr66; have HC486 := Aside0.mk (show y483.length ≤ c66 from by rw [hy66, hc66]; exact Nat.sub_le_sub_right hroom66 _); clear hr66 hC66 hroom66 hi066 hsz66 hc66; have KY66 := Aside0.mk hy66; have KA66 := Aside0.mk hA66; clear hy66 hA66; have KL66 := Aside0.mk (show 2 ≤ t480.length from by omega); replace q66 := eq_true q66) | ((with_reducible refine gate_builtin (b := .append) (xs := #[.tmp 59, .tmp 63]) rfl ?_); (try (refine gate_guard (by rfl) ?_; dsimp only)); at_builtin; refine Kd.R_append_rows k34 (w0 := w) w.heap.size rfl (.tmp 59) (.tmp 63) 25 34 (.agg #[(.int .i16 0), (.int .i16 0)]) 4 rfl Try.underlying25 info34 rfl (by decide) (by omega) v478 t477 y483 _ _ _ (fun k_ => some k_ ≠ (.slice Ao67 t480.length co67 : Value).ownBlock ∧ k_ ≠ gb472 ∧ k_ ≠ gb474) (fun _ => False) rfl rfl ?aO ?aR (fun _ _ h => h) (fun _ h => h.elim) ?aF ?aB ?aS ?aL ?_; (case aR => repeat (first | exact (kc_ HR486.out) | (with_reducible refine Kd.C_alloc ?_ _) | (with_reducible refine Kd.C_drewN ?_ _) | (with_reducible refine Kd.C_drew ?_))); (case aB => exact (k2_ HB GE472 GE474)); (case aF => exact (fun k_ hk => ⟨Kd.fresh' (Kd.R_lt (kp_ HO482)) k_ hk, Kd.freshB (g := gb472) (o := .cells #[.int .i16 ((rd_T34 l0 x22_2).f0), .int .i16 ((rd_T34 l0 x22_2).f1)] 34 (0, 0)) (kb_ BK472) k_ hk, Kd.freshB (g := gb474) (o := .cells #[.int .i16 ((rd_T34 l0 (ji15)).f0), .int .i16 ((rd_T34 l0 (ji15)).f1)] 34 (0, 0)) (kb_ BK474) k_ hk⟩)); (case aO => exact (by (with_reducible repeat (first | apply Kd.R_alloc | apply Kd.R_drewN | apply Kd.R_drew)); exact Kd.R_mono HO479.out (fun _ hk => ⟨hk.2, ⟨hk.1.1.2, hk.1.2⟩⟩))); (case aS => exact (below_size (k2_ HB GE472 GE474))); (case aL => have := LMc41.out; omega); intro v488 w68 ho hb hg hat; rw [← Ny487.out] at ho; have n0_ := Aside0.mk (blk_grown (g := gb472) (o := .cells #[.int .i16 ((rd_T34 l0 x22_2).f0), .int .i16 ((rd_T34 l0 x22_2).f1)] 34 (0, 0)) (kb_ BK472) hg (Kd.R_away HO479.out (fun _ hk => hk.1.1.2))); have n1_ := Aside0.mk (blk_grown (g := gb474) (o := .cells #[.int .i16 ((rd_T34 l0 (ji15)).f0), .int .i16 ((rd_T34 l0 (ji15)).f1)] 34 (0, 0)) (kb_ BK474) hg (Kd.R_away HO479.out (fun _ hk => hk.1.2))); have n2_ := Aside0.mk (Kd.R_after (ok := (fun k_ => k_ ≠ gb472 ∧ k_ ≠ gb474)) (by (with_reducible repeat (first | apply Kd.R_alloc | apply Kd.R_drewN | apply Kd.R_drew)); exact Kd.R_mono HO482.out (fun _ hk => ⟨⟨hk.1.2, hk.2⟩, hk.1.1.2⟩)) hg hat); have n3_ := Aside0.mk (hb); have n4_ := Aside0.mk ((show Kd.C k34 w68 A66 y483.length y483 from by rw [Ny483.out, KA66.out]; exact Kd.C_drop (m := 2) (c := co67) ((Kd.R_reads' (Kd.R_after (ok := (fun k_ => k_ ≠ gb472 ∧ k_ ≠ gb474)) (by (with_reducible repeat (first | apply Kd.R_alloc | apply Kd.R_drewN | apply Kd.R_drew)); exact Kd.R_mono HO482.out (fun _ hk => ⟨⟨hk.1.2, hk.2⟩, hk.1.1.2⟩)) hg hat)).2.2) KL66.out ((Kd.R_reads' (Kd.R_after (ok := (fun k_ => k_ ≠ gb472 ∧ k_ ≠ gb474)) (by (with_reducible repeat (first | apply Kd.R_alloc | apply Kd.R_drewN | apply Kd.R_drew)); exact Kd.R_mono HO482.out (fun _ hk => ⟨⟨hk.1.2, hk.2⟩, hk.1.1.2⟩)) hg hat)).2.1))); have n5_ := Aside0.mk (ho); clear BK472; clear BK474; clear HO482; clear HB; clear HR486; clear HO479; have BK472 := n0_; have BK474 := n1_; have HO482 := n2_; have HB := n3_; have HR486 := n4_; have HO489 := n5_; clear n0_ n1_ n2_ n3_ n4_ n5_; clear ho hb hg hat; obtain ⟨Ao69, co69, eo69⟩ := Kd.R_slice HO489.out; subst eo69) | ((with_reducible refine gate_callee (f := 43) rfl ?_); refine goM_ (some 65) Try.func43 #[.slice Ao69 y487.length co69] ?_; (with_reducible refine (impl_straight.calls kj18 (fun k_ => some k_ = (.slice Ao69 y487.length co69 : Value).ownBlock) (.slice Ao69 y487.length co69) y487 t490 w _ ?side1 ?side2 A42.out).mono ?_); (case side1 => repeat (first | (with_reducible first | exact HB.out | apply below_alloc | apply pw_below_drewN | apply below_drew1 | refine below_set ?_ GE472.out | refine below_set ?_ GE474.out) | exact HB.out)); (case side2 => exact Kd.R_tight rfl HO489.out); rintro e w70 ⟨v491, rfl, ho0, hb, hkp⟩; refine ⟨_, rfl, ?_⟩; have n0_ := Aside0.mk (blk_kept (kb_ BK472) hkp (fun hs_ => (fun e_ => (Kd.R_away HO489.out (fun _ hk => hk.2.1)) e_) hs_)); have n1_ := Aside0.mk (blk_kept (kb_ BK474) hkp (fun hs_ => (fun e_ => (Kd.R_away HO489.out (fun _ hk => hk.2.2)) e_) hs_)); have n2_ := Aside0.mk (Kd.R_mono (ok' := fun k_ => k_ ≠ gb472 ∧ k_ ≠ gb474 ∧ some k_ ≠ (v491 : Value).ownBlock) (Kd.R_keptB (HO482.out) hkp (fun k_ hk_ hs_ => (hk_.2) hs_)) (fun k_ hk_ => ⟨hk_.1.1.1, hk_.1.1.2, fun e_ => Or.elim (ho0.1 k_ e_.symm) (fun hs_ => hk_.2.1 hs_) (fun hn_ => Nat.not_le.2 hk_.2.2 hn_)⟩)); have n3_ := Aside0.mk (Kd.R_mono (ok' := fun k_ => some k_ ≠ (.slice Ao67 t480.length co67 : Value).ownBlock ∧ k_ ≠ gb472 ∧ k_ ≠ gb474) ho0 (fun k_ hk_ => ⟨Or.elim hk_ (fun hs_ => fun e_ => (((HO482.out).1 k_ e_.symm).2) hs_) (fun hn_ => (Kd.fresh' (Kd.R_lt (kp_ HO482)) k_ hn_)), Or.elim hk_ (fun hs_ => fun e_ => (Kd.R_away HO489.out (fun _ hk => hk.2.1)) (by rw [← e_]; exact hs_)) (fun hn_ => (Kd.freshB (g := gb472) (o := .cells #[.int .i16 ((rd_T34 l0 x22_2).f0), .int .i16 ((rd_T34 l0 x22_2).f1)] 34 (0, 0)) (kb_ BK472) k_ hn_)), Or.elim hk_ (fun hs_ => fun e_ => (Kd.R_away HO489.out (fun _ hk => hk.2.2)) (by rw [← e_]; exact hs_)) (fun hn_ => (Kd.freshB (g := gb474) (o := .cells #[.int .i16 ((rd_T34 l0 (ji15)).f0), .int .i16 ((rd_T34 l0 (ji15)).f1)] 34 (0, 0)) (kb_ BK474) k_ hn_))⟩)); have n4_ := Aside0.mk (hb); clear BK472; clear BK474; clear HO482; clear HB; clear HO489; have BK472 := n0_; have BK474 := n1_; have HO482 := n2_; have HO492 := n3_; have HB := n4_; clear n0_ n1_ n2_ n3_ n4_; clear hb; (try clear hkp); (try clear ho0); obtain ⟨Ao71, co71, eo71⟩ := Kd.R_slice HO492.out; subst eo71) | ((with_reducible refine gate_callee (f := 45) rfl ?_); refine goM_ (some 68) Try.func45 #[.slice Ao71 t490.length co71] ?_; (with_reducible refine (impl_isConvex.calls kj18 _ _ t490 false _ ?side1 ?side2 A43.out).mono ?_); (case side1 => exact kc_ ((Kd.R_reads' HO492.out).2.2)); (case side2 => exact (Kd.R_reads' HO492.out).2.1); rintro e w72 ⟨rfl, hb⟩; refine ⟨_, rfl, ?_⟩; replace HO482 := Aside0.mk (Kd.R_below (kp_ HO482) hb); replace HO492 := Aside0.mk (Kd.R_below (kp_ HO492) hb); replace BK472 := bd_ BK472 hb; replace BK474 := bd_ BK474 hb; replace HB := Aside0.mk (below_step (k2_ HB GE472 GE474) hb); clear hb))
     go_ret2
     exact ⟨_, by first | rfl | (simp [errW_none, errW_some] <;> rfl) | (simp only [← hji15]; first | rfl | (simp [errW_none, errW_some] <;> rfl)) | (simp [*, errW_none, errW_some] <;> rfl), by first | exact Kd.R_nil _ _ _ _ _ | exact Kd.N_nil _ _ _ _ _ | exact Kd.V_nil _ _ _ _ _ | exact Kd.Q_nil _ _ _ _ _ | exact Kd.S_nil _ _ _ _ _, k2_ HB GE472 GE474⟩
    subst c44
    replace H := gt_ H
    by_cases c45 : (t490.length : Int) > 8
    ·
     rw [if_pos c45] at H
     have c45b0 : decide (8 < (t490.length : Int)) = true := decide_eq_true c45
     have c45b1 : decide (8 < t490.length) = true := decide_eq_true (by omega)
     clear c45
     simp only [Option.some.injEq, Prod.mk.injEq] at H
     obtain ⟨rfl, rfl⟩ := H
     go_wp2_with (first | ((with_reducible refine gate_callee (f := 44) rfl ?_); refine goesL_ (some 59) rfl rfl Try.func44 (by kernel_rfl) rfl #[.slice (some ad471) l0.length c0, .int .i64 ji15] rfl (by (try simp only [List.map_toArray, List.map_cons, List.map_nil]); first | done | (simp only [hji15]; rfl) | rfl | (simp only [List.length_drop, List.length_take]; rfl)) ?_; (with_reducible refine (impl_Stone_from.calls kj18 (fun k_ => k_ < w.heap.size) _ _ l0 ji15 t477 _ ?side1 A38.out).mono ?_); (case side1 => exact Kd.V_mk HC0.out (Kd.F_below (Kd.C_F k34_heap HR0.out) (k2_ HB GE472 GE474))); rintro e w46 ⟨v478, rfl, ho0, hb⟩; refine ⟨_, rfl, ?_⟩; have HO479 := Aside0.mk (Kd.R_lower (Kd.R_newB (Kd.R_newB (Kd.R_mono (ok' := fun k_ => True) ho0 (fun _ hk_ => trivial)) (g := gb472) (o := .cells #[.int .i16 ((rd_T34 l0 x22_2).f0), .int .i16 ((rd_T34 l0 x22_2).f1)] 34 (0, 0)) (kb_ BK472)) (g := gb474) (o := .cells #[.int .i16 ((rd_T34 l0 (ji15)).f0), .int .i16 ((rd_T34 l0 (ji15)).f1)] 34 (0, 0)) (kb_ BK474)) (below_size (k2_ HB GE472 GE474))); replace BK472 := bd_ BK472 hb; replace BK474 := bd_ BK474 hb; replace HB := Aside0.mk (below_step (k2_ HB GE472 GE474) hb); clear hb; (try clear ho0)) | ((with_reducible refine gate_callee (f := 44) rfl ?_); refine goM_ (some 62) Try.func44 #[.slice A1 l1.length c1, .int .i64 t475] ?_; (with_reducible refine (impl_Stone_from.calls kj18 (fun k_ => k_ < w.heap.size) _ _ l1 t475 t480 _ ?side1 A39.out).mono ?_); (case side1 => exact Kd.V_mk HC1.out (Kd.F_below (Kd.C_F k34_heap HR1.out) (k2_ HB GE472 GE474))); rintro e w47 ⟨v481, rfl, ho0, hb⟩; refine ⟨_, rfl, ?_⟩; have HO482 := Aside0.mk (Kd.R_lower (Kd.R_newB (Kd.R_newB (Kd.R_new' (Kd.R_mono (ok' := fun k_ => True) ho0 (fun _ hk_ => trivial)) (Kd.R_lt (kp_ HO479))) (g := gb472) (o := .cells #[.int .i16 ((rd_T34 l0 x22_2).f0), .int .i16 ((rd_T34 l0 x22_2).f1)] 34 (0, 0)) (kb_ BK472)) (g := gb474) (o := .cells #[.int .i16 ((rd_T34 l0 (ji15)).f0), .int .i16 ((rd_T34 l0 (ji15)).f1)] 34 (0, 0)) (kb_ BK474)) (below_size (k2_ HB GE472 GE474))); replace HO479 := Aside0.mk (Kd.R_elder' (kp_ HO479) (Kd.R_base ho0) hb); replace BK472 := bd_ BK472 hb; replace BK474 := bd_ BK474 hb; replace HB := Aside0.mk (below_step (k2_ HB GE472 GE474) hb); clear hb; (try clear ho0); obtain ⟨Ao49, co49, eo49⟩ := Kd.R_slice HO482.out; subst eo49; have q48 : (2 : Int) ≤ ((t480.length : Int) : Int) := od_; obtain ⟨i048, hi048, _, hsz48, _⟩ := info_parts info34; have hroom48 : t480.length ≤ co49 := (Kd.R_reads' HO482.out).2.1; have hC48 : Kd.C k34 _ Ao49 t480.length t480 := (Kd.R_reads' HO482.out).2.2; have hcut48 := cut_from (P := Try.prog) 25 34 .i64 Try.underlying25 hi048 2 hsz48 Ao49 t480.length co49 2 (by omega) q48; have hr48 := Kd.C_drop (m := (2 : Int).toNat) (c := co49) hC48 (by omega) hroom48; obtain ⟨A48, hA48⟩ : ∃ A1, A1 = (if co49 = (2 : Int).toNat then Ao49 else (Ao49 : Option Addr).map (·.add ((2 : Int).toNat * 2))) := ⟨_, rfl⟩; obtain ⟨c48, hc48⟩ : ∃ c1, c1 = co49 - (2 : Int).toNat := ⟨_, rfl⟩; have hy48 : y483.length = t480.length - (2 : Int).toNat := (by rw [Ny483.out, List.length_drop] <;> omega); rw [show (t480).drop (2 : Int).toNat = y483 from Ny483.out.symm] at hr48; replace hr48 : Kd.C k34 _ A48 y483.length y483 := (by rw [hA48]; exact hr48); rw [← hy48, ← hA48, ← hc48] at hcut48; have HR486 := Aside0.mk hr48; have HC486 := Aside0.mk (show y483.length ≤ c48 from by rw [hy48, hc48]; exact Nat.sub_le_sub_right hroom48 _); clear hr48 hC48 hroom48 hi048 hsz48 hc48; have KY48 := Aside0.mk hy48; have KA48 := Aside0.mk hA48; clear hy48 hA48; have KL48 := Aside0.mk (show 2 ≤ t480.length from by omega); replace q48 := eq_true q48) | ((with_reducible refine gate_builtin (b := .append) (xs := #[.tmp 59, .tmp 63]) rfl ?_); (try (refine gate_guard (by rfl) ?_; dsimp only)); at_builtin; refine Kd.R_append_rows k34 (w0 := w) w.heap.size rfl (.tmp 59) (.tmp 63) 25 34 (.agg #[(.int .i16 0), (.int .i16 0)]) 4 rfl Try.underlying25 info34 rfl (by decide) (by omega) v478 t477 y483 _ _ _ (fun k_ => some k_ ≠ (.slice Ao49 t480.length co49 : Value).ownBlock ∧ k_ ≠ gb472 ∧ k_ ≠ gb474) (fun _ => False) rfl rfl ?aO ?aR (fun _ _ h => h) (fun _ h => h.elim) ?aF ?aB ?aS ?aL ?_; (case aR => repeat (first | exact (kc_ HR486.out) | (with_reducible refine Kd.C_alloc ?_ _) | (with_reducible refine Kd.C_drewN ?_ _) | (with_reducible refine Kd.C_drew ?_))); (case aB => exact (k2_ HB GE472 GE474)); (case aF => exact (fun k_ hk => ⟨Kd.fresh' (Kd.R_lt (kp_ HO482)) k_ hk, Kd.freshB (g := gb472) (o := .cells #[.int .i16 ((rd_T34 l0 x22_2).f0), .int .i16 ((rd_T34 l0 x22_2).f1)] 34 (0, 0)) (kb_ BK472) k_ hk, Kd.freshB (g := gb474) (o := .cells #[.int .i16 ((rd_T34 l0 (ji15)).f0), .int .i16 ((rd_T34 l0 (ji15)).f1)] 34 (0, 0)) (kb_ BK474) k_ hk⟩)); (case aO => exact (by (with_reducible repeat (first | apply Kd.R_alloc | apply Kd.R_drewN | apply Kd.R_drew)); exact Kd.R_mono HO479.out (fun _ hk => ⟨hk.2, ⟨hk.1.1.2, hk.1.2⟩⟩))); (case aS => exact (below_size (k2_ HB GE472 GE474))); (case aL => have := LMc41.out; omega); intro v488 w50 ho hb hg hat; rw [← Ny487.out] at ho; have n0_ := Aside0.mk (blk_grown (g := gb472) (o := .cells #[.int .i16 ((rd_T34 l0 x22_2).f0), .int .i16 ((rd_T34 l0 x22_2).f1)] 34 (0, 0)) (kb_ BK472) hg (Kd.R_away HO479.out (fun _ hk => hk.1.1.2))); have n1_ := Aside0.mk (blk_grown (g := gb474) (o := .cells #[.int .i16 ((rd_T34 l0 (ji15)).f0), .int .i16 ((rd_T34 l0 (ji15)).f1)] 34 (0, 0)) (kb_ BK474) hg (Kd.R_away HO479.out (fun _ hk => hk.1.2))); have n2_ := Aside0.mk (Kd.R_after (ok := (fun k_ => k_ ≠ gb472 ∧ k_ ≠ gb474)) (by (with_reducible repeat (first | apply Kd.R_alloc | apply Kd.R_drewN | apply Kd.R_drew)); exact Kd.R_mono HO482.out (fun _ hk => ⟨⟨hk.1.2, hk.2⟩, hk.1.1.2⟩)) hg hat); have n3_ := Aside0.mk (hb); have n4_ := Aside0.mk ((show Kd.C k34 w50 A48 y483.length y483 from by rw [Ny483.out, KA48.out]; exact Kd.C_drop (m := 2) (c := co49) ((Kd.R_reads' (Kd.R_after (ok := (fun k_ => k_ ≠ gb472 ∧ k_ ≠ gb474)) (by (with_reducible repeat (first | apply Kd.R_alloc | apply Kd.R_drewN | apply Kd.R_drew)); exact Kd.R_mono HO482.out (fun _ hk => ⟨⟨hk.1.2, hk.2⟩, hk.1.1.2⟩)) hg hat)).2.2) KL48.out ((Kd.R_reads' (Kd.R_after (ok := (fun k_ => k_ ≠ gb472 ∧ k_ ≠ gb474)) (by (with_reducible repeat (first | apply Kd.R_alloc | apply Kd.R_drewN | apply Kd.R_drew)); exact Kd.R_mono HO482.out (fun _ hk => ⟨⟨hk.1.2, hk.2⟩, hk.1.1.2⟩)) hg hat)).2.1))); have n5_ := Aside0.mk (ho); clear BK472; clear BK474; clear HO482; clear HB; clear HR486; clear HO479; have BK472 := n0_; have BK474 := n1_; have HO482 := n2_; have HB := n3_; have HR486 := n4_; have HO489 := n5_; clear n0_ n1_ n2_ n3_ n4_ n5_; clear ho hb hg hat; obtain ⟨Ao51, co51, eo51⟩ := Kd.R_slice HO489.out; subst eo51) | ((with_reducible refine gate_callee (f := 43) rfl ?_); refine goM_ (some 65) Try.func43 #[.slice Ao51 y487.length co51] ?_; (with_reducible refine (impl_straight.calls kj18 (fun k_ => some k_ = (.slice Ao51 y487.length co51 : Value).ownBlock) (.slice Ao51 y487.length co51) y487 t490 w _ ?side1 ?side2 A42.out).mono ?_); (case side1 => repeat (first | (with_reducible first | exact HB.out | apply below_alloc | apply pw_below_drewN | apply below_drew1 | refine below_set ?_ GE472.out | refine below_set ?_ GE474.out) | exact HB.out)); (case side2 => exact Kd.R_tight rfl HO489.out); rintro e w52 ⟨v491, rfl, ho0, hb, hkp⟩; refine ⟨_, rfl, ?_⟩; have n0_ := Aside0.mk (blk_kept (kb_ BK472) hkp (fun hs_ => (fun e_ => (Kd.R_away HO489.out (fun _ hk => hk.2.1)) e_) hs_)); have n1_ := Aside0.mk (blk_kept (kb_ BK474) hkp (fun hs_ => (fun e_ => (Kd.R_away HO489.out (fun _ hk => hk.2.2)) e_) hs_)); have n2_ := Aside0.mk (Kd.R_mono (ok' := fun k_ => k_ ≠ gb472 ∧ k_ ≠ gb474 ∧ some k_ ≠ (v491 : Value).ownBlock) (Kd.R_keptB (HO482.out) hkp (fun k_ hk_ hs_ => (hk_.2) hs_)) (fun k_ hk_ => ⟨hk_.1.1.1, hk_.1.1.2, fun e_ => Or.elim (ho0.1 k_ e_.symm) (fun hs_ => hk_.2.1 hs_) (fun hn_ => Nat.not_le.2 hk_.2.2 hn_)⟩)); have n3_ := Aside0.mk (Kd.R_mono (ok' := fun k_ => some k_ ≠ (.slice Ao49 t480.length co49 : Value).ownBlock ∧ k_ ≠ gb472 ∧ k_ ≠ gb474) ho0 (fun k_ hk_ => ⟨Or.elim hk_ (fun hs_ => fun e_ => (((HO482.out).1 k_ e_.symm).2) hs_) (fun hn_ => (Kd.fresh' (Kd.R_lt (kp_ HO482)) k_ hn_)), Or.elim hk_ (fun hs_ => fun e_ => (Kd.R_away HO489.out (fun _ hk => hk.2.1)) (by rw [← e_]; exact hs_)) (fun hn_ => (Kd.freshB (g := gb472) (o := .cells #[.int .i16 ((rd_T34 l0 x22_2).f0), .int .i16 ((rd_T34 l0 x22_2).f1)] 34 (0, 0)) (kb_ BK472) k_ hn_)), Or.elim hk_ (fun hs_ => fun e_ => (Kd.R_away HO489.out (fun _ hk => hk.2.2)) (by rw [← e_]; exact hs_)) (fun hn_ => (Kd.freshB (g := gb474) (o := .cells #[.int .i16 ((rd_T34 l0 (ji15)).f0), .int .i16 ((rd_T34 l0 (ji15)).f1)] 34 (0, 0)) (kb_ BK474) k_ hn_))⟩)); have n4_ := Aside0.mk (hb); clear BK472; clear BK474; clear HO482; clear HB; clear HO489; have BK472 := n0_; have BK474 := n1_; have HO482 := n2_; have HO492 := n3_; have HB := n4_; clear n0_ n1_ n2_ n3_ n4_; clear hb; (try clear hkp); (try clear ho0); obtain ⟨Ao53, co53, eo53⟩ := Kd.R_slice HO492.out; subst eo53) | ((with_reducible refine gate_callee (f := 45) rfl ?_); refine goM_ (some 68) Try.func45 #[.slice Ao53 t490.length co53] ?_; (with_reducible refine (impl_isConvex.calls kj18 _ _ t490 true _ ?side1 ?side2 A43.out).mono ?_); (case side1 => exact kc_ ((Kd.R_reads' HO492.out).2.2)); (case side2 => exact (Kd.R_reads' HO492.out).2.1); rintro e w54 ⟨rfl, hb⟩; refine ⟨_, rfl, ?_⟩; replace HO482 := Aside0.mk (Kd.R_below (kp_ HO482) hb); replace HO492 := Aside0.mk (Kd.R_below (kp_ HO492) hb); replace BK472 := bd_ BK472 hb; replace BK474 := bd_ BK474 hb; replace HB := Aside0.mk (below_step (k2_ HB GE472 GE474) hb); clear hb))
     go_ret2
     exact ⟨_, by first | rfl | (simp [errW_none, errW_some] <;> rfl) | (simp only [← hji15]; first | rfl | (simp [errW_none, errW_some] <;> rfl)) | (simp [*, errW_none, errW_some] <;> rfl), by first | exact Kd.R_nil _ _ _ _ _ | exact Kd.N_nil _ _ _ _ _ | exact Kd.V_nil _ _ _ _ _ | exact Kd.Q_nil _ _ _ _ _ | exact Kd.S_nil _ _ _ _ _, k2_ HB GE472 GE474⟩
    ·
     rw [if_neg c45] at H
     have c45b0 : decide (8 < (t490.length : Int)) = false := decide_eq_false c45
     have c45b1 : decide (8 < t490.length) = false := decide_eq_false (by omega)
     clear c45
     simp only [Option.some.injEq, Prod.mk.injEq] at H
     obtain ⟨rfl, rfl⟩ := H
     go_wp2_with (first | ((with_reducible refine gate_callee (f := 44) rfl ?_); refine goesL_ (some 59) rfl rfl Try.func44 (by kernel_rfl) rfl #[.slice (some ad471) l0.length c0, .int .i64 ji15] rfl (by (try simp only [List.map_toArray, List.map_cons, List.map_nil]); first | done | (simp only [hji15]; rfl) | rfl | (simp only [List.length_drop, List.length_take]; rfl)) ?_; (with_reducible refine (impl_Stone_from.calls kj18 (fun k_ => k_ < w.heap.size) _ _ l0 ji15 t477 _ ?side1 A38.out).mono ?_); (case side1 => exact Kd.V_mk HC0.out (Kd.F_below (Kd.C_F k34_heap HR0.out) (k2_ HB GE472 GE474))); rintro e w55 ⟨v478, rfl, ho0, hb⟩; refine ⟨_, rfl, ?_⟩; have HO479 := Aside0.mk (Kd.R_lower (Kd.R_newB (Kd.R_newB (Kd.R_mono (ok' := fun k_ => True) ho0 (fun _ hk_ => trivial)) (g := gb472) (o := .cells #[.int .i16 ((rd_T34 l0 x22_2).f0), .int .i16 ((rd_T34 l0 x22_2).f1)] 34 (0, 0)) (kb_ BK472)) (g := gb474) (o := .cells #[.int .i16 ((rd_T34 l0 (ji15)).f0), .int .i16 ((rd_T34 l0 (ji15)).f1)] 34 (0, 0)) (kb_ BK474)) (below_size (k2_ HB GE472 GE474))); replace BK472 := bd_ BK472 hb; replace BK474 := bd_ BK474 hb; replace HB := Aside0.mk (below_step (k2_ HB GE472 GE474) hb); clear hb; (try clear ho0)) | ((with_reducible refine gate_callee (f := 44) rfl ?_); refine goM_ (some 62) Try.func44 #[.slice A1 l1.length c1, .int .i64 t475] ?_; (with_reducible refine (impl_Stone_from.calls kj18 (fun k_ => k_ < w.heap.size) _ _ l1 t475 t480 _ ?side1 A39.out).mono ?_); (case side1 => exact Kd.V_mk HC1.out (Kd.F_below (Kd.C_F k34_heap HR1.out) (k2_ HB GE472 GE474))); rintro e w56 ⟨v481, rfl, ho0, hb⟩; refine ⟨_, rfl, ?_⟩; have HO482 := Aside0.mk (Kd.R_lower (Kd.R_newB (Kd.R_newB (Kd.R_new' (Kd.R_mono (ok' := fun k_ => True) ho0 (fun _ hk_ => trivial)) (Kd.R_lt (kp_ HO479))) (g := gb472) (o := .cells #[.int .i16 ((rd_T34 l0 x22_2).f0), .int .i16 ((rd_T34 l0 x22_2).f1)] 34 (0, 0)) (kb_ BK472)) (g := gb474) (o := .cells #[.int .i16 ((rd_T34 l0 (ji15)).f0), .int .i16 ((rd_T34 l0 (ji15)).f1)] 34 (0, 0)) (kb_ BK474)) (below_size (k2_ HB GE472 GE474))); replace HO479 := Aside0.mk (Kd.R_elder' (kp_ HO479) (Kd.R_base ho0) hb); replace BK472 := bd_ BK472 hb; replace BK474 := bd_ BK474 hb; replace HB := Aside0.mk (below_step (k2_ HB GE472 GE474) hb); clear hb; (try clear ho0); obtain ⟨Ao58, co58, eo58⟩ := Kd.R_slice HO482.out; subst eo58; have q57 : (2 : Int) ≤ ((t480.length : Int) : Int) := od_; obtain ⟨i057, hi057, _, hsz57, _⟩ := info_parts info34; have hroom57 : t480.length ≤ co58 := (Kd.R_reads' HO482.out).2.1; have hC57 : Kd.C k34 _ Ao58 t480.length t480 := (Kd.R_reads' HO482.out).2.2; have hcut57 := cut_from (P := Try.prog) 25 34 .i64 Try.underlying25 hi057 2 hsz57 Ao58 t480.length co58 2 (by omega) q57; have hr57 := Kd.C_drop (m := (2 : Int).toNat) (c := co58) hC57 (by omega) hroom57; obtain ⟨A57, hA57⟩ : ∃ A1, A1 = (if co58 = (2 : Int).toNat then Ao58 else (Ao58 : Option Addr).map (·.add ((2 : Int).toNat * 2))) := ⟨_, rfl⟩; obtain ⟨c57, hc57⟩ : ∃ c1, c1 = co58 - (2 : Int).toNat := ⟨_, rfl⟩; have hy57 : y483.length = t480.length - (2 : Int).toNat := (by rw [Ny483.out, List.length_drop] <;> omega); rw [show (t480).drop (2 : Int).toNat = y483 from Ny483.out.symm] at hr57; replace hr57 : Kd.C k34 _ A57 y483.length y483 := (by rw [hA57]; exact hr57); rw [← hy57, ← hA57, ← hc57] at hcut57; have HR486 := Aside0.mk hr57; have HC486 := Aside0.mk (show y483.length ≤ c57 from by rw [hy57, hc57]; exact Nat.sub_le_sub_right hroom57 _); clear hr57 hC57 hroom57 hi057 hsz57 hc57; have KY57 := Aside0.mk hy57; have KA57 := Aside0.mk hA57; clear hy57 hA57; have KL57 := Aside0.mk (show 2 ≤ t480.length from by omega); replace q57 := eq_true q57) | ((with_reducible refine gate_builtin (b := .append) (xs := #[.tmp 59, .tmp 63]) rfl ?_); (try (refine gate_guard (by rfl) ?_; dsimp only)); at_builtin; refine Kd.R_append_rows k34 (w0 := w) w.heap.size rfl (.tmp 59) (.tmp 63) 25 34 (.agg #[(.int .i16 0), (.int .i16 0)]) 4 rfl Try.underlying25 info34 rfl (by decide) (by omega) v478 t477 y483 _ _ _ (fun k_ => some k_ ≠ (.slice Ao58 t480.length co58 : Value).ownBlock ∧ k_ ≠ gb472 ∧ k_ ≠ gb474) (fun _ => False) rfl rfl ?aO ?aR (fun _ _ h => h) (fun _ h => h.elim) ?aF ?aB ?aS ?aL ?_; (case aR => repeat (first | exact (kc_ HR486.out) | (with_reducible refine Kd.C_alloc ?_ _) | (with_reducible refine Kd.C_drewN ?_ _) | (with_reducible refine Kd.C_drew ?_))); (case aB => exact (k2_ HB GE472 GE474)); (case aF => exact (fun k_ hk => ⟨Kd.fresh' (Kd.R_lt (kp_ HO482)) k_ hk, Kd.freshB (g := gb472) (o := .cells #[.int .i16 ((rd_T34 l0 x22_2).f0), .int .i16 ((rd_T34 l0 x22_2).f1)] 34 (0, 0)) (kb_ BK472) k_ hk, Kd.freshB (g := gb474) (o := .cells #[.int .i16 ((rd_T34 l0 (ji15)).f0), .int .i16 ((rd_T34 l0 (ji15)).f1)] 34 (0, 0)) (kb_ BK474) k_ hk⟩)); (case aO => exact (by (with_reducible repeat (first | apply Kd.R_alloc | apply Kd.R_drewN | apply Kd.R_drew)); exact Kd.R_mono HO479.out (fun _ hk => ⟨hk.2, ⟨hk.1.1.2, hk.1.2⟩⟩))); (case aS => exact (below_size (k2_ HB GE472 GE474))); (case aL => have := LMc41.out; omega); intro v488 w59 ho hb hg hat; rw [← Ny487.out] at ho; have n0_ := Aside0.mk (blk_grown (g := gb472) (o := .cells #[.int .i16 ((rd_T34 l0 x22_2).f0), .int .i16 ((rd_T34 l0 x22_2).f1)] 34 (0, 0)) (kb_ BK472) hg (Kd.R_away HO479.out (fun _ hk => hk.1.1.2))); have n1_ := Aside0.mk (blk_grown (g := gb474) (o := .cells #[.int .i16 ((rd_T34 l0 (ji15)).f0), .int .i16 ((rd_T34 l0 (ji15)).f1)] 34 (0, 0)) (kb_ BK474) hg (Kd.R_away HO479.out (fun _ hk => hk.1.2))); have n2_ := Aside0.mk (Kd.R_after (ok := (fun k_ => k_ ≠ gb472 ∧ k_ ≠ gb474)) (by (with_reducible repeat (first | apply Kd.R_alloc | apply Kd.R_drewN | apply Kd.R_drew)); exact Kd.R_mono HO482.out (fun _ hk => ⟨⟨hk.1.2, hk.2⟩, hk.1.1.2⟩)) hg hat); have n3_ := Aside0.mk (hb); have n4_ := Aside0.mk ((show Kd.C k34 w59 A57 y483.length y483 from by rw [Ny483.out, KA57.out]; exact Kd.C_drop (m := 2) (c := co58) ((Kd.R_reads' (Kd.R_after (ok := (fun k_ => k_ ≠ gb472 ∧ k_ ≠ gb474)) (by (with_reducible repeat (first | apply Kd.R_alloc | apply Kd.R_drewN | apply Kd.R_drew)); exact Kd.R_mono HO482.out (fun _ hk => ⟨⟨hk.1.2, hk.2⟩, hk.1.1.2⟩)) hg hat)).2.2) KL57.out ((Kd.R_reads' (Kd.R_after (ok := (fun k_ => k_ ≠ gb472 ∧ k_ ≠ gb474)) (by (with_reducible repeat (first | apply Kd.R_alloc | apply Kd.R_drewN | apply Kd.R_drew)); exact Kd.R_mono HO482.out (fun _ hk => ⟨⟨hk.1.2, hk.2⟩, hk.1.1.2⟩)) hg hat)).2.1))); have n5_ := Aside0.mk (ho); clear BK472; clear BK474; clear HO482; clear HB; clear HR486; clear HO479; have BK472 := n0_; have BK474 := n1_; have HO482 := n2_; have HB := n3_; have HR486 := n4_; have HO489 := n5_; clear n0_ n1_ n2_ n3_ n4_ n5_; clear ho hb hg hat; obtain ⟨Ao60, co60, eo60⟩ := Kd.R_slice HO489.out; subst eo60) | ((with_reducible refine gate_callee (f := 43) rfl ?_); refine goM_ (some 65) Try.func43 #[.slice Ao60 y487.length co60] ?_; (with_reducible refine (impl_straight.calls kj18 (fun k_ => some k_ = (.slice Ao60 y487.length co60 : Value).ownBlock) (.slice Ao60 y487.length co60) y487 t490 w _ ?side1 ?side2 A42.out).mono ?_); (case side1 => repeat (first | (with_reducible first | exact HB.out | apply below_alloc | apply pw_below_drewN | apply below_drew1 | refine below_set ?_ GE472.out | refine below_set ?_ GE474.out) | exact HB.out)); (case side2 => exact Kd.R_tight rfl HO489.out); rintro e w61 ⟨v491, rfl, ho0, hb, hkp⟩; refine ⟨_, rfl, ?_⟩; have n0_ := Aside0.mk (blk_kept (kb_ BK472) hkp (fun hs_ => (fun e_ => (Kd.R_away HO489.out (fun _ hk => hk.2.1)) e_) hs_)); have n1_ := Aside0.mk (blk_kept (kb_ BK474) hkp (fun hs_ => (fun e_ => (Kd.R_away HO489.out (fun _ hk => hk.2.2)) e_) hs_)); have n2_ := Aside0.mk (Kd.R_mono (ok' := fun k_ => k_ ≠ gb472 ∧ k_ ≠ gb474 ∧ some k_ ≠ (v491 : Value).ownBlock) (Kd.R_keptB (HO482.out) hkp (fun k_ hk_ hs_ => (hk_.2) hs_)) (fun k_ hk_ => ⟨hk_.1.1.1, hk_.1.1.2, fun e_ => Or.elim (ho0.1 k_ e_.symm) (fun hs_ => hk_.2.1 hs_) (fun hn_ => Nat.not_le.2 hk_.2.2 hn_)⟩)); have n3_ := Aside0.mk (Kd.R_mono (ok' := fun k_ => some k_ ≠ (.slice Ao58 t480.length co58 : Value).ownBlock ∧ k_ ≠ gb472 ∧ k_ ≠ gb474) ho0 (fun k_ hk_ => ⟨Or.elim hk_ (fun hs_ => fun e_ => (((HO482.out).1 k_ e_.symm).2) hs_) (fun hn_ => (Kd.fresh' (Kd.R_lt (kp_ HO482)) k_ hn_)), Or.elim hk_ (fun hs_ => fun e_ => (Kd.R_away HO489.out (fun _ hk => hk.2.1)) (by rw [← e_]; exact hs_)) (fun hn_ => (Kd.freshB (g := gb472) (o := .cells #[.int .i16 ((rd_T34 l0 x22_2).f0), .int .i16 ((rd_T34 l0 x22_2).f1)] 34 (0, 0)) (kb_ BK472) k_ hn_)), Or.elim hk_ (fun hs_ => fun e_ => (Kd.R_away HO489.out (fun _ hk => hk.2.2)) (by rw [← e_]; exact hs_)) (fun hn_ => (Kd.freshB (g := gb474) (o := .cells #[.int .i16 ((rd_T34 l0 (ji15)).f0), .int .i16 ((rd_T34 l0 (ji15)).f1)] 34 (0, 0)) (kb_ BK474) k_ hn_))⟩)); have n4_ := Aside0.mk (hb); clear BK472; clear BK474; clear HO482; clear HB; clear HO489; have BK472 := n0_; have BK474 := n1_; have HO482 := n2_; have HO492 := n3_; have HB := n4_; clear n0_ n1_ n2_ n3_ n4_; clear hb; (try clear hkp); (try clear ho0); obtain ⟨Ao62, co62, eo62⟩ := Kd.R_slice HO492.out; subst eo62) | ((with_reducible refine gate_callee (f := 45) rfl ?_); refine goM_ (some 68) Try.func45 #[.slice Ao62 t490.length co62] ?_; (with_reducible refine (impl_isConvex.calls kj18 _ _ t490 true _ ?side1 ?side2 A43.out).mono ?_); (case side1 => exact kc_ ((Kd.R_reads' HO492.out).2.2)); (case side2 => exact (Kd.R_reads' HO492.out).2.1); rintro e w63 ⟨rfl, hb⟩; refine ⟨_, rfl, ?_⟩; replace HO482 := Aside0.mk (Kd.R_below (kp_ HO482) hb); replace HO492 := Aside0.mk (Kd.R_below (kp_ HO492) hb); replace BK472 := bd_ BK472 hb; replace BK474 := bd_ BK474 hb; replace HB := Aside0.mk (below_step (k2_ HB GE472 GE474) hb); clear hb))
     go_ret2
     exact ⟨_, by first | rfl | (simp [errW_none, errW_some] <;> rfl) | (simp only [← hji15]; first | rfl | (simp [errW_none, errW_some] <;> rfl)) | (simp [*, errW_none, errW_some] <;> rfl), by (with_reducible repeat (first | apply Kd.R_alloc | apply Kd.R_drewN | apply Kd.R_drew)); exact Kd.R_mono HO492.out (fun _ hk => trivial), k2_ HB GE472 GE474⟩
end Go.Proofs.Ytmglnofmmgokkaa.PA
