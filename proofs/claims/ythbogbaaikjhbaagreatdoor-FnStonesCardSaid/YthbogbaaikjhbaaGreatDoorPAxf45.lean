/- Pure functions, and that Go's functions come to them. -/
import Derived.Test.YthbogbaaikjhbaaGreatDoorPAx0
import Derived.Test.YthbogbaaikjhbaaGreatDoorPAxm17
namespace Go.Proofs.YthbogbaaikjhbaaGreatDoor.PA
open Go.RowKit Go.Proofs.YthbogbaaikjhbaaGreatDoorW.PrintWords Go.Proofs.YthbogbaaikjhbaaGreatDoorW.PrintLast Go.Proofs.YthbogbaaikjhbaaGreatDoorW.PrintMore
set_option linter.unusedVariables false
set_option linter.unusedSimpArgs false

/-! ### spec_l03First: function 45 -/
def spec_l03First.l0 : Nat → List (S43) → Int → Int → Option ((List (S43)))
 | 0, _, _, _ => none
 | k + 1, x0, x3, x4 => if x4 < (x0.length : Int) then (if 0 ≤ x4 then (if 0 ≤ x3 then (if x3 < (x0.length : Int) then ((spec_l03Before.f ((rd_T43 x0 x4).f0) ((rd_T43 x0 x4).f1) ((rd_T43 x0 x3).f0) ((rd_T43 x0 x3).f1)).bind fun t447 => (if t447 = true then (spec_l03First.l0 k x0 x4 (wrap64 (x4 + 1))) else (spec_l03First.l0 k x0 x3 (wrap64 (x4 + 1))))) else (none)) else (none)) else (none)) else ((some (([] : List (S43)) : List (S43))).bind fun y448 => (if 0 ≤ x3 then (if x3 ≤ (x0.length : Int) then ((some (x0.drop (x3 : Int).toNat : List (S43))).bind fun y451 => (if y448.length + y451.length < 35184372088832 then ((some (y448 ++ y451 : List (S43))).bind fun y455 => ((some (x0.take (x3 : Int).toNat : List (S43))).bind fun y458 => (if y455.length + y458.length < 35184372088832 then (some (y455 ++ y458)) else (none)))) else (none))) else (none)) else (none)))
def spec_l03First.f (k : Nat) (l0 : List (S43)) : Option ((List (S43))) := spec_l03First.l0 k l0 0 1
theorem spec_l03First.mono_l : ∀ k, (∀ y0 y1 y2, LeO (spec_l03First.l0 k y0 y1 y2) (spec_l03First.l0 (k + 1) y0 y1 y2))
 | 0 => fun _ _ _ r h => by simp [spec_l03First.l0] at h
 | k + 1 => by
  have ih0 := spec_l03First.mono_l k
  ·
   intro y0 y1 y2
   unfold spec_l03First.l0
   repeat' first | (with_reducible first | exact ih0 _ _ _ | exact LeO.refl _ | exact LeO.none _ | refine LeO.ite ?_ ?_ | refine LeO.bind ?_ (fun _ => ?_))
theorem spec_l03First.mono : ∀ a0 k, LeO (spec_l03First.f k a0) (spec_l03First.f (k + 1) a0) := by
 intro a0 k
 have ih0 := spec_l03First.mono_l k
 unfold spec_l03First.f
 repeat' first | (with_reducible first | exact ih0 _ _ _ | exact LeO.refl _ | exact LeO.none _ | refine LeO.ite ?_ ?_ | refine LeO.bind ?_ (fun _ => ?_))
def spec_l03First.T5 : Bool × List (List Nat × List Nat) := (true, [([], []), ([], []), ([0, 1], [0, 1]), ([2], [2]), ([], []), ([], []), ([4, 5], [4, 5]), ([6], [6]), ([3, 7], [3, 7])])
def spec_l03First.B5 : List Nat := [0, 0, 3, 7, 0, 0, 48, 112, 255]
theorem spec_l03First.tab5 : rtab .any (opsOf Tryz.f45 5) = spec_l03First.T5 := by kernel_rfl
theorem spec_l03First.bits5 : waitsOk spec_l03First.T5.2 spec_l03First.B5 = true := by kernel_rfl
def spec_l03First.T7 : Bool × List (List Nat × List Nat) := (true, [([], []), ([], []), ([], []), ([1, 2], [1, 2]), ([0, 3], [0, 3]), ([], []), ([], []), ([5, 6], [5, 6]), ([4, 7, 4], [4, 7]), ([8, 8, 0, 1, 2, 3, 4, 5, 6, 7, 8], [8])])
def spec_l03First.B7 : List Nat := [0, 0, 0, 6, 15, 0, 0, 96, 255, 511]
theorem spec_l03First.tab7 : rtab .any (opsOf Tryz.f45 7) = spec_l03First.T7 := by kernel_rfl
theorem spec_l03First.bits7 : waitsOk spec_l03First.T7.2 spec_l03First.B7 = true := by kernel_rfl
set_option maxHeartbeats 8000000 in
set_option maxRecDepth 100000 in
theorem spec_l03First.calls (k : Nat) (A0 : Option Addr) (c0 : Nat) (l0 : List (S43)) (r : List (S43)) (w : World) (hr0 : Kd.C k43 w A0 l0.length l0) (hc0 : l0.length ≤ c0) (h : spec_l03First.f k l0 = some r) :
  Calls Tryz.prog 45 #[.slice A0 l0.length c0] w fun e w' => ∃ v0_ : Value, e = .returned (v0_) ∧ Kd.R k43 43 w' w.heap.size (fun _ => True) v0_ r ∧ Below w.heap.size w w' := by
 have hu43 := Tryz.underlying43
 have HR0 := Aside0.mk hr0
 have HC0 := Aside0.mk hc0
 clear hr0 hc0
 have HB := Aside0.mk (Below.refl w.heap.size w)
 have H : (spec_l03First.l0 k l0 0 1) = some r := h
 clear h
 have H' := Aside0.mk H
 clear H
 go_enter Tryz.func45, Tryz.ntmps45
 go_wp2
 go_loopg [3, 4] k (fun kq v3 v4 w' => ∃ (x3_1 : Int) (x4_1 : Int), v3 = .int .i64 x3_1 ∧ v4 = .int .i64 x4_1 ∧ Aside0 (spec_l03First.l0 kq l0 x3_1 x4_1 = some r) ∧ Aside0 (kq ≤ k) ∧ Aside0 (Below w.heap.size w w'))
 case atStart => exact ⟨(0), (1), (by first | rfl | (simp; done) | (simp [*]; done)), (by first | rfl | (simp; done) | (simp [*]; done)), H', ⟨Nat.le_refl _⟩, ⟨bl_ HB⟩⟩
 case round =>
  clear H'
  obtain ⟨x3_1, x4_1, rfl, rfl, HA, HK1, HB⟩ := hrel
  rcases gk with _ | k1
  · exact absurd HA.out (by simp [spec_l03First.l0])
  have H := HA.out
  clear HA
  simp only [spec_l03First.l0] at H
  by_cases c2 : x4_1 < (l0.length : Int)
  ·
   rw [if_pos c2] at H
   have c2b0 : decide (x4_1 < (l0.length : Int)) = true := decide_eq_true c2
   clear c2
   obtain ⟨c3b0, H⟩ := gx_ H
   obtain ⟨c4b0, H⟩ := gx_ H
   obtain ⟨c5b0, H⟩ := gx_ H
   obtain ⟨t447, A6, H⟩ := be_ H
   (try dsimp only at H)
   by_cases c7 : t447 = true
   ·
    subst c7
    replace H := gt_ H
    have H' := Aside0.mk H
    clear H
    try go_wp2
    have n0_ := Aside0.mk (below_drew1 HB.out)
    clear HB
    have HB := n0_
    clear n0_
    have p445 : 0 ≤ (x4_1 : Int) := od_
    have q445 : x4_1 < (l0.length : Int) := od_
    obtain ⟨ad445, e445, hx445_0, hx445_1⟩ := at_T43 HR0.out x4_1 p445 q445
    have hw445_1 := hx445_1
    have hw445_0 := hx445_0
    cases e445
    replace hx445_0 := (hw_ HB hx445_0 :)
    replace hx445_1 := (hw_ HB hx445_1 :)
    replace p445 := eq_true p445
    replace q445 := eq_true q445
    have p446 : 0 ≤ (x3_1 : Int) := od_
    have q446 : x3_1 < (l0.length : Int) := od_
    obtain ⟨ad446, e446, hx446_0, hx446_1⟩ := at_T43 HR0.out x3_1 p446 q446
    have hw446_1 := hx446_1
    have hw446_0 := hx446_0
    obtain rfl : ad445 = ad446 := (by injection e446)
    replace hx446_0 := (hw_ HB hx446_0 :)
    replace hx446_1 := (hw_ HB hx446_1 :)
    replace p446 := eq_true p446
    replace q446 := eq_true q446
    refine start_ (n := 9) (S := fun w' => w'.cell? (ad445.add ((x4_1).toNat * 2)) = some (.int .i16 ((rd_T43 l0 x4_1).f0)) ∧ w'.cell? ⟨(ad445.add ((x4_1).toNat * 2)).block, (ad445.add ((x4_1).toNat * 2)).off + 1, none⟩ = some (.int .i16 ((rd_T43 l0 x4_1).f1)) ∧ w'.cell? (ad445.add ((x3_1).toNat * 2)) = some (.int .i16 ((rd_T43 l0 x3_1).f0)) ∧ w'.cell? ⟨(ad445.add ((x3_1).toNat * 2)).block, (ad445.add ((x3_1).toNat * 2)).off + 1, none⟩ = some (.int .i16 ((rd_T43 l0 x3_1).f1))) (ds := []) #[false, false, false, false, false, false, false, false, false] (by kernel_rfl) rfl rfl ⟨((hw_ HB hw445_0 :)), ((hw_ HB hw445_1 :)), ((hw_ HB hw446_0 :)), ((hw_ HB hw446_1 :))⟩ (fun hHeld => ?_); refine with_tabW spec_l03First.tab5 spec_l03First.bits5 (fun HT_ HW_ => ?_)
    generalize wr.drew = w8 at HB hx445_0 hx445_1 hx446_0 hx446_1 hHeld ⊢
    refine pu_ 0 11 (lA 9 1) ?_ ?_ HT_ ?_
    refine pu_ 1 12 (lA 9 3) ?_ ?_ HT_ ?_
    refine pu_ 2 13 (lA 9 7) ?_ ?_ HT_ ?_
    refine pu_ 4 15 (lA 9 23) ?_ ?_ HT_ ?_
    refine pu_ 5 16 (lA 9 55) ?_ ?_ HT_ ?_
    refine pu_ 6 17 (lA 9 119) ?_ ?_ HT_ ?_
    refine tk_ 3 14 (lA 9 127) ?_ ?_ HT_ HW_ hHeld ?_
    refine tk_ 7 18 (lA 9 255) ?_ ?_ HT_ HW_ hHeld ?_
    refine one_ (i := 8) (N := some 19) #[true, true, true, true, true, true, true, true, true] rfl rfl (one_of HT_.out (by kernel_rfl)) (by decide) (fun K hK => ?_)
    refine goes_ Tryz.func57 (by kernel_rfl) rfl #[.agg #[.int .i16 ((rd_T43 l0 x4_1).f0), .int .i16 ((rd_T43 l0 x4_1).f1)], .agg #[.int .i16 ((rd_T43 l0 x3_1).f0), .int .i16 ((rd_T43 l0 x3_1).f1)]] (by rfl) rfl rfl (by (try simp only [List.map_toArray, List.map_cons, List.map_nil]); first | done | rfl | (simp only [List.length_drop, List.length_take]; rfl)) ?_
    with_reducible refine (spec_l03Before.calls ((rd_T43 l0 x4_1).f0) ((rd_T43 l0 x4_1).f1) ((rd_T43 l0 x3_1).f0) ((rd_T43 l0 x3_1).f1) true _ A6.out).mono ?_
    rintro e w9 ⟨rfl, hb⟩
    refine ⟨_, rfl, ?_⟩
    have n0_ := bs_ HB hb
    clear HB
    have HB := n0_
    clear n0_
    refine hK.out _ _ ⟨((hw_ HB hw445_0 :)), ((hw_ HB hw445_1 :)), ((hw_ HB hw446_0 :)), ((hw_ HB hw446_1 :))⟩ (fun hHeld => ?_)
    clear hK K
    refine norm_ (a' := ?_) ?_ ?_
    rotate_left
    ·
     show Act.put _ (some 19) _ = _
     simp only [Act.put, List.setIfInBounds_toArray, List.set_cons_zero, List.set_cons_succ, i64_w, i32_w]
     rfl
    refine done_ (done_of HT_.out (by kernel_rfl)) ?_
    try go_wp2
    go_roundg k1
    case measure => have := HK1.out; omega
    case rel => exact ⟨(x4_1), (wrap64 (x4_1 + 1)), (by first | rfl | (simp; done) | (simp [*]; done)), (by first | rfl | (simp; done) | (simp [*]; done)), H', ⟨by have := HK1.out; omega⟩, ⟨bl_ HB⟩⟩
   replace c7 := Bool.eq_false_iff.mpr c7
   subst c7
   replace H := gf_ H
   have H' := Aside0.mk H
   clear H
   try go_wp2
   have n0_ := Aside0.mk (below_drew1 HB.out)
   clear HB
   have HB := n0_
   clear n0_
   have p445 : 0 ≤ (x4_1 : Int) := od_
   have q445 : x4_1 < (l0.length : Int) := od_
   obtain ⟨ad445, e445, hx445_0, hx445_1⟩ := at_T43 HR0.out x4_1 p445 q445
   have hw445_1 := hx445_1
   have hw445_0 := hx445_0
   cases e445
   replace hx445_0 := (hw_ HB hx445_0 :)
   replace hx445_1 := (hw_ HB hx445_1 :)
   replace p445 := eq_true p445
   replace q445 := eq_true q445
   have p446 : 0 ≤ (x3_1 : Int) := od_
   have q446 : x3_1 < (l0.length : Int) := od_
   obtain ⟨ad446, e446, hx446_0, hx446_1⟩ := at_T43 HR0.out x3_1 p446 q446
   have hw446_1 := hx446_1
   have hw446_0 := hx446_0
   obtain rfl : ad445 = ad446 := (by injection e446)
   replace hx446_0 := (hw_ HB hx446_0 :)
   replace hx446_1 := (hw_ HB hx446_1 :)
   replace p446 := eq_true p446
   replace q446 := eq_true q446
   refine start_ (n := 9) (S := fun w' => w'.cell? (ad445.add ((x4_1).toNat * 2)) = some (.int .i16 ((rd_T43 l0 x4_1).f0)) ∧ w'.cell? ⟨(ad445.add ((x4_1).toNat * 2)).block, (ad445.add ((x4_1).toNat * 2)).off + 1, none⟩ = some (.int .i16 ((rd_T43 l0 x4_1).f1)) ∧ w'.cell? (ad445.add ((x3_1).toNat * 2)) = some (.int .i16 ((rd_T43 l0 x3_1).f0)) ∧ w'.cell? ⟨(ad445.add ((x3_1).toNat * 2)).block, (ad445.add ((x3_1).toNat * 2)).off + 1, none⟩ = some (.int .i16 ((rd_T43 l0 x3_1).f1))) (ds := []) #[false, false, false, false, false, false, false, false, false] (by kernel_rfl) rfl rfl ⟨((hw_ HB hw445_0 :)), ((hw_ HB hw445_1 :)), ((hw_ HB hw446_0 :)), ((hw_ HB hw446_1 :))⟩ (fun hHeld => ?_); refine with_tabW spec_l03First.tab5 spec_l03First.bits5 (fun HT_ HW_ => ?_)
   generalize wr.drew = w10 at HB hx445_0 hx445_1 hx446_0 hx446_1 hHeld ⊢
   refine pu_ 0 11 (lA 9 1) ?_ ?_ HT_ ?_
   refine pu_ 1 12 (lA 9 3) ?_ ?_ HT_ ?_
   refine pu_ 2 13 (lA 9 7) ?_ ?_ HT_ ?_
   refine pu_ 4 15 (lA 9 23) ?_ ?_ HT_ ?_
   refine pu_ 5 16 (lA 9 55) ?_ ?_ HT_ ?_
   refine pu_ 6 17 (lA 9 119) ?_ ?_ HT_ ?_
   refine tk_ 3 14 (lA 9 127) ?_ ?_ HT_ HW_ hHeld ?_
   refine tk_ 7 18 (lA 9 255) ?_ ?_ HT_ HW_ hHeld ?_
   refine one_ (i := 8) (N := some 19) #[true, true, true, true, true, true, true, true, true] rfl rfl (one_of HT_.out (by kernel_rfl)) (by decide) (fun K hK => ?_)
   refine goes_ Tryz.func57 (by kernel_rfl) rfl #[.agg #[.int .i16 ((rd_T43 l0 x4_1).f0), .int .i16 ((rd_T43 l0 x4_1).f1)], .agg #[.int .i16 ((rd_T43 l0 x3_1).f0), .int .i16 ((rd_T43 l0 x3_1).f1)]] (by rfl) rfl rfl (by (try simp only [List.map_toArray, List.map_cons, List.map_nil]); first | done | rfl | (simp only [List.length_drop, List.length_take]; rfl)) ?_
   with_reducible refine (spec_l03Before.calls ((rd_T43 l0 x4_1).f0) ((rd_T43 l0 x4_1).f1) ((rd_T43 l0 x3_1).f0) ((rd_T43 l0 x3_1).f1) false _ A6.out).mono ?_
   rintro e w11 ⟨rfl, hb⟩
   refine ⟨_, rfl, ?_⟩
   have n0_ := bs_ HB hb
   clear HB
   have HB := n0_
   clear n0_
   refine hK.out _ _ ⟨((hw_ HB hw445_0 :)), ((hw_ HB hw445_1 :)), ((hw_ HB hw446_0 :)), ((hw_ HB hw446_1 :))⟩ (fun hHeld => ?_)
   clear hK K
   refine norm_ (a' := ?_) ?_ ?_
   rotate_left
   ·
    show Act.put _ (some 19) _ = _
    simp only [Act.put, List.setIfInBounds_toArray, List.set_cons_zero, List.set_cons_succ, i64_w, i32_w]
    rfl
   refine done_ (done_of HT_.out (by kernel_rfl)) ?_
   try go_wp2
   go_roundg k1
   case measure => have := HK1.out; omega
   case rel => exact ⟨(x3_1), (wrap64 (x4_1 + 1)), (by first | rfl | (simp; done) | (simp [*]; done)), (by first | rfl | (simp; done) | (simp [*]; done)), H', ⟨by have := HK1.out; omega⟩, ⟨bl_ HB⟩⟩
  rw [if_neg c2] at H
  have c2b0 : decide (x4_1 < (l0.length : Int)) = false := decide_eq_false c2
  clear c2
  obtain ⟨y448, hy448⟩ : ∃ y_ : List (S43), y_ = (([] : List (S43))) := ⟨_, rfl⟩
  replace H : (if 0 ≤ x3_1 then (if x3_1 ≤ (l0.length : Int) then ((some (l0.drop (x3_1 : Int).toNat : List (S43))).bind fun y451 => (if y448.length + y451.length < 35184372088832 then ((some (y448 ++ y451 : List (S43))).bind fun y455 => ((some (l0.take (x3_1 : Int).toNat : List (S43))).bind fun y458 => (if y455.length + y458.length < 35184372088832 then (some (y455 ++ y458)) else (none)))) else (none))) else (none)) else (none)) = some r := by first | (rw [hy448]; with_reducible exact H) | (have H2_ := (Option.bind_some _ _).symm.trans H; rw [hy448]; with_reducible exact H2_) | (have H2_ := (Option.bind_some _ _).symm.trans H; with_reducible exact H2_) | with_reducible exact H | (rw [hy448]; exact H) | exact H
  have Ny448 := Aside0.mk hy448
  clear hy448
  obtain ⟨(c12 : 0 ≤ x3_1), H⟩ := gd_ H
  have c12b0 := eq_true c12
  have c12b1 : decide (0 ≤ x3_1) = true := decide_eq_true c12
  clear c12
  obtain ⟨(c13 : x3_1 ≤ (l0.length : Int)), H⟩ := gd_ H
  have c13b0 := eq_true c13
  have c13b1 : decide (x3_1 ≤ (l0.length : Int)) = true := decide_eq_true c13
  clear c13
  obtain ⟨y451, hy451⟩ : ∃ y_ : List (S43), y_ = (l0.drop (x3_1 : Int).toNat) := ⟨_, rfl⟩
  replace H : (if y448.length + y451.length < 35184372088832 then ((some (y448 ++ y451 : List (S43))).bind fun y455 => ((some (l0.take (x3_1 : Int).toNat : List (S43))).bind fun y458 => (if y455.length + y458.length < 35184372088832 then (some (y455 ++ y458)) else (none)))) else (none)) = some r := by first | (rw [hy451]; with_reducible exact H) | (have H2_ := (Option.bind_some _ _).symm.trans H; rw [hy451]; with_reducible exact H2_) | (have H2_ := (Option.bind_some _ _).symm.trans H; with_reducible exact H2_) | with_reducible exact H | (rw [hy451]; exact H) | exact H
  have Ny451 := Aside0.mk hy451
  clear hy451
  obtain ⟨(c14 : y448.length + y451.length < 35184372088832), H⟩ := gd_ H
  have LMc14 := Aside0.mk c14
  clear c14
  obtain ⟨y455, hy455⟩ : ∃ y_ : List (S43), y_ = (y448 ++ y451) := ⟨_, rfl⟩
  replace H : ((some (l0.take (x3_1 : Int).toNat : List (S43))).bind fun y458 => (if y455.length + y458.length < 35184372088832 then (some (y455 ++ y458)) else (none))) = some r := by first | (rw [hy455]; with_reducible exact H) | (have H2_ := (Option.bind_some _ _).symm.trans H; rw [hy455]; with_reducible exact H2_) | (have H2_ := (Option.bind_some _ _).symm.trans H; with_reducible exact H2_) | with_reducible exact H | (rw [hy455]; exact H) | exact H
  have Ny455 := Aside0.mk hy455
  clear hy455
  have c15b0 := eq_true (od_ : 0 ≤ x3_1)
  have c16b0 := eq_true (od_ : x3_1 ≤ (l0.length : Int))
  obtain ⟨y458, hy458⟩ : ∃ y_ : List (S43), y_ = (l0.take (x3_1 : Int).toNat) := ⟨_, rfl⟩
  replace H : (if y455.length + y458.length < 35184372088832 then (some (y455 ++ y458)) else (none)) = some r := by first | (rw [hy458]; with_reducible exact H) | (have H2_ := (Option.bind_some _ _).symm.trans H; rw [hy458]; with_reducible exact H2_) | (have H2_ := (Option.bind_some _ _).symm.trans H; with_reducible exact H2_) | with_reducible exact H | (rw [hy458]; exact H) | exact H
  have Ny458 := Aside0.mk hy458
  clear hy458
  obtain ⟨(c17 : y455.length + y458.length < 35184372088832), H⟩ := gd_ H
  have LMc17 := Aside0.mk c17
  clear c17
  obtain ⟨y462, hy462⟩ : ∃ y_ : List (S43), y_ = (y455 ++ y458) := ⟨_, rfl⟩
  replace H : (some y462) = some r := by first | (rw [hy462]; with_reducible exact H) | (have H2_ := (Option.bind_some _ _).symm.trans H; rw [hy462]; with_reducible exact H2_) | (have H2_ := (Option.bind_some _ _).symm.trans H; with_reducible exact H2_) | with_reducible exact H | (rw [hy462]; exact H) | exact H
  have Ny462 := Aside0.mk hy462
  clear hy462
  obtain rfl := Option.some.inj H
  try go_wp2
  have n0_ := Aside0.mk (below_drew1 HB.out)
  clear HB
  have HB := n0_
  clear n0_
  have q19 : (x3_1 : Int) ≤ ((l0.length : Int) : Int) := od_
  obtain ⟨i019, hi019, _, hsz19, _⟩ := info_parts info43
  have hroom19 : l0.length ≤ c0 := HC0.out
  have hC19 : Kd.C k43 _ A0 l0.length l0 := HR0.out
  have q019 : (0 : Int) ≤ (x3_1 : Int) := od_
  have hcut19 := cut_from (P := Tryz.prog) 25 43 .i64 Tryz.underlying25 hi019 2 hsz19 A0 l0.length c0 x3_1 q019 q19
  have hr19 := Kd.C_drop (m := (x3_1 : Int).toNat) (c := c0) hC19 (by omega) hroom19
  obtain ⟨A19, hA19⟩ : ∃ A1, A1 = (if c0 = (x3_1 : Int).toNat then A0 else (A0 : Option Addr).map (·.add ((x3_1 : Int).toNat * 2))) := ⟨_, rfl⟩
  obtain ⟨c19, hc19⟩ : ∃ c1, c1 = c0 - (x3_1 : Int).toNat := ⟨_, rfl⟩
  have hy19 : y451.length = l0.length - (x3_1 : Int).toNat := (by rw [Ny451.out, List.length_drop] <;> omega)
  rw [show (l0).drop (x3_1 : Int).toNat = y451 from Ny451.out.symm] at hr19
  replace hr19 : Kd.C k43 _ A19 y451.length y451 := (by rw [hA19]; exact hr19)
  rw [← hy19, ← hA19, ← hc19] at hcut19
  have HR454 := Aside0.mk hr19
  have HC454 := Aside0.mk (show y451.length ≤ c19 from by rw [hy19, hc19]; exact Nat.sub_le_sub_right hroom19 _)
  clear hr19 hC19 hroom19 hi019 hsz19 hc19
  have KY19 := Aside0.mk hy19
  have KA19 := Aside0.mk hA19
  clear hy19 hA19
  replace q19 := eq_true q19
  have q20 : (x3_1 : Int) ≤ ((l0.length : Int) : Int) := od_
  obtain ⟨i020, hi020, _, hsz20, _⟩ := info_parts info43
  have hroom20 : l0.length ≤ c0 := HC0.out
  have hC20 : Kd.C k43 _ A0 l0.length l0 := HR0.out
  have hcut20 := cut_to (P := Tryz.prog) 25 43 .i64 Tryz.underlying25 hi020 A0 l0.length c0 x3_1 od_ q20 hroom20
  have hr20 := Kd.C_take (m := (x3_1 : Int).toNat) hC20 (by omega)
  have hy20 : y458.length = (x3_1 : Int).toNat := (by rw [Ny458.out, List.length_take]; omega)
  rw [← Ny458.out] at hr20
  rw [← hy20] at hcut20
  have HR461 := Aside0.mk hr20
  have HC461 := Aside0.mk (show y458.length ≤ c0 from by omega)
  clear hr20 hC20 hroom20 hi020 hsz20
  have KY20 := Aside0.mk hy20
  clear hy20
  replace q20 := eq_true q20
  refine start_ (n := 10) (S := fun w' => True) (ds := []) #[false, false, false, false, false, false, false, false, false, false] (by kernel_rfl) rfl rfl trivial (fun hHeld => ?_); refine with_tabW spec_l03First.tab7 spec_l03First.bits7 (fun HT_ HW_ => ?_)
  generalize wr.drew = w18 at HB HR454 HR461 hHeld ⊢
  refine pu_ 1 22 (lA 10 2) ?_ ?_ HT_ ?_
  refine pu_ 2 23 (lA 10 6) ?_ ?_ HT_ ?_
  refine pu_ 3 24 (lA 10 14) ?_ ?_ HT_ ?_
  refine pu_ 5 26 (lA 10 46) ?_ ?_ HT_ ?_
  refine pu_ 6 27 (lA 10 110) ?_ ?_ HT_ ?_
  refine pu_ 7 28 (lA 10 238) ?_ ?_ HT_ ?_
  refine one_ (i := 0) (N := some 21) #[true, true, true, true, false, true, true, true, false, false] rfl rfl (one_of HT_.out (by kernel_rfl)) (by decide) (fun K hK => ?_)
  refine Kd.R_lit_step k43 _ 43 ?hg (N := 21) ?hd (xs := ([] : List (S43))) (inner := []) (ok := fun _ => True) (okp := fun _ => True) ?hr ?hp (fun _ hk => hk) trivial (Below.refl _ _) (Nat.le_refl _) (by simp) ?_; (case hd => rfl); (case hg => rfl); (case hr => first | (go_simp; done) | (go_simp; rfl)); (case hp => exact (Reps.none _ _))
  intro v449 w21 ho22 hb hg_ hnew_
  clear hg_ hnew_
  (first | rw [← Ny448.out] at ho22 | (simp only [Int.reduceToNat] at ho22; rw [← Ny448.out] at ho22))
  have n0_ := Aside0.mk (Kd.R_lower ho22 (below_size (kB_ HB)))
  have n1_ := bs_ HB hb
  clear HB
  have HO450 := n0_
  have HB := n1_
  clear n0_ n1_
  clear hb ho22
  refine hK.out _ _ trivial (fun hHeld => ?_)
  clear hK K
  refine norm_ (a' := ?_) ?_ ?_
  rotate_left
  ·
   show Act.put _ (some 21) _ = _
   simp only [Act.put, List.setIfInBounds_toArray, List.set_cons_zero, List.set_cons_succ, i64_w, i32_w]
   rfl
  refine one_ (i := 4) (N := some 25) #[true, true, true, true, true, true, true, true, false, false] rfl rfl (one_of HT_.out (by kernel_rfl)) (by decide) (fun K hK => ?_)
  refine Kd.R_append_rows_step k43 (w0 := w) w.heap.size (by rfl) (.tmp 21) (.tmp 24) 25 43 (.agg #[(.int .i16 0), (.int .i16 0)]) 4 rfl Tryz.underlying25 info43 rfl (by decide) (by omega) v449 y448 y451 _ _ _ (fun _ => True) (fun _ => False) rfl rfl ?aO ?aR (fun _ _ h => h) (fun _ h => h.elim) ?aF ?aB ?aS ?aL ?_
  (case aR => exact kc_ (Kd.C_below HR454.out HB.out))
  (case aB => exact (kB_ HB))
  (case aF => exact (fun _ _ => trivial))
  (case aO => exact (kp_ HO450))
  (case aS => exact (below_size (kB_ HB)))
  (case aL => have := LMc14.out; omega)
  intro v456 w23 ho hb hg hat
  rw [← Ny455.out] at ho
  have n0_ := Aside0.mk (hb)
  have n1_ := Aside0.mk (ho)
  clear HB
  clear HO450
  have HB := n0_
  have HO457 := n1_
  clear n0_ n1_
  clear ho hb hg hat
  refine hK.out _ _ trivial (fun hHeld => ?_)
  clear hK K
  refine norm_ (a' := ?_) ?_ ?_
  rotate_left
  ·
   show Act.put _ (some 25) _ = _
   simp only [Act.put, List.setIfInBounds_toArray, List.set_cons_zero, List.set_cons_succ, i64_w, i32_w]
   rfl
  refine one_ (i := 8) (N := some 29) #[true, true, true, true, true, true, true, true, true, false] rfl rfl (one_of HT_.out (by kernel_rfl)) (by decide) (fun K hK => ?_)
  refine Kd.R_append_rows_step k43 (w0 := w) w.heap.size (by rfl) (.tmp 25) (.tmp 28) 25 43 (.agg #[(.int .i16 0), (.int .i16 0)]) 4 rfl Tryz.underlying25 info43 rfl (by decide) (by omega) v456 y455 y458 _ _ _ (fun _ => True) (fun _ => False) rfl rfl ?aO ?aR (fun _ _ h => h) (fun _ h => h.elim) ?aF ?aB ?aS ?aL ?_
  (case aR => exact kc_ (Kd.C_below HR461.out HB.out))
  (case aB => exact (kB_ HB))
  (case aF => exact (fun _ _ => trivial))
  (case aO => exact (kp_ HO457))
  (case aS => exact (below_size (kB_ HB)))
  (case aL => have := LMc17.out; omega)
  intro v463 w24 ho hb hg hat
  rw [← Ny462.out] at ho
  have n0_ := Aside0.mk (hb)
  have n1_ := Aside0.mk (ho)
  clear HB
  clear HO457
  have HB := n0_
  have HO464 := n1_
  clear n0_ n1_
  clear ho hb hg hat
  refine hK.out _ _ trivial (fun hHeld => ?_)
  clear hK K
  refine norm_ (a' := ?_) ?_ ?_
  rotate_left
  ·
   show Act.put _ (some 29) _ = _
   simp only [Act.put, List.setIfInBounds_toArray, List.set_cons_zero, List.set_cons_succ, i64_w, i32_w]
   rfl
  refine pu_ 9 2 (lA 10 1023) ?_ ?_ HT_ ?_
  refine done_ (done_of HT_.out (by kernel_rfl)) ?_
  try go_wp2
  go_ret
  exact ⟨_, by first | rfl | (simp [errW_none, errW_some] <;> rfl) | (simp [*, errW_none, errW_some] <;> rfl), by (with_reducible repeat (first | apply Kd.R_alloc | apply Kd.R_drewN | apply Kd.R_drew)); exact HO464.out, bl_ HB⟩
end Go.Proofs.YthbogbaaikjhbaaGreatDoor.PA
