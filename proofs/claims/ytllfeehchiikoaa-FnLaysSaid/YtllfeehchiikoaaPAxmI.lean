/- Pure functions, and that Go's functions come to them. -/
import Derived.Test.YtllfeehchiikoaaPAx0
import Derived.Test.YtllfeehchiikoaaPAxf61
import Derived.Test.YtllfeehchiikoaaPAxmB
import Derived.Test.YtllfeehchiikoaaPAxgSpec
import Derived.Test.YtllfeehchiikoaaPAxgSpecO
import Derived.Test.YtllfeehchiikoaaPAxgSpecB
namespace Go.Proofs.Ytllfeehchiikoaa.PA
open Go.RowKit Go.Proofs.YtllfeehchiikoaaW.PrintWords Go.Proofs.YtllfeehchiikoaaW.PrintLast Go.Proofs.YtllfeehchiikoaaW.PrintMore
set_option linter.unusedVariables false
set_option linter.unusedSimpArgs false

/-! ### spec_l03Seams: function 41 -/
mutual
def spec_l03Seams.l0 : Nat → List (S43) → List (S43) → Int → Int → Option (Int)
 | 0, _, _, _, _ => none
 | k + 1, x0, x1, x5, x6 => if x6 < (x0.length : Int) then (spec_l03Seams.l1 k x0 x1 x5 x6 0) else (some x5)
def spec_l03Seams.l1 : Nat → List (S43) → List (S43) → Int → Int → Int → Option (Int)
 | 0, _, _, _, _, _ => none
 | k + 1, x0, x1, x5, x6, x7 => if x7 < (x1.length : Int) then (if 0 ≤ x6 then (if x6 < (x0.length : Int) then ((spec_l03Next.f x0 x6).bind fun t479 => (if 0 ≤ t479 then (if t479 < (x0.length : Int) then (if 0 ≤ x7 then ((spec_l03Next.f x1 x7).bind fun t482 => (if 0 ≤ t482 then (if t482 < (x1.length : Int) then ((spec_l03Seam.f k ((rd_T43 x0 x6).f0) ((rd_T43 x0 x6).f1) ((rd_T43 x0 t479).f0) ((rd_T43 x0 t479).f1) ((rd_T43 x1 x7).f0) ((rd_T43 x1 x7).f1) ((rd_T43 x1 t482).f0) ((rd_T43 x1 t482).f1)).bind fun t484 => ((spec_l00Max.f x5 t484).bind fun t485 => (spec_l03Seams.l1 k x0 x1 t485 x6 (wrap64 (x7 + 1))))) else (none)) else (none))) else (none)) else (none)) else (none))) else (none)) else (none)) else (spec_l03Seams.l0 k x0 x1 x5 (wrap64 (x6 + 1)))
end
def spec_l03Seams.f (k : Nat) (l0 : List (S43)) (l1 : List (S43)) : Option (Int) := (spec_l03Over.f k l0 l1).bind fun t477 => (if t477 = true then (some 0) else (spec_l03Seams.l0 k l0 l1 0 0))
theorem spec_l03Seams.mono_l : ∀ k, (∀ y0 y1 y2 y3, LeO (spec_l03Seams.l0 k y0 y1 y2 y3) (spec_l03Seams.l0 (k + 1) y0 y1 y2 y3)) ∧ (∀ y0 y1 y2 y3 y4, LeO (spec_l03Seams.l1 k y0 y1 y2 y3 y4) (spec_l03Seams.l1 (k + 1) y0 y1 y2 y3 y4))
 | 0 => ⟨fun _ _ _ _ r h => by simp [spec_l03Seams.l0] at h, fun _ _ _ _ _ r h => by simp [spec_l03Seams.l1] at h⟩
 | k + 1 => by
  obtain ⟨ih0, ih1⟩ := spec_l03Seams.mono_l k
  refine ⟨?_, ?_⟩ <;> intros
  all_goals first | unfold spec_l03Seams.l0 | unfold spec_l03Seams.l1
  all_goals repeat' first
  | (with_reducible exact ih0 _ _ _ _)
  | (with_reducible exact ih1 _ _ _ _ _)
  | (with_reducible exact spec_l03Over.mono _ _ _)
  | (with_reducible exact spec_l03Seam.mono _ _ _ _ _ _ _ _ _)
  | (with_reducible exact LeO.refl _)
  | (with_reducible exact LeO.none _)
  | (with_reducible refine LeO.ite ?_ ?_)
  | (with_reducible refine LeO.bind ?_ (fun _ => ?_))
theorem spec_l03Seams.mono : ∀ a0 a1 k, LeO (spec_l03Seams.f k a0 a1) (spec_l03Seams.f (k + 1) a0 a1) := by
 intro a0 a1 k
 obtain ⟨ih0, ih1⟩ := spec_l03Seams.mono_l k
 unfold spec_l03Seams.f
 repeat' first
   | (with_reducible exact ih0 _ _ _ _)
   | (with_reducible exact ih1 _ _ _ _ _)
   | (with_reducible exact spec_l03Over.mono _ _ _)
   | (with_reducible exact spec_l03Seam.mono _ _ _ _ _ _ _ _ _)
   | (with_reducible exact LeO.refl _)
   | (with_reducible exact LeO.none _)
   | (with_reducible refine LeO.ite ?_ ?_)
   | (with_reducible refine LeO.bind ?_ (fun _ => ?_))
def spec_l03Seams.T10 : Bool × List (List Nat × List Nat) := (true, [([], []), ([], []), ([], []), ([1, 2], [1, 2]), ([3], [3]), ([], []), ([], []), ([], []), ([6, 7], [6, 7]), ([5, 8], [5, 8]), ([9], [9]), ([], []), ([], []), ([11, 12], [11, 12]), ([13], [13]), ([], []), ([], []), ([], []), ([16, 17, 8], [16, 17]), ([15, 18], [15, 18]), ([19], [19]), ([4, 10, 14, 20, 18], [4, 10, 14, 20]), ([0, 21, 21], [0, 21]), ([22, 22, 0, 1, 2, 3, 4, 5, 6, 7, 8, 9, 10, 11, 12, 13, 14, 15, 16, 17, 18, 19, 20, 21, 22], [0, 22])])
def spec_l03Seams.B10 : List Nat := [0, 0, 0, 6, 14, 0, 0, 0, 192, 480, 992, 0, 0, 6144, 14336, 0, 0, 0, 197056, 491968, 1016256, 2097150, 4194303, 8388607]
theorem spec_l03Seams.tab10 : rtab .any (opsOf Try.f41 10) = spec_l03Seams.T10 := by kernel_rfl
theorem spec_l03Seams.bits10 : waitsOk spec_l03Seams.T10.2 spec_l03Seams.B10 = true := by kernel_rfl
set_option maxHeartbeats 8000000 in
set_option maxRecDepth 100000 in
theorem spec_l03Seams.calls (k : Nat) (A0 : Option Addr) (c0 : Nat) (l0 : List (S43)) (A1 : Option Addr) (c1 : Nat) (l1 : List (S43)) (r : Int) (w : World) (hr0 : Kd.C k43 w A0 l0.length l0) (hc0 : l0.length ≤ c0) (hr1 : Kd.C k43 w A1 l1.length l1) (hc1 : l1.length ≤ c1) (h : spec_l03Seams.f k l0 l1 = some r) :
  Calls Try.prog 41 #[.slice A0 l0.length c0, .slice A1 l1.length c1] w fun e w' => e = .returned (.int .i64 r) ∧ Below w.heap.size w w' := by
 have hu43 := Try.underlying43
 have HR0 := Aside0.mk hr0
 have HC0 := Aside0.mk hc0
 clear hr0 hc0
 have HR1 := Aside0.mk hr1
 have HC1 := Aside0.mk hc1
 clear hr1 hc1
 have HB := Aside0.mk (Below.refl w.heap.size w)
 have H : ((spec_l03Over.f k l0 l1).bind fun t477 => (if t477 = true then (some 0) else (spec_l03Seams.l0 k l0 l1 0 0))) = some r := h
 clear h
 replace H := Option.bind_eq_some_iff.mp H
 obtain ⟨t477, A30, H⟩ := H
 (try dsimp only at H)
 have A3 := Aside0.mk A30
 clear A30
 by_cases c4 : t477 = true
 ·
  subst c4
  replace H := gt_ H
  obtain rfl := Option.some.inj H
  go_enter Try.func41, Try.ntmps41
  go_wp2_with (first | ((with_reducible refine gate_callee (f := 53) rfl ?_); refine goM_ (some 10) Try.func53 #[.slice A0 l0.length c0, .slice A1 l1.length c1] ?_; (with_reducible refine (spec_l03Over.calls k _ _ l0 _ _ l1 true _ ?side1 ?side2 ?side3 ?side4 A3.out).mono ?_); (case side1 => exact kc_ HR0.out); (case side2 => exact HC0.out); (case side3 => exact kc_ HR1.out); (case side4 => exact HC1.out); rintro e w5 ⟨rfl, hb⟩; refine ⟨_, rfl, ?_⟩; replace HB := bs_ HB hb; clear hb))
  go_ret
  exact ⟨rt_, bl_ HB⟩
 replace c4 := Bool.eq_false_iff.mpr c4
 subst c4
 replace H := gf_ H
 have H' := Aside0.mk H
 clear H
 go_enter Try.func41, Try.ntmps41
 go_wp2_with (first | ((with_reducible refine gate_callee (f := 53) rfl ?_); refine goM_ (some 10) Try.func53 #[.slice A0 l0.length c0, .slice A1 l1.length c1] ?_; (with_reducible refine (spec_l03Over.calls k _ _ l0 _ _ l1 false _ ?side1 ?side2 ?side3 ?side4 A3.out).mono ?_); (case side1 => exact kc_ HR0.out); (case side2 => exact HC0.out); (case side3 => exact kc_ HR1.out); (case side4 => exact HC1.out); rintro e w6 ⟨rfl, hb⟩; refine ⟨_, rfl, ?_⟩; replace HB := bs_ HB hb; clear hb))
 go_loopg [5, 6] k (fun kq v5 v6 w' => ∃ (x5_1 : Int) (x6_1 : Int), v5 = .int .i64 x5_1 ∧ v6 = .int .i64 x6_1 ∧ Aside0 (spec_l03Seams.l0 kq l0 l1 x5_1 x6_1 = some r) ∧ Aside0 (kq ≤ k) ∧ Aside0 (Below w.heap.size w w'))
 case atStart => exact ⟨(0), (0), (by first | rfl | (simp; done) | (simp [*]; done)), (by first | rfl | (simp; done) | (simp [*]; done)), H', ⟨Nat.le_refl _⟩, ⟨bl_ HB⟩⟩
 case round =>
  clear H'
  obtain ⟨x5_1, x6_1, rfl, rfl, HA, HK1, HB⟩ := hrel
  rcases gk with _ | k1
  · exact absurd HA.out (by simp [spec_l03Seams.l0])
  have H := HA.out
  clear HA
  simp only [spec_l03Seams.l0] at H
  rcases (Decidable.em (x6_1 < (l0.length : Int))).symm with c7 | c7
  ·
   rw [if_neg c7] at H
   have c7b0 : decide (x6_1 < (l0.length : Int)) = false := decide_eq_false c7
   clear c7
   obtain rfl := Option.some.inj H
   go_wp2
   go_ret
   exact ⟨rt_, bl_ HB⟩

  rw [if_pos c7] at H
  have c7b0 : decide (x6_1 < (l0.length : Int)) = true := decide_eq_true c7
  clear c7
  have H' := Aside0.mk H
  clear H
  go_wp2
  go_loopg [5, 7] k1 (fun kq v5 v7 w' => ∃ (x5_2 : Int) (x7_2 : Int), v5 = .int .i64 x5_2 ∧ v7 = .int .i64 x7_2 ∧ Aside0 (spec_l03Seams.l1 kq l0 l1 x5_2 x6_1 x7_2 = some r) ∧ Aside0 (kq ≤ k1) ∧ Aside0 (Below w.heap.size w w'))
  case atStart => exact ⟨(x5_1), (0), (by first | rfl | (simp; done) | (simp [*]; done)), (by first | rfl | (simp; done) | (simp [*]; done)), H', ⟨Nat.le_refl _⟩, ⟨bl_ HB⟩⟩
  case round =>
   clear H'
   obtain ⟨x5_2, x7_2, rfl, rfl, HA, HK2, HB⟩ := hrel
   rcases gk with _ | k2
   · exact absurd HA.out (by simp [spec_l03Seams.l1])
   have H := HA.out
   clear HA
   simp only [spec_l03Seams.l1] at H
   rcases (Decidable.em (x7_2 < (l1.length : Int))).symm with c8 | c8
   ·
    rw [if_neg c8] at H
    have c8b0 : decide (x7_2 < (l1.length : Int)) = false := decide_eq_false c8
    clear c8
    have H' := Aside0.mk H
    clear H
    go_wp2
    go_roundg k2
    case measure => have := HK1.out; have := HK2.out; omega
    case rel => exact ⟨(x5_2), (wrap64 (x6_1 + 1)), (by first | rfl | (simp; done) | (simp [*]; done)), (by first | rfl | (simp; done) | (simp [*]; done)), H', ⟨by have := HK1.out; have := HK2.out; omega⟩, ⟨bl_ HB⟩⟩
   rw [if_pos c8] at H
   have c8b0 : decide (x7_2 < (l1.length : Int)) = true := decide_eq_true c8
   clear c8
   obtain ⟨(c9 : 0 ≤ x6_1), H⟩ := gd_ H
   have c9b0 : decide (0 ≤ x6_1) = true := decide_eq_true c9
   clear c9
   obtain ⟨(c10 : x6_1 < (l0.length : Int)), H⟩ := gd_ H
   have c10b0 : decide (x6_1 < (l0.length : Int)) = true := decide_eq_true c10
   clear c10
   replace H := Option.bind_eq_some_iff.mp H
   obtain ⟨t479, A110, H⟩ := H
   (try dsimp only at H)
   have A11 := Aside0.mk A110
   clear A110
   obtain ⟨(c12 : 0 ≤ t479), H⟩ := gd_ H
   have c12b0 : decide (0 ≤ t479) = true := decide_eq_true c12
   clear c12
   obtain ⟨(c13 : t479 < (l0.length : Int)), H⟩ := gd_ H
   have c13b0 : decide (t479 < (l0.length : Int)) = true := decide_eq_true c13
   clear c13
   obtain ⟨(c14 : 0 ≤ x7_2), H⟩ := gd_ H
   have c14b0 : decide (0 ≤ x7_2) = true := decide_eq_true c14
   clear c14
   replace H := Option.bind_eq_some_iff.mp H
   obtain ⟨t482, A150, H⟩ := H
   (try dsimp only at H)
   have A15 := Aside0.mk A150
   clear A150
   obtain ⟨(c16 : 0 ≤ t482), H⟩ := gd_ H
   have c16b0 : decide (0 ≤ t482) = true := decide_eq_true c16
   clear c16
   obtain ⟨(c17 : t482 < (l1.length : Int)), H⟩ := gd_ H
   have c17b0 : decide (t482 < (l1.length : Int)) = true := decide_eq_true c17
   clear c17
   replace H := Option.bind_eq_some_iff.mp H
   obtain ⟨t484, A180, H⟩ := H
   (try dsimp only at H)
   have A18 := Aside0.mk A180
   clear A180
   replace H := Option.bind_eq_some_iff.mp H
   obtain ⟨t485, A190, H⟩ := H
   (try dsimp only at H)
   have A19 := Aside0.mk A190
   clear A190
   have H' := Aside0.mk H
   clear H
   try go_wp2
   have n0_ := Aside0.mk (below_drew1 HB.out)
   clear HB
   have HB := n0_
   clear n0_
   have p478 : 0 ≤ (x6_1 : Int) := od_
   have q478 : x6_1 < (l0.length : Int) := od_
   obtain ⟨ad478, e478, hx478_0, hx478_1⟩ := at_T43 HR0.out x6_1 p478 q478
   have hw478_1 := hx478_1
   have hw478_0 := hx478_0
   cases e478
   replace hx478_0 := (hw_ HB hx478_0 :)
   replace hx478_1 := (hw_ HB hx478_1 :)
   replace p478 := eq_true p478
   replace q478 := eq_true q478
   have p481 : 0 ≤ (x7_2 : Int) := od_
   have q481 : x7_2 < (l1.length : Int) := od_
   obtain ⟨ad481, e481, hx481_0, hx481_1⟩ := at_T43 HR1.out x7_2 p481 q481
   have hw481_1 := hx481_1
   have hw481_0 := hx481_0
   cases e481
   replace hx481_0 := (hw_ HB hx481_0 :)
   replace hx481_1 := (hw_ HB hx481_1 :)
   replace p481 := eq_true p481
   replace q481 := eq_true q481
   have p480 : 0 ≤ (t479 : Int) := od_
   have q480 : t479 < (l0.length : Int) := od_
   obtain ⟨ad480, e480, hx480_0, hx480_1⟩ := at_T43 HR0.out t479 p480 q480
   have hw480_1 := hx480_1
   have hw480_0 := hx480_0
   obtain rfl : ad478 = ad480 := (by injection e480)
   replace hx480_0 := (hw_ HB hx480_0 :)
   replace hx480_1 := (hw_ HB hx480_1 :)
   replace p480 := eq_true p480
   replace q480 := eq_true q480
   have p483 : 0 ≤ (t482 : Int) := od_
   have q483 : t482 < (l1.length : Int) := od_
   obtain ⟨ad483, e483, hx483_0, hx483_1⟩ := at_T43 HR1.out t482 p483 q483
   have hw483_1 := hx483_1
   have hw483_0 := hx483_0
   obtain rfl : ad481 = ad483 := (by injection e483)
   replace hx483_0 := (hw_ HB hx483_0 :)
   replace hx483_1 := (hw_ HB hx483_1 :)
   replace p483 := eq_true p483
   replace q483 := eq_true q483
   refine start_ (n := 24) (S := fun w' => w'.cell? (ad478.add ((x6_1).toNat * 2)) = some (.int .i16 ((rd_T43 l0 x6_1).f0)) ∧ w'.cell? ⟨(ad478.add ((x6_1).toNat * 2)).block, (ad478.add ((x6_1).toNat * 2)).off + 1, none⟩ = some (.int .i16 ((rd_T43 l0 x6_1).f1)) ∧ w'.cell? (ad481.add ((x7_2).toNat * 2)) = some (.int .i16 ((rd_T43 l1 x7_2).f0)) ∧ w'.cell? ⟨(ad481.add ((x7_2).toNat * 2)).block, (ad481.add ((x7_2).toNat * 2)).off + 1, none⟩ = some (.int .i16 ((rd_T43 l1 x7_2).f1)) ∧ w'.cell? (ad478.add ((t479).toNat * 2)) = some (.int .i16 ((rd_T43 l0 t479).f0)) ∧ w'.cell? ⟨(ad478.add ((t479).toNat * 2)).block, (ad478.add ((t479).toNat * 2)).off + 1, none⟩ = some (.int .i16 ((rd_T43 l0 t479).f1)) ∧ w'.cell? (ad481.add ((t482).toNat * 2)) = some (.int .i16 ((rd_T43 l1 t482).f0)) ∧ w'.cell? ⟨(ad481.add ((t482).toNat * 2)).block, (ad481.add ((t482).toNat * 2)).off + 1, none⟩ = some (.int .i16 ((rd_T43 l1 t482).f1))) (ds := []) #[false, false, false, false, false, false, false, false, false, false, false, false, false, false, false, false, false, false, false, false, false, false, false, false] (by kernel_rfl) rfl rfl ⟨((hw_ HB hw478_0 :)), ((hw_ HB hw478_1 :)), ((hw_ HB hw481_0 :)), ((hw_ HB hw481_1 :)), ((hw_ HB hw480_0 :)), ((hw_ HB hw480_1 :)), ((hw_ HB hw483_0 :)), ((hw_ HB hw483_1 :))⟩ (fun hHeld => ?_); refine with_tabW spec_l03Seams.tab10 spec_l03Seams.bits10 (fun HT_ HW_ => ?_)
   generalize wr.drew = w20 at HB hx478_0 hx478_1 hx480_0 hx480_1 hx481_0 hx481_1 hx483_0 hx483_1 hHeld ⊢
   refine pu_ 0 23 (lA 24 1) ?_ ?_ HT_ ?_
   refine pu_ 1 24 (lA 24 3) ?_ ?_ HT_ ?_
   refine pu_ 2 25 (lA 24 7) ?_ ?_ HT_ ?_
   refine pu_ 3 26 (lA 24 15) ?_ ?_ HT_ ?_
   refine pu_ 5 28 (lA 24 47) ?_ ?_ HT_ ?_
   refine pu_ 6 29 (lA 24 111) ?_ ?_ HT_ ?_
   refine pu_ 7 30 (lA 24 239) ?_ ?_ HT_ ?_
   refine pu_ 11 34 (lA 24 2287) ?_ ?_ HT_ ?_
   refine pu_ 12 35 (lA 24 6383) ?_ ?_ HT_ ?_
   refine pu_ 13 36 (lA 24 14575) ?_ ?_ HT_ ?_
   refine pu_ 15 38 (lA 24 47343) ?_ ?_ HT_ ?_
   refine pu_ 16 39 (lA 24 112879) ?_ ?_ HT_ ?_
   refine pu_ 17 40 (lA 24 243951) ?_ ?_ HT_ ?_
   refine tk_ 4 27 (lA 24 243967) ?_ ?_ HT_ HW_ hHeld ?_
   refine tk_ 14 37 (lA 24 260351) ?_ ?_ HT_ HW_ hHeld ?_
   refine one_ (i := 8) (N := some 31) #[true, true, true, true, true, true, true, true, true, false, false, true, true, true, true, true, true, true, false, false, false, false, false, false] rfl rfl (one_of HT_.out (by kernel_rfl)) (by decide) (fun K hK => ?_)
   refine goes_ Try.func62 (by kernel_rfl) rfl #[.slice (some ad478) l0.length c0, .int .i64 x6_1] (by rfl) rfl rfl (by (try simp only [List.map_toArray, List.map_cons, List.map_nil]); first | done | rfl | (simp only [List.length_drop, List.length_take]; rfl)) ?_
   with_reducible refine (spec_l03Next.calls _ _ l0 x6_1 t479 _ ?side1 ?side2 A11.out).mono ?_
   (case side1 => exact kc_ (Kd.C_below HR0.out HB.out))
   (case side2 => exact HC0.out)
   rintro e w' ⟨rfl, ⟨nd, rfl⟩⟩
   refine ⟨_, rfl, ?_⟩
   refine hK.out _ _ ⟨((hw_ HB hw478_0 :)), ((hw_ HB hw478_1 :)), ((hw_ HB hw481_0 :)), ((hw_ HB hw481_1 :)), ((hw_ HB hw480_0 :)), ((hw_ HB hw480_1 :)), ((hw_ HB hw483_0 :)), ((hw_ HB hw483_1 :))⟩ (fun hHeld => ?_)
   clear hK K
   refine norm_ (a' := ?_) ?_ ?_
   rotate_left
   ·
    show Act.put _ (some 31) _ = _
    simp only [Act.put, List.setIfInBounds_toArray, List.set_cons_zero, List.set_cons_succ, i64_w, i32_w]
    rfl
   refine pu_ 9 32 (lA 24 261119) ?_ ?_ HT_ ?_
   refine tk_ 10 33 (lA 24 262143) ?_ ?_ HT_ HW_ hHeld ?_
   refine one_ (i := 18) (N := some 41) #[true, true, true, true, true, true, true, true, true, true, true, true, true, true, true, true, true, true, true, false, false, false, false, false] rfl rfl (one_of HT_.out (by kernel_rfl)) (by decide) (fun K hK => ?_)
   refine goes_ Try.func62 (by kernel_rfl) rfl #[.slice (some ad481) l1.length c1, .int .i64 x7_2] (by rfl) rfl rfl (by (try simp only [List.map_toArray, List.map_cons, List.map_nil]); first | done | rfl | (simp only [List.length_drop, List.length_take]; rfl)) ?_
   with_reducible refine (spec_l03Next.calls _ _ l1 x7_2 t482 _ ?side1 ?side2 A15.out).mono ?_
   (case side1 => repeat (first | exact (Kd.C_below HR1.out (kB_ HB)) | (with_reducible refine Kd.C_alloc ?_ _) | (with_reducible refine Kd.C_drewN ?_ _) | (with_reducible refine Kd.C_drew ?_)))
   (case side2 => exact HC1.out)
   rintro e w' ⟨rfl, ⟨nd, rfl⟩⟩
   refine ⟨_, rfl, ?_⟩
   refine hK.out _ _ ⟨((hw_ HB hw478_0 :)), ((hw_ HB hw478_1 :)), ((hw_ HB hw481_0 :)), ((hw_ HB hw481_1 :)), ((hw_ HB hw480_0 :)), ((hw_ HB hw480_1 :)), ((hw_ HB hw483_0 :)), ((hw_ HB hw483_1 :))⟩ (fun hHeld => ?_)
   clear hK K
   refine norm_ (a' := ?_) ?_ ?_
   rotate_left
   ·
    show Act.put _ (some 41) _ = _
    simp only [Act.put, List.setIfInBounds_toArray, List.set_cons_zero, List.set_cons_succ, i64_w, i32_w]
    rfl
   refine pu_ 19 42 (lA 24 1048575) ?_ ?_ HT_ ?_
   refine tk_ 20 43 (lA 24 2097151) ?_ ?_ HT_ HW_ hHeld ?_
   refine one_ (i := 21) (N := some 44) #[true, true, true, true, true, true, true, true, true, true, true, true, true, true, true, true, true, true, true, true, true, true, false, false] rfl rfl (one_of HT_.out (by kernel_rfl)) (by decide) (fun K hK => ?_)
   refine goes_ Try.func61 (by kernel_rfl) rfl #[.agg #[.int .i16 ((rd_T43 l0 x6_1).f0), .int .i16 ((rd_T43 l0 x6_1).f1)], .agg #[.int .i16 ((rd_T43 l0 t479).f0), .int .i16 ((rd_T43 l0 t479).f1)], .agg #[.int .i16 ((rd_T43 l1 x7_2).f0), .int .i16 ((rd_T43 l1 x7_2).f1)], .agg #[.int .i16 ((rd_T43 l1 t482).f0), .int .i16 ((rd_T43 l1 t482).f1)]] (by rfl) rfl rfl (by (try simp only [List.map_toArray, List.map_cons, List.map_nil]); first | done | rfl | (simp only [List.length_drop, List.length_take]; rfl)) ?_
   with_reducible refine (spec_l03Seam.calls k2 ((rd_T43 l0 x6_1).f0) ((rd_T43 l0 x6_1).f1) ((rd_T43 l0 t479).f0) ((rd_T43 l0 t479).f1) ((rd_T43 l1 x7_2).f0) ((rd_T43 l1 x7_2).f1) ((rd_T43 l1 t482).f0) ((rd_T43 l1 t482).f1) t484 _ A18.out).mono ?_
   rintro e w21 ⟨rfl, hb⟩
   refine ⟨_, rfl, ?_⟩
   have n0_ := bs_ HB hb
   clear HB
   have HB := n0_
   clear n0_
   refine hK.out _ _ ⟨((hw_ HB hw478_0 :)), ((hw_ HB hw478_1 :)), ((hw_ HB hw481_0 :)), ((hw_ HB hw481_1 :)), ((hw_ HB hw480_0 :)), ((hw_ HB hw480_1 :)), ((hw_ HB hw483_0 :)), ((hw_ HB hw483_1 :))⟩ (fun hHeld => ?_)
   clear hK K
   refine norm_ (a' := ?_) ?_ ?_
   rotate_left
   ·
    show Act.put _ (some 44) _ = _
    simp only [Act.put, List.setIfInBounds_toArray, List.set_cons_zero, List.set_cons_succ, i64_w, i32_w]
    rfl
   refine one_ (i := 22) (N := some 45) #[true, true, true, true, true, true, true, true, true, true, true, true, true, true, true, true, true, true, true, true, true, true, true, false] rfl rfl (one_of HT_.out (by kernel_rfl)) (by decide) (fun K hK => ?_)
   refine goes_ Try.func60 (by kernel_rfl) rfl #[.int .i64 x5_2, .int .i64 t484] (by rfl) rfl rfl (by (try simp only [List.map_toArray, List.map_cons, List.map_nil]); first | done | rfl | (simp only [List.length_drop, List.length_take]; rfl)) ?_
   with_reducible refine (spec_l00Max.calls x5_2 t484 t485 _ A19.out).mono ?_
   rintro e w' ⟨rfl, ⟨nd, rfl⟩⟩
   refine ⟨_, rfl, ?_⟩
   refine hK.out _ _ ⟨((hw_ HB hw478_0 :)), ((hw_ HB hw478_1 :)), ((hw_ HB hw481_0 :)), ((hw_ HB hw481_1 :)), ((hw_ HB hw480_0 :)), ((hw_ HB hw480_1 :)), ((hw_ HB hw483_0 :)), ((hw_ HB hw483_1 :))⟩ (fun hHeld => ?_)
   clear hK K
   refine norm_ (a' := ?_) ?_ ?_
   rotate_left
   ·
    show Act.put _ (some 45) _ = _
    simp only [Act.put, List.setIfInBounds_toArray, List.set_cons_zero, List.set_cons_succ, i64_w, i32_w]
    rfl
   refine pu_ 23 5 (lA 24 16777215) ?_ ?_ HT_ ?_
   refine done_ (done_of HT_.out (by kernel_rfl)) ?_
   try go_wp2
   go_roundg k2
   case measure => have := HK1.out; have := HK2.out; omega
   case rel => exact ⟨(t485), (wrap64 (x7_2 + 1)), (by first | rfl | (simp; done) | (simp [*]; done)), (by first | rfl | (simp; done) | (simp [*]; done)), H', ⟨by have := HK1.out; have := HK2.out; omega⟩, ⟨bl_ HB⟩⟩
end Go.Proofs.Ytllfeehchiikoaa.PA
namespace Go.Proofs.Ytllfeehchiikoaa.PA
open Go.RowKit Go.Proofs.YtllfeehchiikoaaW.PrintWords Go.Proofs.YtllfeehchiikoaaW.PrintLast Go.Proofs.YtllfeehchiikoaaW.PrintMore
set_option linter.unusedVariables false
set_option linter.unusedSimpArgs false

/-! ### spec_SeamsIn: function 17 -/
mutual
def spec_SeamsIn.l0 : Nat → List (List (S43)) → List (S49) → Int → Option ((List (S49)) × Int)
 | 0, _, _, _ => none
 | k + 1, x1, x6, x7 => if x7 < (x1.length : Int) then (spec_SeamsIn.l1 k x1 x6 x7 (wrap64 (x7 + 1))) else (some (x6, 0))
def spec_SeamsIn.l1 : Nat → List (List (S43)) → List (S49) → Int → Int → Option ((List (S49)) × Int)
 | 0, _, _, _, _ => none
 | k + 1, x1, x6, x7, x8 => if x8 < (x1.length : Int) then (if 0 ≤ x7 then (if x7 < (x1.length : Int) then (if 0 ≤ x8 then ((spec_l03Seams.f k (rd_L3 x1 x7) (rd_L3 x1 x8)).bind fun t496 => (if t496 > 0 then (if x6.length < 8796093022208 then (spec_SeamsIn.l1 k x1 (x6 ++ [(⟨x7, x8⟩ : S49)]) x7 (wrap64 (x8 + 1))) else (none)) else (spec_SeamsIn.l1 k x1 x6 x7 (wrap64 (x8 + 1))))) else (none)) else (none)) else (none)) else (spec_SeamsIn.l0 k x1 x6 (wrap64 (x7 + 1)))
end
def spec_SeamsIn.f (k : Nat) (a0_0 : Int) (a0_1 : Int) (l1 : List (List (S43))) : Option ((List (S49)) × Int) := (spec_l03Lay.f k a0_0 a0_1 l1).bind fun t487 => (if t487 = true then (spec_SeamsIn.l0 k l1 (([] : List (S49))) 0) else (some ((([] : List (S49))), 1)))
theorem spec_SeamsIn.mono_l : ∀ k, (∀ y0 y1 y2, LeO (spec_SeamsIn.l0 k y0 y1 y2) (spec_SeamsIn.l0 (k + 1) y0 y1 y2)) ∧ (∀ y0 y1 y2 y3, LeO (spec_SeamsIn.l1 k y0 y1 y2 y3) (spec_SeamsIn.l1 (k + 1) y0 y1 y2 y3))
 | 0 => ⟨fun _ _ _ r h => by simp [spec_SeamsIn.l0] at h, fun _ _ _ _ r h => by simp [spec_SeamsIn.l1] at h⟩
 | k + 1 => by
  obtain ⟨ih0, ih1⟩ := spec_SeamsIn.mono_l k
  refine ⟨?_, ?_⟩ <;> intros
  all_goals first | unfold spec_SeamsIn.l0 | unfold spec_SeamsIn.l1
  all_goals repeat' first
  | (with_reducible exact ih0 _ _ _)
  | (with_reducible exact ih1 _ _ _ _)
  | (with_reducible exact spec_l03Lay.mono _ _ _ _)
  | (with_reducible exact spec_l03Seams.mono _ _ _)
  | (with_reducible exact LeO.refl _)
  | (with_reducible exact LeO.none _)
  | (with_reducible refine LeO.ite ?_ ?_)
  | (with_reducible refine LeO.bind ?_ (fun _ => ?_))
theorem spec_SeamsIn.mono : ∀ a0 a1 a2 k, LeO (spec_SeamsIn.f k a0 a1 a2) (spec_SeamsIn.f (k + 1) a0 a1 a2) := by
 intro a0 a1 a2 k
 obtain ⟨ih0, ih1⟩ := spec_SeamsIn.mono_l k
 unfold spec_SeamsIn.f
 repeat' first
   | (with_reducible exact ih0 _ _ _)
   | (with_reducible exact ih1 _ _ _ _)
   | (with_reducible exact spec_l03Lay.mono _ _ _ _)
   | (with_reducible exact spec_l03Seams.mono _ _ _)
   | (with_reducible exact LeO.refl _)
   | (with_reducible exact LeO.none _)
   | (with_reducible refine LeO.ite ?_ ?_)
   | (with_reducible refine LeO.bind ?_ (fun _ => ?_))
def spec_SeamsIn.T10 : Bool × List (List Nat × List Nat) := (true, [([], []), ([], []), ([0, 1], [0, 1]), ([2], [2]), ([], []), ([], []), ([4, 5], [4, 5]), ([6], [6]), ([3, 7], [3, 7]), ([8], [8])])
def spec_SeamsIn.B10 : List Nat := [0, 0, 3, 7, 0, 0, 48, 112, 255, 511]
theorem spec_SeamsIn.tab10 : rtab .any (opsOf Try.f17 10) = spec_SeamsIn.T10 := by kernel_rfl
theorem spec_SeamsIn.bits10 : waitsOk spec_SeamsIn.T10.2 spec_SeamsIn.B10 = true := by kernel_rfl
set_option maxHeartbeats 8000000 in
set_option maxRecDepth 100000 in
theorem spec_SeamsIn.calls (k : Nat) (a0_0 : Int) (a0_1 : Int) (A1 : Option Addr) (c1 : Nat) (l1 : List (List (S43))) (r1 : List (S49)) (r2 : Int) (w : World) (hr1 : Kd.C (Kd.slice 43 k43) w A1 l1.length l1) (hc1 : l1.length ≤ c1) (h : spec_SeamsIn.f k a0_0 a0_1 l1 = some (r1, r2)) :
  Calls Try.prog 17 #[.agg #[.int .i16 a0_0, .int .i16 a0_1], .slice A1 l1.length c1] w fun e w' => ∃ v0_ : Value, e = .returned (.tuple #[v0_, .int .i64 r2]) ∧ Kd.R k49 49 w' w.heap.size (fun _ => True) v0_ r1 ∧ Below w.heap.size w w' := by
 have hu26 := Try.underlying26
 have hu49 := Try.underlying49
 have HR1 := Aside0.mk hr1
 have HC1 := Aside0.mk hc1
 clear hr1 hc1
 have HB := Aside0.mk (Below.refl w.heap.size w)
 have H : ((spec_l03Lay.f k a0_0 a0_1 l1).bind fun t487 => (if t487 = true then (spec_SeamsIn.l0 k l1 (([] : List (S49))) 0) else (some ((([] : List (S49))), 1)))) = some (r1, r2) := h
 clear h
 replace H := Option.bind_eq_some_iff.mp H
 obtain ⟨t487, A30, H⟩ := H
 (try dsimp only at H)
 have A3 := Aside0.mk A30
 clear A30
 rcases (Decidable.em (t487 = true)).symm with c4 | c4
 ·
  replace c4 := Bool.eq_false_iff.mpr c4
  subst c4
  replace H := gf_ H
  obtain ⟨y488, hy488⟩ : ∃ y_ : List (S49), y_ = (([] : List (S49))) := ⟨_, rfl⟩
  replace H : (some (y488, 1)) = some (r1, r2) := by first | (rw [hy488]; with_reducible exact H) | (have H2_ := (Option.bind_some _ _).symm.trans H; rw [hy488]; with_reducible exact H2_) | (have H2_ := (Option.bind_some _ _).symm.trans H; with_reducible exact H2_) | with_reducible exact H | (rw [hy488]; exact H) | exact H
  have Ny488 := Aside0.mk hy488
  clear hy488
  simp only [Option.some.injEq, Prod.mk.injEq] at H
  obtain ⟨rfl, rfl⟩ := H
  go_enter Try.func17, Try.ntmps17
  go_wp2_with (first | ((with_reducible refine gate_dst (N := 2) rfl ?_); refine boxM_ 2 #[.int .i16 a0_0, .int .i16 a0_1] 26 ?_; intro gb486 hg w23 hbox hb; have BK486 := Aside0.mk (hbox); have GW486 := ge_ HB hg; have GE486 := ge_ HB hg; replace HB := bs_ HB hb; clear hb hbox hg; obtain ⟨⟨hcz24_0, hcz24_1⟩, hfz24_0, hfz24_1⟩ := bq_ BK486) | ((with_reducible refine gate_callee (f := 25) rfl ?_); refine goM_ (some 11) Try.func25 #[.agg #[.int .i16 a0_0, .int .i16 a0_1], .slice A1 l1.length c1] ?_; (with_reducible refine (spec_l03Lay.calls k a0_0 a0_1 _ _ l1 false _ ?side1 ?side2 A3.out).mono ?_); (case side1 => exact kc_ (Kd.C_below HR1.out HB.out)); (case side2 => exact HC1.out); rintro e w25 ⟨rfl, hb⟩; refine ⟨_, rfl, ?_⟩; replace BK486 := bd_ BK486 hb; replace HB := bs_ HB hb; clear hb) | ((with_reducible refine gate_dst (N := 13) rfl ?_); refine Kd.R_lit k49 _ 49 ?hg (N := 13) ?hd (xs := ([] : List (S49))) (inner := []) (ok := fun _ => True) (okp := fun _ => True) ?hr ?hp (fun _ hk => hk) trivial (Below.refl _ _) (Nat.le_refl _) (by simp) ?_; (case hd => rfl); (case hg => rfl); (case hr => first | (go_simp; done) | (go_simp; rfl)); (case hp => exact (Reps.none _ _)); intro v489 w26 ho27 hb hg_ hnew_; clear hg_ hnew_; (first | rw [← Ny488.out] at ho27 | (simp only [Int.reduceToNat] at ho27; rw [← Ny488.out] at ho27)); have HO490 := Aside0.mk (Kd.R_lower ho27 (below_size (k1_ HB GE486))); replace BK486 := bd_ BK486 hb; replace HB := bs_ HB hb; clear hb ho27))
  go_ret2
  exact ⟨_, by first | rfl | (simp [errW_none, errW_some] <;> rfl) | (simp [*, errW_none, errW_some] <;> rfl), by (with_reducible repeat (first | apply Kd.R_alloc | apply Kd.R_drewN | apply Kd.R_drew)); exact HO490.out, bl_ HB⟩

 subst c4
 replace H := gt_ H
 obtain ⟨y491, hy491⟩ : ∃ y_ : List (S49), y_ = (([] : List (S49))) := ⟨_, rfl⟩
 replace H : (spec_SeamsIn.l0 k l1 y491 0) = some (r1, r2) := by first | (rw [hy491]; with_reducible exact H) | (have H2_ := (Option.bind_some _ _).symm.trans H; rw [hy491]; with_reducible exact H2_) | (have H2_ := (Option.bind_some _ _).symm.trans H; with_reducible exact H2_) | with_reducible exact H | (rw [hy491]; exact H) | exact H
 have Ny491 := Aside0.mk hy491
 clear hy491
 have H' := Aside0.mk H
 clear H
 go_enter Try.func17, Try.ntmps17
 go_wp2_with (first | ((with_reducible refine gate_dst (N := 2) rfl ?_); refine boxM_ 2 #[.int .i16 a0_0, .int .i16 a0_1] 26 ?_; intro gb486 hg w5 hbox hb; have BK486 := Aside0.mk (hbox); have GW486 := ge_ HB hg; have GE486 := ge_ HB hg; replace HB := bs_ HB hb; clear hb hbox hg; obtain ⟨⟨hcz6_0, hcz6_1⟩, hfz6_0, hfz6_1⟩ := bq_ BK486) | ((with_reducible refine gate_callee (f := 25) rfl ?_); refine goM_ (some 11) Try.func25 #[.agg #[.int .i16 a0_0, .int .i16 a0_1], .slice A1 l1.length c1] ?_; (with_reducible refine (spec_l03Lay.calls k a0_0 a0_1 _ _ l1 true _ ?side1 ?side2 A3.out).mono ?_); (case side1 => exact kc_ (Kd.C_below HR1.out HB.out)); (case side2 => exact HC1.out); rintro e w7 ⟨rfl, hb⟩; refine ⟨_, rfl, ?_⟩; replace BK486 := bd_ BK486 hb; replace HB := bs_ HB hb; clear hb) | ((with_reducible refine gate_dst (N := 14) rfl ?_); refine Kd.R_lit k49 _ 49 ?hg (N := 14) ?hd (xs := ([] : List (S49))) (inner := []) (ok := fun _ => True) (okp := fun _ => True) ?hr ?hp (fun _ hk => hk) trivial (Below.refl _ _) (Nat.le_refl _) (by simp) ?_; (case hd => rfl); (case hg => rfl); (case hr => first | (go_simp; done) | (go_simp; rfl)); (case hp => exact (Reps.none _ _)); intro v492 w8 ho9 hb hg_ hnew_; clear hg_ hnew_; (first | rw [← Ny491.out] at ho9 | (simp only [Int.reduceToNat] at ho9; rw [← Ny491.out] at ho9)); have HO493 := Aside0.mk (Kd.R_lower ho9 (below_size (k1_ HB GE486))); replace BK486 := bd_ BK486 hb; replace HB := bs_ HB hb; clear hb ho9))
 go_loopg [6, 7] k (fun kq v6 v7 w' => ∃ (x6_1 : List (S49)) (x7_1 : Int), v7 = .int .i64 x7_1 ∧ Aside0 (spec_SeamsIn.l0 kq l1 x6_1 x7_1 = some (r1, r2)) ∧ Aside0 (kq ≤ k) ∧ Aside0 (Kd.R k49 49 w' w.heap.size (fun _ => True) v6 x6_1) ∧ Aside0 (w'.heap[gb486]? = some (.cells #[.int .i16 a0_0, .int .i16 a0_1] 26 (0, 0))) ∧ Aside0 (Below w.heap.size w w'))
 case atStart => exact ⟨(y491), (0), (by first | rfl | (simp; done) | (simp [*]; done)), H', ⟨Nat.le_refl _⟩, ⟨kp_ HO493⟩, ⟨bk_ BK486⟩, ⟨bl_ HB⟩⟩
 case round =>
  clear H'
  obtain ⟨x6_1, x7_1, rfl, HA, HK1, HO_6, BK486, HB⟩ := hrel
  rcases gk with _ | k1
  · exact absurd HA.out (by simp [spec_SeamsIn.l0])
  have H := HA.out
  clear HA
  simp only [spec_SeamsIn.l0] at H
  rcases (Decidable.em (x7_1 < (l1.length : Int))).symm with c10 | c10
  ·
   rw [if_neg c10] at H
   have c10b0 : decide (x7_1 < (l1.length : Int)) = false := decide_eq_false c10
   clear c10
   simp only [Option.some.injEq, Prod.mk.injEq] at H
   obtain ⟨rfl, rfl⟩ := H
   go_wp2
   go_ret2
   exact ⟨_, by first | rfl | (simp [errW_none, errW_some] <;> rfl) | (simp [*, errW_none, errW_some] <;> rfl), by (with_reducible repeat (first | apply Kd.R_alloc | apply Kd.R_drewN | apply Kd.R_drew)); exact HO_6.out, bl_ HB⟩
  rw [if_pos c10] at H
  have c10b0 : decide (x7_1 < (l1.length : Int)) = true := decide_eq_true c10
  clear c10
  have H' := Aside0.mk H
  clear H
  go_wp2
  go_loopg [6, 8] k1 (fun kq v6 v8 w' => ∃ (x6_2 : List (S49)) (x8_2 : Int), v8 = .int .i64 x8_2 ∧ Aside0 (spec_SeamsIn.l1 kq l1 x6_2 x7_1 x8_2 = some (r1, r2)) ∧ Aside0 (kq ≤ k1) ∧ Aside0 (Kd.R k49 49 w' w.heap.size (fun _ => True) v6 x6_2) ∧ Aside0 (w'.heap[gb486]? = some (.cells #[.int .i16 a0_0, .int .i16 a0_1] 26 (0, 0))) ∧ Aside0 (Below w.heap.size w w'))
  case atStart => exact ⟨(x6_1), (wrap64 (x7_1 + 1)), (by first | rfl | (simp; done) | (simp [*]; done)), H', ⟨Nat.le_refl _⟩, ⟨kp_ HO_6⟩, ⟨bk_ BK486⟩, ⟨bl_ HB⟩⟩
  case round =>
   clear H'
   obtain ⟨x6_2, x8_2, rfl, HA, HK2, HO_6, BK486, HB⟩ := hrel
   rcases gk with _ | k2
   · exact absurd HA.out (by simp [spec_SeamsIn.l1])
   have H := HA.out
   clear HA
   simp only [spec_SeamsIn.l1] at H
   rcases (Decidable.em (x8_2 < (l1.length : Int))).symm with c11 | c11
   ·
    rw [if_neg c11] at H
    have c11b0 : decide (x8_2 < (l1.length : Int)) = false := decide_eq_false c11
    clear c11
    have H' := Aside0.mk H
    clear H
    go_wp2
    go_roundg k2
    case measure => have := HK1.out; have := HK2.out; omega
    case rel => exact ⟨(x6_2), (wrap64 (x7_1 + 1)), (by first | rfl | (simp; done) | (simp [*]; done)), H', ⟨by have := HK1.out; have := HK2.out; omega⟩, ⟨kp_ HO_6⟩, ⟨bk_ BK486⟩, ⟨bl_ HB⟩⟩
   rw [if_pos c11] at H
   have c11b0 : decide (x8_2 < (l1.length : Int)) = true := decide_eq_true c11
   clear c11
   obtain ⟨(c12 : 0 ≤ x7_1), H⟩ := gd_ H
   have c12b0 : decide (0 ≤ x7_1) = true := decide_eq_true c12
   clear c12
   obtain ⟨(c13 : x7_1 < (l1.length : Int)), H⟩ := gd_ H
   have c13b0 : decide (x7_1 < (l1.length : Int)) = true := decide_eq_true c13
   clear c13
   obtain ⟨(c14 : 0 ≤ x8_2), H⟩ := gd_ H
   have c14b0 : decide (0 ≤ x8_2) = true := decide_eq_true c14
   clear c14
   replace H := Option.bind_eq_some_iff.mp H
   obtain ⟨t496, A150, H⟩ := H
   (try dsimp only at H)
   have A15 := Aside0.mk A150
   clear A150
   rcases (Decidable.em (t496 > 0)).symm with c16 | c16
   ·
    rw [if_neg c16] at H
    have c16b0 : decide (0 < t496) = false := decide_eq_false c16
    clear c16
    have H' := Aside0.mk H
    clear H
    try go_wp2
    have n0_ := Aside0.mk (Kd.R_drew HO_6.out)
    have n1_ := Aside0.mk (blk_drew BK486.out)
    have n2_ := Aside0.mk (below_drew1 HB.out)
    clear HO_6
    clear BK486
    clear HB
    have HO_6 := n0_
    have BK486 := n1_
    have HB := n2_
    clear n0_ n1_ n2_
    have p494 : 0 ≤ (x7_1 : Int) := od_
    have q494 : x7_1 < (l1.length : Int) := od_
    obtain ⟨ad494, A494_0, c494_0, e494, hx494_0, hl494_0, hi494_0⟩ := at_L3 HR1.out x7_1 p494 q494
    have hw494_0 := hx494_0
    cases e494
    replace hx494_0 := (hw_ HB hx494_0 :)
    have HR494_0 := Aside0.mk hi494_0
    have HC494_0 := Aside0.mk hl494_0
    clear hi494_0 hl494_0
    replace p494 := eq_true p494
    replace q494 := eq_true q494
    have p495 : 0 ≤ (x8_2 : Int) := od_
    have q495 : x8_2 < (l1.length : Int) := od_
    obtain ⟨ad495, A495_0, c495_0, e495, hx495_0, hl495_0, hi495_0⟩ := at_L3 HR1.out x8_2 p495 q495
    have hw495_0 := hx495_0
    obtain rfl : ad494 = ad495 := (by injection e495)
    replace hx495_0 := (hw_ HB hx495_0 :)
    have HR495_0 := Aside0.mk hi495_0
    have HC495_0 := Aside0.mk hl495_0
    clear hi495_0 hl495_0
    replace p495 := eq_true p495
    replace q495 := eq_true q495
    refine start_ (n := 10) (S := fun w' => w'.cell? (ad494.add (x7_1).toNat) = some (.slice A494_0 (rd_L3 l1 x7_1).length c494_0) ∧ w'.cell? (ad494.add (x8_2).toNat) = some (.slice A495_0 (rd_L3 l1 x8_2).length c495_0)) (ds := []) #[false, false, false, false, false, false, false, false, false, false] (by kernel_rfl) rfl rfl ⟨((hw_ HB hw494_0 :)), ((hw_ HB hw495_0 :))⟩ (fun hHeld => ?_); refine with_tabW spec_SeamsIn.tab10 spec_SeamsIn.bits10 (fun HT_ HW_ => ?_)
    generalize wr.drew = w21 at HO_6 BK486 HB HR494_0 HR495_0 hx494_0 hx495_0 hHeld ⊢
    refine pu_ 0 29 (lA 10 1) ?_ ?_ HT_ ?_
    refine pu_ 1 30 (lA 10 3) ?_ ?_ HT_ ?_
    refine pu_ 2 31 (lA 10 7) ?_ ?_ HT_ ?_
    refine pu_ 4 33 (lA 10 23) ?_ ?_ HT_ ?_
    refine pu_ 5 34 (lA 10 55) ?_ ?_ HT_ ?_
    refine pu_ 6 35 (lA 10 119) ?_ ?_ HT_ ?_
    refine tk_ 3 32 (lA 10 127) ?_ ?_ HT_ HW_ hHeld ?_
    refine tk_ 7 36 (lA 10 255) ?_ ?_ HT_ HW_ hHeld ?_
    refine one_ (i := 8) (N := some 37) #[true, true, true, true, true, true, true, true, true, false] rfl rfl (one_of HT_.out (by kernel_rfl)) (by decide) (fun K hK => ?_)
    refine goes_ Try.func41 (by kernel_rfl) rfl #[.slice A494_0 (rd_L3 l1 x7_1).length c494_0, .slice A495_0 (rd_L3 l1 x8_2).length c495_0] (by rfl) rfl rfl (by (try simp only [List.map_toArray, List.map_cons, List.map_nil]); first | done | rfl | (simp only [List.length_drop, List.length_take]; rfl)) ?_
    with_reducible refine (spec_l03Seams.calls k2 _ _ (rd_L3 l1 x7_1) _ _ (rd_L3 l1 x8_2) t496 _ ?side1 ?side2 ?side3 ?side4 A15.out).mono ?_
    (case side1 => exact kc_ (Kd.C_below HR494_0.out HB.out))
    (case side2 => exact HC494_0.out)
    (case side3 => exact kc_ (Kd.C_below HR495_0.out HB.out))
    (case side4 => exact HC495_0.out)
    rintro e w22 ⟨rfl, hb⟩
    refine ⟨_, rfl, ?_⟩
    have n0_ := Aside0.mk (Kd.R_below (kp_ HO_6) hb)
    have n1_ := bd_ BK486 hb
    have n2_ := bs_ HB hb
    clear HO_6
    clear BK486
    clear HB
    have HO_6 := n0_
    have BK486 := n1_
    have HB := n2_
    clear n0_ n1_ n2_
    refine hK.out _ _ ⟨((hw_ HB hw494_0 :)), ((hw_ HB hw495_0 :))⟩ (fun hHeld => ?_)
    clear hK K
    refine norm_ (a' := ?_) ?_ ?_
    rotate_left
    ·
     show Act.put _ (some 37) _ = _
     simp only [Act.put, List.setIfInBounds_toArray, List.set_cons_zero, List.set_cons_succ, i64_w, i32_w]
     rfl
    refine pu_ 9 38 (lA 10 1023) ?_ ?_ HT_ ?_
    refine done_ (done_of HT_.out (by kernel_rfl)) ?_
    try go_wp2
    go_roundg k2
    case measure => have := HK1.out; have := HK2.out; omega
    case rel => exact ⟨(x6_2), (wrap64 (x8_2 + 1)), (by first | rfl | (simp; done) | (simp [*]; done)), H', ⟨by have := HK1.out; have := HK2.out; omega⟩, ⟨kp_ HO_6⟩, ⟨bk_ BK486⟩, ⟨bl_ HB⟩⟩
   rw [if_pos c16] at H
   have c16b0 : decide (0 < t496) = true := decide_eq_true c16
   clear c16
   obtain ⟨(c17 : x6_2.length < 8796093022208), H⟩ := gd_ H
   have LMc17 := Aside0.mk c17
   clear c17
   obtain ⟨y497, hy497⟩ : ∃ y_ : List (S49), y_ = (x6_2 ++ [(⟨x7_1, x8_2⟩ : S49)]) := ⟨_, rfl⟩
   replace H : (spec_SeamsIn.l1 k2 l1 y497 x7_1 (wrap64 (x8_2 + 1))) = some (r1, r2) := by first | (rw [hy497]; with_reducible exact H) | (have H2_ := (Option.bind_some _ _).symm.trans H; rw [hy497]; with_reducible exact H2_) | (have H2_ := (Option.bind_some _ _).symm.trans H; with_reducible exact H2_) | with_reducible exact H | (rw [hy497]; exact H) | exact H
   have Ny497 := Aside0.mk hy497
   clear hy497
   have H' := Aside0.mk H
   clear H
   try go_wp2
   have n0_ := Aside0.mk (Kd.R_drew HO_6.out)
   have n1_ := Aside0.mk (blk_drew BK486.out)
   have n2_ := Aside0.mk (below_drew1 HB.out)
   clear HO_6
   clear BK486
   clear HB
   have HO_6 := n0_
   have BK486 := n1_
   have HB := n2_
   clear n0_ n1_ n2_
   have p494 : 0 ≤ (x7_1 : Int) := od_
   have q494 : x7_1 < (l1.length : Int) := od_
   obtain ⟨ad494, A494_0, c494_0, e494, hx494_0, hl494_0, hi494_0⟩ := at_L3 HR1.out x7_1 p494 q494
   have hw494_0 := hx494_0
   cases e494
   replace hx494_0 := (hw_ HB hx494_0 :)
   have HR494_0 := Aside0.mk hi494_0
   have HC494_0 := Aside0.mk hl494_0
   clear hi494_0 hl494_0
   replace p494 := eq_true p494
   replace q494 := eq_true q494
   have p495 : 0 ≤ (x8_2 : Int) := od_
   have q495 : x8_2 < (l1.length : Int) := od_
   obtain ⟨ad495, A495_0, c495_0, e495, hx495_0, hl495_0, hi495_0⟩ := at_L3 HR1.out x8_2 p495 q495
   have hw495_0 := hx495_0
   obtain rfl : ad494 = ad495 := (by injection e495)
   replace hx495_0 := (hw_ HB hx495_0 :)
   have HR495_0 := Aside0.mk hi495_0
   have HC495_0 := Aside0.mk hl495_0
   clear hi495_0 hl495_0
   replace p495 := eq_true p495
   replace q495 := eq_true q495
   refine start_ (n := 10) (S := fun w' => w'.cell? (ad494.add (x7_1).toNat) = some (.slice A494_0 (rd_L3 l1 x7_1).length c494_0) ∧ w'.cell? (ad494.add (x8_2).toNat) = some (.slice A495_0 (rd_L3 l1 x8_2).length c495_0)) (ds := []) #[false, false, false, false, false, false, false, false, false, false] (by kernel_rfl) rfl rfl ⟨((hw_ HB hw494_0 :)), ((hw_ HB hw495_0 :))⟩ (fun hHeld => ?_); refine with_tabW spec_SeamsIn.tab10 spec_SeamsIn.bits10 (fun HT_ HW_ => ?_)
   generalize wr.drew = w18 at HO_6 BK486 HB HR494_0 HR495_0 hx494_0 hx495_0 hHeld ⊢
   refine pu_ 0 29 (lA 10 1) ?_ ?_ HT_ ?_
   refine pu_ 1 30 (lA 10 3) ?_ ?_ HT_ ?_
   refine pu_ 2 31 (lA 10 7) ?_ ?_ HT_ ?_
   refine pu_ 4 33 (lA 10 23) ?_ ?_ HT_ ?_
   refine pu_ 5 34 (lA 10 55) ?_ ?_ HT_ ?_
   refine pu_ 6 35 (lA 10 119) ?_ ?_ HT_ ?_
   refine tk_ 3 32 (lA 10 127) ?_ ?_ HT_ HW_ hHeld ?_
   refine tk_ 7 36 (lA 10 255) ?_ ?_ HT_ HW_ hHeld ?_
   refine one_ (i := 8) (N := some 37) #[true, true, true, true, true, true, true, true, true, false] rfl rfl (one_of HT_.out (by kernel_rfl)) (by decide) (fun K hK => ?_)
   refine goes_ Try.func41 (by kernel_rfl) rfl #[.slice A494_0 (rd_L3 l1 x7_1).length c494_0, .slice A495_0 (rd_L3 l1 x8_2).length c495_0] (by rfl) rfl rfl (by (try simp only [List.map_toArray, List.map_cons, List.map_nil]); first | done | rfl | (simp only [List.length_drop, List.length_take]; rfl)) ?_
   with_reducible refine (spec_l03Seams.calls k2 _ _ (rd_L3 l1 x7_1) _ _ (rd_L3 l1 x8_2) t496 _ ?side1 ?side2 ?side3 ?side4 A15.out).mono ?_
   (case side1 => exact kc_ (Kd.C_below HR494_0.out HB.out))
   (case side2 => exact HC494_0.out)
   (case side3 => exact kc_ (Kd.C_below HR495_0.out HB.out))
   (case side4 => exact HC495_0.out)
   rintro e w19 ⟨rfl, hb⟩
   refine ⟨_, rfl, ?_⟩
   have n0_ := Aside0.mk (Kd.R_below (kp_ HO_6) hb)
   have n1_ := bd_ BK486 hb
   have n2_ := bs_ HB hb
   clear HO_6
   clear BK486
   clear HB
   have HO_6 := n0_
   have BK486 := n1_
   have HB := n2_
   clear n0_ n1_ n2_
   refine hK.out _ _ ⟨((hw_ HB hw494_0 :)), ((hw_ HB hw495_0 :))⟩ (fun hHeld => ?_)
   clear hK K
   refine norm_ (a' := ?_) ?_ ?_
   rotate_left
   ·
    show Act.put _ (some 37) _ = _
    simp only [Act.put, List.setIfInBounds_toArray, List.set_cons_zero, List.set_cons_succ, i64_w, i32_w]
    rfl
   refine pu_ 9 38 (lA 10 1023) ?_ ?_ HT_ ?_
   refine done_ (done_of HT_.out (by kernel_rfl)) ?_
   try go_wp2_with (first | ((with_reducible refine gate_builtin (b := .append) (xs := #[.tmp 39, .tmp 43]) rfl ?_); at_builtin; refine Kd.R_append k49 (w0 := w) w.heap.size rfl (.tmp 39) (.tmp 43) 45 49 (.agg #[(.int .i64 0), (.int .i64 0)]) 16 rfl Try.underlying45 info49 rfl (by decide) (by omega) u6 x6_2 (⟨x7_1, x8_2⟩ : S49) [.int .i64 x7_1, .int .i64 x8_2] (fun _ => True) (fun _ => False) rfl rfl ?aP (fun _ hk => hk.elim) ?aF ?aO ?aB ?aS ?aL ?_; (case aP => exact k49_mkM _ _ _ (⟨x7_1, x8_2⟩ : S49)); (case aB => exact (k1_ HB GE486)); (case aF => exact (fun _ _ => trivial)); (case aO => exact (kp_ HO_6)); (case aS => exact (below_size (k1_ HB GE486))); (case aL => have := LMc17.out; omega); intro v498 w20 ho hb hg hat; rw [← Ny497.out] at ho; have n0_ := Aside0.mk (blk_grown (g := gb486) (o := .cells #[.int .i16 a0_0, .int .i16 a0_1] 26 (0, 0)) (kb_ BK486) hg (Kd.R_ne HO_6.out BK486.out (by decide))); have n1_ := Aside0.mk (hb); have n2_ := Aside0.mk (ho); clear BK486; clear HB; clear HO_6; have BK486 := n0_; have HB := n1_; have HO499 := n2_; clear n0_ n1_ n2_; clear ho hb hg hat))
   go_roundg k2
   case measure => have := HK1.out; have := HK2.out; omega
   case rel => exact ⟨(y497), (wrap64 (x8_2 + 1)), (by first | rfl | (simp; done) | (simp [*]; done)), H', ⟨by have := HK1.out; have := HK2.out; omega⟩, ⟨kp_ HO499⟩, ⟨bk_ BK486⟩, ⟨bl_ HB⟩⟩
end Go.Proofs.Ytllfeehchiikoaa.PA
