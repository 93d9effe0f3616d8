/- Pure functions, and that Go's functions come to them. -/
import Derived.Test.YtmglnofmmgokkaaPAx0
import Derived.Test.YtmglnofmmgokkaaPAxgSpec
namespace Go.Proofs.Ytmglnofmmgokkaa.PA
open Go.RowKit Go.Proofs.YtmglnofmmgokkaaW.PrintWords Go.Proofs.YtmglnofmmgokkaaW.PrintLast Go.Proofs.YtmglnofmmgokkaaW.PrintMore
set_option linter.unusedVariables false
set_option linter.unusedSimpArgs false

/-! ### spec_l03Apart: function 30 -/
mutual
def spec_l03Apart.l0 : Nat → List (S34) → List (S34) → Bool → Int → Option (Bool)
 | 0, _, _, _, _ => none
 | k + 1, x0, x1, x2, x7 => if x7 < (x0.length : Int) then (spec_l03Apart.l1 k x0 x1 x2 x7 true 0) else (some false)
def spec_l03Apart.l1 : Nat → List (S34) → List (S34) → Bool → Int → Bool → Int → Option (Bool)
 | 0, _, _, _, _, _, _ => none
 | k + 1, x0, x1, x2, x7, x8, x9 => if x9 < (x1.length : Int) then (if 0 ≤ x7 then (if x7 < (x0.length : Int) then ((spec_l03Next.f x0 x7).bind fun t262 => (if 0 ≤ t262 then (if t262 < (x0.length : Int) then (if 0 ≤ x9 then ((spec_l03Side.f ((rd_T34 x0 x7).f0) ((rd_T34 x0 x7).f1) ((rd_T34 x0 t262).f0) ((rd_T34 x0 t262).f1) ((rd_T34 x1 x9).f0) ((rd_T34 x1 x9).f1)).bind fun t265 => (if t265 > 0 then (spec_l03Apart.l1 k x0 x1 x2 x7 false (wrap64 (x9 + 1))) else (if t265 = 0 then (if x2 = true then (spec_l03Apart.l1 k x0 x1 x2 x7 x8 (wrap64 (x9 + 1))) else (spec_l03Apart.l1 k x0 x1 x2 x7 false (wrap64 (x9 + 1)))) else (spec_l03Apart.l1 k x0 x1 x2 x7 x8 (wrap64 (x9 + 1)))))) else (none)) else (none)) else (none))) else (none)) else (none)) else (if x8 = true then (some true) else (spec_l03Apart.l0 k x0 x1 x2 (wrap64 (x7 + 1))))
end
def spec_l03Apart.f (k : Nat) (l0 : List (S34)) (l1 : List (S34)) (a2 : Bool) : Option (Bool) := spec_l03Apart.l0 k l0 l1 a2 0
theorem spec_l03Apart.mono_l : ∀ k, (∀ y0 y1 y2 y3, LeO (spec_l03Apart.l0 k y0 y1 y2 y3) (spec_l03Apart.l0 (k + 1) y0 y1 y2 y3)) ∧ (∀ y0 y1 y2 y3 y4 y5, LeO (spec_l03Apart.l1 k y0 y1 y2 y3 y4 y5) (spec_l03Apart.l1 (k + 1) y0 y1 y2 y3 y4 y5))
 | 0 => ⟨fun _ _ _ _ r h => by simp [spec_l03Apart.l0] at h, fun _ _ _ _ _ _ r h => by simp [spec_l03Apart.l1] at h⟩
 | k + 1 => by
  obtain ⟨ih0, ih1⟩ := spec_l03Apart.mono_l k
  refine ⟨?_, ?_⟩ <;> intros
  all_goals first | unfold spec_l03Apart.l0 | unfold spec_l03Apart.l1
  all_goals repeat' first | (with_reducible first | exact ih0 _ _ _ _ | exact ih1 _ _ _ _ _ _ | exact LeO.refl _ | exact LeO.none _ | refine LeO.ite ?_ ?_ | refine LeO.bind ?_ (fun _ => ?_))
theorem spec_l03Apart.mono : ∀ a0 a1 a2 k, LeO (spec_l03Apart.f k a0 a1 a2) (spec_l03Apart.f (k + 1) a0 a1 a2) := by
 intro a0 a1 a2 k
 obtain ⟨ih0, ih1⟩ := spec_l03Apart.mono_l k
 unfold spec_l03Apart.f
 repeat' first | (with_reducible first | exact ih0 _ _ _ _ | exact ih1 _ _ _ _ _ _ | exact LeO.refl _ | exact LeO.none _ | refine LeO.ite ?_ ?_ | refine LeO.bind ?_ (fun _ => ?_))
def spec_l03Apart.T8 : Bool × List (List Nat × List Nat) := (true, [([], []), ([], []), ([0, 1], [0, 1]), ([2], [2]), ([], []), ([], []), ([], []), ([5, 6], [5, 6]), ([4, 7], [4, 7]), ([8], [8]), ([], []), ([], []), ([10, 11], [10, 11]), ([12], [12]), ([3, 9, 13, 7], [3, 9, 13]), ([14, 14, 0, 1, 2, 3, 4, 5, 6, 7, 8, 9, 10, 11, 12, 13, 14], [14])])
def spec_l03Apart.B8 : List Nat := [0, 0, 3, 7, 0, 0, 0, 96, 240, 496, 0, 0, 3072, 7168, 16383, 32767]
theorem spec_l03Apart.tab8 : rtab .any (opsOf Try.f30 8) = spec_l03Apart.T8 := by kernel_rfl
theorem spec_l03Apart.bits8 : waitsOk spec_l03Apart.T8.2 spec_l03Apart.B8 = true := by kernel_rfl
set_option maxHeartbeats 8000000 in
set_option maxRecDepth 100000 in
theorem spec_l03Apart.calls (k : Nat) (A0 : Option Addr) (c0 : Nat) (l0 : List (S34)) (A1 : Option Addr) (c1 : Nat) (l1 : List (S34)) (a2 : Bool) (r : Bool) (w : World) (hr0 : Kd.C k34 w A0 l0.length l0) (hc0 : l0.length ≤ c0) (hr1 : Kd.C k34 w A1 l1.length l1) (hc1 : l1.length ≤ c1) (h : spec_l03Apart.f k l0 l1 a2 = some r) :
  Calls Try.prog 30 #[.slice A0 l0.length c0, .slice A1 l1.length c1, .bool a2] w fun e w' => e = .returned (.bool r) ∧ Below w.heap.size w w' := by
 have hu34 := Try.underlying34
 have HR0 := Aside0.mk hr0
 have HC0 := Aside0.mk hc0
 clear hr0 hc0
 have HR1 := Aside0.mk hr1
 have HC1 := Aside0.mk hc1
 clear hr1 hc1
 have HB := Aside0.mk (Below.refl w.heap.size w)
 have H : (spec_l03Apart.l0 k l0 l1 a2 0) = some r := h
 clear h
 have H' := Aside0.mk H
 clear H
 go_enter Try.func30, Try.ntmps30
 go_wp2
 go_loopg [7] k (fun kq v7 w' => ∃ (x7_1 : Int), v7 = .int .i64 x7_1 ∧ Aside0 (spec_l03Apart.l0 kq l0 l1 a2 x7_1 = some r) ∧ Aside0 (kq ≤ k) ∧ Aside0 (Below w.heap.size w w'))
 case atStart => exact ⟨(0), (by first | rfl | (simp; done) | (simp [*]; done)), H', ⟨Nat.le_refl _⟩, ⟨bl_ HB⟩⟩
 case round =>
  clear H'
  obtain ⟨x7_1, rfl, HA, HK1, HB⟩ := hrel
  rcases gk with _ | k1
  · exact absurd HA.out (by simp [spec_l03Apart.l0])
  have H := HA.out
  clear HA
  simp only [spec_l03Apart.l0] at H
  rcases (Decidable.em (x7_1 < (l0.length : Int))).symm with c4 | c4
  ·
   rw [if_neg c4] at H
   have c4b0 : decide (x7_1 < (l0.length : Int)) = false := decide_eq_false c4
   clear c4
   obtain rfl := Option.some.inj H
   go_wp2
   go_ret
   exact ⟨rt_, bl_ HB⟩

  rw [if_pos c4] at H
  have c4b0 : decide (x7_1 < (l0.length : Int)) = true := decide_eq_true c4
  clear c4
  have H' := Aside0.mk H
  clear H
  go_wp2
  go_loopg [8, 9] k1 (fun kq v8 v9 w' => ∃ (x8_2 : Bool) (x9_2 : Int), v8 = .bool x8_2 ∧ v9 = .int .i64 x9_2 ∧ Aside0 (spec_l03Apart.l1 kq l0 l1 a2 x7_1 x8_2 x9_2 = some r) ∧ Aside0 (kq ≤ k1) ∧ Aside0 (Below w.heap.size w w'))
  case atStart => exact ⟨(true), (0), (by first | rfl | (simp; done) | (simp [*]; done)), (by first | rfl | (simp; done) | (simp [*]; done)), H', ⟨Nat.le_refl _⟩, ⟨bl_ HB⟩⟩
  case round =>
   clear H'
   obtain ⟨x8_2, x9_2, rfl, rfl, HA, HK2, HB⟩ := hrel
   rcases gk with _ | k2
   · exact absurd HA.out (by simp [spec_l03Apart.l1])
   have H := HA.out
   clear HA
   simp only [spec_l03Apart.l1] at H
   rcases (Decidable.em (x9_2 < (l1.length : Int))).symm with c5 | c5
   ·
    rw [if_neg c5] at H
    have c5b0 : decide (x9_2 < (l1.length : Int)) = false := decide_eq_false c5
    clear c5
    by_cases c24 : x8_2 = true
    ·
     subst c24
     replace H := gt_ H
     obtain rfl := Option.some.inj H
     go_wp2
     go_ret
     exact ⟨rt_, bl_ HB⟩
    replace c24 := Bool.eq_false_iff.mpr c24
    subst c24
    replace H := gf_ H
    have H' := Aside0.mk H
    clear H
    go_wp2
    go_roundg k2
    case measure => have := HK1.out; have := HK2.out; omega
    case rel => exact ⟨(wrap64 (x7_1 + 1)), (by first | rfl | (simp; done) | (simp [*]; done)), H', ⟨by have := HK1.out; have := HK2.out; omega⟩, ⟨bl_ HB⟩⟩
   rw [if_pos c5] at H
   have c5b0 : decide (x9_2 < (l1.length : Int)) = true := decide_eq_true c5
   clear c5
   obtain ⟨c6b0, H⟩ := gx_ H
   obtain ⟨c7b0, H⟩ := gx_ H
   obtain ⟨t262, A8, H⟩ := be_ H
   (try dsimp only at H)
   obtain ⟨c9b0, H⟩ := gx_ H
   obtain ⟨c10b0, H⟩ := gx_ H
   obtain ⟨c11b0, H⟩ := gx_ H
   obtain ⟨t265, A12, H⟩ := be_ H
   (try dsimp only at H)
   by_cases c13 : t265 > 0
   ·
    rw [if_pos c13] at H
    have c13b0 : decide (0 < t265) = true := decide_eq_true c13
    clear c13
    have H' := Aside0.mk H
    clear H
    try go_wp2
    have n0_ := Aside0.mk (below_drew1 HB.out)
    clear HB
    have HB := n0_
    clear n0_
    have p261 : 0 ≤ (x7_1 : Int) := od_
    have q261 : x7_1 < (l0.length : Int) := od_
    obtain ⟨ad261, e261, hx261_0, hx261_1⟩ := at_T34 HR0.out x7_1 p261 q261
    have hw261_1 := hx261_1
    have hw261_0 := hx261_0
    cases e261
    replace hx261_0 := (hw_ HB hx261_0 :)
    replace hx261_1 := (hw_ HB hx261_1 :)
    replace p261 := eq_true p261
    replace q261 := eq_true q261
    have p264 : 0 ≤ (x9_2 : Int) := od_
    have q264 : x9_2 < (l1.length : Int) := od_
    obtain ⟨ad264, e264, hx264_0, hx264_1⟩ := at_T34 HR1.out x9_2 p264 q264
    have hw264_1 := hx264_1
    have hw264_0 := hx264_0
    cases e264
    replace hx264_0 := (hw_ HB hx264_0 :)
    replace hx264_1 := (hw_ HB hx264_1 :)
    replace p264 := eq_true p264
    replace q264 := eq_true q264
    have p263 : 0 ≤ (t262 : Int) := od_
    have q263 : t262 < (l0.length : Int) := od_
    obtain ⟨ad263, e263, hx263_0, hx263_1⟩ := at_T34 HR0.out t262 p263 q263
    have hw263_1 := hx263_1
    have hw263_0 := hx263_0
    obtain rfl : ad261 = ad263 := (by injection e263)
    replace hx263_0 := (hw_ HB hx263_0 :)
    replace hx263_1 := (hw_ HB hx263_1 :)
    replace p263 := eq_true p263
    replace q263 := eq_true q263
    refine start_ (n := 16) (S := fun w' => w'.cell? (ad261.add ((x7_1).toNat * 2)) = some (.int .i16 ((rd_T34 l0 x7_1).f0)) ∧ w'.cell? ⟨(ad261.add ((x7_1).toNat * 2)).block, (ad261.add ((x7_1).toNat * 2)).off + 1, none⟩ = some (.int .i16 ((rd_T34 l0 x7_1).f1)) ∧ w'.cell? (ad264.add ((x9_2).toNat * 2)) = some (.int .i16 ((rd_T34 l1 x9_2).f0)) ∧ w'.cell? ⟨(ad264.add ((x9_2).toNat * 2)).block, (ad264.add ((x9_2).toNat * 2)).off + 1, none⟩ = some (.int .i16 ((rd_T34 l1 x9_2).f1)) ∧ w'.cell? (ad261.add ((t262).toNat * 2)) = some (.int .i16 ((rd_T34 l0 t262).f0)) ∧ w'.cell? ⟨(ad261.add ((t262).toNat * 2)).block, (ad261.add ((t262).toNat * 2)).off + 1, none⟩ = some (.int .i16 ((rd_T34 l0 t262).f1))) (ds := []) #[false, false, false, false, false, false, false, false, false, false, false, false, false, false, false, false] (by kernel_rfl) rfl rfl ⟨((hw_ HB hw261_0 :)), ((hw_ HB hw261_1 :)), ((hw_ HB hw264_0 :)), ((hw_ HB hw264_1 :)), ((hw_ HB hw263_0 :)), ((hw_ HB hw263_1 :))⟩ (fun hHeld => ?_); refine with_tabW spec_l03Apart.tab8 spec_l03Apart.bits8 (fun HT_ HW_ => ?_)
    generalize wr.drew = w14 at HB hx261_0 hx261_1 hx263_0 hx263_1 hx264_0 hx264_1 hHeld ⊢
    refine pu_ 0 23 (lA 16 1) ?_ ?_ HT_ ?_
    refine pu_ 1 24 (lA 16 3) ?_ ?_ HT_ ?_
    refine pu_ 2 25 (lA 16 7) ?_ ?_ HT_ ?_
    refine pu_ 4 27 (lA 16 23) ?_ ?_ HT_ ?_
    refine pu_ 5 28 (lA 16 55) ?_ ?_ HT_ ?_
    refine pu_ 6 29 (lA 16 119) ?_ ?_ HT_ ?_
    refine pu_ 10 33 (lA 16 1143) ?_ ?_ HT_ ?_
    refine pu_ 11 34 (lA 16 3191) ?_ ?_ HT_ ?_
    refine pu_ 12 35 (lA 16 7287) ?_ ?_ HT_ ?_
    refine tk_ 3 26 (lA 16 7295) ?_ ?_ HT_ HW_ hHeld ?_
    refine tk_ 13 36 (lA 16 15487) ?_ ?_ HT_ HW_ hHeld ?_
    refine one_ (i := 7) (N := some 30) #[true, true, true, true, true, true, true, true, false, false, true, true, true, true, false, false] rfl rfl (one_of HT_.out (by kernel_rfl)) (by decide) (fun K hK => ?_)
    refine goes_ Try.func46 (by kernel_rfl) rfl #[.slice (some ad261) l0.length c0, .int .i64 x7_1] (by rfl) rfl rfl (by (try simp only [List.map_toArray, List.map_cons, List.map_nil]); first | done | rfl | (simp only [List.length_drop, List.length_take]; rfl)) ?_
    with_reducible refine (spec_l03Next.calls _ _ l0 x7_1 t262 _ ?side1 ?side2 A8.out).mono ?_
    (case side1 => exact kc_ (Kd.C_below HR0.out HB.out))
    (case side2 => exact HC0.out)
    rintro e w' ⟨rfl, ⟨nd, rfl⟩⟩
    refine ⟨_, rfl, ?_⟩
    refine hK.out _ _ ⟨((hw_ HB hw261_0 :)), ((hw_ HB hw261_1 :)), ((hw_ HB hw264_0 :)), ((hw_ HB hw264_1 :)), ((hw_ HB hw263_0 :)), ((hw_ HB hw263_1 :))⟩ (fun hHeld => ?_)
    clear hK K
    refine norm_ (a' := ?_) ?_ ?_
    rotate_left
    ·
     show Act.put _ (some 30) _ = _
     simp only [Act.put, List.setIfInBounds_toArray, List.set_cons_zero, List.set_cons_succ, i64_w, i32_w]
     rfl
    refine pu_ 8 31 (lA 16 15871) ?_ ?_ HT_ ?_
    refine tk_ 9 32 (lA 16 16383) ?_ ?_ HT_ HW_ hHeld ?_
    refine one_ (i := 14) (N := some 37) #[true, true, true, true, true, true, true, true, true, true, true, true, true, true, true, false] rfl rfl (one_of HT_.out (by kernel_rfl)) (by decide) (fun K hK => ?_)
    refine goes_ Try.func57 (by kernel_rfl) rfl #[.agg #[.int .i16 ((rd_T34 l0 x7_1).f0), .int .i16 ((rd_T34 l0 x7_1).f1)], .agg #[.int .i16 ((rd_T34 l0 t262).f0), .int .i16 ((rd_T34 l0 t262).f1)], .agg #[.int .i16 ((rd_T34 l1 x9_2).f0), .int .i16 ((rd_T34 l1 x9_2).f1)]] (by rfl) rfl rfl (by (try simp only [List.map_toArray, List.map_cons, List.map_nil]); first | done | rfl | (simp only [List.length_drop, List.length_take]; rfl)) ?_
    with_reducible refine (spec_l03Side.calls ((rd_T34 l0 x7_1).f0) ((rd_T34 l0 x7_1).f1) ((rd_T34 l0 t262).f0) ((rd_T34 l0 t262).f1) ((rd_T34 l1 x9_2).f0) ((rd_T34 l1 x9_2).f1) t265 _ A12.out).mono ?_
    rintro e w15 ⟨rfl, hb⟩
    refine ⟨_, rfl, ?_⟩
    have n0_ := bs_ HB hb
    clear HB
    have HB := n0_
    clear n0_
    refine hK.out _ _ ⟨((hw_ HB hw261_0 :)), ((hw_ HB hw261_1 :)), ((hw_ HB hw264_0 :)), ((hw_ HB hw264_1 :)), ((hw_ HB hw263_0 :)), ((hw_ HB hw263_1 :))⟩ (fun hHeld => ?_)
    clear hK K
    refine norm_ (a' := ?_) ?_ ?_
    rotate_left
    ·
     show Act.put _ (some 37) _ = _
     simp only [Act.put, List.setIfInBounds_toArray, List.set_cons_zero, List.set_cons_succ, i64_w, i32_w]
     rfl
    refine pu_ 15 10 (lA 16 65535) ?_ ?_ HT_ ?_
    refine done_ (done_of HT_.out (by kernel_rfl)) ?_
    try go_wp2
    go_roundg k2
    case measure => have := HK1.out; have := HK2.out; omega
    case rel => exact ⟨(false), (wrap64 (x9_2 + 1)), (by first | rfl | (simp; done) | (simp [*]; done)), (by first | rfl | (simp; done) | (simp [*]; done)), H', ⟨by have := HK1.out; have := HK2.out; omega⟩, ⟨bl_ HB⟩⟩
   rw [if_neg c13] at H
   have c13b0 : decide (0 < t265) = false := decide_eq_false c13
   clear c13
   rcases (Decidable.em (t265 = 0)).symm with c16 | c16
   ·
    rw [if_neg c16] at H
    have c16b0 : (t265 == 0) = false := beq_eq_false_iff_ne.mpr c16
    have c16b1 : (t265 != 0) = true := bne_iff_ne.mpr c16
    have H' := Aside0.mk H
    clear H
    try go_wp2
    have n0_ := Aside0.mk (below_drew1 HB.out)
    clear HB
    have HB := n0_
    clear n0_
    have p261 : 0 ≤ (x7_1 : Int) := od_
    have q261 : x7_1 < (l0.length : Int) := od_
    obtain ⟨ad261, e261, hx261_0, hx261_1⟩ := at_T34 HR0.out x7_1 p261 q261
    have hw261_1 := hx261_1
    have hw261_0 := hx261_0
    cases e261
    replace hx261_0 := (hw_ HB hx261_0 :)
    replace hx261_1 := (hw_ HB hx261_1 :)
    replace p261 := eq_true p261
    replace q261 := eq_true q261
    have p264 : 0 ≤ (x9_2 : Int) := od_
    have q264 : x9_2 < (l1.length : Int) := od_
    obtain ⟨ad264, e264, hx264_0, hx264_1⟩ := at_T34 HR1.out x9_2 p264 q264
    have hw264_1 := hx264_1
    have hw264_0 := hx264_0
    cases e264
    replace hx264_0 := (hw_ HB hx264_0 :)
    replace hx264_1 := (hw_ HB hx264_1 :)
    replace p264 := eq_true p264
    replace q264 := eq_true q264
    have p263 : 0 ≤ (t262 : Int) := od_
    have q263 : t262 < (l0.length : Int) := od_
    obtain ⟨ad263, e263, hx263_0, hx263_1⟩ := at_T34 HR0.out t262 p263 q263
    have hw263_1 := hx263_1
    have hw263_0 := hx263_0
    obtain rfl : ad261 = ad263 := (by injection e263)
    replace hx263_0 := (hw_ HB hx263_0 :)
    replace hx263_1 := (hw_ HB hx263_1 :)
    replace p263 := eq_true p263
    replace q263 := eq_true q263
    refine start_ (n := 16) (S := fun w' => w'.cell? (ad261.add ((x7_1).toNat * 2)) = some (.int .i16 ((rd_T34 l0 x7_1).f0)) ∧ w'.cell? ⟨(ad261.add ((x7_1).toNat * 2)).block, (ad261.add ((x7_1).toNat * 2)).off + 1, none⟩ = some (.int .i16 ((rd_T34 l0 x7_1).f1)) ∧ w'.cell? (ad264.add ((x9_2).toNat * 2)) = some (.int .i16 ((rd_T34 l1 x9_2).f0)) ∧ w'.cell? ⟨(ad264.add ((x9_2).toNat * 2)).block, (ad264.add ((x9_2).toNat * 2)).off + 1, none⟩ = some (.int .i16 ((rd_T34 l1 x9_2).f1)) ∧ w'.cell? (ad261.add ((t262).toNat * 2)) = some (.int .i16 ((rd_T34 l0 t262).f0)) ∧ w'.cell? ⟨(ad261.add ((t262).toNat * 2)).block, (ad261.add ((t262).toNat * 2)).off + 1, none⟩ = some (.int .i16 ((rd_T34 l0 t262).f1))) (ds := []) #[false, false, false, false, false, false, false, false, false, false, false, false, false, false, false, false] (by kernel_rfl) rfl rfl ⟨((hw_ HB hw261_0 :)), ((hw_ HB hw261_1 :)), ((hw_ HB hw264_0 :)), ((hw_ HB hw264_1 :)), ((hw_ HB hw263_0 :)), ((hw_ HB hw263_1 :))⟩ (fun hHeld => ?_); refine with_tabW spec_l03Apart.tab8 spec_l03Apart.bits8 (fun HT_ HW_ => ?_)
    generalize wr.drew = w22 at HB hx261_0 hx261_1 hx263_0 hx263_1 hx264_0 hx264_1 hHeld ⊢
    refine pu_ 0 23 (lA 16 1) ?_ ?_ HT_ ?_
    refine pu_ 1 24 (lA 16 3) ?_ ?_ HT_ ?_
    refine pu_ 2 25 (lA 16 7) ?_ ?_ HT_ ?_
    refine pu_ 4 27 (lA 16 23) ?_ ?_ HT_ ?_
    refine pu_ 5 28 (lA 16 55) ?_ ?_ HT_ ?_
    refine pu_ 6 29 (lA 16 119) ?_ ?_ HT_ ?_
    refine pu_ 10 33 (lA 16 1143) ?_ ?_ HT_ ?_
    refine pu_ 11 34 (lA 16 3191) ?_ ?_ HT_ ?_
    refine pu_ 12 35 (lA 16 7287) ?_ ?_ HT_ ?_
    refine tk_ 3 26 (lA 16 7295) ?_ ?_ HT_ HW_ hHeld ?_
    refine tk_ 13 36 (lA 16 15487) ?_ ?_ HT_ HW_ hHeld ?_
    refine one_ (i := 7) (N := some 30) #[true, true, true, true, true, true, true, true, false, false, true, true, true, true, false, false] rfl rfl (one_of HT_.out (by kernel_rfl)) (by decide) (fun K hK => ?_)
    refine goes_ Try.func46 (by kernel_rfl) rfl #[.slice (some ad261) l0.length c0, .int .i64 x7_1] (by rfl) rfl rfl (by (try simp only [List.map_toArray, List.map_cons, List.map_nil]); first | done | rfl | (simp only [List.length_drop, List.length_take]; rfl)) ?_
    with_reducible refine (spec_l03Next.calls _ _ l0 x7_1 t262 _ ?side1 ?side2 A8.out).mono ?_
    (case side1 => exact kc_ (Kd.C_below HR0.out HB.out))
    (case side2 => exact HC0.out)
    rintro e w' ⟨rfl, ⟨nd, rfl⟩⟩
    refine ⟨_, rfl, ?_⟩
    refine hK.out _ _ ⟨((hw_ HB hw261_0 :)), ((hw_ HB hw261_1 :)), ((hw_ HB hw264_0 :)), ((hw_ HB hw264_1 :)), ((hw_ HB hw263_0 :)), ((hw_ HB hw263_1 :))⟩ (fun hHeld => ?_)
    clear hK K
    refine norm_ (a' := ?_) ?_ ?_
    rotate_left
    ·
     show Act.put _ (some 30) _ = _
     simp only [Act.put, List.setIfInBounds_toArray, List.set_cons_zero, List.set_cons_succ, i64_w, i32_w]
     rfl
    refine pu_ 8 31 (lA 16 15871) ?_ ?_ HT_ ?_
    refine tk_ 9 32 (lA 16 16383) ?_ ?_ HT_ HW_ hHeld ?_
    refine one_ (i := 14) (N := some 37) #[true, true, true, true, true, true, true, true, true, true, true, true, true, true, true, false] rfl rfl (one_of HT_.out (by kernel_rfl)) (by decide) (fun K hK => ?_)
    refine goes_ Try.func57 (by kernel_rfl) rfl #[.agg #[.int .i16 ((rd_T34 l0 x7_1).f0), .int .i16 ((rd_T34 l0 x7_1).f1)], .agg #[.int .i16 ((rd_T34 l0 t262).f0), .int .i16 ((rd_T34 l0 t262).f1)], .agg #[.int .i16 ((rd_T34 l1 x9_2).f0), .int .i16 ((rd_T34 l1 x9_2).f1)]] (by rfl) rfl rfl (by (try simp only [List.map_toArray, List.map_cons, List.map_nil]); first | done | rfl | (simp only [List.length_drop, List.length_take]; rfl)) ?_
    with_reducible refine (spec_l03Side.calls ((rd_T34 l0 x7_1).f0) ((rd_T34 l0 x7_1).f1) ((rd_T34 l0 t262).f0) ((rd_T34 l0 t262).f1) ((rd_T34 l1 x9_2).f0) ((rd_T34 l1 x9_2).f1) t265 _ A12.out).mono ?_
    rintro e w23 ⟨rfl, hb⟩
    refine ⟨_, rfl, ?_⟩
    have n0_ := bs_ HB hb
    clear HB
    have HB := n0_
    clear n0_
    refine hK.out _ _ ⟨((hw_ HB hw261_0 :)), ((hw_ HB hw261_1 :)), ((hw_ HB hw264_0 :)), ((hw_ HB hw264_1 :)), ((hw_ HB hw263_0 :)), ((hw_ HB hw263_1 :))⟩ (fun hHeld => ?_)
    clear hK K
    refine norm_ (a' := ?_) ?_ ?_
    rotate_left
    ·
     show Act.put _ (some 37) _ = _
     simp only [Act.put, List.setIfInBounds_toArray, List.set_cons_zero, List.set_cons_succ, i64_w, i32_w]
     rfl
    refine pu_ 15 10 (lA 16 65535) ?_ ?_ HT_ ?_
    refine done_ (done_of HT_.out (by kernel_rfl)) ?_
    try go_wp2
    go_roundg k2
    case measure => have := HK1.out; have := HK2.out; omega
    case rel => exact ⟨(x8_2), (wrap64 (x9_2 + 1)), (by first | rfl | (simp; done) | (simp [*]; done)), (by first | rfl | (simp; done) | (simp [*]; done)), H', ⟨by have := HK1.out; have := HK2.out; omega⟩, ⟨bl_ HB⟩⟩
   rw [if_pos c16] at H
   have c16b0 : (t265 == 0) = true := beq_iff_eq.mpr c16
   have c16b1 : (t265 != 0) = false := bne_eq_false_iff_eq.mpr c16
   clear c16
   by_cases c17 : a2 = true
   ·
    subst c17
    replace H := gt_ H
    have H' := Aside0.mk H
    clear H
    try go_wp2
    have n0_ := Aside0.mk (below_drew1 HB.out)
    clear HB
    have HB := n0_
    clear n0_
    have p261 : 0 ≤ (x7_1 : Int) := od_
    have q261 : x7_1 < (l0.length : Int) := od_
    obtain ⟨ad261, e261, hx261_0, hx261_1⟩ := at_T34 HR0.out x7_1 p261 q261
    have hw261_1 := hx261_1
    have hw261_0 := hx261_0
    cases e261
    replace hx261_0 := (hw_ HB hx261_0 :)
    replace hx261_1 := (hw_ HB hx261_1 :)
    replace p261 := eq_true p261
    replace q261 := eq_true q261
    have p264 : 0 ≤ (x9_2 : Int) := od_
    have q264 : x9_2 < (l1.length : Int) := od_
    obtain ⟨ad264, e264, hx264_0, hx264_1⟩ := at_T34 HR1.out x9_2 p264 q264
    have hw264_1 := hx264_1
    have hw264_0 := hx264_0
    cases e264
    replace hx264_0 := (hw_ HB hx264_0 :)
    replace hx264_1 := (hw_ HB hx264_1 :)
    replace p264 := eq_true p264
    replace q264 := eq_true q264
    have p263 : 0 ≤ (t262 : Int) := od_
    have q263 : t262 < (l0.length : Int) := od_
    obtain ⟨ad263, e263, hx263_0, hx263_1⟩ := at_T34 HR0.out t262 p263 q263
    have hw263_1 := hx263_1
    have hw263_0 := hx263_0
    obtain rfl : ad261 = ad263 := (by injection e263)
    replace hx263_0 := (hw_ HB hx263_0 :)
    replace hx263_1 := (hw_ HB hx263_1 :)
    replace p263 := eq_true p263
    replace q263 := eq_true q263
    refine start_ (n := 16) (S := fun w' => w'.cell? (ad261.add ((x7_1).toNat * 2)) = some (.int .i16 ((rd_T34 l0 x7_1).f0)) ∧ w'.cell? ⟨(ad261.add ((x7_1).toNat * 2)).block, (ad261.add ((x7_1).toNat * 2)).off + 1, none⟩ = some (.int .i16 ((rd_T34 l0 x7_1).f1)) ∧ w'.cell? (ad264.add ((x9_2).toNat * 2)) = some (.int .i16 ((rd_T34 l1 x9_2).f0)) ∧ w'.cell? ⟨(ad264.add ((x9_2).toNat * 2)).block, (ad264.add ((x9_2).toNat * 2)).off + 1, none⟩ = some (.int .i16 ((rd_T34 l1 x9_2).f1)) ∧ w'.cell? (ad261.add ((t262).toNat * 2)) = some (.int .i16 ((rd_T34 l0 t262).f0)) ∧ w'.cell? ⟨(ad261.add ((t262).toNat * 2)).block, (ad261.add ((t262).toNat * 2)).off + 1, none⟩ = some (.int .i16 ((rd_T34 l0 t262).f1))) (ds := []) #[false, false, false, false, false, false, false, false, false, false, false, false, false, false, false, false] (by kernel_rfl) rfl rfl ⟨((hw_ HB hw261_0 :)), ((hw_ HB hw261_1 :)), ((hw_ HB hw264_0 :)), ((hw_ HB hw264_1 :)), ((hw_ HB hw263_0 :)), ((hw_ HB hw263_1 :))⟩ (fun hHeld => ?_); refine with_tabW spec_l03Apart.tab8 spec_l03Apart.bits8 (fun HT_ HW_ => ?_)
    generalize wr.drew = w18 at HB hx261_0 hx261_1 hx263_0 hx263_1 hx264_0 hx264_1 hHeld ⊢
    refine pu_ 0 23 (lA 16 1) ?_ ?_ HT_ ?_
    refine pu_ 1 24 (lA 16 3) ?_ ?_ HT_ ?_
    refine pu_ 2 25 (lA 16 7) ?_ ?_ HT_ ?_
    refine pu_ 4 27 (lA 16 23) ?_ ?_ HT_ ?_
    refine pu_ 5 28 (lA 16 55) ?_ ?_ HT_ ?_
    refine pu_ 6 29 (lA 16 119) ?_ ?_ HT_ ?_
    refine pu_ 10 33 (lA 16 1143) ?_ ?_ HT_ ?_
    refine pu_ 11 34 (lA 16 3191) ?_ ?_ HT_ ?_
    refine pu_ 12 35 (lA 16 7287) ?_ ?_ HT_ ?_
    refine tk_ 3 26 (lA 16 7295) ?_ ?_ HT_ HW_ hHeld ?_
    refine tk_ 13 36 (lA 16 15487) ?_ ?_ HT_ HW_ hHeld ?_
    refine one_ (i := 7) (N := some 30) #[true, true, true, true, true, true, true, true, false, false, true, true, true, true, false, false] rfl rfl (one_of HT_.out (by kernel_rfl)) (by decide) (fun K hK => ?_)
    refine goes_ Try.func46 (by kernel_rfl) rfl #[.slice (some ad261) l0.length c0, .int .i64 x7_1] (by rfl) rfl rfl (by (try simp only [List.map_toArray, List.map_cons, List.map_nil]); first | done | rfl | (simp only [List.length_drop, List.length_take]; rfl)) ?_
    with_reducible refine (spec_l03Next.calls _ _ l0 x7_1 t262 _ ?side1 ?side2 A8.out).mono ?_
    (case side1 => exact kc_ (Kd.C_below HR0.out HB.out))
    (case side2 => exact HC0.out)
    rintro e w' ⟨rfl, ⟨nd, rfl⟩⟩
    refine ⟨_, rfl, ?_⟩
    refine hK.out _ _ ⟨((hw_ HB hw261_0 :)), ((hw_ HB hw261_1 :)), ((hw_ HB hw264_0 :)), ((hw_ HB hw264_1 :)), ((hw_ HB hw263_0 :)), ((hw_ HB hw263_1 :))⟩ (fun hHeld => ?_)
    clear hK K
    refine norm_ (a' := ?_) ?_ ?_
    rotate_left
    ·
     show Act.put _ (some 30) _ = _
     simp only [Act.put, List.setIfInBounds_toArray, List.set_cons_zero, List.set_cons_succ, i64_w, i32_w]
     rfl
    refine pu_ 8 31 (lA 16 15871) ?_ ?_ HT_ ?_
    refine tk_ 9 32 (lA 16 16383) ?_ ?_ HT_ HW_ hHeld ?_
    refine one_ (i := 14) (N := some 37) #[true, true, true, true, true, true, true, true, true, true, true, true, true, true, true, false] rfl rfl (one_of HT_.out (by kernel_rfl)) (by decide) (fun K hK => ?_)
    refine goes_ Try.func57 (by kernel_rfl) rfl #[.agg #[.int .i16 ((rd_T34 l0 x7_1).f0), .int .i16 ((rd_T34 l0 x7_1).f1)], .agg #[.int .i16 ((rd_T34 l0 t262).f0), .int .i16 ((rd_T34 l0 t262).f1)], .agg #[.int .i16 ((rd_T34 l1 x9_2).f0), .int .i16 ((rd_T34 l1 x9_2).f1)]] (by rfl) rfl rfl (by (try simp only [List.map_toArray, List.map_cons, List.map_nil]); first | done | rfl | (simp only [List.length_drop, List.length_take]; rfl)) ?_
    with_reducible refine (spec_l03Side.calls ((rd_T34 l0 x7_1).f0) ((rd_T34 l0 x7_1).f1) ((rd_T34 l0 t262).f0) ((rd_T34 l0 t262).f1) ((rd_T34 l1 x9_2).f0) ((rd_T34 l1 x9_2).f1) t265 _ A12.out).mono ?_
    rintro e w19 ⟨rfl, hb⟩
    refine ⟨_, rfl, ?_⟩
    have n0_ := bs_ HB hb
    clear HB
    have HB := n0_
    clear n0_
    refine hK.out _ _ ⟨((hw_ HB hw261_0 :)), ((hw_ HB hw261_1 :)), ((hw_ HB hw264_0 :)), ((hw_ HB hw264_1 :)), ((hw_ HB hw263_0 :)), ((hw_ HB hw263_1 :))⟩ (fun hHeld => ?_)
    clear hK K
    refine norm_ (a' := ?_) ?_ ?_
    rotate_left
    ·
     show Act.put _ (some 37) _ = _
     simp only [Act.put, List.setIfInBounds_toArray, List.set_cons_zero, List.set_cons_succ, i64_w, i32_w]
     rfl
    refine pu_ 15 10 (lA 16 65535) ?_ ?_ HT_ ?_
    refine done_ (done_of HT_.out (by kernel_rfl)) ?_
    try go_wp2
    go_roundg k2
    case measure => have := HK1.out; have := HK2.out; omega
    case rel => exact ⟨(x8_2), (wrap64 (x9_2 + 1)), (by first | rfl | (simp; done) | (simp [*]; done)), (by first | rfl | (simp; done) | (simp [*]; done)), H', ⟨by have := HK1.out; have := HK2.out; omega⟩, ⟨bl_ HB⟩⟩
   replace c17 := Bool.eq_false_iff.mpr c17
   subst c17
   replace H := gf_ H
   have H' := Aside0.mk H
   clear H
   try go_wp2
   have n0_ := Aside0.mk (below_drew1 HB.out)
   clear HB
   have HB := n0_
   clear n0_
   have p261 : 0 ≤ (x7_1 : Int) := od_
   have q261 : x7_1 < (l0.length : Int) := od_
   obtain ⟨ad261, e261, hx261_0, hx261_1⟩ := at_T34 HR0.out x7_1 p261 q261
   have hw261_1 := hx261_1
   have hw261_0 := hx261_0
   cases e261
   replace hx261_0 := (hw_ HB hx261_0 :)
   replace hx261_1 := (hw_ HB hx261_1 :)
   replace p261 := eq_true p261
   replace q261 := eq_true q261
   have p264 : 0 ≤ (x9_2 : Int) := od_
   have q264 : x9_2 < (l1.length : Int) := od_
   obtain ⟨ad264, e264, hx264_0, hx264_1⟩ := at_T34 HR1.out x9_2 p264 q264
   have hw264_1 := hx264_1
   have hw264_0 := hx264_0
   cases e264
   replace hx264_0 := (hw_ HB hx264_0 :)
   replace hx264_1 := (hw_ HB hx264_1 :)
   replace p264 := eq_true p264
   replace q264 := eq_true q264
   have p263 : 0 ≤ (t262 : Int) := od_
   have q263 : t262 < (l0.length : Int) := od_
   obtain ⟨ad263, e263, hx263_0, hx263_1⟩ := at_T34 HR0.out t262 p263 q263
   have hw263_1 := hx263_1
   have hw263_0 := hx263_0
   obtain rfl : ad261 = ad263 := (by injection e263)
   replace hx263_0 := (hw_ HB hx263_0 :)
   replace hx263_1 := (hw_ HB hx263_1 :)
   replace p263 := eq_true p263
   replace q263 := eq_true q263
   refine start_ (n := 16) (S := fun w' => w'.cell? (ad261.add ((x7_1).toNat * 2)) = some (.int .i16 ((rd_T34 l0 x7_1).f0)) ∧ w'.cell? ⟨(ad261.add ((x7_1).toNat * 2)).block, (ad261.add ((x7_1).toNat * 2)).off + 1, none⟩ = some (.int .i16 ((rd_T34 l0 x7_1).f1)) ∧ w'.cell? (ad264.add ((x9_2).toNat * 2)) = some (.int .i16 ((rd_T34 l1 x9_2).f0)) ∧ w'.cell? ⟨(ad264.add ((x9_2).toNat * 2)).block, (ad264.add ((x9_2).toNat * 2)).off + 1, none⟩ = some (.int .i16 ((rd_T34 l1 x9_2).f1)) ∧ w'.cell? (ad261.add ((t262).toNat * 2)) = some (.int .i16 ((rd_T34 l0 t262).f0)) ∧ w'.cell? ⟨(ad261.add ((t262).toNat * 2)).block, (ad261.add ((t262).toNat * 2)).off + 1, none⟩ = some (.int .i16 ((rd_T34 l0 t262).f1))) (ds := []) #[false, false, false, false, false, false, false, false, false, false, false, false, false, false, false, false] (by kernel_rfl) rfl rfl ⟨((hw_ HB hw261_0 :)), ((hw_ HB hw261_1 :)), ((hw_ HB hw264_0 :)), ((hw_ HB hw264_1 :)), ((hw_ HB hw263_0 :)), ((hw_ HB hw263_1 :))⟩ (fun hHeld => ?_); refine with_tabW spec_l03Apart.tab8 spec_l03Apart.bits8 (fun HT_ HW_ => ?_)
   generalize wr.drew = w20 at HB hx261_0 hx261_1 hx263_0 hx263_1 hx264_0 hx264_1 hHeld ⊢
   refine pu_ 0 23 (lA 16 1) ?_ ?_ HT_ ?_
   refine pu_ 1 24 (lA 16 3) ?_ ?_ HT_ ?_
   refine pu_ 2 25 (lA 16 7) ?_ ?_ HT_ ?_
   refine pu_ 4 27 (lA 16 23) ?_ ?_ HT_ ?_
   refine pu_ 5 28 (lA 16 55) ?_ ?_ HT_ ?_
   refine pu_ 6 29 (lA 16 119) ?_ ?_ HT_ ?_
   refine pu_ 10 33 (lA 16 1143) ?_ ?_ HT_ ?_
   refine pu_ 11 34 (lA 16 3191) ?_ ?_ HT_ ?_
   refine pu_ 12 35 (lA 16 7287) ?_ ?_ HT_ ?_
   refine tk_ 3 26 (lA 16 7295) ?_ ?_ HT_ HW_ hHeld ?_
   refine tk_ 13 36 (lA 16 15487) ?_ ?_ HT_ HW_ hHeld ?_
   refine one_ (i := 7) (N := some 30) #[true, true, true, true, true, true, true, true, false, false, true, true, true, true, false, false] rfl rfl (one_of HT_.out (by kernel_rfl)) (by decide) (fun K hK => ?_)
   refine goes_ Try.func46 (by kernel_rfl) rfl #[.slice (some ad261) l0.length c0, .int .i64 x7_1] (by rfl) rfl rfl (by (try simp only [List.map_toArray, List.map_cons, List.map_nil]); first | done | rfl | (simp only [List.length_drop, List.length_take]; rfl)) ?_
   with_reducible refine (spec_l03Next.calls _ _ l0 x7_1 t262 _ ?side1 ?side2 A8.out).mono ?_
   (case side1 => exact kc_ (Kd.C_below HR0.out HB.out))
   (case side2 => exact HC0.out)
   rintro e w' ⟨rfl, ⟨nd, rfl⟩⟩
   refine ⟨_, rfl, ?_⟩
   refine hK.out _ _ ⟨((hw_ HB hw261_0 :)), ((hw_ HB hw261_1 :)), ((hw_ HB hw264_0 :)), ((hw_ HB hw264_1 :)), ((hw_ HB hw263_0 :)), ((hw_ HB hw263_1 :))⟩ (fun hHeld => ?_)
   clear hK K
   refine norm_ (a' := ?_) ?_ ?_
   rotate_left
   ·
    show Act.put _ (some 30) _ = _
    simp only [Act.put, List.setIfInBounds_toArray, List.set_cons_zero, List.set_cons_succ, i64_w, i32_w]
    rfl
   refine pu_ 8 31 (lA 16 15871) ?_ ?_ HT_ ?_
   refine tk_ 9 32 (lA 16 16383) ?_ ?_ HT_ HW_ hHeld ?_
   refine one_ (i := 14) (N := some 37) #[true, true, true, true, true, true, true, true, true, true, true, true, true, true, true, false] rfl rfl (one_of HT_.out (by kernel_rfl)) (by decide) (fun K hK => ?_)
   refine goes_ Try.func57 (by kernel_rfl) rfl #[.agg #[.int .i16 ((rd_T34 l0 x7_1).f0), .int .i16 ((rd_T34 l0 x7_1).f1)], .agg #[.int .i16 ((rd_T34 l0 t262).f0), .int .i16 ((rd_T34 l0 t262).f1)], .agg #[.int .i16 ((rd_T34 l1 x9_2).f0), .int .i16 ((rd_T34 l1 x9_2).f1)]] (by rfl) rfl rfl (by (try simp only [List.map_toArray, List.map_cons, List.map_nil]); first | done | rfl | (simp only [List.length_drop, List.length_take]; rfl)) ?_
   with_reducible refine (spec_l03Side.calls ((rd_T34 l0 x7_1).f0) ((rd_T34 l0 x7_1).f1) ((rd_T34 l0 t262).f0) ((rd_T34 l0 t262).f1) ((rd_T34 l1 x9_2).f0) ((rd_T34 l1 x9_2).f1) t265 _ A12.out).mono ?_
   rintro e w21 ⟨rfl, hb⟩
   refine ⟨_, rfl, ?_⟩
   have n0_ := bs_ HB hb
   clear HB
   have HB := n0_
   clear n0_
   refine hK.out _ _ ⟨((hw_ HB hw261_0 :)), ((hw_ HB hw261_1 :)), ((hw_ HB hw264_0 :)), ((hw_ HB hw264_1 :)), ((hw_ HB hw263_0 :)), ((hw_ HB hw263_1 :))⟩ (fun hHeld => ?_)
   clear hK K
   refine norm_ (a' := ?_) ?_ ?_
   rotate_left
   ·
    show Act.put _ (some 37) _ = _
    simp only [Act.put, List.setIfInBounds_toArray, List.set_cons_zero, List.set_cons_succ, i64_w, i32_w]
    rfl
   refine pu_ 15 10 (lA 16 65535) ?_ ?_ HT_ ?_
   refine done_ (done_of HT_.out (by kernel_rfl)) ?_
   try go_wp2
   go_roundg k2
   case measure => have := HK1.out; have := HK2.out; omega
   case rel => exact ⟨(false), (wrap64 (x9_2 + 1)), (by first | rfl | (simp; done) | (simp [*]; done)), (by first | rfl | (simp; done) | (simp [*]; done)), H', ⟨by have := HK1.out; have := HK2.out; omega⟩, ⟨bl_ HB⟩⟩
/-! ### spec_l03Over: function 28 -/
def spec_l03Over.f (k : Nat) (l0 : List (S34)) (l1 : List (S34)) : Option (Bool) := (spec_l03Apart.f k l0 l1 true).bind fun t266 => (if t266 = true then (some false) else ((spec_l03Apart.f k l1 l0 true).bind fun t267 => (some (!t267))))
theorem spec_l03Over.mono : ∀ a0 a1 k, LeO (spec_l03Over.f k a0 a1) (spec_l03Over.f (k + 1) a0 a1) := by
 intro a0 a1 k
 unfold spec_l03Over.f
 repeat' first | (with_reducible first | exact spec_l03Apart.mono _ _ _ _ | exact LeO.refl _ | exact LeO.none _ | refine LeO.ite ?_ ?_ | refine LeO.bind ?_ (fun _ => ?_))
set_option maxHeartbeats 8000000 in
set_option maxRecDepth 100000 in
theorem spec_l03Over.calls (k : Nat) (A0 : Option Addr) (c0 : Nat) (l0 : List (S34)) (A1 : Option Addr) (c1 : Nat) (l1 : List (S34)) (r : Bool) (w : World) (hr0 : Kd.C k34 w A0 l0.length l0) (hc0 : l0.length ≤ c0) (hr1 : Kd.C k34 w A1 l1.length l1) (hc1 : l1.length ≤ c1) (h : spec_l03Over.f k l0 l1 = some r) :
  Calls Try.prog 28 #[.slice A0 l0.length c0, .slice A1 l1.length c1] w fun e w' => e = .returned (.bool r) ∧ Below w.heap.size w w' := by
 have HR0 := Aside0.mk hr0
 have HC0 := Aside0.mk hc0
 clear hr0 hc0
 have HR1 := Aside0.mk hr1
 have HC1 := Aside0.mk hc1
 clear hr1 hc1
 have HB := Aside0.mk (Below.refl w.heap.size w)
 have H : ((spec_l03Apart.f k l0 l1 true).bind fun t266 => (if t266 = true then (some false) else ((spec_l03Apart.f k l1 l0 true).bind fun t267 => (some (!t267))))) = some r := h
 clear h
 obtain ⟨t266, A3, H⟩ := be_ H
 (try dsimp only at H)
 by_cases c4 : t266 = true
 ·
  subst c4
  replace H := gt_ H
  obtain rfl := Option.some.inj H
  go_enter Try.func28, Try.ntmps28
  go_wp2_with (first | ((with_reducible refine gate_callee (f := 30) rfl ?_); refine goM_ (some 7) Try.func30 #[.slice A0 l0.length c0, .slice A1 l1.length c1, .bool true] ?_; (with_reducible refine (spec_l03Apart.calls k _ _ l0 _ _ l1 true true _ ?side1 ?side2 ?side3 ?side4 A3.out).mono ?_); (case side1 => exact kc_ HR0.out); (case side2 => exact HC0.out); (case side3 => exact kc_ HR1.out); (case side4 => exact HC1.out); rintro e w5 ⟨rfl, hb⟩; refine ⟨_, rfl, ?_⟩; replace HB := bs_ HB hb; clear hb))
  go_ret
  exact ⟨rt_, bl_ HB⟩
 replace c4 := Bool.eq_false_iff.mpr c4
 subst c4
 replace H := gf_ H
 obtain ⟨t267, A6, H⟩ := be_ H
 (try dsimp only at H)
 obtain rfl := Option.some.inj H
 go_enter Try.func28, Try.ntmps28
 go_wp2_with (first | ((with_reducible refine gate_callee (f := 30) rfl ?_); refine goM_ (some 7) Try.func30 #[.slice A0 l0.length c0, .slice A1 l1.length c1, .bool true] ?_; (with_reducible refine (spec_l03Apart.calls k _ _ l0 _ _ l1 true false _ ?side1 ?side2 ?side3 ?side4 A3.out).mono ?_); (case side1 => exact kc_ HR0.out); (case side2 => exact HC0.out); (case side3 => exact kc_ HR1.out); (case side4 => exact HC1.out); rintro e w7 ⟨rfl, hb⟩; refine ⟨_, rfl, ?_⟩; replace HB := bs_ HB hb; clear hb) | (go_at_call 30; (with_reducible refine (spec_l03Apart.calls k _ _ l1 _ _ l0 true t267 _ ?side1 ?side2 ?side3 ?side4 A6.out).mono ?_); (case side1 => exact kc_ (Kd.C_below HR1.out HB.out)); (case side2 => exact HC1.out); (case side3 => exact kc_ (Kd.C_below HR0.out HB.out)); (case side4 => exact HC0.out); rintro e w8 ⟨rfl, hb⟩; replace HB := bs_ HB hb; clear hb))
 go_ret
 exact ⟨rt_, bl_ HB⟩

end Go.Proofs.Ytmglnofmmgokkaa.PA
