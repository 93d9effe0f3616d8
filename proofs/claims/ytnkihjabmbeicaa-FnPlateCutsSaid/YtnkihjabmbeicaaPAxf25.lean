/- Pure functions, and that Go's functions come to them. -/
import Derived.Test.YtnkihjabmbeicaaPAx0
import Derived.Test.YtnkihjabmbeicaaPAxf28
namespace Go.Proofs.Ytnkihjabmbeicaa.PA
open Go.RowKit Go.Proofs.YtnkihjabmbeicaaW.PrintWords Go.Proofs.YtnkihjabmbeicaaW.PrintLast Go.Proofs.YtnkihjabmbeicaaW.PrintMore
set_option linter.unusedVariables false
set_option linter.unusedSimpArgs false

/-! ### impl_worthOf: function 25 -/
mutual
def impl_worthOf.l0 : Nat → Int → Int → List (S46) → List Int → Int → Option (List Int)
 | 0, _, _, _, _, _ => none
 | k + 1, x0, x1, x2, x7, x8 => if x8 ≤ x0 then (impl_worthOf.l1 k x0 x1 x2 x7 x8 1) else (some x7)
def impl_worthOf.l1 : Nat → Int → Int → List (S46) → List Int → Int → Int → Option (List Int)
 | 0, _, _, _, _, _, _ => none
 | k + 1, x0, x1, x2, x7, x8, x9 => if x9 ≤ x1 then (impl_worthOf.l2 k x0 x1 x2 x7 x8 x9 0 x2 (x2.length : Int) 0) else (impl_worthOf.l0 k x0 x1 x2 x7 (wrap64 (x8 + 1)))
def impl_worthOf.l2 : Nat → Int → Int → List (S46) → List Int → Int → Int → Int → List (S46) → Int → Int → Option (List Int)
 | 0, _, _, _, _, _, _, _, _, _, _ => none
 | k + 1, x0, x1, x2, x7, x8, x9, x10, x27, x28, x29 => if x29 < x28 then (if 0 ≤ x29 then (if x29 < (x27.length : Int) then (if (wrap64 ((rd_T46 x27 x29).f0)) = x8 then (if (wrap64 ((rd_T46 x27 x29).f1)) = x9 then (impl_worthOf.l2 k x0 x1 x2 x7 x8 x9 (mx x10 (wrap64 ((rd_T46 x27 x29).f2))) x27 x28 (wrap64 (x29 + 1))) else (impl_worthOf.l2 k x0 x1 x2 x7 x8 x9 x10 x27 x28 (wrap64 (x29 + 1)))) else (impl_worthOf.l2 k x0 x1 x2 x7 x8 x9 x10 x27 x28 (wrap64 (x29 + 1)))) else (none)) else (none)) else (impl_worthOf.l3 k x0 x1 x2 x7 x8 x9 x10 1)
def impl_worthOf.l3 : Nat → Int → Int → List (S46) → List Int → Int → Int → Int → Int → Option (List Int)
 | 0, _, _, _, _, _, _, _, _ => none
 | k + 1, x0, x1, x2, x7, x8, x9, x10, x13 => if x13 < x8 then (if 0 ≤ x13 then (if x13 < 25 then (if 0 ≤ x9 then (if x9 < 25 then (if 0 ≤ (wrap64 (x8 - x13)) then (if (wrap64 (x8 - x13)) < 25 then (impl_worthOf.l3 k x0 x1 x2 x7 x8 x9 (mx x10 (wrap64 ((rd x7 (x13 * 25 + x9)) + (rd x7 ((wrap64 (x8 - x13)) * 25 + x9))))) (wrap64 (x13 + 1))) else (none)) else (none)) else (none)) else (none)) else (none)) else (none)) else (impl_worthOf.l4 k x0 x1 x2 x7 x8 x9 x10 1)
def impl_worthOf.l4 : Nat → Int → Int → List (S46) → List Int → Int → Int → Int → Int → Option (List Int)
 | 0, _, _, _, _, _, _, _, _ => none
 | k + 1, x0, x1, x2, x7, x8, x9, x10, x14 => if x14 < x9 then (if 0 ≤ x8 then (if x8 < 25 then (if 0 ≤ x14 then (if x14 < 25 then (if 0 ≤ (wrap64 (x9 - x14)) then (if (wrap64 (x9 - x14)) < 25 then (impl_worthOf.l4 k x0 x1 x2 x7 x8 x9 (mx x10 (wrap64 ((rd x7 (x8 * 25 + x14)) + (rd x7 (x8 * 25 + (wrap64 (x9 - x14))))))) (wrap64 (x14 + 1))) else (none)) else (none)) else (none)) else (none)) else (none)) else (none)) else (if 0 ≤ x8 then (if x8 < 25 then (if 0 ≤ x9 then (if x9 < 25 then (impl_worthOf.l1 k x0 x1 x2 (x7.set ((x8 * 25 + x9) : Int).toNat x10) x8 (wrap64 (x9 + 1))) else (none)) else (none)) else (none)) else (none))
end
def impl_worthOf.f (k : Nat) (a0 : Int) (a1 : Int) (l2 : List (S46)) : Option (List Int) := impl_worthOf.l0 k a0 a1 l2 (List.replicate 625 0) 1
theorem impl_worthOf.mono_l : ∀ k, (∀ y0 y1 y2 y3 y4, LeO (impl_worthOf.l0 k y0 y1 y2 y3 y4) (impl_worthOf.l0 (k + 1) y0 y1 y2 y3 y4)) ∧ (∀ y0 y1 y2 y3 y4 y5, LeO (impl_worthOf.l1 k y0 y1 y2 y3 y4 y5) (impl_worthOf.l1 (k + 1) y0 y1 y2 y3 y4 y5)) ∧ (∀ y0 y1 y2 y3 y4 y5 y6 y7 y8 y9, LeO (impl_worthOf.l2 k y0 y1 y2 y3 y4 y5 y6 y7 y8 y9) (impl_worthOf.l2 (k + 1) y0 y1 y2 y3 y4 y5 y6 y7 y8 y9)) ∧ (∀ y0 y1 y2 y3 y4 y5 y6 y7, LeO (impl_worthOf.l3 k y0 y1 y2 y3 y4 y5 y6 y7) (impl_worthOf.l3 (k + 1) y0 y1 y2 y3 y4 y5 y6 y7)) ∧ (∀ y0 y1 y2 y3 y4 y5 y6 y7, LeO (impl_worthOf.l4 k y0 y1 y2 y3 y4 y5 y6 y7) (impl_worthOf.l4 (k + 1) y0 y1 y2 y3 y4 y5 y6 y7))
 | 0 => ⟨fun _ _ _ _ _ r h => by simp [impl_worthOf.l0] at h, fun _ _ _ _ _ _ r h => by simp [impl_worthOf.l1] at h, fun _ _ _ _ _ _ _ _ _ _ r h => by simp [impl_worthOf.l2] at h, fun _ _ _ _ _ _ _ _ r h => by simp [impl_worthOf.l3] at h, fun _ _ _ _ _ _ _ _ r h => by simp [impl_worthOf.l4] at h⟩
 | k + 1 => by
  obtain ⟨ih0, ih1, ih2, ih3, ih4⟩ := impl_worthOf.mono_l k
  refine ⟨?_, ?_, ?_, ?_, ?_⟩ <;> intros
  all_goals first | unfold impl_worthOf.l0 | unfold impl_worthOf.l1 | unfold impl_worthOf.l2 | unfold impl_worthOf.l3 | unfold impl_worthOf.l4
  all_goals repeat' first | (with_reducible first | exact ih0 _ _ _ _ _ | exact ih1 _ _ _ _ _ _ | exact ih2 _ _ _ _ _ _ _ _ _ _ | exact ih3 _ _ _ _ _ _ _ _ | exact ih4 _ _ _ _ _ _ _ _ | exact LeO.refl _ | exact LeO.none _ | refine LeO.ite ?_ ?_ | refine LeO.bind ?_ (fun _ => ?_))
theorem impl_worthOf.mono : ∀ a0 a1 a2 k, LeO (impl_worthOf.f k a0 a1 a2) (impl_worthOf.f (k + 1) a0 a1 a2) := by
 intro a0 a1 a2 k
 obtain ⟨ih0, ih1, ih2, ih3, ih4⟩ := impl_worthOf.mono_l k
 unfold impl_worthOf.f
 repeat' first | (with_reducible first | exact ih0 _ _ _ _ _ | exact ih1 _ _ _ _ _ _ | exact ih2 _ _ _ _ _ _ _ _ _ _ | exact ih3 _ _ _ _ _ _ _ _ | exact ih4 _ _ _ _ _ _ _ _ | exact LeO.refl _ | exact LeO.none _ | refine LeO.ite ?_ ?_ | refine LeO.bind ?_ (fun _ => ?_))
set_option maxHeartbeats 8000000 in
set_option maxRecDepth 100000 in
theorem impl_worthOf.calls (k : Nat) (a0 : Int) (a1 : Int) (A2 : Option Addr) (c2 : Nat) (l2 : List (S46)) (r : List Int) (w : World) (hr2 : Kd.C k46 w A2 l2.length l2) (hc2 : l2.length ≤ c2) (h : impl_worthOf.f k a0 a1 l2 = some r) :
  Calls Try.prog 25 #[.int .i64 a0, .int .i64 a1, .slice A2 l2.length c2] w fun e w' => ∃ g : Nat, e = .returned (.pointer (some ⟨g, 0, none⟩)) ∧ spec_l04Worth.Tab 80 w' w.heap.size g r ∧ Below w.heap.size w w' := by
 have hu46 := Try.underlying46
 have HR2 := Aside0.mk hr2
 have HC2 := Aside0.mk hc2
 clear hr2 hc2
 have HB := Aside0.mk (Below.refl w.heap.size w)
 have H : (impl_worthOf.l0 k a0 a1 l2 (List.replicate 625 0) 1) = some r := h
 clear h
 obtain ⟨z6, hNz⟩ : ∃ y_ : List Int, (List.replicate 625 0) = y_ := ⟨_, rfl⟩
 replace H : (impl_worthOf.l0 k a0 a1 l2 z6 1) = some r := by rw [hNz] at H; exact H
 have H' := Aside0.mk H
 clear H
 go_enter Try.func25, Try.ntmps25
 have Nz := hNz
 have ZL : z6.length = 625 := by rw [← Nz]; simp
 have ZB := Aside0.mk (show Try.prog.built 80 [] = some (spec_l04Worth.cs z6) by rw [← Nz, spec_l04Worth.cs_zero]; kernel_rfl)
 go_wp2_with (first
  | ((with_reducible refine gate_dst (N := 15) rfl ?_); refine spec_l04Worth.build_ev rfl rfl 80 rfl ZB.out ?_)
  | ((with_reducible refine gate_dst (N := 16) rfl ?_); refine spec_l04Worth.box_ev rfl rfl 80 _ rfl rfl ?_; intro g7 hg w5 hk7 hb; have n0_ := bs_ HB hb; have n2_ := Aside0.mk ((by rw [hg]; exact (below_size (kB_ HB))) : w.heap.size ≤ g7); have n1_ := Aside0.mk (spec_l04Worth.tab_of hk7 ZL n2_.out); clear HB; have HB := n0_; have HO_7 := n1_; have GE7 := n2_; clear n0_ n1_ n2_; clear hb hk7 hg))
 go_loopg [8] k (fun kq v8 w' => ∃ (x7_1 : List Int) (x8_1 : Int), v8 = .int .i64 x8_1 ∧ Aside0 (impl_worthOf.l0 kq a0 a1 l2 x7_1 x8_1 = some r) ∧ Aside0 (kq ≤ k) ∧ Aside0 (spec_l04Worth.Tab 80 w' w.heap.size g7 x7_1) ∧ Aside0 (Below w.heap.size w w'))
 case atStart => exact ⟨(z6), (1), (by first | rfl | (simp; done) | (simp [*]; done)), H', ⟨Nat.le_refl _⟩, ⟨kp_ HO_7⟩, ⟨bl_ HB⟩⟩
 case round =>
  clear H'
  obtain ⟨x7_1, x8_1, rfl, HA, HK1, HO_7, HB⟩ := hrel
  rcases gk with _ | k1
  · exact absurd HA.out (by simp [impl_worthOf.l0])
  have H := HA.out
  clear HA
  simp only [impl_worthOf.l0] at H
  rcases (Decidable.em (x8_1 ≤ a0)).symm with c6 | c6
  ·
   rw [if_neg c6] at H
   have c6b0 : decide (x8_1 ≤ a0) = false := decide_eq_false c6
   clear c6
   obtain rfl := Option.some.inj H
   go_wp2
   repeat (go_quiet (fail); try go_wp2)
   go_ret
   exact ⟨g7, by first | rfl | (simp [errW_none, errW_some] <;> rfl) | (simp [*, errW_none, errW_some] <;> rfl), by (with_reducible repeat (first | apply Kd.R_alloc | apply Kd.R_drewN | apply Kd.R_drew)); exact HO_7.out, bl_ HB⟩

  rw [if_pos c6] at H
  have c6b0 : decide (x8_1 ≤ a0) = true := decide_eq_true c6
  clear c6
  have H' := Aside0.mk H
  clear H
  go_wp2
  repeat (go_quiet (fail); try go_wp2)
  go_loopg [9] k1 (fun kq v9 w' => ∃ (x7_2 : List Int) (x9_2 : Int), v9 = .int .i64 x9_2 ∧ Aside0 (impl_worthOf.l1 kq a0 a1 l2 x7_2 x8_1 x9_2 = some r) ∧ Aside0 (kq ≤ k1) ∧ Aside0 (spec_l04Worth.Tab 80 w' w.heap.size g7 x7_2) ∧ Aside0 (Below w.heap.size w w'))
  case atStart => exact ⟨(x7_1), (1), (by first | rfl | (simp; done) | (simp [*]; done)), H', ⟨Nat.le_refl _⟩, ⟨kp_ HO_7⟩, ⟨bl_ HB⟩⟩
  case round =>
   clear H'
   obtain ⟨x7_2, x9_2, rfl, HA, HK2, HO_7, HB⟩ := hrel
   rcases gk with _ | k2
   · exact absurd HA.out (by simp [impl_worthOf.l1])
   have H := HA.out
   clear HA
   simp only [impl_worthOf.l1] at H
   rcases (Decidable.em (x9_2 ≤ a1)).symm with c7 | c7
   ·
    rw [if_neg c7] at H
    have c7b0 : decide (x9_2 ≤ a1) = false := decide_eq_false c7
    clear c7
    have H' := Aside0.mk H
    clear H
    go_wp2
    repeat (go_quiet (fail); try go_wp2)
    go_roundg k2
    case measure => have := HK1.out; have := HK2.out; omega
    case rel => exact ⟨(x7_2), (wrap64 (x8_1 + 1)), (by first | rfl | (simp; done) | (simp [*]; done)), H', ⟨by have := HK1.out; have := HK2.out; omega⟩, ⟨kp_ HO_7⟩, ⟨bl_ HB⟩⟩
   rw [if_pos c7] at H
   have c7b0 : decide (x9_2 ≤ a1) = true := decide_eq_true c7
   clear c7
   have H' := Aside0.mk H
   clear H
   go_wp2
   repeat (go_quiet (fail); try go_wp2)
   go_loopg [10, 29] k2 (fun kq v10 v29 w' => ∃ (x10_3 : Int) (x29_3 : Int), v10 = .int .i64 x10_3 ∧ v29 = .int .i64 x29_3 ∧ Aside0 (impl_worthOf.l2 kq a0 a1 l2 x7_2 x8_1 x9_2 x10_3 l2 (l2.length : Int) x29_3 = some r) ∧ Aside0 (kq ≤ k2) ∧ Aside0 (spec_l04Worth.Tab 80 w' w.heap.size g7 x7_2) ∧ Aside0 (Below w.heap.size w w'))
   case atStart => exact ⟨(0), (0), (by first | rfl | (simp; done) | (simp [*]; done)), (by first | rfl | (simp; done) | (simp [*]; done)), H', ⟨Nat.le_refl _⟩, ⟨kp_ HO_7⟩, ⟨bl_ HB⟩⟩
   case round =>
    clear H'
    obtain ⟨x10_3, x29_3, rfl, rfl, HA, HK3, HO_7, HB⟩ := hrel
    rcases gk with _ | k3
    · exact absurd HA.out (by simp [impl_worthOf.l2])
    have H := HA.out
    clear HA
    simp only [impl_worthOf.l2] at H
    by_cases c8 : x29_3 < (l2.length : Int)
    ·
     rw [if_pos c8] at H
     have c8b0 : decide (x29_3 < (l2.length : Int)) = true := decide_eq_true c8
     clear c8
     obtain ⟨c9b0, H⟩ := gx_ H
     obtain ⟨c10b0, H⟩ := gx_ H
     rcases (Decidable.em ((wrap64 ((rd_T46 l2 x29_3).f0)) = x8_1)).symm with c11 | c11
     ·
      rw [if_neg c11] at H
      have c11b0 : ((wrap64 ((rd_T46 l2 x29_3).f0)) == x8_1) = false := beq_eq_false_iff_ne.mpr c11
      have c11b1 : ((wrap64 ((rd_T46 l2 x29_3).f0)) != x8_1) = true := bne_iff_ne.mpr c11
      have H' := Aside0.mk H
      clear H
      have p156 : 0 ≤ (x29_3 : Int) := od_
      have q156 : x29_3 < (l2.length : Int) := od_
      obtain ⟨ad156, e156, hx156_0, hx156_1, hx156_2⟩ := at_T46 HR2.out x29_3 p156 q156
      cases e156
      replace hx156_0 := (hw_ HB hx156_0 :)
      replace hx156_1 := (hw_ HB hx156_1 :)
      replace hx156_2 := (hw_ HB hx156_2 :)
      replace p156 := eq_true p156
      replace q156 := eq_true q156
      go_wp2_with (first | ((with_reducible refine gate_dst (N := 12) rfl ?_); refine boxM_ 12 #[.int .i8 0, .int .i8 0, .int .i16 0] 46 ?_; intro gb157 hg w18 hbox hb; replace HO_7 := Aside0.mk (Kd.R_below (kp_ HO_7) hb); have BK157 := Aside0.mk (hbox); have GW157 := ge_ HB hg; have GE157 := ge_ HB hg; replace HB := bs_ HB hb; clear hb hbox hg; have hcz19_0 : w18.cell? ⟨gb157, 0, none⟩ = some (.int .i8 0) := (blk_cell BK157.out 0).trans rfl; have hcz19_1 : w18.cell? ⟨gb157, 1, none⟩ = some (.int .i8 0) := (blk_cell BK157.out 1).trans rfl; have hcz19_2 : w18.cell? ⟨gb157, 2, none⟩ = some (.int .i16 0) := (blk_cell BK157.out 2).trans rfl; have hfz19_0 := blk_frozen BK157.out 0; have hfz19_1 := blk_frozen BK157.out 1; have hfz19_2 := blk_frozen BK157.out 2))
      repeat (go_quiet (fail); try go_wp2)
      go_roundg k3
      case measure => have := HK1.out; have := HK2.out; have := HK3.out; omega
      case rel => exact ⟨(x10_3), (wrap64 (x29_3 + 1)), (by first | rfl | (simp; done) | (simp [*]; done)), (by first | rfl | (simp; done) | (simp [*]; done)), H', ⟨by have := HK1.out; have := HK2.out; have := HK3.out; omega⟩, ⟨by (with_reducible repeat (first | apply Kd.R_alloc | apply Kd.R_drewN | apply Kd.R_drew)); exact Kd.R_mono (Kd.R_far (p := ⟨gb157, 2, none⟩) (Kd.R_far (p := ⟨gb157, 1, none⟩) (Kd.R_far (p := ⟨gb157, 0, none⟩) (Kd.R_types HO_7.out BK157.out (by decide)) (fun _ hk => hk.2) (.int .i8 ((rd_T46 l2 x29_3).f0))) (fun _ hk => hk.2) (.int .i8 ((rd_T46 l2 x29_3).f1))) (fun _ hk => hk.2) (.int .i16 ((rd_T46 l2 x29_3).f2))) (fun _ hk => trivial)⟩, ⟨k1_ HB GE157⟩⟩
     rw [if_pos c11] at H
     have c11b0 : ((wrap64 ((rd_T46 l2 x29_3).f0)) == x8_1) = true := beq_iff_eq.mpr c11
     have c11b1 : ((wrap64 ((rd_T46 l2 x29_3).f0)) != x8_1) = false := bne_eq_false_iff_eq.mpr c11
     clear c11
     rcases (Decidable.em ((wrap64 ((rd_T46 l2 x29_3).f1)) = x9_2)).symm with c12 | c12
     ·
      rw [if_neg c12] at H
      have c12b0 : ((wrap64 ((rd_T46 l2 x29_3).f1)) == x9_2) = false := beq_eq_false_iff_ne.mpr c12
      have c12b1 : ((wrap64 ((rd_T46 l2 x29_3).f1)) != x9_2) = true := bne_iff_ne.mpr c12
      have H' := Aside0.mk H
      clear H
      have p156 : 0 ≤ (x29_3 : Int) := od_
      have q156 : x29_3 < (l2.length : Int) := od_
      obtain ⟨ad156, e156, hx156_0, hx156_1, hx156_2⟩ := at_T46 HR2.out x29_3 p156 q156
      cases e156
      replace hx156_0 := (hw_ HB hx156_0 :)
      replace hx156_1 := (hw_ HB hx156_1 :)
      replace hx156_2 := (hw_ HB hx156_2 :)
      replace p156 := eq_true p156
      replace q156 := eq_true q156
      go_wp2_with (first | ((with_reducible refine gate_dst (N := 12) rfl ?_); refine boxM_ 12 #[.int .i8 0, .int .i8 0, .int .i16 0] 46 ?_; intro gb157 hg w16 hbox hb; replace HO_7 := Aside0.mk (Kd.R_below (kp_ HO_7) hb); have BK157 := Aside0.mk (hbox); have GW157 := ge_ HB hg; have GE157 := ge_ HB hg; replace HB := bs_ HB hb; clear hb hbox hg; have hcz17_0 : w16.cell? ⟨gb157, 0, none⟩ = some (.int .i8 0) := (blk_cell BK157.out 0).trans rfl; have hcz17_1 : w16.cell? ⟨gb157, 1, none⟩ = some (.int .i8 0) := (blk_cell BK157.out 1).trans rfl; have hcz17_2 : w16.cell? ⟨gb157, 2, none⟩ = some (.int .i16 0) := (blk_cell BK157.out 2).trans rfl; have hfz17_0 := blk_frozen BK157.out 0; have hfz17_1 := blk_frozen BK157.out 1; have hfz17_2 := blk_frozen BK157.out 2))
      repeat (go_quiet (fail); try go_wp2)
      go_roundg k3
      case measure => have := HK1.out; have := HK2.out; have := HK3.out; omega
      case rel => exact ⟨(x10_3), (wrap64 (x29_3 + 1)), (by first | rfl | (simp; done) | (simp [*]; done)), (by first | rfl | (simp; done) | (simp [*]; done)), H', ⟨by have := HK1.out; have := HK2.out; have := HK3.out; omega⟩, ⟨by (with_reducible repeat (first | apply Kd.R_alloc | apply Kd.R_drewN | apply Kd.R_drew)); exact Kd.R_mono (Kd.R_far (p := ⟨gb157, 2, none⟩) (Kd.R_far (p := ⟨gb157, 1, none⟩) (Kd.R_far (p := ⟨gb157, 0, none⟩) (Kd.R_types HO_7.out BK157.out (by decide)) (fun _ hk => hk.2) (.int .i8 ((rd_T46 l2 x29_3).f0))) (fun _ hk => hk.2) (.int .i8 ((rd_T46 l2 x29_3).f1))) (fun _ hk => hk.2) (.int .i16 ((rd_T46 l2 x29_3).f2))) (fun _ hk => trivial)⟩, ⟨k1_ HB GE157⟩⟩
     rw [if_pos c12] at H
     have c12b0 : ((wrap64 ((rd_T46 l2 x29_3).f1)) == x9_2) = true := beq_iff_eq.mpr c12
     have c12b1 : ((wrap64 ((rd_T46 l2 x29_3).f1)) != x9_2) = false := bne_eq_false_iff_eq.mpr c12
     clear c12
     obtain ⟨ji13, hji13⟩ : ∃ j_ : Int, (mx x10_3 (wrap64 ((rd_T46 l2 x29_3).f2))) = j_ := ⟨_, rfl⟩
     replace H : (impl_worthOf.l2 k3 a0 a1 l2 x7_2 x8_1 x9_2 ji13 l2 (l2.length : Int) (wrap64 (x29_3 + 1))) = some r := by first | (rw [hji13] at H; exact H) | (simp only [hji13] at H ⊢; exact H)
     have hji13_ : (if x10_3 < (wrap64 ((rd_T46 l2 x29_3).f2)) then (wrap64 ((rd_T46 l2 x29_3).f2)) else x10_3) = ji13 := hji13
     have H' := Aside0.mk H
     clear H
     have p156 : 0 ≤ (x29_3 : Int) := od_
     have q156 : x29_3 < (l2.length : Int) := od_
     obtain ⟨ad156, e156, hx156_0, hx156_1, hx156_2⟩ := at_T46 HR2.out x29_3 p156 q156
     cases e156
     replace hx156_0 := (hw_ HB hx156_0 :)
     replace hx156_1 := (hw_ HB hx156_1 :)
     replace hx156_2 := (hw_ HB hx156_2 :)
     replace p156 := eq_true p156
     replace q156 := eq_true q156
     go_wp2_with (first | ((with_reducible refine gate_dst (N := 12) rfl ?_); refine boxM_ 12 #[.int .i8 0, .int .i8 0, .int .i16 0] 46 ?_; intro gb157 hg w14 hbox hb; replace HO_7 := Aside0.mk (Kd.R_below (kp_ HO_7) hb); have BK157 := Aside0.mk (hbox); have GW157 := ge_ HB hg; have GE157 := ge_ HB hg; replace HB := bs_ HB hb; clear hb hbox hg; have hcz15_0 : w14.cell? ⟨gb157, 0, none⟩ = some (.int .i8 0) := (blk_cell BK157.out 0).trans rfl; have hcz15_1 : w14.cell? ⟨gb157, 1, none⟩ = some (.int .i8 0) := (blk_cell BK157.out 1).trans rfl; have hcz15_2 : w14.cell? ⟨gb157, 2, none⟩ = some (.int .i16 0) := (blk_cell BK157.out 2).trans rfl; have hfz15_0 := blk_frozen BK157.out 0; have hfz15_1 := blk_frozen BK157.out 1; have hfz15_2 := blk_frozen BK157.out 2))
     repeat (go_quiet (fail); try go_wp2)
     go_roundg k3
     case measure => have := HK1.out; have := HK2.out; have := HK3.out; omega
     case rel => exact ⟨(ji13), (wrap64 (x29_3 + 1)), (by first | rfl | (simp; done) | (simp only [← hji13] <;> (first | rfl | simp)) | (simp [*]; done)), (by first | rfl | (simp; done) | (simp [*]; done)), H', ⟨by have := HK1.out; have := HK2.out; have := HK3.out; omega⟩, ⟨by (with_reducible repeat (first | apply Kd.R_alloc | apply Kd.R_drewN | apply Kd.R_drew)); exact Kd.R_mono (Kd.R_far (p := ⟨gb157, 2, none⟩) (Kd.R_far (p := ⟨gb157, 1, none⟩) (Kd.R_far (p := ⟨gb157, 0, none⟩) (Kd.R_types HO_7.out BK157.out (by decide)) (fun _ hk => hk.2) (.int .i8 ((rd_T46 l2 x29_3).f0))) (fun _ hk => hk.2) (.int .i8 ((rd_T46 l2 x29_3).f1))) (fun _ hk => hk.2) (.int .i16 ((rd_T46 l2 x29_3).f2))) (fun _ hk => trivial)⟩, ⟨k1_ HB GE157⟩⟩
    rw [if_neg c8] at H
    have c8b0 : decide (x29_3 < (l2.length : Int)) = false := decide_eq_false c8
    clear c8
    have H' := Aside0.mk H
    clear H
    go_wp2
    repeat (go_quiet (fail); try go_wp2)
    go_loopg [10, 13] k3 (fun kq v10 v13 w' => ∃ (x10_4 : Int) (x13_4 : Int), v10 = .int .i64 x10_4 ∧ v13 = .int .i64 x13_4 ∧ Aside0 (impl_worthOf.l3 kq a0 a1 l2 x7_2 x8_1 x9_2 x10_4 x13_4 = some r) ∧ Aside0 (kq ≤ k3) ∧ Aside0 (spec_l04Worth.Tab 80 w' w.heap.size g7 x7_2) ∧ Aside0 (Below w.heap.size w w'))
    case atStart => exact ⟨(x10_3), (1), (by first | rfl | (simp; done) | (simp [*]; done)), (by first | rfl | (simp; done) | (simp [*]; done)), H', ⟨Nat.le_refl _⟩, ⟨kp_ HO_7⟩, ⟨bl_ HB⟩⟩
    case round =>
     clear H'
     obtain ⟨x10_4, x13_4, rfl, rfl, HA, HK4, HO_7, HB⟩ := hrel
     rcases gk with _ | k4
     · exact absurd HA.out (by simp [impl_worthOf.l3])
     have H := HA.out
     clear HA
     simp only [impl_worthOf.l3] at H
     by_cases c20 : x13_4 < x8_1
     ·
      rw [if_pos c20] at H
      have c20b0 : decide (x13_4 < x8_1) = true := decide_eq_true c20
      clear c20
      obtain ⟨c21b0, H⟩ := gx_ H
      obtain ⟨c22b0, H⟩ := gx_ H
      obtain ⟨c23b0, H⟩ := gx_ H
      obtain ⟨c24b0, H⟩ := gx_ H
      obtain ⟨ji25, hji25⟩ : ∃ j_ : Int, (wrap64 (x8_1 - x13_4)) = j_ := ⟨_, rfl⟩
      replace H : (if 0 ≤ (ji25) then (if (ji25) < 25 then (impl_worthOf.l3 k4 a0 a1 l2 x7_2 x8_1 x9_2 (mx x10_4 (wrap64 ((rd x7_2 (x13_4 * 25 + x9_2)) + (rd x7_2 ((ji25) * 25 + x9_2))))) (wrap64 (x13_4 + 1))) else (none)) else (none)) = some r := by first | (rw [hji25] at H; exact H) | (simp only [hji25] at H ⊢; exact H)
      have hji25w : (IntKind.i64.wrap (x8_1 - x13_4)) = ji25 := (i64_w _).trans hji25
      obtain ⟨c26b0, H⟩ := gx_ H
      obtain ⟨c27b0, H⟩ := gx_ H
      obtain ⟨ji28, hji28⟩ : ∃ j_ : Int, (mx x10_4 (wrap64 ((rd x7_2 (x13_4 * 25 + x9_2)) + (rd x7_2 ((ji25) * 25 + x9_2))))) = j_ := ⟨_, rfl⟩
      replace H : (impl_worthOf.l3 k4 a0 a1 l2 x7_2 x8_1 x9_2 ji28 (wrap64 (x13_4 + 1))) = some r := by first | (rw [hji28] at H; exact H) | (simp only [hji28] at H ⊢; exact H)
      have hji28_ : (if x10_4 < (wrap64 ((rd x7_2 (x13_4 * 25 + x9_2)) + (rd x7_2 ((ji25) * 25 + x9_2)))) then (wrap64 ((rd x7_2 (x13_4 * 25 + x9_2)) + (rd x7_2 ((ji25) * 25 + x9_2)))) else x10_4) = ji28 := hji28
      have H' := Aside0.mk H
      clear H
      have pi158 : 0 ≤ x13_4 := od_
      have qi158 : x13_4 < 25 := od_
      have pj158 : 0 ≤ x9_2 := od_
      have qj158 : x9_2 < 25 := od_
      have hx158_0 := (spec_l04Worth.tab_cell HO_7.out (x13_4) (x9_2) pi158 qi158 pj158 qj158).1
      replace pi158 := eq_true pi158
      replace qi158 := eq_true qi158
      replace pj158 := eq_true pj158
      replace qj158 := eq_true qj158
      have pi159 : 0 ≤ (ji25) := od_
      have qi159 : (ji25) < 25 := od_
      have pj159 : 0 ≤ x9_2 := od_
      have qj159 : x9_2 < 25 := od_
      have hx159_0 := (spec_l04Worth.tab_cell HO_7.out ((ji25)) (x9_2) pi159 qi159 pj159 qj159).1
      replace pi159 := eq_true pi159
      replace qi159 := eq_true qi159
      replace pj159 := eq_true pj159
      replace qj159 := eq_true qj159
      go_wp2
      repeat (go_quiet (fail); try go_wp2)
      go_roundg k4
      case measure => have := HK1.out; have := HK2.out; have := HK3.out; have := HK4.out; omega
      case rel => exact ⟨(ji28), (wrap64 (x13_4 + 1)), (by first | rfl | (simp; done) | (simp only [← hji28] <;> (first | rfl | simp)) | (simp [*]; done)), (by first | rfl | (simp; done) | (simp [*]; done)), H', ⟨by have := HK1.out; have := HK2.out; have := HK3.out; have := HK4.out; omega⟩, ⟨kp_ HO_7⟩, ⟨bl_ HB⟩⟩
     rw [if_neg c20] at H
     have c20b0 : decide (x13_4 < x8_1) = false := decide_eq_false c20
     clear c20
     have H' := Aside0.mk H
     clear H
     go_wp2
     repeat (go_quiet (fail); try go_wp2)
     go_loopg [10, 14] k4 (fun kq v10 v14 w' => ∃ (x10_5 : Int) (x14_5 : Int), v10 = .int .i64 x10_5 ∧ v14 = .int .i64 x14_5 ∧ Aside0 (impl_worthOf.l4 kq a0 a1 l2 x7_2 x8_1 x9_2 x10_5 x14_5 = some r) ∧ Aside0 (kq ≤ k4) ∧ Aside0 (spec_l04Worth.Tab 80 w' w.heap.size g7 x7_2) ∧ Aside0 (Below w.heap.size w w'))
     case atStart => exact ⟨(x10_4), (1), (by first | rfl | (simp; done) | (simp [*]; done)), (by first | rfl | (simp; done) | (simp [*]; done)), H', ⟨Nat.le_refl _⟩, ⟨kp_ HO_7⟩, ⟨bl_ HB⟩⟩
     case round =>
      clear H'
      obtain ⟨x10_5, x14_5, rfl, rfl, HA, HK5, HO_7, HB⟩ := hrel
      rcases gk with _ | k5
      · exact absurd HA.out (by simp [impl_worthOf.l4])
      have H := HA.out
      clear HA
      simp only [impl_worthOf.l4] at H
      rcases (Decidable.em (x14_5 < x9_2)).symm with c30 | c30
      ·
       rw [if_neg c30] at H
       have c30b0 : decide (x14_5 < x9_2) = false := decide_eq_false c30
       clear c30
       obtain ⟨c40b0, H⟩ := gx_ H
       obtain ⟨c41b0, H⟩ := gx_ H
       obtain ⟨c42b0, H⟩ := gx_ H
       obtain ⟨c43b0, H⟩ := gx_ H
       obtain ⟨y162, hy162⟩ : ∃ y_ : List Int, y_ = (x7_2.set ((x8_1 * 25 + x9_2) : Int).toNat x10_5) := ⟨_, rfl⟩
       replace H : (impl_worthOf.l1 k5 a0 a1 l2 y162 x8_1 (wrap64 (x9_2 + 1))) = some r := by first | (rw [hy162]; with_reducible exact H) | (have H2_ := (Option.bind_some _ _).symm.trans H; rw [hy162]; with_reducible exact H2_) | (have H2_ := (Option.bind_some _ _).symm.trans H; with_reducible exact H2_) | with_reducible exact H | (rw [hy162]; exact H) | exact H
       have Ny162 := Aside0.mk hy162
       clear hy162
       have H' := Aside0.mk H
       clear H
       have pi44 : 0 ≤ x8_1 := od_
       have qi44 : x8_1 < 25 := od_
       have pj44 : 0 ≤ x9_2 := od_
       have qj44 : x9_2 < 25 := od_
       obtain ⟨hx44_0, hf44_0⟩ := spec_l04Worth.tab_cell HO_7.out (x8_1) (x9_2) pi44 qi44 pj44 qj44
       have HP44 := spec_l04Worth.tab_put HO_7.out (x8_1) (x9_2) (x10_5) pi44 qi44 pj44 qj44
       replace pi44 := eq_true pi44
       replace qi44 := eq_true qi44
       replace pj44 := eq_true pj44
       replace qj44 := eq_true qj44
       go_wp2_with (first | ((with_reducible refine gate_store (t := 2) (p := 105) rfl ?_); refine store_event (t := 2) (p := 105) (v := ?vo_w46) (w1 := (wr.setCell ⟨g7, x8_1.toNat * 25 + x9_2.toNat, none⟩ (.int .i64 x10_5))) ?hg ?ho ?hn ?hr ?_; (case ho => rfl); (case hg => rfl); (case hn => rfl); (case hr => first | (go_simp; done) | (go_simp; rfl)); intro w46 hw; have n0_ := Aside0.mk ((by rw [hw, Ny162.out]; exact HP44 : spec_l04Worth.Tab 80 w46 w.heap.size g7 y162)); have n1_ := Aside0.mk ((by rw [hw]; exact below_set (HB.out) GE7.out : Below w.heap.size w w46)); clear HP44 HO_7 HB; have HO_7 := n0_; have HB := n1_; clear n0_ n1_; clear hw))
       repeat (go_quiet (fail); try go_wp2)
       go_roundg k5
       case measure => have := HK1.out; have := HK2.out; have := HK3.out; have := HK4.out; have := HK5.out; omega
       case rel => exact ⟨(y162), (wrap64 (x9_2 + 1)), (by first | rfl | (simp; done) | (simp [*]; done)), H', ⟨by have := HK1.out; have := HK2.out; have := HK3.out; have := HK4.out; have := HK5.out; omega⟩, ⟨kp_ HO_7⟩, ⟨bl_ HB⟩⟩
      rw [if_pos c30] at H
      have c30b0 : decide (x14_5 < x9_2) = true := decide_eq_true c30
      clear c30
      obtain ⟨c31b0, H⟩ := gx_ H
      obtain ⟨c32b0, H⟩ := gx_ H
      obtain ⟨c33b0, H⟩ := gx_ H
      obtain ⟨c34b0, H⟩ := gx_ H
      obtain ⟨ji35, hji35⟩ : ∃ j_ : Int, (wrap64 (x9_2 - x14_5)) = j_ := ⟨_, rfl⟩
      replace H : (if 0 ≤ (ji35) then (if (ji35) < 25 then (impl_worthOf.l4 k5 a0 a1 l2 x7_2 x8_1 x9_2 (mx x10_5 (wrap64 ((rd x7_2 (x8_1 * 25 + x14_5)) + (rd x7_2 (x8_1 * 25 + (ji35)))))) (wrap64 (x14_5 + 1))) else (none)) else (none)) = some r := by first | (rw [hji35] at H; exact H) | (simp only [hji35] at H ⊢; exact H)
      have hji35w : (IntKind.i64.wrap (x9_2 - x14_5)) = ji35 := (i64_w _).trans hji35
      obtain ⟨c36b0, H⟩ := gx_ H
      obtain ⟨c37b0, H⟩ := gx_ H
      obtain ⟨ji38, hji38⟩ : ∃ j_ : Int, (mx x10_5 (wrap64 ((rd x7_2 (x8_1 * 25 + x14_5)) + (rd x7_2 (x8_1 * 25 + (ji35)))))) = j_ := ⟨_, rfl⟩
      replace H : (impl_worthOf.l4 k5 a0 a1 l2 x7_2 x8_1 x9_2 ji38 (wrap64 (x14_5 + 1))) = some r := by first | (rw [hji38] at H; exact H) | (simp only [hji38] at H ⊢; exact H)
      have hji38_ : (if x10_5 < (wrap64 ((rd x7_2 (x8_1 * 25 + x14_5)) + (rd x7_2 (x8_1 * 25 + (ji35))))) then (wrap64 ((rd x7_2 (x8_1 * 25 + x14_5)) + (rd x7_2 (x8_1 * 25 + (ji35))))) else x10_5) = ji38 := hji38
      have H' := Aside0.mk H
      clear H
      have pi160 : 0 ≤ x8_1 := od_
      have qi160 : x8_1 < 25 := od_
      have pj160 : 0 ≤ x14_5 := od_
      have qj160 : x14_5 < 25 := od_
      have hx160_0 := (spec_l04Worth.tab_cell HO_7.out (x8_1) (x14_5) pi160 qi160 pj160 qj160).1
      replace pi160 := eq_true pi160
      replace qi160 := eq_true qi160
      replace pj160 := eq_true pj160
      replace qj160 := eq_true qj160
      have pi161 : 0 ≤ x8_1 := od_
      have qi161 : x8_1 < 25 := od_
      have pj161 : 0 ≤ (ji35) := od_
      have qj161 : (ji35) < 25 := od_
      have hx161_0 := (spec_l04Worth.tab_cell HO_7.out (x8_1) ((ji35)) pi161 qi161 pj161 qj161).1
      replace pi161 := eq_true pi161
      replace qi161 := eq_true qi161
      replace pj161 := eq_true pj161
      replace qj161 := eq_true qj161
      go_wp2
      repeat (go_quiet (fail); try go_wp2)
      go_roundg k5
      case measure => have := HK1.out; have := HK2.out; have := HK3.out; have := HK4.out; have := HK5.out; omega
      case rel => exact ⟨(ji38), (wrap64 (x14_5 + 1)), (by first | rfl | (simp; done) | (simp only [← hji38] <;> (first | rfl | simp)) | (simp [*]; done)), (by first | rfl | (simp; done) | (simp [*]; done)), H', ⟨by have := HK1.out; have := HK2.out; have := HK3.out; have := HK4.out; have := HK5.out; omega⟩, ⟨kp_ HO_7⟩, ⟨bl_ HB⟩⟩
end Go.Proofs.Ytnkihjabmbeicaa.PA
