/- Pure functions, and that Go's functions come to them. -/
import Derived.Test.YthbogbaaikjhbaaGreatDoorPAx0
import Derived.Test.YthbogbaaikjhbaaGreatDoorPAxm29
import Derived.Test.YthbogbaaikjhbaaGreatDoorPAxgImpl
namespace Go.Proofs.YthbogbaaikjhbaaGreatDoor.PA
open Go.RowKit Go.Proofs.YthbogbaaikjhbaaGreatDoorW.PrintWords Go.Proofs.YthbogbaaikjhbaaGreatDoorW.PrintLast Go.Proofs.YthbogbaaikjhbaaGreatDoorW.PrintMore
set_option linter.unusedVariables false
set_option linter.unusedSimpArgs false

/-! ### impl_chain: function 54 -/
mutual
def impl_chain.l0 : Nat → List (S43) → List (S43) → Int → Int → Option ((List (S43)))
 | 0, _, _, _, _ => none
 | k + 1, x3, x7, x8, x9 => if x9 < x8 then (if 0 ≤ x9 then (if x9 < (x7.length : Int) then (impl_chain.l1 k x3 x7 x8 x9 ((rd_T43 x7 x9).f0) ((rd_T43 x7 x9).f1)) else (none)) else (none)) else (if 0 ≤ (wrap64 ((x3.length : Int) - 1)) then (if (wrap64 ((x3.length : Int) - 1)) ≤ (x3.length : Int) then (some (x3.take ((wrap64 ((x3.length : Int) - 1)) : Int).toNat)) else (none)) else (none))
def impl_chain.l1 : Nat → List (S43) → List (S43) → Int → Int → Int → Int → Option ((List (S43)))
 | 0, _, _, _, _, _, _ => none
 | k + 1, x3, x7, x8, x9, x517000, x517001 => if (x3.length : Int) ≥ 2 then (if 0 ≤ (wrap64 ((x3.length : Int) - 2)) then (if (wrap64 ((x3.length : Int) - 2)) < (x3.length : Int) then (if 0 ≤ (wrap64 ((x3.length : Int) - 1)) then (if (wrap64 ((x3.length : Int) - 1)) < (x3.length : Int) then ((impl_side.f ((rd_T43 x3 (wrap64 ((x3.length : Int) - 2))).f0) ((rd_T43 x3 (wrap64 ((x3.length : Int) - 2))).f1) ((rd_T43 x3 (wrap64 ((x3.length : Int) - 1))).f0) ((rd_T43 x3 (wrap64 ((x3.length : Int) - 1))).f1) x517000 x517001).bind fun t519 => (if t519 ≤ 0 then (if (wrap64 ((x3.length : Int) - 1)) ≤ (x3.length : Int) then (impl_chain.l1 k (x3.take ((wrap64 ((x3.length : Int) - 1)) : Int).toNat) x7 x8 x9 x517000 x517001) else (none)) else (if x3.length < 35184372088832 then (impl_chain.l0 k (x3 ++ [(⟨x517000, x517001⟩ : S43)]) x7 x8 (wrap64 (x9 + 1))) else (none)))) else (none)) else (none)) else (none)) else (none)) else (if x3.length < 35184372088832 then (impl_chain.l0 k (x3 ++ [(⟨x517000, x517001⟩ : S43)]) x7 x8 (wrap64 (x9 + 1))) else (none))
end
def impl_chain.f (k : Nat) (l0 : List (S43)) : Option ((List (S43))) := impl_chain.l0 k (([] : List (S43))) l0 (l0.length : Int) 0
theorem impl_chain.mono_l : ∀ k, (∀ y0 y1 y2 y3, LeO (impl_chain.l0 k y0 y1 y2 y3) (impl_chain.l0 (k + 1) y0 y1 y2 y3)) ∧ (∀ y0 y1 y2 y3 y4 y5, LeO (impl_chain.l1 k y0 y1 y2 y3 y4 y5) (impl_chain.l1 (k + 1) y0 y1 y2 y3 y4 y5))
 | 0 => ⟨fun _ _ _ _ r h => by simp [impl_chain.l0] at h, fun _ _ _ _ _ _ r h => by simp [impl_chain.l1] at h⟩
 | k + 1 => by
  obtain ⟨ih0, ih1⟩ := impl_chain.mono_l k
  refine ⟨?_, ?_⟩ <;> intros
  all_goals first | unfold impl_chain.l0 | unfold impl_chain.l1
  all_goals repeat' first | (with_reducible first | exact ih0 _ _ _ _ | exact ih1 _ _ _ _ _ _ | exact LeO.refl _ | exact LeO.none _ | refine LeO.ite ?_ ?_ | refine LeO.bind ?_ (fun _ => ?_))
theorem impl_chain.mono : ∀ a0 k, LeO (impl_chain.f k a0) (impl_chain.f (k + 1) a0) := by
 intro a0 k
 obtain ⟨ih0, ih1⟩ := impl_chain.mono_l k
 unfold impl_chain.f
 repeat' first | (with_reducible first | exact ih0 _ _ _ _ | exact ih1 _ _ _ _ _ _ | exact LeO.refl _ | exact LeO.none _ | refine LeO.ite ?_ ?_ | refine LeO.bind ?_ (fun _ => ?_))
def impl_chain.T5 : Bool × List (List Nat × List Nat) := (true, [([], []), ([0], [0]), ([1], [1]), ([2], [2]), ([3], [3]), ([3], [3]), ([5, 3], [3, 5]), ([6, 3], [3, 6]), ([4, 7, 3], [3, 4, 7]), ([8, 3], [3, 8]), ([3], [3]), ([3], [3]), ([11, 3], [3, 11]), ([12, 3], [3, 12]), ([10, 13, 3], [3, 10, 13]), ([14, 3], [3, 14]), ([3], [3]), ([9, 15, 16, 3, 3], [3, 9, 15, 16]), ([17, 3], [3, 17]), ([3, 18], [3, 18])])
def impl_chain.B5 : List Nat := [0, 1, 3, 7, 15, 15, 47, 111, 255, 511, 15, 15, 2063, 6159, 15375, 31759, 15, 131071, 262143, 524287]
theorem impl_chain.tab5 : rtab .any (opsOf Tryz.f54 5) = impl_chain.T5 := by kernel_rfl
theorem impl_chain.bits5 : waitsOk impl_chain.T5.2 impl_chain.B5 = true := by kernel_rfl
set_option maxHeartbeats 8000000 in
set_option maxRecDepth 100000 in
theorem impl_chain.calls (k : Nat) (A0 : Option Addr) (c0 : Nat) (l0 : List (S43)) (r : List (S43)) (w : World) (hr0 : Kd.C k43 w A0 l0.length l0) (hc0 : l0.length ≤ c0) (h : impl_chain.f k l0 = some r) :
  Calls Tryz.prog 54 #[.slice A0 l0.length c0] w fun e w' => ∃ v0_ : Value, e = .returned (v0_) ∧ Kd.R k43 43 w' w.heap.size (fun _ => True) v0_ r ∧ Below w.heap.size w w' := by
 have hu43 := Tryz.underlying43
 have HR0 := Aside0.mk hr0
 have HC0 := Aside0.mk hc0
 clear hr0 hc0
 have HB := Aside0.mk (Below.refl w.heap.size w)
 have H : (impl_chain.l0 k (([] : List (S43))) l0 (l0.length : Int) 0) = some r := h
 clear h
 obtain ⟨y509, hy509⟩ : ∃ y_ : List (S43), y_ = (([] : List (S43))) := ⟨_, rfl⟩
 replace H : (impl_chain.l0 k y509 l0 (l0.length : Int) 0) = some r := by first | (rw [hy509]; with_reducible exact H) | (have H2_ := (Option.bind_some _ _).symm.trans H; rw [hy509]; with_reducible exact H2_) | (have H2_ := (Option.bind_some _ _).symm.trans H; with_reducible exact H2_) | with_reducible exact H | (rw [hy509]; exact H) | exact H
 have Ny509 := Aside0.mk hy509
 clear hy509
 have H' := Aside0.mk H
 clear H
 go_enter Tryz.func54, Tryz.ntmps54
 go_wp2_with (first | ((with_reducible refine gate_dst (N := 6) rfl ?_); (try (refine gate_guard (by rfl) ?_; dsimp only)); refine Kd.R_lit k43 _ 43 ?hg (N := 6) ?hd (xs := ([] : List (S43))) (inner := []) (ok := fun _ => True) (okp := fun _ => True) ?hr ?hp (fun _ hk => hk) trivial (Below.refl _ _) (Nat.le_refl _) (by simp) ?_; (case hd => rfl); (case hg => rfl); (case hr => first | (go_simp; done) | (go_simp; rfl)); (case hp => exact (Reps.none _ _)); intro v510 w2 ho3 hb hg_ hnew_; clear hg_ hnew_; (first | rw [← Ny509.out] at ho3 | (simp only [Int.reduceToNat] at ho3; rw [← Ny509.out] at ho3)); have HO511 := Aside0.mk (Kd.R_lower ho3 (below_size (kB_ HB))); replace HB := Aside0.mk (below_step (kB_ HB) hb); clear hb ho3))
 go_loopg [3, 9] k (fun kq v3 v9 w' => ∃ (x3_1 : List (S43)) (x9_1 : Int), v9 = .int .i64 x9_1 ∧ Aside0 (impl_chain.l0 kq x3_1 l0 (l0.length : Int) x9_1 = some r) ∧ Aside0 (kq ≤ k) ∧ Aside0 (Kd.R k43 43 w' w.heap.size (fun _ => True) v3 x3_1) ∧ Aside0 (Below w.heap.size w w'))
 case atStart => exact ⟨(y509), (0), (by first | rfl | (simp; done) | (simp [*]; done)), H', ⟨Nat.le_refl _⟩, ⟨kp_ HO511⟩, ⟨kB_ HB⟩⟩
 case round =>
  clear H'
  obtain ⟨x3_1, x9_1, rfl, HA, HK1, HO_3, HB⟩ := hrel
  rcases gk with _ | k1
  · exact absurd HA.out (by simp [impl_chain.l0])
  have H := HA.out
  clear HA
  simp only [impl_chain.l0] at H
  rcases (Decidable.em (x9_1 < (l0.length : Int))).symm with c4 | c4
  ·
   rw [if_neg c4] at H
   have c4b0 : decide (x9_1 < (l0.length : Int)) = false := decide_eq_false c4
   clear c4
   obtain ⟨ji34, hji34⟩ : ∃ j_ : Int, (wrap64 ((x3_1.length : Int) - 1)) = j_ := ⟨_, rfl⟩
   replace H : (if 0 ≤ (ji34) then (if (ji34) ≤ (x3_1.length : Int) then (some (x3_1.take ((ji34) : Int).toNat)) else (none)) else (none)) = some r := by first | (rw [hji34] at H; exact H) | (simp only [hji34] at H ⊢; exact H)
   have hji34w : (IntKind.i64.wrap ((x3_1.length : Int) - 1)) = ji34 := (i64_w _).trans hji34
   obtain ⟨(c35 : 0 ≤ (ji34)), H⟩ := gd_ H
   have c35b0 := eq_true c35
   have c35b1 : decide (0 ≤ (ji34)) = true := decide_eq_true c35
   clear c35
   obtain ⟨(c36 : (ji34) ≤ (x3_1.length : Int)), H⟩ := gd_ H
   have c36b0 := eq_true c36
   have c36b1 : decide ((ji34) ≤ (x3_1.length : Int)) = true := decide_eq_true c36
   clear c36
   obtain ⟨y512, hy512⟩ : ∃ y_ : List (S43), y_ = (x3_1.take ((ji34) : Int).toNat) := ⟨_, rfl⟩
   replace H : (some y512) = some r := by first | (rw [hy512]; with_reducible exact H) | (have H2_ := (Option.bind_some _ _).symm.trans H; rw [hy512]; with_reducible exact H2_) | (have H2_ := (Option.bind_some _ _).symm.trans H; with_reducible exact H2_) | with_reducible exact H | (rw [hy512]; exact H) | exact H
   have Ny512 := Aside0.mk hy512
   clear hy512
   obtain rfl := Option.some.inj H
   obtain ⟨Ao37, co37, eo37⟩ := Kd.R_slice HO_3.out
   subst eo37
   have q38 : ((ji34) : Int) ≤ ((x3_1.length : Int) : Int) := od_
   obtain ⟨i038, hi038, _, hsz38, _⟩ := info_parts info43
   have hcut38 := cut_to (P := Tryz.prog) 25 43 .i64 Tryz.underlying25 hi038 Ao37 x3_1.length co37 (ji34) od_ q38 (Kd.R_reads' HO_3.out).2.1
   have hr38 := Kd.R_take (m := ((ji34) : Int).toNat) HO_3.out (by omega)
   have hy38 : y512.length = ((ji34) : Int).toNat := (by rw [Ny512.out, List.length_take]; omega)
   rw [← Ny512.out] at hr38
   rw [← hy38] at hr38 hcut38
   clear hy38 hi038 hsz38 HO_3
   have HO514 := Aside0.mk hr38
   clear hr38
   replace q38 := eq_true q38
   go_wp2
   go_ret
   exact ⟨_, by first | rfl | (simp [errW_none, errW_some] <;> rfl) | (simp only [← hji34]; first | rfl | (simp [errW_none, errW_some] <;> rfl)) | (simp [*, errW_none, errW_some] <;> rfl), by (with_reducible repeat (first | apply Kd.R_alloc | apply Kd.R_drewN | apply Kd.R_drew)); exact HO514.out, kB_ HB⟩
  rw [if_pos c4] at H
  have c4b0 : decide (x9_1 < (l0.length : Int)) = true := decide_eq_true c4
  clear c4
  obtain ⟨c5b0, H⟩ := gx_ H
  obtain ⟨c6b0, H⟩ := gx_ H
  have H' := Aside0.mk H
  clear H
  have p515 : 0 ≤ (x9_1 : Int) := od_
  have q515 : x9_1 < (l0.length : Int) := od_
  obtain ⟨ad515, e515, hx515_0, hx515_1⟩ := af_ HB (at_T43 HR0.out x9_1 p515 q515)
  cases e515
  replace p515 := eq_true p515
  replace q515 := eq_true q515
  go_wp2_with (first | ((with_reducible refine gate_dst (N := 5) rfl ?_); (try (refine gate_guard (by rfl) ?_; dsimp only)); refine boxM_ 5 #[.int .i16 0, .int .i16 0] 43 ?_; intro gb516 hg w7 hbox hb; replace HO_3 := Aside0.mk (Kd.R_below (Kd.R_elderB (kp_ HO_3) gb516 (Nat.le_of_eq hg.symm)) hb); have BK516 := Aside0.mk (hbox); have GW516 := Aside0.mk ((by rw [hg]; exact (below_size (kB_ HB)) : w.heap.size ≤ gb516)); have GE516 := Aside0.mk ((by rw [hg]; exact (below_size (kB_ HB)) : w.heap.size ≤ gb516)); replace HB := Aside0.mk (below_step (kB_ HB) hb); clear hb hbox hg; obtain ⟨⟨hcz8_0, hcz8_1⟩, hfz8_0, hfz8_1⟩ := bq_ BK516))
  go_loopg [3] k1 (fun kq v3 w' => ∃ (x3_2 : List (S43)), Aside0 (impl_chain.l1 kq x3_2 l0 (l0.length : Int) x9_1 ((rd_T43 l0 x9_1).f0) ((rd_T43 l0 x9_1).f1) = some r) ∧ Aside0 (kq ≤ k1) ∧ Aside0 (Kd.R k43 43 w' w.heap.size (fun k_ => k_ ≠ gb516) v3 x3_2) ∧ Aside0 (w'.heap[gb516]? = some (.cells #[.int .i16 ((rd_T43 l0 x9_1).f0), .int .i16 ((rd_T43 l0 x9_1).f1)] 43 (0, 0))) ∧ Aside0 (Below w.heap.size w w'))
  case atStart => exact ⟨(x3_1), H', ⟨Nat.le_refl _⟩, ⟨by (with_reducible repeat (first | apply Kd.R_alloc | apply Kd.R_drewN | apply Kd.R_drew)); exact Kd.R_mono (Kd.R_far (p := ⟨gb516, 1, none⟩) (Kd.R_far (p := ⟨gb516, 0, none⟩) (Kd.R_mono HO_3.out (fun k_ hk => (⟨hk, hk.2⟩ : _ ∧ k_ ≠ gb516))) (fun _ hk => hk.2) (.int .i16 ((rd_T43 l0 x9_1).f0))) (fun _ hk => hk.2) (.int .i16 ((rd_T43 l0 x9_1).f1))) (fun _ hk => hk.1.2)⟩, ⟨by (with_reducible repeat (first | refine blk_drewN ?_ _ | refine blk_drew ?_ | refine blk_alloc ?_ _)); refine blk_put (cs := #[.int .i16 ((rd_T43 l0 x9_1).f0), .int .i16 0]) ?_ 1 _ rfl; (with_reducible repeat (first | refine blk_drewN ?_ _ | refine blk_drew ?_ | refine blk_alloc ?_ _)); refine blk_put (cs := #[.int .i16 0, .int .i16 0]) ?_ 0 _ rfl; (with_reducible repeat (first | refine blk_drewN ?_ _ | refine blk_drew ?_ | refine blk_alloc ?_ _)); exact BK516.out⟩, ⟨k1_ HB GE516⟩⟩
  case round =>
   clear H'
   obtain ⟨x3_2, HA, HK2, HO_3, BK516, HB⟩ := hrel
   rcases gk with _ | k2
   · exact absurd HA.out (by simp [impl_chain.l1])
   have H := HA.out
   clear HA
   simp only [impl_chain.l1] at H
   rcases (Decidable.em ((x3_2.length : Int) ≥ 2)).symm with c9 | c9
   ·
    rw [if_neg c9] at H
    have c9b0 : decide (2 ≤ (x3_2.length : Int)) = false := decide_eq_false c9
    have c9b1 : decide (2 ≤ x3_2.length) = false := decide_eq_false (by omega)
    clear c9
    obtain ⟨(c29 : x3_2.length < 35184372088832), H⟩ := gd_ H
    have LMc29 := Aside0.mk c29
    clear c29
    obtain ⟨y526, hy526⟩ : ∃ y_ : List (S43), y_ = (x3_2 ++ [(⟨((rd_T43 l0 x9_1).f0), ((rd_T43 l0 x9_1).f1)⟩ : S43)]) := ⟨_, rfl⟩
    replace H : (impl_chain.l0 k2 y526 l0 (l0.length : Int) (wrap64 (x9_1 + 1))) = some r := by first | (rw [hy526]; with_reducible exact H) | (have H2_ := (Option.bind_some _ _).symm.trans H; rw [hy526]; with_reducible exact H2_) | (have H2_ := (Option.bind_some _ _).symm.trans H; with_reducible exact H2_) | with_reducible exact H | (rw [hy526]; exact H) | exact H
    have Ny526 := Aside0.mk hy526
    clear hy526
    have H' := Aside0.mk H
    clear H
    try go_wp2
    have n0_ := Aside0.mk (Kd.R_drew HO_3.out)
    have n1_ := Aside0.mk (blk_drew BK516.out)
    have n2_ := Aside0.mk (below_drew1 HB.out)
    clear HO_3
    clear BK516
    clear HB
    have HO_3 := n0_
    have BK516 := n1_
    have HB := n2_
    clear n0_ n1_ n2_
    obtain ⟨Ao31, co31, eo31⟩ := Kd.R_slice HO_3.out
    (first | subst eo31 | (injection eo31 with f1_ f2_ f3_; have f4_ := f1_.symm; have f5_ := f3_.symm; clear f1_ f2_ f3_; subst f4_; subst f5_))
    refine start_ (n := 20) (S := fun w' => True) (ds := []) #[false, false, false, false, false, false, false, false, false, false, false, false, false, false, false, false, false, false, false, false] (by kernel_rfl) rfl rfl trivial (fun hHeld => ?_); refine with_tabW impl_chain.tab5 impl_chain.bits5 (fun HT_ HW_ => ?_)
    generalize wr.drew = w30 at HO_3 BK516 HB hHeld ⊢
    refine pu_ 0 13 (lA 20 1) ?_ ?_ HT_ ?_
    refine pu_ 1 14 (lA 20 3) ?_ ?_ HT_ ?_
    refine pu_ 2 15 (lA 20 7) ?_ ?_ HT_ ?_
    refine pu_ 3 16 (lA 20 15) ?_ ?_ HT_ ?_
    refine pn_ 4 17 (lA 20 31) ?_ HT_ ?_
    refine pn_ 5 18 (lA 20 63) ?_ HT_ ?_
    refine pn_ 6 19 (lA 20 127) ?_ HT_ ?_
    refine pn_ 7 20 (lA 20 255) ?_ HT_ ?_
    refine pn_ 8 21 (lA 20 511) ?_ HT_ ?_
    refine pn_ 9 22 (lA 20 1023) ?_ HT_ ?_
    refine pn_ 10 23 (lA 20 2047) ?_ HT_ ?_
    refine pn_ 11 24 (lA 20 4095) ?_ HT_ ?_
    refine pn_ 12 25 (lA 20 8191) ?_ HT_ ?_
    refine pn_ 13 26 (lA 20 16383) ?_ HT_ ?_
    refine pn_ 14 27 (lA 20 32767) ?_ HT_ ?_
    refine pn_ 15 28 (lA 20 65535) ?_ HT_ ?_
    refine pn_ 16 29 (lA 20 131071) ?_ HT_ ?_
    refine pn_ 17 30 (lA 20 262143) ?_ HT_ ?_
    refine pn_ 18 31 (lA 20 524287) ?_ HT_ ?_
    refine pu_ 19 32 (lA 20 1048575) ?_ ?_ HT_ ?_
    refine done_ (done_of HT_.out (by kernel_rfl)) ?_
    obtain ⟨⟨hcz32_0, hcz32_1⟩, hfz32_0, hfz32_1⟩ := bq_ BK516
    try go_wp2_with (first | ((with_reducible refine gate_builtin (b := .append) (xs := #[.tmp 38, .tmp 40]) rfl ?_); (try (refine gate_guard (by rfl) ?_; dsimp only)); at_builtin; refine Kd.R_append k43 (w0 := w) w.heap.size rfl (.tmp 38) (.tmp 40) 25 43 (.agg #[(.int .i16 0), (.int .i16 0)]) 4 rfl Tryz.underlying25 info43 rfl (by decide) (by omega) (.slice Ao31 x3_2.length co31) x3_2 (⟨((rd_T43 l0 x9_1).f0), ((rd_T43 l0 x9_1).f1)⟩ : S43) [.int .i16 ((rd_T43 l0 x9_1).f0), .int .i16 ((rd_T43 l0 x9_1).f1)] (fun k_ => k_ ≠ gb516) (fun _ => False) rfl rfl ?aP (fun _ hk => hk.elim) ?aF ?aO ?aB ?aS ?aL ?_; (case aP => exact k43_mkM _ _ _ (⟨((rd_T43 l0 x9_1).f0), ((rd_T43 l0 x9_1).f1)⟩ : S43)); (case aB => exact (k1_ HB GE516)); (case aF => exact (fun k_ hk => Kd.freshB (g := gb516) (o := .cells #[.int .i16 ((rd_T43 l0 x9_1).f0), .int .i16 ((rd_T43 l0 x9_1).f1)] 43 (0, 0)) (kb_ BK516) k_ hk)); (case aO => exact (kp_ HO_3)); (case aS => exact (below_size (k1_ HB GE516))); (case aL => have := LMc29.out; omega); intro v527 w33 ho hb hg hat; rw [← Ny526.out] at ho; have n0_ := Aside0.mk (blk_grown (g := gb516) (o := .cells #[.int .i16 ((rd_T43 l0 x9_1).f0), .int .i16 ((rd_T43 l0 x9_1).f1)] 43 (0, 0)) (kb_ BK516) hg (Kd.R_away HO_3.out (fun _ hk => hk))); have n1_ := Aside0.mk (hb); have n2_ := Aside0.mk (ho); clear BK516; clear HB; clear HO_3; have BK516 := n0_; have HB := n1_; have HO528 := n2_; clear n0_ n1_ n2_; clear ho hb hg hat))
    go_roundg k2
    case measure => have := HK1.out; have := HK2.out; omega
    case rel => exact ⟨(y526), (wrap64 (x9_1 + 1)), (by first | rfl | (simp; done) | (simp [*]; done)), H', ⟨by have := HK1.out; have := HK2.out; omega⟩, ⟨by (with_reducible repeat (first | apply Kd.R_alloc | apply Kd.R_drewN | apply Kd.R_drew)); exact Kd.R_mono HO528.out (fun _ hk => trivial)⟩, ⟨k1_ HB GE516⟩⟩
   rw [if_pos c9] at H
   have c9b0 : decide (2 ≤ (x3_2.length : Int)) = true := decide_eq_true c9
   have c9b1 : decide (2 ≤ x3_2.length) = true := decide_eq_true (by omega)
   clear c9
   obtain ⟨ji10, hji10⟩ : ∃ j_ : Int, (wrap64 ((x3_2.length : Int) - 2)) = j_ := ⟨_, rfl⟩
   replace H : (if 0 ≤ (ji10) then (if (ji10) < (x3_2.length : Int) then (if 0 ≤ (wrap64 ((x3_2.length : Int) - 1)) then (if (wrap64 ((x3_2.length : Int) - 1)) < (x3_2.length : Int) then ((impl_side.f ((rd_T43 x3_2 (ji10)).f0) ((rd_T43 x3_2 (ji10)).f1) ((rd_T43 x3_2 (wrap64 ((x3_2.length : Int) - 1))).f0) ((rd_T43 x3_2 (wrap64 ((x3_2.length : Int) - 1))).f1) ((rd_T43 l0 x9_1).f0) ((rd_T43 l0 x9_1).f1)).bind fun t519 => (if t519 ≤ 0 then (if (wrap64 ((x3_2.length : Int) - 1)) ≤ (x3_2.length : Int) then (impl_chain.l1 k2 (x3_2.take ((wrap64 ((x3_2.length : Int) - 1)) : Int).toNat) l0 (l0.length : Int) x9_1 ((rd_T43 l0 x9_1).f0) ((rd_T43 l0 x9_1).f1)) else (none)) else (if x3_2.length < 35184372088832 then (impl_chain.l0 k2 (x3_2 ++ [(⟨((rd_T43 l0 x9_1).f0), ((rd_T43 l0 x9_1).f1)⟩ : S43)]) l0 (l0.length : Int) (wrap64 (x9_1 + 1))) else (none)))) else (none)) else (none)) else (none)) else (none)) = some r := by first | (rw [hji10] at H; exact H) | (simp only [hji10] at H ⊢; exact H)
   have hji10w : (IntKind.i64.wrap ((x3_2.length : Int) - 2)) = ji10 := (i64_w _).trans hji10
   obtain ⟨c11b0, H⟩ := gx_ H
   obtain ⟨c12b0, H⟩ := gx_ H
   obtain ⟨ji13, hji13⟩ : ∃ j_ : Int, (wrap64 ((x3_2.length : Int) - 1)) = j_ := ⟨_, rfl⟩
   replace H : (if 0 ≤ (ji13) then (if (ji13) < (x3_2.length : Int) then ((impl_side.f ((rd_T43 x3_2 (ji10)).f0) ((rd_T43 x3_2 (ji10)).f1) ((rd_T43 x3_2 (ji13)).f0) ((rd_T43 x3_2 (ji13)).f1) ((rd_T43 l0 x9_1).f0) ((rd_T43 l0 x9_1).f1)).bind fun t519 => (if t519 ≤ 0 then (if (ji13) ≤ (x3_2.length : Int) then (impl_chain.l1 k2 (x3_2.take ((ji13) : Int).toNat) l0 (l0.length : Int) x9_1 ((rd_T43 l0 x9_1).f0) ((rd_T43 l0 x9_1).f1)) else (none)) else (if x3_2.length < 35184372088832 then (impl_chain.l0 k2 (x3_2 ++ [(⟨((rd_T43 l0 x9_1).f0), ((rd_T43 l0 x9_1).f1)⟩ : S43)]) l0 (l0.length : Int) (wrap64 (x9_1 + 1))) else (none)))) else (none)) else (none)) = some r := by first | (rw [hji13] at H; exact H) | (simp only [hji13] at H ⊢; exact H)
   have hji13w : (IntKind.i64.wrap ((x3_2.length : Int) - 1)) = ji13 := (i64_w _).trans hji13
   obtain ⟨c14b0, H⟩ := gx_ H
   obtain ⟨c15b0, H⟩ := gx_ H
   obtain ⟨t519, A16, H⟩ := be_ H
   (try dsimp only at H)
   rcases (Decidable.em (t519 ≤ 0)).symm with c17 | c17
   ·
    rw [if_neg c17] at H
    have c17b0 : decide (t519 ≤ 0) = false := decide_eq_false c17
    clear c17
    obtain ⟨(c23 : x3_2.length < 35184372088832), H⟩ := gd_ H
    have LMc23 := Aside0.mk c23
    clear c23
    obtain ⟨y523, hy523⟩ : ∃ y_ : List (S43), y_ = (x3_2 ++ [(⟨((rd_T43 l0 x9_1).f0), ((rd_T43 l0 x9_1).f1)⟩ : S43)]) := ⟨_, rfl⟩
    replace H : (impl_chain.l0 k2 y523 l0 (l0.length : Int) (wrap64 (x9_1 + 1))) = some r := by first | (rw [hy523]; with_reducible exact H) | (have H2_ := (Option.bind_some _ _).symm.trans H; rw [hy523]; with_reducible exact H2_) | (have H2_ := (Option.bind_some _ _).symm.trans H; with_reducible exact H2_) | with_reducible exact H | (rw [hy523]; exact H) | exact H
    have Ny523 := Aside0.mk hy523
    clear hy523
    have H' := Aside0.mk H
    clear H
    try go_wp2
    have n0_ := Aside0.mk (Kd.R_drew HO_3.out)
    have n1_ := Aside0.mk (blk_drew BK516.out)
    have n2_ := Aside0.mk (below_drew1 HB.out)
    clear HO_3
    clear BK516
    clear HB
    have HO_3 := n0_
    have BK516 := n1_
    have HB := n2_
    clear n0_ n1_ n2_
    obtain ⟨Ao25, co25, eo25⟩ := Kd.R_slice HO_3.out
    (first | subst eo25 | (injection eo25 with f1_ f2_ f3_; have f4_ := f1_.symm; have f5_ := f3_.symm; clear f1_ f2_ f3_; subst f4_; subst f5_))
    have p517 : 0 ≤ ((ji10) : Int) := od_
    have q517 : (ji10) < (x3_2.length : Int) := od_
    obtain ⟨ad517, e517, hx517_0, hx517_1⟩ := at_T43 (Kd.R_reads' HO_3.out).2.2 (ji10) p517 q517
    cases e517
    replace p517 := eq_true p517
    replace q517 := eq_true q517
    have p518 : 0 ≤ ((ji13) : Int) := od_
    have q518 : (ji13) < (x3_2.length : Int) := od_
    obtain ⟨ad518, e518, hx518_0, hx518_1⟩ := at_T43 (Kd.R_reads' HO_3.out).2.2 (ji13) p518 q518
    obtain rfl : ad517 = ad518 := (by injection e518)
    replace p518 := eq_true p518
    replace q518 := eq_true q518
    refine start_ (n := 20) (S := fun w' => w'.cell? ⟨gb516, 0, none⟩ = some (.int .i16 ((rd_T43 l0 x9_1).f0)) ∧ w'.cell? ⟨gb516, 1, none⟩ = some (.int .i16 ((rd_T43 l0 x9_1).f1)) ∧ w'.cell? (ad517.add (((ji10)).toNat * 2)) = some (.int .i16 ((rd_T43 x3_2 (ji10)).f0)) ∧ w'.cell? ⟨(ad517.add (((ji10)).toNat * 2)).block, (ad517.add (((ji10)).toNat * 2)).off + 1, none⟩ = some (.int .i16 ((rd_T43 x3_2 (ji10)).f1)) ∧ w'.cell? (ad517.add (((ji13)).toNat * 2)) = some (.int .i16 ((rd_T43 x3_2 (ji13)).f0)) ∧ w'.cell? ⟨(ad517.add (((ji13)).toNat * 2)).block, (ad517.add (((ji13)).toNat * 2)).off + 1, none⟩ = some (.int .i16 ((rd_T43 x3_2 (ji13)).f1))) (ds := []) #[false, false, false, false, false, false, false, false, false, false, false, false, false, false, false, false, false, false, false, false] (by kernel_rfl) rfl rfl ⟨(blk_cell BK516.out 0).trans rfl, (blk_cell BK516.out 1).trans rfl, hx517_0, hx517_1, hx518_0, hx518_1⟩ (fun hHeld => ?_); refine with_tabW impl_chain.tab5 impl_chain.bits5 (fun HT_ HW_ => ?_)
    generalize wr.drew = w24 at HO_3 BK516 HB hx517_0 hx517_1 hx518_0 hx518_1 hHeld ⊢
    refine pu_ 0 13 (lA 20 1) ?_ ?_ HT_ ?_
    refine pu_ 1 14 (lA 20 3) ?_ ?_ HT_ ?_
    refine pu_ 2 15 (lA 20 7) ?_ ?_ HT_ ?_
    refine pu_ 3 16 (lA 20 15) ?_ ?_ HT_ ?_
    refine pu_ 4 17 (lA 20 31) ?_ ?_ HT_ ?_
    refine pu_ 5 18 (lA 20 63) ?_ ?_ HT_ ?_
    refine pu_ 6 19 (lA 20 127) ?_ ?_ HT_ ?_
    refine pu_ 7 20 (lA 20 255) ?_ ?_ HT_ ?_
    refine pu_ 8 21 (lA 20 511) ?_ ?_ HT_ ?_
    refine pu_ 10 23 (lA 20 1535) ?_ ?_ HT_ ?_
    refine pu_ 11 24 (lA 20 3583) ?_ ?_ HT_ ?_
    refine pu_ 12 25 (lA 20 7679) ?_ ?_ HT_ ?_
    refine pu_ 13 26 (lA 20 15871) ?_ ?_ HT_ ?_
    refine pu_ 14 27 (lA 20 32255) ?_ ?_ HT_ ?_
    refine tk_ 9 22 (lA 20 32767) ?_ ?_ HT_ HW_ hHeld ?_
    refine tk_ 15 28 (lA 20 65535) ?_ ?_ HT_ HW_ hHeld ?_
    refine tk_ 16 29 (lA 20 131071) ?_ ?_ HT_ HW_ hHeld ?_
    refine one_ (i := 17) (N := some 30) #[true, true, true, true, true, true, true, true, true, true, true, true, true, true, true, true, true, true, false, false] rfl rfl (one_of HT_.out (by kernel_rfl)) (by decide) (fun K hK => ?_)
    refine goes_ Tryz.func71 (by kernel_rfl) rfl #[.agg #[.int .i16 ((rd_T43 x3_2 (ji10)).f0), .int .i16 ((rd_T43 x3_2 (ji10)).f1)], .agg #[.int .i16 ((rd_T43 x3_2 (ji13)).f0), .int .i16 ((rd_T43 x3_2 (ji13)).f1)], .agg #[.int .i16 ((rd_T43 l0 x9_1).f0), .int .i16 ((rd_T43 l0 x9_1).f1)]] (by rfl) rfl rfl (by (try simp only [List.map_toArray, List.map_cons, List.map_nil]); first | done | (simp only [hji10, hji13]; rfl) | rfl | (simp only [List.length_drop, List.length_take]; rfl)) ?_
    with_reducible refine (impl_side.calls ((rd_T43 x3_2 (ji10)).f0) ((rd_T43 x3_2 (ji10)).f1) ((rd_T43 x3_2 (ji13)).f0) ((rd_T43 x3_2 (ji13)).f1) ((rd_T43 l0 x9_1).f0) ((rd_T43 l0 x9_1).f1) t519 _ A16.out).mono ?_
    rintro e w26 ⟨rfl, hb⟩
    have HS2_ := (hb.cell (World.block_lt_of_cell? _ _ (hHeld.2.2.1))).trans (hHeld.2.2.1)
    have HS3_ := (hb.cell (World.block_lt_of_cell? _ _ (hHeld.2.2.2.1))).trans (hHeld.2.2.2.1)
    have HS4_ := (hb.cell (World.block_lt_of_cell? _ _ (hHeld.2.2.2.2.1))).trans (hHeld.2.2.2.2.1)
    have HS5_ := (hb.cell (World.block_lt_of_cell? _ _ (hHeld.2.2.2.2.2))).trans (hHeld.2.2.2.2.2)
    refine ⟨_, rfl, ?_⟩
    have n0_ := Aside0.mk (Kd.R_below (kp_ HO_3) hb)
    have n1_ := bd_ BK516 hb
    have n2_ := Aside0.mk (below_step (k1_ HB GE516) hb)
    clear HO_3
    clear BK516
    clear HB
    have HO_3 := n0_
    have BK516 := n1_
    have HB := n2_
    clear n0_ n1_ n2_
    refine hK.out _ _ ⟨(blk_cell BK516.out 0).trans rfl, (blk_cell BK516.out 1).trans rfl, HS2_, HS3_, HS4_, HS5_⟩ (fun hHeld => ?_)
    clear hK K
    refine norm_ (a' := ?_) ?_ ?_
    rotate_left
    ·
     show Act.put _ (some 30) _ = _
     simp only [Act.put, List.setIfInBounds_toArray, List.set_cons_zero, List.set_cons_succ, i64_w, i32_w]
     rfl
    refine pu_ 18 31 (lA 20 524287) ?_ ?_ HT_ ?_
    refine pu_ 19 32 (lA 20 1048575) ?_ ?_ HT_ ?_
    refine done_ (done_of HT_.out (by kernel_rfl)) ?_
    obtain ⟨⟨hcz27_0, hcz27_1⟩, hfz27_0, hfz27_1⟩ := bq_ BK516
    try go_wp2_with (first | ((with_reducible refine gate_builtin (b := .append) (xs := #[.tmp 38, .tmp 40]) rfl ?_); (try (refine gate_guard (by rfl) ?_; dsimp only)); at_builtin; refine Kd.R_append k43 (w0 := w) w.heap.size rfl (.tmp 38) (.tmp 40) 25 43 (.agg #[(.int .i16 0), (.int .i16 0)]) 4 rfl Tryz.underlying25 info43 rfl (by decide) (by omega) (.slice (some ad517) x3_2.length co25) x3_2 (⟨((rd_T43 l0 x9_1).f0), ((rd_T43 l0 x9_1).f1)⟩ : S43) [.int .i16 ((rd_T43 l0 x9_1).f0), .int .i16 ((rd_T43 l0 x9_1).f1)] (fun k_ => k_ ≠ gb516) (fun _ => False) rfl rfl ?aP (fun _ hk => hk.elim) ?aF ?aO ?aB ?aS ?aL ?_; (case aP => exact k43_mkM _ _ _ (⟨((rd_T43 l0 x9_1).f0), ((rd_T43 l0 x9_1).f1)⟩ : S43)); (case aB => exact (k1_ HB GE516)); (case aF => exact (fun k_ hk => Kd.freshB (g := gb516) (o := .cells #[.int .i16 ((rd_T43 l0 x9_1).f0), .int .i16 ((rd_T43 l0 x9_1).f1)] 43 (0, 0)) (kb_ BK516) k_ hk)); (case aO => exact (kp_ HO_3)); (case aS => exact (below_size (k1_ HB GE516))); (case aL => have := LMc23.out; omega); intro v524 w28 ho hb hg hat; rw [← Ny523.out] at ho; have n0_ := Aside0.mk (blk_grown (g := gb516) (o := .cells #[.int .i16 ((rd_T43 l0 x9_1).f0), .int .i16 ((rd_T43 l0 x9_1).f1)] 43 (0, 0)) (kb_ BK516) hg (Kd.R_away HO_3.out (fun _ hk => hk))); have n1_ := Aside0.mk (hb); have n2_ := Aside0.mk (ho); clear BK516; clear HB; clear HO_3; have BK516 := n0_; have HB := n1_; have HO525 := n2_; clear n0_ n1_ n2_; clear ho hb hg hat))
    go_roundg k2
    case measure => have := HK1.out; have := HK2.out; omega
    case rel => exact ⟨(y523), (wrap64 (x9_1 + 1)), (by first | rfl | (simp; done) | (simp [*]; done)), H', ⟨by have := HK1.out; have := HK2.out; omega⟩, ⟨by (with_reducible repeat (first | apply Kd.R_alloc | apply Kd.R_drewN | apply Kd.R_drew)); exact Kd.R_mono HO525.out (fun _ hk => trivial)⟩, ⟨k1_ HB GE516⟩⟩
   rw [if_pos c17] at H
   have c17b0 : decide (t519 ≤ 0) = true := decide_eq_true c17
   clear c17
   obtain ⟨(c18 : (ji13) ≤ (x3_2.length : Int)), H⟩ := gd_ H
   have c18b0 := eq_true c18
   have c18b1 : decide ((ji13) ≤ (x3_2.length : Int)) = true := decide_eq_true c18
   clear c18
   obtain ⟨y520, hy520⟩ : ∃ y_ : List (S43), y_ = (x3_2.take ((ji13) : Int).toNat) := ⟨_, rfl⟩
   replace H : (impl_chain.l1 k2 y520 l0 (l0.length : Int) x9_1 ((rd_T43 l0 x9_1).f0) ((rd_T43 l0 x9_1).f1)) = some r := by first | (rw [hy520]; with_reducible exact H) | (have H2_ := (Option.bind_some _ _).symm.trans H; rw [hy520]; with_reducible exact H2_) | (have H2_ := (Option.bind_some _ _).symm.trans H; with_reducible exact H2_) | with_reducible exact H | (rw [hy520]; exact H) | exact H
   have Ny520 := Aside0.mk hy520
   clear hy520
   have H' := Aside0.mk H
   clear H
   try go_wp2
   have n0_ := Aside0.mk (Kd.R_drew HO_3.out)
   have n1_ := Aside0.mk (blk_drew BK516.out)
   have n2_ := Aside0.mk (below_drew1 HB.out)
   clear HO_3
   clear BK516
   clear HB
   have HO_3 := n0_
   have BK516 := n1_
   have HB := n2_
   clear n0_ n1_ n2_
   obtain ⟨Ao20, co20, eo20⟩ := Kd.R_slice HO_3.out
   (first | subst eo20 | (injection eo20 with f1_ f2_ f3_; have f4_ := f1_.symm; have f5_ := f3_.symm; clear f1_ f2_ f3_; subst f4_; subst f5_))
   have p517 : 0 ≤ ((ji10) : Int) := od_
   have q517 : (ji10) < (x3_2.length : Int) := od_
   obtain ⟨ad517, e517, hx517_0, hx517_1⟩ := at_T43 (Kd.R_reads' HO_3.out).2.2 (ji10) p517 q517
   cases e517
   replace p517 := eq_true p517
   replace q517 := eq_true q517
   have p518 : 0 ≤ ((ji13) : Int) := od_
   have q518 : (ji13) < (x3_2.length : Int) := od_
   obtain ⟨ad518, e518, hx518_0, hx518_1⟩ := at_T43 (Kd.R_reads' HO_3.out).2.2 (ji13) p518 q518
   obtain rfl : ad517 = ad518 := (by injection e518)
   replace p518 := eq_true p518
   replace q518 := eq_true q518
   refine start_ (n := 20) (S := fun w' => w'.cell? ⟨gb516, 0, none⟩ = some (.int .i16 ((rd_T43 l0 x9_1).f0)) ∧ w'.cell? ⟨gb516, 1, none⟩ = some (.int .i16 ((rd_T43 l0 x9_1).f1)) ∧ w'.cell? (ad517.add (((ji10)).toNat * 2)) = some (.int .i16 ((rd_T43 x3_2 (ji10)).f0)) ∧ w'.cell? ⟨(ad517.add (((ji10)).toNat * 2)).block, (ad517.add (((ji10)).toNat * 2)).off + 1, none⟩ = some (.int .i16 ((rd_T43 x3_2 (ji10)).f1)) ∧ w'.cell? (ad517.add (((ji13)).toNat * 2)) = some (.int .i16 ((rd_T43 x3_2 (ji13)).f0)) ∧ w'.cell? ⟨(ad517.add (((ji13)).toNat * 2)).block, (ad517.add (((ji13)).toNat * 2)).off + 1, none⟩ = some (.int .i16 ((rd_T43 x3_2 (ji13)).f1))) (ds := []) #[false, false, false, false, false, false, false, false, false, false, false, false, false, false, false, false, false, false, false, false] (by kernel_rfl) rfl rfl ⟨(blk_cell BK516.out 0).trans rfl, (blk_cell BK516.out 1).trans rfl, hx517_0, hx517_1, hx518_0, hx518_1⟩ (fun hHeld => ?_); refine with_tabW impl_chain.tab5 impl_chain.bits5 (fun HT_ HW_ => ?_)
   generalize wr.drew = w19 at HO_3 BK516 HB hx517_0 hx517_1 hx518_0 hx518_1 hHeld ⊢
   refine pu_ 0 13 (lA 20 1) ?_ ?_ HT_ ?_
   refine pu_ 1 14 (lA 20 3) ?_ ?_ HT_ ?_
   refine pu_ 2 15 (lA 20 7) ?_ ?_ HT_ ?_
   refine pu_ 3 16 (lA 20 15) ?_ ?_ HT_ ?_
   refine pu_ 4 17 (lA 20 31) ?_ ?_ HT_ ?_
   refine pu_ 5 18 (lA 20 63) ?_ ?_ HT_ ?_
   refine pu_ 6 19 (lA 20 127) ?_ ?_ HT_ ?_
   refine pu_ 7 20 (lA 20 255) ?_ ?_ HT_ ?_
   refine pu_ 8 21 (lA 20 511) ?_ ?_ HT_ ?_
   refine pu_ 10 23 (lA 20 1535) ?_ ?_ HT_ ?_
   refine pu_ 11 24 (lA 20 3583) ?_ ?_ HT_ ?_
   refine pu_ 12 25 (lA 20 7679) ?_ ?_ HT_ ?_
   refine pu_ 13 26 (lA 20 15871) ?_ ?_ HT_ ?_
   refine pu_ 14 27 (lA 20 32255) ?_ ?_ HT_ ?_
   refine tk_ 9 22 (lA 20 32767) ?_ ?_ HT_ HW_ hHeld ?_
   refine tk_ 15 28 (lA 20 65535) ?_ ?_ HT_ HW_ hHeld ?_
   refine tk_ 16 29 (lA 20 131071) ?_ ?_ HT_ HW_ hHeld ?_
   refine one_ (i := 17) (N := some 30) #[true, true, true, true, true, true, true, true, true, true, true, true, true, true, true, true, true, true, false, false] rfl rfl (one_of HT_.out (by kernel_rfl)) (by decide) (fun K hK => ?_)
   refine goes_ Tryz.func71 (by kernel_rfl) rfl #[.agg #[.int .i16 ((rd_T43 x3_2 (ji10)).f0), .int .i16 ((rd_T43 x3_2 (ji10)).f1)], .agg #[.int .i16 ((rd_T43 x3_2 (ji13)).f0), .int .i16 ((rd_T43 x3_2 (ji13)).f1)], .agg #[.int .i16 ((rd_T43 l0 x9_1).f0), .int .i16 ((rd_T43 l0 x9_1).f1)]] (by rfl) rfl rfl (by (try simp only [List.map_toArray, List.map_cons, List.map_nil]); first | done | (simp only [hji10, hji13]; rfl) | rfl | (simp only [List.length_drop, List.length_take]; rfl)) ?_
   with_reducible refine (impl_side.calls ((rd_T43 x3_2 (ji10)).f0) ((rd_T43 x3_2 (ji10)).f1) ((rd_T43 x3_2 (ji13)).f0) ((rd_T43 x3_2 (ji13)).f1) ((rd_T43 l0 x9_1).f0) ((rd_T43 l0 x9_1).f1) t519 _ A16.out).mono ?_
   rintro e w21 ⟨rfl, hb⟩
   have HS2_ := (hb.cell (World.block_lt_of_cell? _ _ (hHeld.2.2.1))).trans (hHeld.2.2.1)
   have HS3_ := (hb.cell (World.block_lt_of_cell? _ _ (hHeld.2.2.2.1))).trans (hHeld.2.2.2.1)
   have HS4_ := (hb.cell (World.block_lt_of_cell? _ _ (hHeld.2.2.2.2.1))).trans (hHeld.2.2.2.2.1)
   have HS5_ := (hb.cell (World.block_lt_of_cell? _ _ (hHeld.2.2.2.2.2))).trans (hHeld.2.2.2.2.2)
   refine ⟨_, rfl, ?_⟩
   have n0_ := Aside0.mk (Kd.R_below (kp_ HO_3) hb)
   have n1_ := bd_ BK516 hb
   have n2_ := Aside0.mk (below_step (k1_ HB GE516) hb)
   clear HO_3
   clear BK516
   clear HB
   have HO_3 := n0_
   have BK516 := n1_
   have HB := n2_
   clear n0_ n1_ n2_
   refine hK.out _ _ ⟨(blk_cell BK516.out 0).trans rfl, (blk_cell BK516.out 1).trans rfl, HS2_, HS3_, HS4_, HS5_⟩ (fun hHeld => ?_)
   clear hK K
   refine norm_ (a' := ?_) ?_ ?_
   rotate_left
   ·
    show Act.put _ (some 30) _ = _
    simp only [Act.put, List.setIfInBounds_toArray, List.set_cons_zero, List.set_cons_succ, i64_w, i32_w]
    rfl
   refine pu_ 18 31 (lA 20 524287) ?_ ?_ HT_ ?_
   refine pu_ 19 32 (lA 20 1048575) ?_ ?_ HT_ ?_
   refine done_ (done_of HT_.out (by kernel_rfl)) ?_
   have q22 : ((ji13) : Int) ≤ ((x3_2.length : Int) : Int) := od_
   obtain ⟨i022, hi022, _, hsz22, _⟩ := info_parts info43
   have hcut22 := cut_to (P := Tryz.prog) 25 43 .i64 Tryz.underlying25 hi022 (some ad517) x3_2.length co20 (ji13) od_ q22 (Kd.R_reads' HO_3.out).2.1
   have hr22 := Kd.R_take (m := ((ji13) : Int).toNat) HO_3.out (by omega)
   have hy22 : y520.length = ((ji13) : Int).toNat := (by rw [Ny520.out, List.length_take]; omega)
   rw [← Ny520.out] at hr22
   rw [← hy22] at hr22 hcut22
   clear hy22 hi022 hsz22 HO_3
   have HO522 := Aside0.mk hr22
   clear hr22
   replace q22 := eq_true q22
   try go_wp2
   go_roundg k2
   case measure => have := HK1.out; have := HK2.out; omega
   case rel => exact ⟨(y520), H', ⟨by have := HK1.out; have := HK2.out; omega⟩, ⟨kp_ HO522⟩, ⟨bk_ BK516⟩, ⟨k1_ HB GE516⟩⟩
end Go.Proofs.YthbogbaaikjhbaaGreatDoor.PA
