/- Pure functions, and that Go's functions come to them. -/
import Derived.Test.YthbogbaaikjhbaaGreatDoorPAx0
import Derived.Test.YthbogbaaikjhbaaGreatDoorPAxm29
import Derived.Test.YthbogbaaikjhbaaGreatDoorPAxgImpl
namespace Go.Proofs.YthbogbaaikjhbaaGreatDoor.PA
open Go.RowKit Go.Proofs.YthbogbaaikjhbaaGreatDoorW.PrintWords Go.Proofs.YthbogbaaikjhbaaGreatDoorW.PrintLast Go.Proofs.YthbogbaaikjhbaaGreatDoorW.PrintMore
set_option linter.unusedVariables false
set_option linter.unusedSimpArgs false

/-! ### impl_Stone_from: function 44 -/
def impl_Stone_from.f (k : Nat) (l0 : List (S43)) (a1 : Int) : Option ((List (S43))) := if 0 ≤ a1 then (if a1 ≤ (l0.length : Int) then ((impl_Corner_73.f k (([(l0.drop (a1 : Int).toNat), (l0.take (a1 : Int).toNat)] : List (List (S43))))).bind fun t434 => (some t434)) else (none)) else (none)
theorem impl_Stone_from.mono : ∀ a0 a1 k, LeO (impl_Stone_from.f k a0 a1) (impl_Stone_from.f (k + 1) a0 a1) := by
 intro a0 a1 k
 unfold impl_Stone_from.f
 repeat' first | (with_reducible first | exact impl_Corner_73.mono _ _ | exact LeO.refl _ | exact LeO.none _ | refine LeO.ite ?_ ?_ | refine LeO.bind ?_ (fun _ => ?_))
def impl_Stone_from.T1 : Bool × List (List Nat × List Nat) := (true, [([], []), ([], []), ([0, 1], [0, 1]), ([], []), ([], []), ([3, 4], [3, 4]), ([2, 5], [2, 5]), ([6], [6]), ([7, 7, 0, 1, 2, 3, 4, 5, 6, 7], [7])])
def impl_Stone_from.B1 : List Nat := [0, 0, 3, 0, 0, 24, 63, 127, 255]
theorem impl_Stone_from.tab1 : rtab .any (opsOf Tryz.f44 1) = impl_Stone_from.T1 := by kernel_rfl
theorem impl_Stone_from.bits1 : waitsOk impl_Stone_from.T1.2 impl_Stone_from.B1 = true := by kernel_rfl
set_option maxHeartbeats 8000000 in
set_option maxRecDepth 100000 in
theorem impl_Stone_from.calls (k : Nat) (P0_ : Nat → Prop) (A0 : Option Addr) (c0 : Nat) (l0 : List (S43)) (a1 : Int) (r : List (S43)) (w : World) (hs0 : Kd.V k43 43 w w.heap.size (fun k_ => P0_ k_) (.slice A0 l0.length c0) l0) (h : impl_Stone_from.f k l0 a1 = some r) :
  Calls Tryz.prog 44 #[.slice A0 l0.length c0, .int .i64 a1] w fun e w' => ∃ v0_ : Value, e = .returned (v0_) ∧ Kd.R k43 43 w' w.heap.size (fun k_ => (w.heap.size ≤ k_)) v0_ r ∧ Below w.heap.size w w' := by
 have HO0 := Aside0.mk (show Kd.V k43 43 w w.heap.size (fun k_ => (P0_ k_ ∨ w.heap.size ≤ k_)) (.slice A0 l0.length c0) l0 from Kd.V_mono hs0 (fun k_ hk => .inl hk))
 have HB := Aside0.mk (Below.refl w.heap.size w)
 have H : (if 0 ≤ a1 then (if a1 ≤ (l0.length : Int) then ((impl_Corner_73.f k (([(l0.drop (a1 : Int).toNat), (l0.take (a1 : Int).toNat)] : List (List (S43))))).bind fun t434 => (some t434)) else (none)) else (none)) = some r := h
 clear h
 obtain ⟨(c3 : 0 ≤ a1), H⟩ := gd_ H
 have c3b0 := eq_true c3
 have c3b1 : decide (0 ≤ a1) = true := decide_eq_true c3
 clear c3
 obtain ⟨(c4 : a1 ≤ (l0.length : Int)), H⟩ := gd_ H
 have c4b0 := eq_true c4
 have c4b1 : decide (a1 ≤ (l0.length : Int)) = true := decide_eq_true c4
 clear c4
 obtain ⟨y421, hy421⟩ : ∃ y_ : List (S43), y_ = (l0.drop (a1 : Int).toNat) := ⟨_, rfl⟩
 replace H : ((impl_Corner_73.f k (([y421, (l0.take (a1 : Int).toNat)] : List (List (S43))))).bind fun t434 => (some t434)) = some r := by first | (rw [hy421]; with_reducible exact H) | (have H2_ := (Option.bind_some _ _).symm.trans H; rw [hy421]; with_reducible exact H2_) | (have H2_ := (Option.bind_some _ _).symm.trans H; with_reducible exact H2_) | with_reducible exact H | (rw [hy421]; exact H) | exact H
 have Ny421 := Aside0.mk hy421
 clear hy421
 have c5b0 := eq_true (od_ : 0 ≤ a1)
 have c6b0 := eq_true (od_ : a1 ≤ (l0.length : Int))
 obtain ⟨y426, hy426⟩ : ∃ y_ : List (S43), y_ = (l0.take (a1 : Int).toNat) := ⟨_, rfl⟩
 replace H : ((impl_Corner_73.f k (([y421, y426] : List (List (S43))))).bind fun t434 => (some t434)) = some r := by first | (rw [hy426]; with_reducible exact H) | (have H2_ := (Option.bind_some _ _).symm.trans H; rw [hy426]; with_reducible exact H2_) | (have H2_ := (Option.bind_some _ _).symm.trans H; with_reducible exact H2_) | with_reducible exact H | (rw [hy426]; exact H) | exact H
 have Ny426 := Aside0.mk hy426
 clear hy426
 obtain ⟨y431, hy431⟩ : ∃ y_ : List (List (S43)), y_ = (([y421, y426] : List (List (S43)))) := ⟨_, rfl⟩
 replace H : ((impl_Corner_73.f k y431).bind fun t434 => (some t434)) = some r := by first | (rw [hy431]; with_reducible exact H) | (have H2_ := (Option.bind_some _ _).symm.trans H; rw [hy431]; with_reducible exact H2_) | (have H2_ := (Option.bind_some _ _).symm.trans H; with_reducible exact H2_) | with_reducible exact H | (rw [hy431]; exact H) | exact H
 have Ny431 := Aside0.mk hy431
 clear hy431
 obtain ⟨t434, A7, H⟩ := be_ H
 (try dsimp only at H)
 obtain rfl := Option.some.inj H
 go_enter Tryz.func44, Tryz.ntmps44
 try go_wp2
 have n0_ := Aside0.mk (Kd.V_drew HO0.out)
 have n1_ := Aside0.mk (below_drew1 HB.out)
 clear HO0
 clear HB
 have HO0 := n0_
 have HB := n1_
 clear n0_ n1_
 have q9 : (a1 : Int) ≤ ((l0.length : Int) : Int) := od_
 obtain ⟨i09, hi09, _, hsz9, _⟩ := info_parts info43
 have hroom9 : l0.length ≤ c0 := (Kd.V_reads' HO0.out).2.1
 have hC9 : Kd.F k43 _ _ A0 l0.length l0 := (Kd.V_at (base := w.heap.size) HO0.out).2.2
 have q09 : (0 : Int) ≤ (a1 : Int) := od_
 have hcut9 := cut_from (P := Tryz.prog) 25 43 .i64 Tryz.underlying25 hi09 2 hsz9 A0 l0.length c0 a1 q09 q9
 have hr9 := Kd.F_cut (m := (a1 : Int).toNat) (c := c0) hC9 (by omega) hroom9
 obtain ⟨A9, hA9⟩ : ∃ A1, A1 = (if c0 = (a1 : Int).toNat then A0 else (A0 : Option Addr).map (·.add ((a1 : Int).toNat * 2))) := ⟨_, rfl⟩
 obtain ⟨c9, hc9⟩ : ∃ c1, c1 = c0 - (a1 : Int).toNat := ⟨_, rfl⟩
 have hy9 : y421.length = l0.length - (a1 : Int).toNat := (by rw [Ny421.out, List.length_drop] <;> omega)
 rw [show (l0).drop (a1 : Int).toNat = y421 from Ny421.out.symm] at hr9
 replace hr9 : Kd.F k43 _ _ A9 y421.length y421 := (by rw [hA9]; exact hr9)
 rw [← hy9, ← hA9, ← hc9] at hcut9
 have HO425 := Aside0.mk (show Kd.V k43 43 _ w.heap.size _ (.slice A9 y421.length c9) y421 from Kd.V_mk (by rw [hy9, hc9]; exact Nat.sub_le_sub_right hroom9 _) hr9)
 have HC425 := Aside0.mk (show y421.length ≤ c9 from by rw [hy9, hc9]; exact Nat.sub_le_sub_right hroom9 _)
 clear hr9 hC9 hroom9 hi09 hsz9 hc9
 have KY9 := Aside0.mk hy9
 have KA9 := Aside0.mk hA9
 clear hy9 hA9
 replace q9 := eq_true q9
 have q10 : (a1 : Int) ≤ ((l0.length : Int) : Int) := od_
 obtain ⟨i010, hi010, _, hsz10, _⟩ := info_parts info43
 have hroom10 : l0.length ≤ c0 := (Kd.V_reads' HO0.out).2.1
 have hC10 : Kd.F k43 _ _ A0 l0.length l0 := (Kd.V_at (base := w.heap.size) HO0.out).2.2
 have hcut10 := cut_to (P := Tryz.prog) 25 43 .i64 Tryz.underlying25 hi010 A0 l0.length c0 a1 od_ q10 hroom10
 have hr10 := Kd.F_take (m := (a1 : Int).toNat) hC10 (by omega)
 have hy10 : y426.length = (a1 : Int).toNat := (by rw [Ny426.out, List.length_take]; omega)
 rw [← Ny426.out] at hr10
 rw [← hy10] at hcut10
 have HO430 := Aside0.mk (show Kd.V k43 43 _ w.heap.size _ (.slice A0 y426.length c0) y426 from Kd.V_mk (by omega) hr10)
 have HC430 := Aside0.mk (show y426.length ≤ c0 from by omega)
 clear hr10 hC10 hroom10 hi010 hsz10
 have KY10 := Aside0.mk hy10
 clear hy10
 replace q10 := eq_true q10
 refine start_ (n := 9) (S := fun w' => True) (ds := []) #[false, false, false, false, false, false, false, false, false] (by kernel_rfl) rfl rfl trivial (fun hHeld => ?_); refine with_tabW impl_Stone_from.tab1 impl_Stone_from.bits1 (fun HT_ HW_ => ?_)
 generalize w.drew = w8 at HO0 HB HO425 HO430 hHeld ⊢
 refine pu_ 0 5 (lA 9 1) ?_ ?_ HT_ ?_
 refine pu_ 1 6 (lA 9 3) ?_ ?_ HT_ ?_
 refine pu_ 2 7 (lA 9 7) ?_ ?_ HT_ ?_
 refine pu_ 3 8 (lA 9 15) ?_ ?_ HT_ ?_
 refine pu_ 4 9 (lA 9 31) ?_ ?_ HT_ ?_
 refine pu_ 5 10 (lA 9 63) ?_ ?_ HT_ ?_
 refine one_ (i := 6) (N := some 11) #[true, true, true, true, true, true, true, false, false] rfl rfl (one_of HT_.out (by kernel_rfl)) (by decide) (fun K hK => ?_)
 refine Kd.N_lit_step (Kd.slice 43 k43) _ 25 ?hg (N' := 11) ?hd (xs := ([y421, y426] : List (List (S43)))) (inner := [.slice A9 y421.length c9, .slice A0 y426.length c0]) (ok := (fun k_ => (P0_ k_ ∨ w.heap.size ≤ k_))) (okp := (fun k_ => (P0_ k_ ∨ w.heap.size ≤ k_))) ?hr ?hp (fun _ hk => hk) ((show ∀ k_, w8.heap.size ≤ k_ → (fun k_ => (P0_ k_ ∨ w.heap.size ≤ k_)) k_ from fun k_ hk => (.inr (Nat.le_trans (below_size (kB_ HB)) hk))) _ (Nat.le_refl _)) (Below.refl _ _) (Nat.le_refl _) (by simp) ?_; (case hd => rfl); (case hg => rfl); (case hr => first | (go_simp; done) | (go_simp; rfl)); (case hp => exact (Reps.one (show Kd.FK (Kd.slice 43 k43) _ _ y421 [.slice A9 y421.length c9] from (Kd.FK_slice_mk (Kd.V_reads' (Kd.V_mono (ok' := (fun k_ => (P0_ k_ ∨ w.heap.size ≤ k_))) (HO425.out) (fun k_ hk => hk))).2.1 (Kd.V_F (Kd.V_mono (ok' := (fun k_ => (P0_ k_ ∨ w.heap.size ≤ k_))) (HO425.out) (fun k_ hk => hk))))) (Reps.one (show Kd.FK (Kd.slice 43 k43) _ _ y426 [.slice A0 y426.length c0] from (Kd.FK_slice_mk (Kd.V_reads' (Kd.V_mono (ok' := (fun k_ => (P0_ k_ ∨ w.heap.size ≤ k_))) (HO430.out) (fun k_ hk => hk))).2.1 (Kd.V_F (Kd.V_mono (ok' := (fun k_ => (P0_ k_ ∨ w.heap.size ≤ k_))) (HO430.out) (fun k_ hk => hk))))) (Reps.none _ _))))
 intro v432 w11 ho12 hb hg_ hnew_
 clear hg_ hnew_
 (first | rw [← Ny431.out] at ho12 | (simp only [Int.reduceToNat] at ho12; rw [← Ny431.out] at ho12))
 have n0_ := Aside0.mk (Kd.V_elder' (by (with_reducible repeat (first | apply Kd.V_alloc | apply Kd.V_drewN | apply Kd.V_drew)); exact HO0.out) (Kd.N_base ho12) hb)
 have n1_ := Aside0.mk (Kd.V_elder' (by (with_reducible repeat (first | apply Kd.V_alloc | apply Kd.V_drewN | apply Kd.V_drew)); exact HO425.out) (Kd.N_base ho12) hb)
 have n2_ := Aside0.mk (Kd.V_elder' (by (with_reducible repeat (first | apply Kd.V_alloc | apply Kd.V_drewN | apply Kd.V_drew)); exact HO430.out) (Kd.N_base ho12) hb)
 have n3_ := Aside0.mk (Kd.N_lower ho12 (below_size (kB_ HB)))
 have n4_ := bs_ HB hb
 clear HO0
 clear HO425
 clear HO430
 clear HB
 have HO0 := n0_
 have HO425 := n1_
 have HO430 := n2_
 have HO433 := n3_
 have HB := n4_
 clear n0_ n1_ n2_ n3_ n4_
 clear hb ho12
 obtain ⟨Ao13, co13, eo13⟩ := Kd.N_slice HO433.out
 (first | subst eo13 | (injection eo13 with f1_ f2_ f3_; have f4_ := f1_.symm; have f5_ := f3_.symm; clear f1_ f2_ f3_; subst f4_; subst f5_))
 refine hK.out _ _ trivial (fun hHeld => ?_)
 clear hK K
 refine norm_ (a' := ?_) ?_ ?_
 rotate_left
 ·
  show Act.put _ (some 11) _ = _
  simp only [Act.put, List.setIfInBounds_toArray, List.set_cons_zero, List.set_cons_succ, i64_w, i32_w]
  rfl
 refine one_ (i := 7) (N := some 12) #[true, true, true, true, true, true, true, true, false] rfl rfl (one_of HT_.out (by kernel_rfl)) (by decide) (fun K hK => ?_)
 refine goes_ Tryz.func73 (by kernel_rfl) rfl #[.slice Ao13 y431.length co13] (by rfl) rfl rfl (by (try simp only [List.map_toArray, List.map_cons, List.map_nil]); first | done | rfl | (simp only [List.length_drop, List.length_take]; rfl)) ?_
 with_reducible refine (impl_Corner_73.calls k _ _ y431 t434 _ ?side1 ?side2 A7.out).mono ?_
 (case side1 => repeat (first | exact (Kd.N_reads' HO433.out).2.2 | (with_reducible refine Kd.C_alloc ?_ _) | (with_reducible refine Kd.C_drewN ?_ _) | (with_reducible refine Kd.C_drew ?_)))
 (case side2 => exact (Kd.N_reads' HO433.out).2.1)
 rintro e w14 ⟨v435, rfl, ho0, hb⟩
 refine ⟨_, rfl, ?_⟩
 have n0_ := Aside0.mk (Kd.V_elder' (by (with_reducible repeat (first | apply Kd.V_alloc | apply Kd.V_drewN | apply Kd.V_drew)); exact HO0.out) (Kd.R_base ho0) hb)
 have n1_ := Aside0.mk (Kd.V_elder' (by (with_reducible repeat (first | apply Kd.V_alloc | apply Kd.V_drewN | apply Kd.V_drew)); exact HO425.out) (Kd.R_base ho0) hb)
 have n2_ := Aside0.mk (Kd.V_elder' (by (with_reducible repeat (first | apply Kd.V_alloc | apply Kd.V_drewN | apply Kd.V_drew)); exact HO430.out) (Kd.R_base ho0) hb)
 have n3_ := Aside0.mk (Kd.N_elder' (by (with_reducible repeat (first | apply Kd.N_alloc | apply Kd.N_drewN | apply Kd.N_drew)); exact HO433.out) (Kd.R_base ho0) hb)
 have n4_ := Aside0.mk (Kd.R_lower (Kd.R_newM (M := fun k_ => (w.heap.size ≤ k_)) ho0 (below_size (kB_ HB)) (fun k_ h_ => h_)) (below_size (kB_ HB)))
 have n5_ := bs_ HB hb
 clear HO0
 clear HO425
 clear HO430
 clear HO433
 clear HB
 have HO0 := n0_
 have HO425 := n1_
 have HO430 := n2_
 have HO433 := n3_
 have HO436 := n4_
 have HB := n5_
 clear n0_ n1_ n2_ n3_ n4_ n5_
 refine hK.out _ _ trivial (fun hHeld => ?_)
 clear hK K
 refine norm_ (a' := ?_) ?_ ?_
 rotate_left
 ·
  show Act.put _ (some 12) _ = _
  simp only [Act.put, List.setIfInBounds_toArray, List.set_cons_zero, List.set_cons_succ, i64_w, i32_w]
  rfl
 refine pu_ 8 4 (lA 9 511) ?_ ?_ HT_ ?_
 refine done_ (done_of HT_.out (by kernel_rfl)) ?_
 try go_wp2
 go_ret
 exact ⟨_, by first | rfl | (simp [errW_none, errW_some] <;> rfl) | (simp [*, errW_none, errW_some] <;> rfl), by (with_reducible repeat (first | apply Kd.R_alloc | apply Kd.R_drewN | apply Kd.R_drew)); exact Kd.R_mono HO436.out (fun _ hk => hk.1), bl_ HB⟩

/-! ### impl_MirrorStone: function 10 -/
def impl_MirrorStone.l0 : Nat → List (S43) → List (S43) → Int → Option ((List (S43)) × Int)
 | 0, _, _, _ => none
 | k + 1, x0, x4, x5 => if x5 ≥ 0 then (if 0 ≤ x5 then (if x5 < (x0.length : Int) then (if x4.length < 35184372088832 then (impl_MirrorStone.l0 k x0 (x4 ++ [(⟨IntKind.i16.wrap (-((rd_T43 x0 x5).f0)), (rd_T43 x0 x5).f1⟩ : S43)]) (wrap64 (x5 - 1))) else (none)) else (none)) else (none)) else (some (x4, 0))
def impl_MirrorStone.f (k : Nat) (l0 : List (S43)) : Option ((List (S43)) × Int) := (impl_ValidStone.f k l0).bind fun t335 => (if t335 = true then (impl_MirrorStone.l0 k l0 (([] : List (S43))) (wrap64 ((l0.length : Int) - 1))) else (some (([] : List (S43)), 1)))
theorem impl_MirrorStone.mono_l : ∀ k, (∀ y0 y1 y2, LeO (impl_MirrorStone.l0 k y0 y1 y2) (impl_MirrorStone.l0 (k + 1) y0 y1 y2))
 | 0 => fun _ _ _ r h => by simp [impl_MirrorStone.l0] at h
 | k + 1 => by
  have ih0 := impl_MirrorStone.mono_l k
  ·
   intro y0 y1 y2
   unfold impl_MirrorStone.l0
   repeat' first | (with_reducible first | exact ih0 _ _ _ | exact impl_ValidStone.mono _ _ | exact LeO.refl _ | exact LeO.none _ | refine LeO.ite ?_ ?_ | refine LeO.bind ?_ (fun _ => ?_))
theorem impl_MirrorStone.mono : ∀ a0 k, LeO (impl_MirrorStone.f k a0) (impl_MirrorStone.f (k + 1) a0) := by
 intro a0 k
 have ih0 := impl_MirrorStone.mono_l k
 unfold impl_MirrorStone.f
 repeat' first | (with_reducible first | exact ih0 _ _ _ | exact impl_ValidStone.mono _ _ | exact LeO.refl _ | exact LeO.none _ | refine LeO.ite ?_ ?_ | refine LeO.bind ?_ (fun _ => ?_))
def impl_MirrorStone.T7 : Bool × List (List Nat × List Nat) := (true, [([], []), ([], []), ([], []), ([1, 2], [1, 2]), ([3], [3]), ([4], [4]), ([5], [5]), ([], []), ([], []), ([7, 8], [7, 8]), ([9], [9]), ([10], [10]), ([6, 11], [6, 11]), ([12], [12]), ([0, 13], [0, 13]), ([14, 14, 0, 1, 2, 3, 4, 5, 6, 7, 8, 9, 10, 11, 12, 13, 14], [0, 14])])
def impl_MirrorStone.B7 : List Nat := [0, 0, 0, 6, 14, 30, 62, 0, 0, 384, 896, 1920, 4094, 8190, 16383, 32767]
theorem impl_MirrorStone.tab7 : rtab .any (opsOf Tryz.f10 7) = impl_MirrorStone.T7 := by kernel_rfl
theorem impl_MirrorStone.bits7 : waitsOk impl_MirrorStone.T7.2 impl_MirrorStone.B7 = true := by kernel_rfl
set_option maxHeartbeats 8000000 in
set_option maxRecDepth 100000 in
theorem impl_MirrorStone.calls (k : Nat) (A0 : Option Addr) (c0 : Nat) (l0 : List (S43)) (r1 : List (S43)) (r2 : Int) (w : World) (hr0 : Kd.C k43 w A0 l0.length l0) (hc0 : l0.length ≤ c0) (h : impl_MirrorStone.f k l0 = some (r1, r2)) :
  Calls Tryz.prog 10 #[.slice A0 l0.length c0] w fun e w' => ∃ v0_ : Value, e = .returned (.tuple #[v0_, .int .i64 r2]) ∧ Kd.R k43 43 w' w.heap.size (fun _ => True) v0_ r1 ∧ Below w.heap.size w w' := by
 have hu43 := Tryz.underlying43
 have HR0 := Aside0.mk hr0
 have HC0 := Aside0.mk hc0
 clear hr0 hc0
 have HB := Aside0.mk (Below.refl w.heap.size w)
 have H : ((impl_ValidStone.f k l0).bind fun t335 => (if t335 = true then (impl_MirrorStone.l0 k l0 (([] : List (S43))) (wrap64 ((l0.length : Int) - 1))) else (some (([] : List (S43)), 1)))) = some (r1, r2) := h
 clear h
 obtain ⟨t335, A2, H⟩ := be_ H
 (try dsimp only at H)
 rcases (Decidable.em (t335 = true)).symm with c3 | c3
 ·
  replace c3 := Bool.eq_false_iff.mpr c3
  subst c3
  replace H := gf_ H
  simp only [Option.some.injEq, Prod.mk.injEq] at H
  obtain ⟨rfl, rfl⟩ := H
  go_enter Tryz.func10, Tryz.ntmps10
  go_wp2_with (first | ((with_reducible refine gate_callee (f := 14) rfl ?_); refine goM_ (some 7) Tryz.func14 #[.slice A0 l0.length c0] ?_; (with_reducible refine (impl_ValidStone.calls k _ _ l0 false _ ?side1 ?side2 A2.out).mono ?_); (case side1 => exact kc_ HR0.out); (case side2 => exact HC0.out); rintro e w13 ⟨rfl, hb⟩; refine ⟨_, rfl, ?_⟩; replace HB := bs_ HB hb; clear hb))
  go_ret2
  exact ⟨_, by first | rfl | (simp [errW_none, errW_some] <;> rfl) | (simp [*, errW_none, errW_some] <;> rfl), by first | exact Kd.R_nil _ _ _ _ _ | exact Kd.N_nil _ _ _ _ _ | exact Kd.V_nil _ _ _ _ _ | exact Kd.Q_nil _ _ _ _ _ | exact Kd.S_nil _ _ _ _ _, bl_ HB⟩

 subst c3
 replace H := gt_ H
 obtain ⟨y336, hy336⟩ : ∃ y_ : List (S43), y_ = (([] : List (S43))) := ⟨_, rfl⟩
 replace H : (impl_MirrorStone.l0 k l0 y336 (wrap64 ((l0.length : Int) - 1))) = some (r1, r2) := by first | (rw [hy336]; with_reducible exact H) | (have H2_ := (Option.bind_some _ _).symm.trans H; rw [hy336]; with_reducible exact H2_) | (have H2_ := (Option.bind_some _ _).symm.trans H; with_reducible exact H2_) | with_reducible exact H | (rw [hy336]; exact H) | exact H
 have Ny336 := Aside0.mk hy336
 clear hy336
 have H' := Aside0.mk H
 clear H
 go_enter Tryz.func10, Tryz.ntmps10
 go_wp2_with (first | ((with_reducible refine gate_callee (f := 14) rfl ?_); refine goM_ (some 7) Tryz.func14 #[.slice A0 l0.length c0] ?_; (with_reducible refine (impl_ValidStone.calls k _ _ l0 true _ ?side1 ?side2 A2.out).mono ?_); (case side1 => exact kc_ HR0.out); (case side2 => exact HC0.out); rintro e w4 ⟨rfl, hb⟩; refine ⟨_, rfl, ?_⟩; replace HB := bs_ HB hb; clear hb) | ((with_reducible refine gate_dst (N := 9) rfl ?_); refine Kd.R_lit k43 _ 43 ?hg (N := 9) ?hd (xs := ([] : List (S43))) (inner := []) (ok := fun _ => True) (okp := fun _ => True) ?hr ?hp (fun _ hk => hk) trivial (Below.refl _ _) (Nat.le_refl _) (by simp) ?_; (case hd => rfl); (case hg => rfl); (case hr => first | (go_simp; done) | (go_simp; rfl)); (case hp => exact (Reps.none _ _)); intro v337 w5 ho6 hb hg_ hnew_; clear hg_ hnew_; (first | rw [← Ny336.out] at ho6 | (simp only [Int.reduceToNat] at ho6; rw [← Ny336.out] at ho6)); have HO338 := Aside0.mk (Kd.R_lower ho6 (below_size (kB_ HB))); replace HB := bs_ HB hb; clear hb ho6))
 go_loopg [4, 5] k (fun kq v4 v5 w' => ∃ (x4_1 : List (S43)) (x5_1 : Int), v5 = .int .i64 x5_1 ∧ Aside0 (impl_MirrorStone.l0 kq l0 x4_1 x5_1 = some (r1, r2)) ∧ Aside0 (kq ≤ k) ∧ Aside0 (Kd.R k43 43 w' w.heap.size (fun _ => True) v4 x4_1) ∧ Aside0 (Below w.heap.size w w'))
 case atStart => exact ⟨(y336), (wrap64 ((l0.length : Int) - 1)), (by first | rfl | (simp; done) | (simp [*]; done)), H', ⟨Nat.le_refl _⟩, ⟨kp_ HO338⟩, ⟨bl_ HB⟩⟩
 case round =>
  clear H'
  obtain ⟨x4_1, x5_1, rfl, HA, HK1, HO_4, HB⟩ := hrel
  rcases gk with _ | k1
  · exact absurd HA.out (by simp [impl_MirrorStone.l0])
  have H := HA.out
  clear HA
  simp only [impl_MirrorStone.l0] at H
  rcases (Decidable.em (x5_1 ≥ 0)).symm with c7 | c7
  ·
   rw [if_neg c7] at H
   have c7b0 : decide (0 ≤ x5_1) = false := decide_eq_false c7
   clear c7
   simp only [Option.some.injEq, Prod.mk.injEq] at H
   obtain ⟨rfl, rfl⟩ := H
   go_wp2
   go_ret2
   exact ⟨_, by first | rfl | (simp [errW_none, errW_some] <;> rfl) | (simp [*, errW_none, errW_some] <;> rfl), by (with_reducible repeat (first | apply Kd.R_alloc | apply Kd.R_drewN | apply Kd.R_drew)); exact HO_4.out, bl_ HB⟩
  rw [if_pos c7] at H
  have c7b0 : decide (0 ≤ x5_1) = true := decide_eq_true c7
  clear c7
  obtain ⟨c8b0, H⟩ := gx_ H
  obtain ⟨c9b0, H⟩ := gx_ H
  obtain ⟨(c10 : x4_1.length < 35184372088832), H⟩ := gd_ H
  have LMc10 := Aside0.mk c10
  clear c10
  obtain ⟨y341, hy341⟩ : ∃ y_ : List (S43), y_ = (x4_1 ++ [(⟨IntKind.i16.wrap (-((rd_T43 l0 x5_1).f0)), (rd_T43 l0 x5_1).f1⟩ : S43)]) := ⟨_, rfl⟩
  replace H : (impl_MirrorStone.l0 k1 l0 y341 (wrap64 (x5_1 - 1))) = some (r1, r2) := by first | (rw [hy341]; with_reducible exact H) | (have H2_ := (Option.bind_some _ _).symm.trans H; rw [hy341]; with_reducible exact H2_) | (have H2_ := (Option.bind_some _ _).symm.trans H; with_reducible exact H2_) | with_reducible exact H | (rw [hy341]; exact H) | exact H
  have Ny341 := Aside0.mk hy341
  clear hy341
  have H' := Aside0.mk H
  clear H
  try go_wp2
  have n0_ := Aside0.mk (Kd.R_drew HO_4.out)
  have n1_ := Aside0.mk (below_drew1 HB.out)
  clear HO_4
  clear HB
  have HO_4 := n0_
  have HB := n1_
  clear n0_ n1_
  have p339 : 0 ≤ (x5_1 : Int) := od_
  have q339 : x5_1 < (l0.length : Int) := od_
  obtain ⟨ad339, e339, hx339_0, hx339_1⟩ := at_T43 HR0.out x5_1 p339 q339
  have hw339_1 := hx339_1
  have hw339_0 := hx339_0
  cases e339
  replace hx339_0 := (hw_ HB hx339_0 :)
  replace hx339_1 := (hw_ HB hx339_1 :)
  replace p339 := eq_true p339
  replace q339 := eq_true q339
  have p340 : 0 ≤ (x5_1 : Int) := od_
  have q340 : x5_1 < (l0.length : Int) := od_
  obtain ⟨ad340, e340, hx340_0, hx340_1⟩ := at_T43 HR0.out x5_1 p340 q340
  have hw340_1 := hx340_1
  have hw340_0 := hx340_0
  obtain rfl : ad339 = ad340 := (by injection e340)
  replace hx340_0 := (hw_ HB hx340_0 :)
  replace hx340_1 := (hw_ HB hx340_1 :)
  replace p340 := eq_true p340
  replace q340 := eq_true q340
  refine start_ (n := 16) (S := fun w' => w'.cell? (ad339.add ((x5_1).toNat * 2)) = some (.int .i16 ((rd_T43 l0 x5_1).f0)) ∧ w'.cell? ⟨(ad339.add ((x5_1).toNat * 2)).block, (ad339.add ((x5_1).toNat * 2)).off + 1, none⟩ = some (.int .i16 ((rd_T43 l0 x5_1).f1)) ∧ w'.cell? (ad339.add ((x5_1).toNat * 2)) = some (.int .i16 ((rd_T43 l0 x5_1).f0)) ∧ w'.cell? ⟨(ad339.add ((x5_1).toNat * 2)).block, (ad339.add ((x5_1).toNat * 2)).off + 1, none⟩ = some (.int .i16 ((rd_T43 l0 x5_1).f1))) (ds := []) #[false, false, false, false, false, false, false, false, false, false, false, false, false, false, false, false] (by kernel_rfl) rfl rfl ⟨((hw_ HB hw339_0 :)), ((hw_ HB hw339_1 :)), ((hw_ HB hw340_0 :)), ((hw_ HB hw340_1 :))⟩ (fun hHeld => ?_); refine with_tabW impl_MirrorStone.tab7 impl_MirrorStone.bits7 (fun HT_ HW_ => ?_)
  generalize wr.drew = w11 at HO_4 HB hx339_0 hx339_1 hx340_0 hx340_1 hHeld ⊢
  refine pu_ 0 17 (lA 16 1) ?_ ?_ HT_ ?_
  refine pu_ 1 18 (lA 16 3) ?_ ?_ HT_ ?_
  refine pu_ 2 19 (lA 16 7) ?_ ?_ HT_ ?_
  refine pu_ 3 20 (lA 16 15) ?_ ?_ HT_ ?_
  refine pu_ 4 21 (lA 16 31) ?_ ?_ HT_ ?_
  refine pu_ 7 24 (lA 16 159) ?_ ?_ HT_ ?_
  refine pu_ 8 25 (lA 16 415) ?_ ?_ HT_ ?_
  refine pu_ 9 26 (lA 16 927) ?_ ?_ HT_ ?_
  refine pu_ 10 27 (lA 16 1951) ?_ ?_ HT_ ?_
  refine tk_ 5 22 (lA 16 1983) ?_ ?_ HT_ HW_ hHeld ?_
  refine pu_ 6 23 (lA 16 2047) ?_ ?_ HT_ ?_
  refine tk_ 11 28 (lA 16 4095) ?_ ?_ HT_ HW_ hHeld ?_
  refine pu_ 12 29 (lA 16 8191) ?_ ?_ HT_ ?_
  refine one_ (i := 13) (N := some 30) #[true, true, true, true, true, true, true, true, true, true, true, true, true, true, false, false] rfl rfl (one_of HT_.out (by kernel_rfl)) (by decide) (fun K hK => ?_)
  refine value_ (w1 := ?_) (v := ?_) (by rfl) rfl ?_ ?_
  rotate_left 2
  ·
   go_simp
   constructor
   ·
    rfl
   ·
    rfl
  refine hK.out _ _ ⟨(World.cell?_alloc_lt _ _ _ (World.block_lt_of_cell? _ _ (((hw_ HB hw339_0 :))))).trans (((hw_ HB hw339_0 :))), (World.cell?_alloc_lt _ _ _ (World.block_lt_of_cell? _ _ (((hw_ HB hw339_1 :))))).trans (((hw_ HB hw339_1 :))), (World.cell?_alloc_lt _ _ _ (World.block_lt_of_cell? _ _ (((hw_ HB hw340_0 :))))).trans (((hw_ HB hw340_0 :))), (World.cell?_alloc_lt _ _ _ (World.block_lt_of_cell? _ _ (((hw_ HB hw340_1 :))))).trans (((hw_ HB hw340_1 :)))⟩ (fun hHeld => ?_)
  clear hK K
  refine norm_ (a' := ?_) ?_ ?_
  rotate_left
  ·
   show Act.put _ (some 30) _ = _
   simp only [Act.put, List.setIfInBounds_toArray, List.set_cons_zero, List.set_cons_succ, i64_w, i32_w]
   rfl
  refine one_ (i := 14) (N := some 31) #[true, true, true, true, true, true, true, true, true, true, true, true, true, true, true, false] rfl rfl (one_of HT_.out (by kernel_rfl)) (by decide) (fun K hK => ?_)
  refine Kd.R_append_step k43 (w0 := w) w.heap.size (by rfl) (.tmp 17) (.tmp 30) 25 43 (.agg #[(.int .i16 0), (.int .i16 0)]) 4 rfl Tryz.underlying25 info43 rfl (by decide) (by omega) u4 x4_1 (⟨IntKind.i16.wrap (-((rd_T43 l0 x5_1).f0)), (rd_T43 l0 x5_1).f1⟩ : S43) [.int .i16 (IntKind.i16.wrap (-((rd_T43 l0 x5_1).f0))), .int .i16 ((rd_T43 l0 x5_1).f1)] (fun _ => True) (fun _ => False) rfl rfl ?aP (fun _ hk => hk.elim) ?aF ?aO ?aB ?aS ?aL ?_
  (case aP => exact k43_mkM _ _ _ (⟨IntKind.i16.wrap (-((rd_T43 l0 x5_1).f0)), (rd_T43 l0 x5_1).f1⟩ : S43))
  (case aB => exact (kB_ HB))
  (case aF => exact (fun _ _ => trivial))
  (case aO => exact (kp_ HO_4))
  (case aS => exact (below_size (kB_ HB)))
  (case aL => have := LMc10.out; omega)
  intro v342 w12 ho hb hg hat
  rw [← Ny341.out] at ho
  have n0_ := Aside0.mk (hb)
  have n1_ := Aside0.mk (ho)
  clear HB
  clear HO_4
  have HB := n0_
  have HO343 := n1_
  clear n0_ n1_
  clear ho hb hg hat
  refine hK.out _ _ ⟨((hw_ HB hw339_0 :)), ((hw_ HB hw339_1 :)), ((hw_ HB hw340_0 :)), ((hw_ HB hw340_1 :))⟩ (fun hHeld => ?_)
  clear hK K
  refine norm_ (a' := ?_) ?_ ?_
  rotate_left
  ·
   show Act.put _ (some 31) _ = _
   simp only [Act.put, List.setIfInBounds_toArray, List.set_cons_zero, List.set_cons_succ, i64_w, i32_w]
   rfl
  refine pu_ 15 4 (lA 16 65535) ?_ ?_ HT_ ?_
  refine done_ (done_of HT_.out (by kernel_rfl)) ?_
  try go_wp2
  go_roundg k1
  case measure => have := HK1.out; omega
  case rel => exact ⟨(y341), (wrap64 (x5_1 - 1)), (by first | rfl | (simp; done) | (simp [*]; done)), H', ⟨by have := HK1.out; omega⟩, ⟨kp_ HO343⟩, ⟨bl_ HB⟩⟩
end Go.Proofs.YthbogbaaikjhbaaGreatDoor.PA
