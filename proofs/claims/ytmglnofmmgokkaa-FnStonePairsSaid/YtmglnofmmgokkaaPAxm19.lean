/- Pure functions, and that Go's functions come to them. -/
import Derived.Test.YtmglnofmmgokkaaPAx0
import Derived.Test.YtmglnofmmgokkaaPAxm16
import Derived.Test.YtmglnofmmgokkaaPAxm21
import Derived.Test.YtmglnofmmgokkaaPAxm15
import Derived.Test.YtmglnofmmgokkaaPAxm20
import Derived.Test.YtmglnofmmgokkaaPAxgSpec
namespace Go.Proofs.Ytmglnofmmgokkaa.PA
open Go.RowKit Go.Proofs.YtmglnofmmgokkaaW.PrintWords Go.Proofs.YtmglnofmmgokkaaW.PrintLast Go.Proofs.YtmglnofmmgokkaaW.PrintMore
set_option linter.unusedVariables false
set_option linter.unusedSimpArgs false

/-! ### impl_Stone_from: function 44 -/
def impl_Stone_from.f (k : Nat) (l0 : List (S34)) (a1 : Int) : Option ((List (S34))) := if 0 ≤ a1 then (if a1 ≤ (l0.length : Int) then ((impl_Corner_62.f k (([(l0.drop (a1 : Int).toNat), (l0.take (a1 : Int).toNat)] : List (List (S34))))).bind fun t466 => (some t466)) else (none)) else (none)
theorem impl_Stone_from.mono : ∀ a0 a1 k, LeO (impl_Stone_from.f k a0 a1) (impl_Stone_from.f (k + 1) a0 a1) := by
 intro a0 a1 k
 unfold impl_Stone_from.f
 repeat' first | (with_reducible first | exact impl_Corner_62.mono _ _ | exact LeO.refl _ | exact LeO.none _ | refine LeO.ite ?_ ?_ | refine LeO.bind ?_ (fun _ => ?_))
def impl_Stone_from.T1 : Bool × List (List Nat × List Nat) := (true, [([], []), ([], []), ([0, 1], [0, 1]), ([], []), ([], []), ([3, 4], [3, 4]), ([2, 5], [2, 5]), ([6], [6]), ([7, 7, 0, 1, 2, 3, 4, 5, 6, 7], [7])])
def impl_Stone_from.B1 : List Nat := [0, 0, 3, 0, 0, 24, 63, 127, 255]
theorem impl_Stone_from.tab1 : rtab .any (opsOf Try.f44 1) = impl_Stone_from.T1 := by kernel_rfl
theorem impl_Stone_from.bits1 : waitsOk impl_Stone_from.T1.2 impl_Stone_from.B1 = true := by kernel_rfl
set_option maxHeartbeats 8000000 in
set_option maxRecDepth 100000 in
theorem impl_Stone_from.calls (k : Nat) (P0_ : Nat → Prop) (A0 : Option Addr) (c0 : Nat) (l0 : List (S34)) (a1 : Int) (r : List (S34)) (w : World) (hs0 : Kd.V k34 34 w w.heap.size (fun k_ => P0_ k_) (.slice A0 l0.length c0) l0) (h : impl_Stone_from.f k l0 a1 = some r) :
  Calls Try.prog 44 #[.slice A0 l0.length c0, .int .i64 a1] w fun e w' => ∃ v0_ : Value, e = .returned (v0_) ∧ Kd.R k34 34 w' w.heap.size (fun k_ => (w.heap.size ≤ k_)) v0_ r ∧ Below w.heap.size w w' := by
 have HO0 := Aside0.mk (show Kd.V k34 34 w w.heap.size (fun k_ => (P0_ k_ ∨ w.heap.size ≤ k_)) (.slice A0 l0.length c0) l0 from Kd.V_mono hs0 (fun k_ hk => .inl hk))
 have HB := Aside0.mk (Below.refl w.heap.size w)
 have H : (if 0 ≤ a1 then (if a1 ≤ (l0.length : Int) then ((impl_Corner_62.f k (([(l0.drop (a1 : Int).toNat), (l0.take (a1 : Int).toNat)] : List (List (S34))))).bind fun t466 => (some t466)) else (none)) else (none)) = some r := h
 clear h
 obtain ⟨(c3 : 0 ≤ a1), H⟩ := gd_ H
 have c3b0 := eq_true c3
 have c3b1 : decide (0 ≤ a1) = true := decide_eq_true c3
 clear c3
 obtain ⟨(c4 : a1 ≤ (l0.length : Int)), H⟩ := gd_ H
 have c4b0 := eq_true c4
 have c4b1 : decide (a1 ≤ (l0.length : Int)) = true := decide_eq_true c4
 clear c4
 obtain ⟨y453, hy453⟩ : ∃ y_ : List (S34), y_ = (l0.drop (a1 : Int).toNat) := ⟨_, rfl⟩
 replace H : ((impl_Corner_62.f k (([y453, (l0.take (a1 : Int).toNat)] : List (List (S34))))).bind fun t466 => (some t466)) = some r := by first | (rw [hy453]; with_reducible exact H) | (have H2_ := (Option.bind_some _ _).symm.trans H; rw [hy453]; with_reducible exact H2_) | (have H2_ := (Option.bind_some _ _).symm.trans H; with_reducible exact H2_) | with_reducible exact H | (rw [hy453]; exact H) | exact H
 have Ny453 := Aside0.mk hy453
 clear hy453
 have c5b0 := eq_true (od_ : 0 ≤ a1)
 have c6b0 := eq_true (od_ : a1 ≤ (l0.length : Int))
 obtain ⟨y458, hy458⟩ : ∃ y_ : List (S34), y_ = (l0.take (a1 : Int).toNat) := ⟨_, rfl⟩
 replace H : ((impl_Corner_62.f k (([y453, y458] : List (List (S34))))).bind fun t466 => (some t466)) = some r := by first | (rw [hy458]; with_reducible exact H) | (have H2_ := (Option.bind_some _ _).symm.trans H; rw [hy458]; with_reducible exact H2_) | (have H2_ := (Option.bind_some _ _).symm.trans H; with_reducible exact H2_) | with_reducible exact H | (rw [hy458]; exact H) | exact H
 have Ny458 := Aside0.mk hy458
 clear hy458
 obtain ⟨y463, hy463⟩ : ∃ y_ : List (List (S34)), y_ = (([y453, y458] : List (List (S34)))) := ⟨_, rfl⟩
 replace H : ((impl_Corner_62.f k y463).bind fun t466 => (some t466)) = some r := by first | (rw [hy463]; with_reducible exact H) | (have H2_ := (Option.bind_some _ _).symm.trans H; rw [hy463]; with_reducible exact H2_) | (have H2_ := (Option.bind_some _ _).symm.trans H; with_reducible exact H2_) | with_reducible exact H | (rw [hy463]; exact H) | exact H
 have Ny463 := Aside0.mk hy463
 clear hy463
 obtain ⟨t466, A7, H⟩ := be_ H
 (try dsimp only at H)
 obtain rfl := Option.some.inj H
 go_enter Try.func44, Try.ntmps44
 try go_wp2
 have n0_ := Aside0.mk (Kd.V_drew HO0.out)
 have n1_ := Aside0.mk (below_drew1 HB.out)
 clear HO0
 clear HB
 have HO0 := n0_
 have HB := n1_
 clear n0_ n1_
 have q9 : (a1 : Int) ≤ ((l0.length : Int) : Int) := od_
 obtain ⟨i09, hi09, _, hsz9, _⟩ := info_parts info34
 have hroom9 : l0.length ≤ c0 := (Kd.V_reads' HO0.out).2.1
 have hC9 : Kd.F k34 _ _ A0 l0.length l0 := (Kd.V_at (base := w.heap.size) HO0.out).2.2
 have q09 : (0 : Int) ≤ (a1 : Int) := od_
 have hcut9 := cut_from (P := Try.prog) 25 34 .i64 Try.underlying25 hi09 2 hsz9 A0 l0.length c0 a1 q09 q9
 have hr9 := Kd.F_cut (m := (a1 : Int).toNat) (c := c0) hC9 (by omega) hroom9
 obtain ⟨A9, hA9⟩ : ∃ A1, A1 = (if c0 = (a1 : Int).toNat then A0 else (A0 : Option Addr).map (·.add ((a1 : Int).toNat * 2))) := ⟨_, rfl⟩
 obtain ⟨c9, hc9⟩ : ∃ c1, c1 = c0 - (a1 : Int).toNat := ⟨_, rfl⟩
 have hy9 : y453.length = l0.length - (a1 : Int).toNat := (by rw [Ny453.out, List.length_drop] <;> omega)
 rw [show (l0).drop (a1 : Int).toNat = y453 from Ny453.out.symm] at hr9
 replace hr9 : Kd.F k34 _ _ A9 y453.length y453 := (by rw [hA9]; exact hr9)
 rw [← hy9, ← hA9, ← hc9] at hcut9
 have HO457 := Aside0.mk (show Kd.V k34 34 _ w.heap.size _ (.slice A9 y453.length c9) y453 from Kd.V_mk (by rw [hy9, hc9]; exact Nat.sub_le_sub_right hroom9 _) hr9)
 have HC457 := Aside0.mk (show y453.length ≤ c9 from by rw [hy9, hc9]; exact Nat.sub_le_sub_right hroom9 _)
 clear hr9 hC9 hroom9 hi09 hsz9 hc9
 have KY9 := Aside0.mk hy9
 have KA9 := Aside0.mk hA9
 clear hy9 hA9
 replace q9 := eq_true q9
 have q10 : (a1 : Int) ≤ ((l0.length : Int) : Int) := od_
 obtain ⟨i010, hi010, _, hsz10, _⟩ := info_parts info34
 have hroom10 : l0.length ≤ c0 := (Kd.V_reads' HO0.out).2.1
 have hC10 : Kd.F k34 _ _ A0 l0.length l0 := (Kd.V_at (base := w.heap.size) HO0.out).2.2
 have hcut10 := cut_to (P := Try.prog) 25 34 .i64 Try.underlying25 hi010 A0 l0.length c0 a1 od_ q10 hroom10
 have hr10 := Kd.F_take (m := (a1 : Int).toNat) hC10 (by omega)
 have hy10 : y458.length = (a1 : Int).toNat := (by rw [Ny458.out, List.length_take]; omega)
 rw [← Ny458.out] at hr10
 rw [← hy10] at hcut10
 have HO462 := Aside0.mk (show Kd.V k34 34 _ w.heap.size _ (.slice A0 y458.length c0) y458 from Kd.V_mk (by omega) hr10)
 have HC462 := Aside0.mk (show y458.length ≤ c0 from by omega)
 clear hr10 hC10 hroom10 hi010 hsz10
 have KY10 := Aside0.mk hy10
 clear hy10
 replace q10 := eq_true q10
 refine start_ (n := 9) (S := fun w' => True) (ds := []) #[false, false, false, false, false, false, false, false, false] (by kernel_rfl) rfl rfl trivial (fun hHeld => ?_); refine with_tabW impl_Stone_from.tab1 impl_Stone_from.bits1 (fun HT_ HW_ => ?_)
 generalize w.drew = w8 at HO0 HB HO457 HO462 hHeld ⊢
 refine pu_ 0 5 (lA 9 1) ?_ ?_ HT_ ?_
 refine pu_ 1 6 (lA 9 3) ?_ ?_ HT_ ?_
 refine pu_ 2 7 (lA 9 7) ?_ ?_ HT_ ?_
 refine pu_ 3 8 (lA 9 15) ?_ ?_ HT_ ?_
 refine pu_ 4 9 (lA 9 31) ?_ ?_ HT_ ?_
 refine pu_ 5 10 (lA 9 63) ?_ ?_ HT_ ?_
 refine one_ (i := 6) (N := some 11) #[true, true, true, true, true, true, true, false, false] rfl rfl (one_of HT_.out (by kernel_rfl)) (by decide) (fun K hK => ?_)
 refine Kd.N_lit_step (Kd.slice 34 k34) _ 25 ?hg (N' := 11) ?hd (xs := ([y453, y458] : List (List (S34)))) (inner := [.slice A9 y453.length c9, .slice A0 y458.length c0]) (ok := (fun k_ => (P0_ k_ ∨ w.heap.size ≤ k_))) (okp := (fun k_ => (P0_ k_ ∨ w.heap.size ≤ k_))) ?hr ?hp (fun _ hk => hk) ((show ∀ k_, w8.heap.size ≤ k_ → (fun k_ => (P0_ k_ ∨ w.heap.size ≤ k_)) k_ from fun k_ hk => (.inr (Nat.le_trans (below_size (kB_ HB)) hk))) _ (Nat.le_refl _)) (Below.refl _ _) (Nat.le_refl _) (by simp) ?_; (case hd => rfl); (case hg => rfl); (case hr => first | (go_simp; done) | (go_simp; rfl)); (case hp => exact (Reps.one (show Kd.FK (Kd.slice 34 k34) _ _ y453 [.slice A9 y453.length c9] from (Kd.FK_slice_mk (Kd.V_reads' (Kd.V_mono (ok' := (fun k_ => (P0_ k_ ∨ w.heap.size ≤ k_))) (HO457.out) (fun k_ hk => hk))).2.1 (Kd.V_F (Kd.V_mono (ok' := (fun k_ => (P0_ k_ ∨ w.heap.size ≤ k_))) (HO457.out) (fun k_ hk => hk))))) (Reps.one (show Kd.FK (Kd.slice 34 k34) _ _ y458 [.slice A0 y458.length c0] from (Kd.FK_slice_mk (Kd.V_reads' (Kd.V_mono (ok' := (fun k_ => (P0_ k_ ∨ w.heap.size ≤ k_))) (HO462.out) (fun k_ hk => hk))).2.1 (Kd.V_F (Kd.V_mono (ok' := (fun k_ => (P0_ k_ ∨ w.heap.size ≤ k_))) (HO462.out) (fun k_ hk => hk))))) (Reps.none _ _))))
 intro v464 w11 ho12 hb hg_ hnew_
 clear hg_ hnew_
 (first | rw [← Ny463.out] at ho12 | (simp only [Int.reduceToNat] at ho12; rw [← Ny463.out] at ho12))
 have n0_ := Aside0.mk (Kd.V_elder' (by (with_reducible repeat (first | apply Kd.V_alloc | apply Kd.V_drewN | apply Kd.V_drew)); exact HO0.out) (Kd.N_base ho12) hb)
 have n1_ := Aside0.mk (Kd.V_elder' (by (with_reducible repeat (first | apply Kd.V_alloc | apply Kd.V_drewN | apply Kd.V_drew)); exact HO457.out) (Kd.N_base ho12) hb)
 have n2_ := Aside0.mk (Kd.V_elder' (by (with_reducible repeat (first | apply Kd.V_alloc | apply Kd.V_drewN | apply Kd.V_drew)); exact HO462.out) (Kd.N_base ho12) hb)
 have n3_ := Aside0.mk (Kd.N_lower ho12 (below_size (kB_ HB)))
 have n4_ := bs_ HB hb
 clear HO0
 clear HO457
 clear HO462
 clear HB
 have HO0 := n0_
 have HO457 := n1_
 have HO462 := n2_
 have HO465 := n3_
 have HB := n4_
 clear n0_ n1_ n2_ n3_ n4_
 clear hb ho12
 obtain ⟨Ao13, co13, eo13⟩ := Kd.N_slice HO465.out
 (first | subst eo13 | (injection eo13 with f1_ f2_ f3_; have f4_ := f1_.symm; have f5_ := f3_.symm; clear f1_ f2_ f3_; subst f4_; subst f5_))
 refine hK.out _ _ trivial (fun hHeld => ?_)
 clear hK K
 refine norm_ (a' := ?_) ?_ ?_
 rotate_left
 ·
  show Act.put _ (some 11) _ = _
  simp only [Act.put, List.setIfInBounds_toArray, List.set_cons_zero, List.set_cons_succ, i64_w, i32_w]
  rfl
 refine one_ (i := 7) (N := some 12) #[true, true, true, true, true, true, true, true, false] rfl rfl (one_of HT_.out (by kernel_rfl)) (by decide) (fun K hK => ?_)
 refine goes_ Try.func62 (by kernel_rfl) rfl #[.slice Ao13 y463.length co13] (by rfl) rfl rfl (by (try simp only [List.map_toArray, List.map_cons, List.map_nil]); first | done | rfl | (simp only [List.length_drop, List.length_take]; rfl)) ?_
 with_reducible refine (impl_Corner_62.calls k _ _ y463 t466 _ ?side1 ?side2 A7.out).mono ?_
 (case side1 => repeat (first | exact (Kd.N_reads' HO465.out).2.2 | (with_reducible refine Kd.C_alloc ?_ _) | (with_reducible refine Kd.C_drewN ?_ _) | (with_reducible refine Kd.C_drew ?_)))
 (case side2 => exact (Kd.N_reads' HO465.out).2.1)
 rintro e w14 ⟨v467, rfl, ho0, hb⟩
 refine ⟨_, rfl, ?_⟩
 have n0_ := Aside0.mk (Kd.V_elder' (by (with_reducible repeat (first | apply Kd.V_alloc | apply Kd.V_drewN | apply Kd.V_drew)); exact HO0.out) (Kd.R_base ho0) hb)
 have n1_ := Aside0.mk (Kd.V_elder' (by (with_reducible repeat (first | apply Kd.V_alloc | apply Kd.V_drewN | apply Kd.V_drew)); exact HO457.out) (Kd.R_base ho0) hb)
 have n2_ := Aside0.mk (Kd.V_elder' (by (with_reducible repeat (first | apply Kd.V_alloc | apply Kd.V_drewN | apply Kd.V_drew)); exact HO462.out) (Kd.R_base ho0) hb)
 have n3_ := Aside0.mk (Kd.N_elder' (by (with_reducible repeat (first | apply Kd.N_alloc | apply Kd.N_drewN | apply Kd.N_drew)); exact HO465.out) (Kd.R_base ho0) hb)
 have n4_ := Aside0.mk (Kd.R_lower (Kd.R_newM (M := fun k_ => (w.heap.size ≤ k_)) ho0 (below_size (kB_ HB)) (fun k_ h_ => h_)) (below_size (kB_ HB)))
 have n5_ := bs_ HB hb
 clear HO0
 clear HO457
 clear HO462
 clear HO465
 clear HB
 have HO0 := n0_
 have HO457 := n1_
 have HO462 := n2_
 have HO465 := n3_
 have HO468 := n4_
 have HB := n5_
 clear n0_ n1_ n2_ n3_ n4_ n5_
 refine hK.out _ _ trivial (fun hHeld => ?_)
 clear hK K
 refine norm_ (a' := ?_) ?_ ?_
 rotate_left
 ·
  show Act.put _ (some 12) _ = _
  simp only [Act.put, List.setIfInBounds_toArray, List.set_cons_zero, List.set_cons_succ, i64_w, i32_w]
  rfl
 refine pu_ 8 4 (lA 9 511) ?_ ?_ HT_ ?_
 refine done_ (done_of HT_.out (by kernel_rfl)) ?_
 try go_wp2
 go_ret
 exact ⟨_, by first | rfl | (simp [errW_none, errW_some] <;> rfl) | (simp [*, errW_none, errW_some] <;> rfl), by (with_reducible repeat (first | apply Kd.R_alloc | apply Kd.R_drewN | apply Kd.R_drew)); exact Kd.R_mono HO468.out (fun _ hk => hk.1), bl_ HB⟩

attribute [local go_sem high] eqA34
/-! ### impl_Corner_42: function 42 -/
def impl_Corner_42.l0 : Nat → List (S34) → Int → Int → Int → Int → Option (Int)
 | 0, _, _, _, _, _ => none
 | k + 1, x0, x7, x8, x437000, x437001 => if x8 < x7 then (if 0 ≤ x8 then (if x8 < (x0.length : Int) then (if (x437000 == ((rd_T34 x0 x8).f0) && (x437001 == ((rd_T34 x0 x8).f1))) = true then (some x8) else (impl_Corner_42.l0 k x0 x7 (wrap64 (x8 + 1)) x437000 x437001)) else (none)) else (none)) else (some (-1))
def impl_Corner_42.f (k : Nat) (l0 : List (S34)) (a1_0 : Int) (a1_1 : Int) : Option (Int) := impl_Corner_42.l0 k l0 (l0.length : Int) 0 a1_0 a1_1
theorem impl_Corner_42.mono_l : ∀ k, (∀ y0 y1 y2 y3 y4, LeO (impl_Corner_42.l0 k y0 y1 y2 y3 y4) (impl_Corner_42.l0 (k + 1) y0 y1 y2 y3 y4))
 | 0 => fun _ _ _ _ _ r h => by simp [impl_Corner_42.l0] at h
 | k + 1 => by
  have ih0 := impl_Corner_42.mono_l k
  ·
   intro y0 y1 y2 y3 y4
   unfold impl_Corner_42.l0
   repeat' first | (with_reducible first | exact ih0 _ _ _ _ _ | exact LeO.refl _ | exact LeO.none _ | refine LeO.ite ?_ ?_ | refine LeO.bind ?_ (fun _ => ?_))
theorem impl_Corner_42.mono : ∀ a0 a1 a2 k, LeO (impl_Corner_42.f k a0 a1 a2) (impl_Corner_42.f (k + 1) a0 a1 a2) := by
 intro a0 a1 a2 k
 have ih0 := impl_Corner_42.mono_l k
 unfold impl_Corner_42.f
 repeat' first | (with_reducible first | exact ih0 _ _ _ _ _ | exact LeO.refl _ | exact LeO.none _ | refine LeO.ite ?_ ?_ | refine LeO.bind ?_ (fun _ => ?_))
set_option maxHeartbeats 8000000 in
set_option maxRecDepth 100000 in
theorem impl_Corner_42.calls (k : Nat) (A0 : Option Addr) (c0 : Nat) (l0 : List (S34)) (a1_0 : Int) (a1_1 : Int) (r : Int) (w : World) (hr0 : Kd.C k34 w A0 l0.length l0) (hc0 : l0.length ≤ c0) (h : impl_Corner_42.f k l0 a1_0 a1_1 = some r) :
  Calls Try.prog 42 #[.slice A0 l0.length c0, .agg #[.int .i16 a1_0, .int .i16 a1_1]] w fun e w' => e = .returned (.int .i64 r) ∧ Below w.heap.size w w' := by
 have hu34 := Try.underlying34
 have HR0 := Aside0.mk hr0
 have HC0 := Aside0.mk hc0
 clear hr0 hc0
 have HB := Aside0.mk (Below.refl w.heap.size w)
 have H : (impl_Corner_42.l0 k l0 (l0.length : Int) 0 a1_0 a1_1) = some r := h
 clear h
 have H' := Aside0.mk H
 clear H
 go_enter Try.func42, Try.ntmps42
 go_wp2_with (first | ((with_reducible refine gate_dst (N := 3) rfl ?_); refine boxM_ 3 #[.int .i16 a1_0, .int .i16 a1_1] 34 ?_; intro gb436 hg w3 hbox hb; have BK436 := Aside0.mk (hbox); have GW436 := ge_ HB hg; have GE436 := ge_ HB hg; replace HB := bs_ HB hb; clear hb hbox hg))
 repeat (go_quiet (fail); try go_wp2)
 go_loopg [8] k (fun kq v8 w' => ∃ (x8_1 : Int), v8 = .int .i64 x8_1 ∧ Aside0 (impl_Corner_42.l0 kq l0 (l0.length : Int) x8_1 a1_0 a1_1 = some r) ∧ Aside0 (kq ≤ k) ∧ Aside0 (w'.heap[gb436]? = some (.cells #[.int .i16 a1_0, .int .i16 a1_1] 34 (0, 0))) ∧ Aside0 (Below w.heap.size w w'))
 case atStart => exact ⟨(0), (by first | rfl | (simp; done) | (simp [*]; done)), H', ⟨Nat.le_refl _⟩, ⟨bk_ BK436⟩, ⟨bl_ HB⟩⟩
 case round =>
  clear H'
  obtain ⟨x8_1, rfl, HA, HK1, BK436, HB⟩ := hrel
  rcases gk with _ | k1
  · exact absurd HA.out (by simp [impl_Corner_42.l0])
  have H := HA.out
  clear HA
  simp only [impl_Corner_42.l0] at H
  rcases (Decidable.em (x8_1 < (l0.length : Int))).symm with c4 | c4
  ·
   rw [if_neg c4] at H
   have c4b0 : decide (x8_1 < (l0.length : Int)) = false := decide_eq_false c4
   clear c4
   obtain rfl := Option.some.inj H
   go_wp2
   repeat (go_quiet (fail); try go_wp2)
   go_ret
   exact ⟨rt_, bl_ HB⟩

  rw [if_pos c4] at H
  have c4b0 : decide (x8_1 < (l0.length : Int)) = true := decide_eq_true c4
  clear c4
  obtain ⟨c5b0, H⟩ := gx_ H
  obtain ⟨c6b0, H⟩ := gx_ H
  by_cases c7 : (a1_0 == ((rd_T34 l0 x8_1).f0) && (a1_1 == ((rd_T34 l0 x8_1).f1))) = true
  ·
   rw [if_pos c7] at H
   have c7b0 : (a1_0 == ((rd_T34 l0 x8_1).f0) && (a1_1 == ((rd_T34 l0 x8_1).f1))) = true := c7
   (try (have c7b1 : decide (a1_0 = ((rd_T34 l0 x8_1).f0) && (a1_1 == ((rd_T34 l0 x8_1).f1))) = true := by simpa using c7))
   (try (have c7b2 : (a1_0 == ((rd_T34 l0 x8_1).f0) && (a1_1 == ((rd_T34 l0 x8_1).f1))) = true := by simpa using c7))
   clear c7
   obtain rfl := Option.some.inj H
   obtain ⟨⟨hcz8_0, hcz8_1⟩, hfz8_0, hfz8_1⟩ := bq_ BK436
   have p437 : 0 ≤ (x8_1 : Int) := od_
   have q437 : x8_1 < (l0.length : Int) := od_
   obtain ⟨ad437, e437, hx437_0, hx437_1⟩ := af_ HB (at_T34 HR0.out x8_1 p437 q437)
   cases e437
   replace p437 := eq_true p437
   replace q437 := eq_true q437
   go_wp2
   repeat (go_quiet (fail); try go_wp2)
   go_ret
   exact ⟨rt_, bl_ HB⟩
  rw [if_neg c7] at H
  have c7b0 : (a1_0 == ((rd_T34 l0 x8_1).f0) && (a1_1 == ((rd_T34 l0 x8_1).f1))) = false := by simpa using c7
  (try (have c7b1 : decide (a1_0 = ((rd_T34 l0 x8_1).f0) && (a1_1 == ((rd_T34 l0 x8_1).f1))) = false := by simpa using c7))
  (try (have c7b2 : (a1_0 == ((rd_T34 l0 x8_1).f0) && (a1_1 == ((rd_T34 l0 x8_1).f1))) = false := by simpa using c7))
  (try (have c7b3 : ¬ (a1_0 = ((rd_T34 l0 x8_1).f0) && (a1_1 == ((rd_T34 l0 x8_1).f1))) := by simpa using c7))
  clear c7
  have H' := Aside0.mk H
  clear H
  obtain ⟨⟨hcz9_0, hcz9_1⟩, hfz9_0, hfz9_1⟩ := bq_ BK436
  have p437 : 0 ≤ (x8_1 : Int) := od_
  have q437 : x8_1 < (l0.length : Int) := od_
  obtain ⟨ad437, e437, hx437_0, hx437_1⟩ := af_ HB (at_T34 HR0.out x8_1 p437 q437)
  cases e437
  replace p437 := eq_true p437
  replace q437 := eq_true q437
  go_wp2
  repeat (go_quiet (fail); try go_wp2)
  go_roundg k1
  case measure => have := HK1.out; omega
  case rel => exact ⟨(wrap64 (x8_1 + 1)), (by first | rfl | (simp; done) | (simp [*]; done)), H', ⟨by have := HK1.out; omega⟩, ⟨bk_ BK436⟩, ⟨bl_ HB⟩⟩
end Go.Proofs.Ytmglnofmmgokkaa.PA
namespace Go.Proofs.Ytmglnofmmgokkaa.PA
open Go.RowKit Go.Proofs.YtmglnofmmgokkaaW.PrintWords Go.Proofs.YtmglnofmmgokkaaW.PrintLast Go.Proofs.YtmglnofmmgokkaaW.PrintMore
set_option linter.unusedVariables false
set_option linter.unusedSimpArgs false

/-! ### spec_P6Pick: function 13 -/
def spec_P6Pick.f (l0 : List Int) (a1 : Int) : Option (Int) := (spec_l00From.f l0).bind fun bt360 => ((spec_l00Src_pick.f bt360.1 bt360.2.1 bt360.2.2 a1).bind fun bt364 => (some bt364.1))
set_option maxHeartbeats 8000000 in
set_option maxRecDepth 100000 in
theorem spec_P6Pick.calls (A0 : Option Addr) (c0 : Nat) (l0 : List Int) (a1 : Int) (r : Int) (w : World) (hr0 : Kd.C (Kd.int .u8) w A0 l0.length l0) (hc0 : l0.length ≤ c0) (h : spec_P6Pick.f l0 a1 = some r) :
  Calls Try.prog 13 #[.slice A0 l0.length c0, .int .i64 a1] w fun e w' => e = .returned (.int .i64 r) ∧ Below w.heap.size w w' := by
 have HR0 := Aside0.mk hr0
 have HC0 := Aside0.mk hc0
 clear hr0 hc0
 have HB := Aside0.mk (Below.refl w.heap.size w)
 have H : ((spec_l00From.f l0).bind fun bt360 => ((spec_l00Src_pick.f bt360.1 bt360.2.1 bt360.2.2 a1).bind fun bt364 => (some bt364.1))) = some r := h
 clear h
 obtain ⟨⟨t360, t361, t362⟩, A3, H⟩ := be_ H
 (try dsimp only at H)
 obtain ⟨⟨t364, t365, t366⟩, A4, H⟩ := be_ H
 (try dsimp only at H)
 obtain rfl := Option.some.inj H
 go_enter Try.func13, Try.ntmps13
 go_wp2_with (first | ((with_reducible refine gate_callee (f := 22) rfl ?_); refine goM_ (some 6) Try.func22 #[.slice A0 l0.length c0] ?_; (with_reducible refine (spec_l00From.calls _ _ l0 t360 t361 t362 w _ ?side1 ?side2 ?side3 A3.out).mono ?_); (case side1 => repeat (first | (with_reducible first | exact HB.out | apply below_alloc | apply pw_below_drewN | apply below_drew1) | exact HB.out)); (case side2 => exact HR0.out); (case side3 => exact HC0.out); rintro e w5 ⟨g363, rfl, hi, hb, hb2⟩; refine ⟨_, rfl, ?_⟩; replace HB := Aside0.mk (hb); have HI363 := Aside0.mk (hi); clear hb; clear hb2; clear hi) | ((with_reducible refine gate_callee (f := 23) rfl ?_); refine goM_ (some 8) Try.func23 #[.pointer (some ⟨g363, 0, none⟩), .int .i64 a1] ?_; (with_reducible refine (spec_l00Src_pick.calls g363 t360 t361 t362 a1 t364 t365 t366 w _ ?side1 ?side2 A4.out).mono ?_); (case side1 => repeat (first | (with_reducible first | exact HI363.out | apply IsS66.alloc | apply IsS66.drewN | apply IsS66.drew | apply IsS66.set_1 | apply IsS66.set_2) | exact HI363.out)); (case side2 => repeat (first | (with_reducible first | exact HB.out | apply below_alloc | apply pw_below_drewN | apply below_drew1 | refine below_set ?_ (IsS66.ge HI363.out)) | exact HB.out)); rintro e w6 ⟨rfl, hi, hb, hk⟩; refine ⟨_, rfl, ?_⟩; replace HB := Aside0.mk (hb); replace HI363 := Aside0.mk (hi); clear hb; clear hk; clear hi))
 go_ret
 exact ⟨rt_, by repeat (first | (with_reducible first | exact HB.out | apply below_alloc | apply pw_below_drewN | apply below_drew1 | refine below_set ?_ (IsS66.ge HI363.out)) | exact HB.out)⟩


/-! ### spec_AreaTwice: function 18 -/
def spec_AreaTwice.f (k : Nat) (l0 : List (S34)) : Option (Int × Int) := (spec_l03Ok.f k l0).bind fun t434 => (if t434 = true then ((spec_l03Area.f k l0).bind fun t435 => (some (t435, 0))) else (some (0, 1)))
theorem spec_AreaTwice.mono : ∀ a0 k, LeO (spec_AreaTwice.f k a0) (spec_AreaTwice.f (k + 1) a0) := by
 intro a0 k
 unfold spec_AreaTwice.f
 repeat' first | (with_reducible first | exact spec_l03Area.mono _ _ | exact spec_l03Ok.mono _ _ | exact LeO.refl _ | exact LeO.none _ | refine LeO.ite ?_ ?_ | refine LeO.bind ?_ (fun _ => ?_))
set_option maxHeartbeats 8000000 in
set_option maxRecDepth 100000 in
theorem spec_AreaTwice.calls (k : Nat) (A0 : Option Addr) (c0 : Nat) (l0 : List (S34)) (r1 : Int) (r2 : Int) (w : World) (hr0 : Kd.C k34 w A0 l0.length l0) (hc0 : l0.length ≤ c0) (h : spec_AreaTwice.f k l0 = some (r1, r2)) :
  Calls Try.prog 18 #[.slice A0 l0.length c0] w fun e w' => e = .returned (.tuple #[.int .i64 r1, .int .i64 r2]) ∧ Below w.heap.size w w' := by
 have HR0 := Aside0.mk hr0
 have HC0 := Aside0.mk hc0
 clear hr0 hc0
 have HB := Aside0.mk (Below.refl w.heap.size w)
 have H : ((spec_l03Ok.f k l0).bind fun t434 => (if t434 = true then ((spec_l03Area.f k l0).bind fun t435 => (some (t435, 0))) else (some (0, 1)))) = some (r1, r2) := h
 clear h
 obtain ⟨t434, A2, H⟩ := be_ H
 (try dsimp only at H)
 rcases (Decidable.em (t434 = true)).symm with c3 | c3
 ·
  replace c3 := Bool.eq_false_iff.mpr c3
  subst c3
  replace H := gf_ H
  simp only [Option.some.injEq, Prod.mk.injEq] at H
  obtain ⟨rfl, rfl⟩ := H
  go_enter Try.func18, Try.ntmps18
  go_wp2_with (first | ((with_reducible refine gate_callee (f := 27) rfl ?_); refine goM_ (some 5) Try.func27 #[.slice A0 l0.length c0] ?_; (with_reducible refine (spec_l03Ok.calls k _ _ l0 false _ ?side1 ?side2 A2.out).mono ?_); (case side1 => exact kc_ HR0.out); (case side2 => exact HC0.out); rintro e w7 ⟨rfl, hb⟩; refine ⟨_, rfl, ?_⟩; replace HB := bs_ HB hb; clear hb))
  go_ret2
  exact ⟨rt_, bl_ HB⟩

 subst c3
 replace H := gt_ H
 obtain ⟨t435, A4, H⟩ := be_ H
 (try dsimp only at H)
 simp only [Option.some.injEq, Prod.mk.injEq] at H
 obtain ⟨rfl, rfl⟩ := H
 go_enter Try.func18, Try.ntmps18
 go_wp2_with (first | ((with_reducible refine gate_callee (f := 27) rfl ?_); refine goM_ (some 5) Try.func27 #[.slice A0 l0.length c0] ?_; (with_reducible refine (spec_l03Ok.calls k _ _ l0 true _ ?side1 ?side2 A2.out).mono ?_); (case side1 => exact kc_ HR0.out); (case side2 => exact HC0.out); rintro e w5 ⟨rfl, hb⟩; refine ⟨_, rfl, ?_⟩; replace HB := bs_ HB hb; clear hb) | ((with_reducible refine gate_callee (f := 41) rfl ?_); refine goM_ (some 8) Try.func41 #[.slice A0 l0.length c0] ?_; (with_reducible refine (spec_l03Area.calls k _ _ l0 t435 _ ?side1 ?side2 A4.out).mono ?_); (case side1 => exact kc_ (Kd.C_below HR0.out HB.out)); (case side2 => exact HC0.out); rintro e w6 ⟨rfl, hb⟩; refine ⟨_, rfl, ?_⟩; replace HB := bs_ HB hb; clear hb))
 go_ret2
 exact ⟨rt_, bl_ HB⟩
end Go.Proofs.Ytmglnofmmgokkaa.PA
