/- Pure functions, and that Go's functions come to them. -/
import Derived.Test.YtmglnofmmgokkaaPAx0
import Derived.Test.YtmglnofmmgokkaaPAxgSpec
namespace Go.Proofs.Ytmglnofmmgokkaa.PA
open Go.RowKit Go.Proofs.YtmglnofmmgokkaaW.PrintWords Go.Proofs.YtmglnofmmgokkaaW.PrintLast Go.Proofs.YtmglnofmmgokkaaW.PrintMore
set_option linter.unusedVariables false
set_option linter.unusedSimpArgs false

/-! ### spec_l03Joined: function 47 -/
def spec_l03Joined.l0 : Nat → List (S34) → Int → Option ((List (S34)) × Int)
 | 0, _, _ => none
 | k + 1, x0, x4 => if x4 < (x0.length : Int) then (if (x0.length : Int) = 0 then (none) else (if 0 ≤ (Int.tmod (wrap64 ((wrap64 (x4 + (x0.length : Int))) - 1)) (x0.length : Int)) then (if (Int.tmod (wrap64 ((wrap64 (x4 + (x0.length : Int))) - 1)) (x0.length : Int)) < (x0.length : Int) then (if 0 ≤ x4 then (if 0 ≤ (Int.tmod (wrap64 (x4 + 1)) (x0.length : Int)) then (if (Int.tmod (wrap64 (x4 + 1)) (x0.length : Int)) < (x0.length : Int) then ((spec_l03Side.f ((rd_T34 x0 (Int.tmod (wrap64 ((wrap64 (x4 + (x0.length : Int))) - 1)) (x0.length : Int))).f0) ((rd_T34 x0 (Int.tmod (wrap64 ((wrap64 (x4 + (x0.length : Int))) - 1)) (x0.length : Int))).f1) ((rd_T34 x0 x4).f0) ((rd_T34 x0 x4).f1) ((rd_T34 x0 (Int.tmod (wrap64 (x4 + 1)) (x0.length : Int))).f0) ((rd_T34 x0 (Int.tmod (wrap64 (x4 + 1)) (x0.length : Int))).f1)).bind fun t497 => (if t497 = 0 then ((some (([] : List (S34)) : List (S34))).bind fun y498 => (if x4 ≤ (x0.length : Int) then ((some (x0.take (x4 : Int).toNat : List (S34))).bind fun y501 => (if y498.length + y501.length < 35184372088832 then ((some (y498 ++ y501 : List (S34))).bind fun y506 => (if 0 ≤ (wrap64 (x4 + 1)) then (if (wrap64 (x4 + 1)) ≤ (x0.length : Int) then ((some (x0.drop ((wrap64 (x4 + 1)) : Int).toNat : List (S34))).bind fun y509 => (if y506.length + y509.length < 35184372088832 then (spec_l03Joined.l0 k (y506 ++ y509) x4) else (none))) else (none)) else (none))) else (none))) else (none))) else (spec_l03Joined.l0 k x0 (wrap64 (x4 + 1))))) else (none)) else (none)) else (none)) else (none)) else (none))) else ((spec_l03Convex.f k x0).bind fun t517 => (if t517 = true then (if (x0.length : Int) > 8 then (some ((([] : List (S34))), 3)) else (some (x0, 0))) else (some ((([] : List (S34))), 4))))
def spec_l03Joined.f (k : Nat) (l0 : List (S34)) : Option ((List (S34)) × Int) := spec_l03Joined.l0 k l0 0
theorem spec_l03Joined.mono_l : ∀ k, (∀ y0 y1, LeO (spec_l03Joined.l0 k y0 y1) (spec_l03Joined.l0 (k + 1) y0 y1))
 | 0 => fun _ _ r h => by simp [spec_l03Joined.l0] at h
 | k + 1 => by
  have ih0 := spec_l03Joined.mono_l k
  ·
   intro y0 y1
   unfold spec_l03Joined.l0
   repeat' first | (with_reducible first | exact ih0 _ _ | exact spec_l03Convex.mono _ _ | exact LeO.refl _ | exact LeO.none _ | refine LeO.ite ?_ ?_ | refine LeO.bind ?_ (fun _ => ?_))
theorem spec_l03Joined.mono : ∀ a0 k, LeO (spec_l03Joined.f k a0) (spec_l03Joined.f (k + 1) a0) := by
 intro a0 k
 have ih0 := spec_l03Joined.mono_l k
 unfold spec_l03Joined.f
 repeat' first | (with_reducible first | exact ih0 _ _ | exact spec_l03Convex.mono _ _ | exact LeO.refl _ | exact LeO.none _ | refine LeO.ite ?_ ?_ | refine LeO.bind ?_ (fun _ => ?_))
def spec_l03Joined.T4 : Bool × List (List Nat × List Nat) := (true, [([], []), ([], []), ([], []), ([1, 2], [1, 2]), ([3], [3]), ([], []), ([4, 5], [4, 5]), ([0, 6], [0, 6]), ([7], [7]), ([], []), ([], []), ([9, 10], [9, 10]), ([11], [11]), ([], []), ([], []), ([14], [14]), ([], []), ([15, 16], [15, 16]), ([13, 17], [13, 17]), ([18], [18]), ([8, 12, 19], [8, 12, 19]), ([20], [20])])
def spec_l03Joined.B4 : List Nat := [0, 0, 0, 6, 14, 0, 62, 127, 255, 0, 0, 1536, 3584, 0, 0, 16384, 0, 114688, 253952, 516096, 1048575, 2097151]
theorem spec_l03Joined.tab4 : rtab .any (opsOf Try.f47 4) = spec_l03Joined.T4 := by kernel_rfl
theorem spec_l03Joined.bits4 : waitsOk spec_l03Joined.T4.2 spec_l03Joined.B4 = true := by kernel_rfl
def spec_l03Joined.T5 : Bool × List (List Nat × List Nat) := (true, [([], []), ([], []), ([], []), ([1, 2], [1, 2]), ([0, 3], [0, 3]), ([], []), ([], []), ([6], [6]), ([5, 7], [5, 7]), ([4, 8, 4], [4, 8]), ([9, 9, 0, 1, 2, 3, 4, 5, 6, 7, 8, 9], [1, 5, 9])])
def spec_l03Joined.B5 : List Nat := [0, 0, 0, 6, 15, 0, 0, 64, 224, 511, 1023]
theorem spec_l03Joined.tab5 : rtab .any (opsOf Try.f47 5) = spec_l03Joined.T5 := by kernel_rfl
theorem spec_l03Joined.bits5 : waitsOk spec_l03Joined.T5.2 spec_l03Joined.B5 = true := by kernel_rfl
set_option maxHeartbeats 8000000 in
set_option maxRecDepth 100000 in
theorem spec_l03Joined.calls (k : Nat) (P0_ : Nat → Prop) (A0 : Option Addr) (c0 : Nat) (l0 : List (S34)) (r1 : List (S34)) (r2 : Int) (w : World) (hs0 : Kd.V k34 34 w w.heap.size (fun k_ => P0_ k_) (.slice A0 l0.length c0) l0) (h : spec_l03Joined.f k l0 = some (r1, r2)) :
  Calls Try.prog 47 #[.slice A0 l0.length c0] w fun e w' => ∃ v0_ : Value, e = .returned (.tuple #[v0_, .int .i64 r2]) ∧ Kd.V k34 34 w' w.heap.size (fun k_ => (P0_ k_ ∨ w.heap.size ≤ k_)) v0_ r1 ∧ Below w.heap.size w w' := by
 have hu34 := Try.underlying34
 have HO0 := Aside0.mk (show Kd.V k34 34 w w.heap.size (fun k_ => (P0_ k_ ∨ w.heap.size ≤ k_)) (.slice A0 l0.length c0) l0 from Kd.V_mono hs0 (fun k_ hk => .inl hk))
 have HB := Aside0.mk (Below.refl w.heap.size w)
 have H : (spec_l03Joined.l0 k l0 0) = some (r1, r2) := h
 clear h
 have H' := Aside0.mk H
 clear H
 go_enter Try.func47, Try.ntmps47
 go_wp2
 go_loopg [0, 4] k (fun kq v0 v4 w' => ∃ (x0_1 : List (S34)) (x4_1 : Int), v4 = .int .i64 x4_1 ∧ Aside0 (spec_l03Joined.l0 kq x0_1 x4_1 = some (r1, r2)) ∧ Aside0 (kq ≤ k) ∧ Aside0 (Kd.V k34 34 w' w.heap.size (fun k_ => (P0_ k_ ∨ w.heap.size ≤ k_)) v0 x0_1) ∧ Aside0 (Below w.heap.size w w'))
 case atStart => exact ⟨(l0), (0), (by first | rfl | (simp; done) | (simp [*]; done)), H', ⟨Nat.le_refl _⟩, ⟨by (with_reducible repeat (first | apply Kd.V_alloc | apply Kd.V_drewN | apply Kd.V_drew)); exact HO0.out⟩, ⟨bl_ HB⟩⟩
 case round =>
  clear H'
  obtain ⟨x0_1, x4_1, rfl, HA, HK1, HO_0, HB⟩ := hrel
  rcases gk with _ | k1
  · exact absurd HA.out (by simp [spec_l03Joined.l0])
  have H := HA.out
  clear HA
  simp only [spec_l03Joined.l0] at H
  rcases (Decidable.em (x4_1 < (x0_1.length : Int))).symm with c2 | c2
  ·
   rw [if_neg c2] at H
   have c2b0 : decide (x4_1 < (x0_1.length : Int)) = false := decide_eq_false c2
   clear c2
   obtain ⟨t517, A33, H⟩ := be_ H
   (try dsimp only at H)
   rcases (Decidable.em (t517 = true)).symm with c34 | c34
   ·
    replace c34 := Bool.eq_false_iff.mpr c34
    subst c34
    replace H := gf_ H
    obtain ⟨y521, hy521⟩ : ∃ y_ : List (S34), y_ = (([] : List (S34))) := ⟨_, rfl⟩
    replace H : (some (y521, 4)) = some (r1, r2) := by first | (rw [hy521]; with_reducible exact H) | (have H2_ := (Option.bind_some _ _).symm.trans H; rw [hy521]; with_reducible exact H2_) | (have H2_ := (Option.bind_some _ _).symm.trans H; with_reducible exact H2_) | with_reducible exact H | (rw [hy521]; exact H) | exact H
    have Ny521 := Aside0.mk hy521
    clear hy521
    simp only [Option.some.injEq, Prod.mk.injEq] at H
    obtain ⟨rfl, rfl⟩ := H
    obtain ⟨Ao42, co42, eo42⟩ := Kd.V_slice HO_0.out
    subst eo42
    go_wp2_with (first | ((with_reducible refine gate_callee (f := 53) rfl ?_); refine goM_ (some 47) Try.func53 #[.slice Ao42 x0_1.length co42] ?_; (with_reducible refine (spec_l03Convex.calls k1 _ _ x0_1 false _ ?side1 ?side2 A33.out).mono ?_); (case side1 => repeat (first | exact (Kd.V_reads' HO_0.out).2.2 | (with_reducible refine Kd.C_alloc ?_ _) | (with_reducible refine Kd.C_drewN ?_ _) | (with_reducible refine Kd.C_drew ?_))); (case side2 => exact (Kd.V_reads' HO_0.out).2.1); rintro e w43 ⟨rfl, hb⟩; refine ⟨_, rfl, ?_⟩; replace HO_0 := Aside0.mk (Kd.V_below (by (with_reducible repeat (first | apply Kd.V_alloc | apply Kd.V_drewN | apply Kd.V_drew)); exact HO_0.out) hb); replace HB := bs_ HB hb; clear hb) | ((with_reducible refine gate_dst (N := 49) rfl ?_); refine Kd.R_lit k34 _ 34 ?hg (N := 49) ?hd (xs := ([] : List (S34))) (inner := []) (ok := fun _ => True) (okp := fun _ => True) ?hr ?hp (fun _ hk => hk) trivial (Below.refl _ _) (Nat.le_refl _) (by simp) ?_; (case hd => rfl); (case hg => rfl); (case hr => first | (go_simp; done) | (go_simp; rfl)); (case hp => exact (Reps.none _ _)); intro v522 w44 ho45 hb hg_ hnew_; clear hg_ hnew_; (first | rw [← Ny521.out] at ho45 | (simp only [Int.reduceToNat] at ho45; rw [← Ny521.out] at ho45)); replace HO_0 := Aside0.mk (Kd.V_elder' (by (with_reducible repeat (first | apply Kd.V_alloc | apply Kd.V_drewN | apply Kd.V_drew)); exact HO_0.out) (Kd.R_base ho45) hb); have HO523 := Aside0.mk (Kd.R_lower (Kd.R_newM (M := fun k_ => (w.heap.size ≤ k_)) ho45 (below_size (kB_ HB)) (fun k_ h_ => h_)) (below_size (kB_ HB))); replace HB := bs_ HB hb; clear hb ho45))
    go_ret2
    exact ⟨_, by first | rfl | (simp [errW_none, errW_some] <;> rfl) | (simp [*, errW_none, errW_some] <;> rfl), Kd.V_mono (Kd.R_V (by (with_reducible repeat (first | apply Kd.R_alloc | apply Kd.R_drewN | apply Kd.R_drew)); exact Kd.R_mono HO523.out (fun _ hk => hk.1))) (fun k_ hk => by first | exact ⟨(.inr (hk.1)), hk.2⟩ | exact (.inr (hk))), bl_ HB⟩

   subst c34
   replace H := gt_ H
   rcases (Decidable.em ((x0_1.length : Int) > 8)).symm with c35 | c35
   ·
    rw [if_neg c35] at H
    have c35b0 : decide (8 < (x0_1.length : Int)) = false := decide_eq_false c35
    have c35b1 : decide (8 < x0_1.length) = false := decide_eq_false (by omega)
    clear c35
    simp only [Option.some.injEq, Prod.mk.injEq] at H
    obtain ⟨rfl, rfl⟩ := H
    obtain ⟨Ao40, co40, eo40⟩ := Kd.V_slice HO_0.out
    subst eo40
    go_wp2_with (first | ((with_reducible refine gate_callee (f := 53) rfl ?_); refine goM_ (some 47) Try.func53 #[.slice Ao40 x0_1.length co40] ?_; (with_reducible refine (spec_l03Convex.calls k1 _ _ x0_1 true _ ?side1 ?side2 A33.out).mono ?_); (case side1 => repeat (first | exact (Kd.V_reads' HO_0.out).2.2 | (with_reducible refine Kd.C_alloc ?_ _) | (with_reducible refine Kd.C_drewN ?_ _) | (with_reducible refine Kd.C_drew ?_))); (case side2 => exact (Kd.V_reads' HO_0.out).2.1); rintro e w41 ⟨rfl, hb⟩; refine ⟨_, rfl, ?_⟩; replace HO_0 := Aside0.mk (Kd.V_below (by (with_reducible repeat (first | apply Kd.V_alloc | apply Kd.V_drewN | apply Kd.V_drew)); exact HO_0.out) hb); replace HB := bs_ HB hb; clear hb))
    go_ret2
    exact ⟨_, by first | rfl | (simp [errW_none, errW_some] <;> rfl) | (simp [*, errW_none, errW_some] <;> rfl), by (with_reducible repeat (first | apply Kd.V_alloc | apply Kd.V_drewN | apply Kd.V_drew)); exact HO_0.out, bl_ HB⟩
   rw [if_pos c35] at H
   have c35b0 : decide (8 < (x0_1.length : Int)) = true := decide_eq_true c35
   have c35b1 : decide (8 < x0_1.length) = true := decide_eq_true (by omega)
   clear c35
   obtain ⟨y518, hy518⟩ : ∃ y_ : List (S34), y_ = (([] : List (S34))) := ⟨_, rfl⟩
   replace H : (some (y518, 3)) = some (r1, r2) := by first | (rw [hy518]; with_reducible exact H) | (have H2_ := (Option.bind_some _ _).symm.trans H; rw [hy518]; with_reducible exact H2_) | (have H2_ := (Option.bind_some _ _).symm.trans H; with_reducible exact H2_) | with_reducible exact H | (rw [hy518]; exact H) | exact H
   have Ny518 := Aside0.mk hy518
   clear hy518
   simp only [Option.some.injEq, Prod.mk.injEq] at H
   obtain ⟨rfl, rfl⟩ := H
   obtain ⟨Ao36, co36, eo36⟩ := Kd.V_slice HO_0.out
   subst eo36
   go_wp2_with (first | ((with_reducible refine gate_callee (f := 53) rfl ?_); refine goM_ (some 47) Try.func53 #[.slice Ao36 x0_1.length co36] ?_; (with_reducible refine (spec_l03Convex.calls k1 _ _ x0_1 true _ ?side1 ?side2 A33.out).mono ?_); (case side1 => repeat (first | exact (Kd.V_reads' HO_0.out).2.2 | (with_reducible refine Kd.C_alloc ?_ _) | (with_reducible refine Kd.C_drewN ?_ _) | (with_reducible refine Kd.C_drew ?_))); (case side2 => exact (Kd.V_reads' HO_0.out).2.1); rintro e w37 ⟨rfl, hb⟩; refine ⟨_, rfl, ?_⟩; replace HO_0 := Aside0.mk (Kd.V_below (by (with_reducible repeat (first | apply Kd.V_alloc | apply Kd.V_drewN | apply Kd.V_drew)); exact HO_0.out) hb); replace HB := bs_ HB hb; clear hb) | ((with_reducible refine gate_dst (N := 53) rfl ?_); refine Kd.R_lit k34 _ 34 ?hg (N := 53) ?hd (xs := ([] : List (S34))) (inner := []) (ok := fun _ => True) (okp := fun _ => True) ?hr ?hp (fun _ hk => hk) trivial (Below.refl _ _) (Nat.le_refl _) (by simp) ?_; (case hd => rfl); (case hg => rfl); (case hr => first | (go_simp; done) | (go_simp; rfl)); (case hp => exact (Reps.none _ _)); intro v519 w38 ho39 hb hg_ hnew_; clear hg_ hnew_; (first | rw [← Ny518.out] at ho39 | (simp only [Int.reduceToNat] at ho39; rw [← Ny518.out] at ho39)); replace HO_0 := Aside0.mk (Kd.V_elder' (by (with_reducible repeat (first | apply Kd.V_alloc | apply Kd.V_drewN | apply Kd.V_drew)); exact HO_0.out) (Kd.R_base ho39) hb); have HO520 := Aside0.mk (Kd.R_lower (Kd.R_newM (M := fun k_ => (w.heap.size ≤ k_)) ho39 (below_size (kB_ HB)) (fun k_ h_ => h_)) (below_size (kB_ HB))); replace HB := bs_ HB hb; clear hb ho39))
   go_ret2
   exact ⟨_, by first | rfl | (simp [errW_none, errW_some] <;> rfl) | (simp [*, errW_none, errW_some] <;> rfl), Kd.V_mono (Kd.R_V (by (with_reducible repeat (first | apply Kd.R_alloc | apply Kd.R_drewN | apply Kd.R_drew)); exact Kd.R_mono HO520.out (fun _ hk => hk.1))) (fun k_ hk => by first | exact ⟨(.inr (hk.1)), hk.2⟩ | exact (.inr (hk))), bl_ HB⟩
  rw [if_pos c2] at H
  have c2b0 : decide (x4_1 < (x0_1.length : Int)) = true := decide_eq_true c2
  clear c2
  by_cases c3 : (x0_1.length : Int) = 0
  ·
   rw [if_pos c3] at H
   exact absurd H (by simp)
  rw [if_neg c3] at H
  have c3b0 : ((x0_1.length : Int) == 0) = false := beq_eq_false_iff_ne.mpr c3
  have c3b1 : ((x0_1.length : Int) != 0) = true := bne_iff_ne.mpr c3
  have c3b2 : ¬ (x0_1 = []) := fun h_ => c3 (by rw [h_]; rfl)
  obtain ⟨ji4, hji4⟩ : ∃ j_ : Int, (Int.tmod (wrap64 ((wrap64 (x4_1 + (x0_1.length : Int))) - 1)) (x0_1.length : Int)) = j_ := ⟨_, rfl⟩
  replace H : (if 0 ≤ (ji4) then (if (ji4) < (x0_1.length : Int) then (if 0 ≤ x4_1 then (if 0 ≤ (Int.tmod (wrap64 (x4_1 + 1)) (x0_1.length : Int)) then (if (Int.tmod (wrap64 (x4_1 + 1)) (x0_1.length : Int)) < (x0_1.length : Int) then ((spec_l03Side.f ((rd_T34 x0_1 (ji4)).f0) ((rd_T34 x0_1 (ji4)).f1) ((rd_T34 x0_1 x4_1).f0) ((rd_T34 x0_1 x4_1).f1) ((rd_T34 x0_1 (Int.tmod (wrap64 (x4_1 + 1)) (x0_1.length : Int))).f0) ((rd_T34 x0_1 (Int.tmod (wrap64 (x4_1 + 1)) (x0_1.length : Int))).f1)).bind fun t497 => (if t497 = 0 then ((some (([] : List (S34)) : List (S34))).bind fun y498 => (if x4_1 ≤ (x0_1.length : Int) then ((some (x0_1.take (x4_1 : Int).toNat : List (S34))).bind fun y501 => (if y498.length + y501.length < 35184372088832 then ((some (y498 ++ y501 : List (S34))).bind fun y506 => (if 0 ≤ (wrap64 (x4_1 + 1)) then (if (wrap64 (x4_1 + 1)) ≤ (x0_1.length : Int) then ((some (x0_1.drop ((wrap64 (x4_1 + 1)) : Int).toNat : List (S34))).bind fun y509 => (if y506.length + y509.length < 35184372088832 then (spec_l03Joined.l0 k1 (y506 ++ y509) x4_1) else (none))) else (none)) else (none))) else (none))) else (none))) else (spec_l03Joined.l0 k1 x0_1 (wrap64 (x4_1 + 1))))) else (none)) else (none)) else (none)) else (none)) else (none)) = some (r1, r2) := by first | (rw [hji4] at H; exact H) | (simp only [hji4] at H ⊢; exact H)
  obtain ⟨c5b0, H⟩ := gx_ H
  obtain ⟨c6b0, H⟩ := gx_ H
  obtain ⟨c7b0, H⟩ := gx_ H
  obtain ⟨ji8, hji8⟩ : ∃ j_ : Int, (Int.tmod (wrap64 (x4_1 + 1)) (x0_1.length : Int)) = j_ := ⟨_, rfl⟩
  replace H : (if 0 ≤ (ji8) then (if (ji8) < (x0_1.length : Int) then ((spec_l03Side.f ((rd_T34 x0_1 (ji4)).f0) ((rd_T34 x0_1 (ji4)).f1) ((rd_T34 x0_1 x4_1).f0) ((rd_T34 x0_1 x4_1).f1) ((rd_T34 x0_1 (ji8)).f0) ((rd_T34 x0_1 (ji8)).f1)).bind fun t497 => (if t497 = 0 then ((some (([] : List (S34)) : List (S34))).bind fun y498 => (if x4_1 ≤ (x0_1.length : Int) then ((some (x0_1.take (x4_1 : Int).toNat : List (S34))).bind fun y501 => (if y498.length + y501.length < 35184372088832 then ((some (y498 ++ y501 : List (S34))).bind fun y506 => (if 0 ≤ (wrap64 (x4_1 + 1)) then (if (wrap64 (x4_1 + 1)) ≤ (x0_1.length : Int) then ((some (x0_1.drop ((wrap64 (x4_1 + 1)) : Int).toNat : List (S34))).bind fun y509 => (if y506.length + y509.length < 35184372088832 then (spec_l03Joined.l0 k1 (y506 ++ y509) x4_1) else (none))) else (none)) else (none))) else (none))) else (none))) else (spec_l03Joined.l0 k1 x0_1 (wrap64 (x4_1 + 1))))) else (none)) else (none)) = some (r1, r2) := by first | (rw [hji8] at H; exact H) | (simp only [hji8] at H ⊢; exact H)
  obtain ⟨c9b0, H⟩ := gx_ H
  obtain ⟨c10b0, H⟩ := gx_ H
  obtain ⟨t497, A11, H⟩ := be_ H
  (try dsimp only at H)
  rcases (Decidable.em (t497 = 0)).symm with c12 | c12
  ·
   rw [if_neg c12] at H
   have c12b0 : (t497 == 0) = false := beq_eq_false_iff_ne.mpr c12
   have c12b1 : (t497 != 0) = true := bne_iff_ne.mpr c12
   have H' := Aside0.mk H
   clear H
   obtain ⟨Ao30, co30, eo30⟩ := Kd.V_slice HO_0.out
   subst eo30
   try go_wp2
   have n0_ := Aside0.mk (Kd.V_drew HO_0.out)
   have n1_ := Aside0.mk (below_drew1 HB.out)
   clear HO_0
   clear HB
   have HO_0 := n0_
   have HB := n1_
   clear n0_ n1_
   have p494 : 0 ≤ ((ji4) : Int) := od_
   have q494 : (ji4) < (x0_1.length : Int) := od_
   obtain ⟨ad494, e494, hx494_0, hx494_1⟩ := at_T34 (Kd.V_reads' HO_0.out).2.2 (ji4) p494 q494
   cases e494
   replace p494 := eq_true p494
   replace q494 := eq_true q494
   have p495 : 0 ≤ (x4_1 : Int) := od_
   have q495 : x4_1 < (x0_1.length : Int) := od_
   obtain ⟨ad495, e495, hx495_0, hx495_1⟩ := at_T34 (Kd.V_reads' HO_0.out).2.2 x4_1 p495 q495
   obtain rfl : ad494 = ad495 := (by injection e495)
   replace p495 := eq_true p495
   replace q495 := eq_true q495
   have p496 : 0 ≤ ((ji8) : Int) := od_
   have q496 : (ji8) < (x0_1.length : Int) := od_
   obtain ⟨ad496, e496, hx496_0, hx496_1⟩ := at_T34 (Kd.V_reads' HO_0.out).2.2 (ji8) p496 q496
   obtain rfl : ad494 = ad496 := (by injection e496)
   replace p496 := eq_true p496
   replace q496 := eq_true q496
   refine start_ (n := 22) (S := fun w' => w'.cell? (ad494.add (((ji4)).toNat * 2)) = some (.int .i16 ((rd_T34 x0_1 (ji4)).f0)) ∧ w'.cell? ⟨(ad494.add (((ji4)).toNat * 2)).block, (ad494.add (((ji4)).toNat * 2)).off + 1, none⟩ = some (.int .i16 ((rd_T34 x0_1 (ji4)).f1)) ∧ w'.cell? (ad494.add ((x4_1).toNat * 2)) = some (.int .i16 ((rd_T34 x0_1 x4_1).f0)) ∧ w'.cell? ⟨(ad494.add ((x4_1).toNat * 2)).block, (ad494.add ((x4_1).toNat * 2)).off + 1, none⟩ = some (.int .i16 ((rd_T34 x0_1 x4_1).f1)) ∧ w'.cell? (ad494.add (((ji8)).toNat * 2)) = some (.int .i16 ((rd_T34 x0_1 (ji8)).f0)) ∧ w'.cell? ⟨(ad494.add (((ji8)).toNat * 2)).block, (ad494.add (((ji8)).toNat * 2)).off + 1, none⟩ = some (.int .i16 ((rd_T34 x0_1 (ji8)).f1))) (ds := []) #[false, false, false, false, false, false, false, false, false, false, false, false, false, false, false, false, false, false, false, false, false, false] (by kernel_rfl) rfl rfl ⟨hx494_0, hx494_1, hx495_0, hx495_1, hx496_0, hx496_1⟩ (fun hHeld => ?_); refine with_tabW spec_l03Joined.tab4 spec_l03Joined.bits4 (fun HT_ HW_ => ?_)
   generalize wr.drew = w31 at HO_0 HB hx494_0 hx494_1 hx495_0 hx495_1 hx496_0 hx496_1 hHeld ⊢
   refine pu_ 0 12 (lA 22 1) ?_ ?_ HT_ ?_
   refine pu_ 1 13 (lA 22 3) ?_ ?_ HT_ ?_
   refine pu_ 2 14 (lA 22 7) ?_ ?_ HT_ ?_
   refine pu_ 3 15 (lA 22 15) ?_ ?_ HT_ ?_
   refine pu_ 4 16 (lA 22 31) ?_ ?_ HT_ ?_
   refine pu_ 5 17 (lA 22 63) ?_ ?_ HT_ ?_
   refine pu_ 6 18 (lA 22 127) ?_ ?_ HT_ ?_
   refine pu_ 7 19 (lA 22 255) ?_ ?_ HT_ ?_
   refine pu_ 9 21 (lA 22 767) ?_ ?_ HT_ ?_
   refine pu_ 10 22 (lA 22 1791) ?_ ?_ HT_ ?_
   refine pu_ 11 23 (lA 22 3839) ?_ ?_ HT_ ?_
   refine pu_ 13 25 (lA 22 12031) ?_ ?_ HT_ ?_
   refine pu_ 14 26 (lA 22 28415) ?_ ?_ HT_ ?_
   refine pu_ 15 27 (lA 22 61183) ?_ ?_ HT_ ?_
   refine pu_ 16 28 (lA 22 126719) ?_ ?_ HT_ ?_
   refine pu_ 17 29 (lA 22 257791) ?_ ?_ HT_ ?_
   refine pu_ 18 30 (lA 22 519935) ?_ ?_ HT_ ?_
   refine tk_ 8 20 (lA 22 520191) ?_ ?_ HT_ HW_ hHeld ?_
   refine tk_ 12 24 (lA 22 524287) ?_ ?_ HT_ HW_ hHeld ?_
   refine tk_ 19 31 (lA 22 1048575) ?_ ?_ HT_ HW_ hHeld ?_
   refine one_ (i := 20) (N := some 32) #[true, true, true, true, true, true, true, true, true, true, true, true, true, true, true, true, true, true, true, true, true, false] rfl rfl (one_of HT_.out (by kernel_rfl)) (by decide) (fun K hK => ?_)
   refine goes_ Try.func57 (by kernel_rfl) rfl #[.agg #[.int .i16 ((rd_T34 x0_1 (ji4)).f0), .int .i16 ((rd_T34 x0_1 (ji4)).f1)], .agg #[.int .i16 ((rd_T34 x0_1 x4_1).f0), .int .i16 ((rd_T34 x0_1 x4_1).f1)], .agg #[.int .i16 ((rd_T34 x0_1 (ji8)).f0), .int .i16 ((rd_T34 x0_1 (ji8)).f1)]] (by rfl) rfl rfl (by (try simp only [List.map_toArray, List.map_cons, List.map_nil]); first | done | (simp only [hji4, hji8]; rfl) | rfl | (simp only [List.length_drop, List.length_take]; rfl)) ?_
   with_reducible refine (spec_l03Side.calls ((rd_T34 x0_1 (ji4)).f0) ((rd_T34 x0_1 (ji4)).f1) ((rd_T34 x0_1 x4_1).f0) ((rd_T34 x0_1 x4_1).f1) ((rd_T34 x0_1 (ji8)).f0) ((rd_T34 x0_1 (ji8)).f1) t497 _ A11.out).mono ?_
   rintro e w32 ⟨rfl, hb⟩
   have HS0_ := (hb.cell (World.block_lt_of_cell? _ _ (hHeld.1))).trans (hHeld.1)
   have HS1_ := (hb.cell (World.block_lt_of_cell? _ _ (hHeld.2.1))).trans (hHeld.2.1)
   have HS2_ := (hb.cell (World.block_lt_of_cell? _ _ (hHeld.2.2.1))).trans (hHeld.2.2.1)
   have HS3_ := (hb.cell (World.block_lt_of_cell? _ _ (hHeld.2.2.2.1))).trans (hHeld.2.2.2.1)
   have HS4_ := (hb.cell (World.block_lt_of_cell? _ _ (hHeld.2.2.2.2.1))).trans (hHeld.2.2.2.2.1)
   have HS5_ := (hb.cell (World.block_lt_of_cell? _ _ (hHeld.2.2.2.2.2))).trans (hHeld.2.2.2.2.2)
   refine ⟨_, rfl, ?_⟩
   have n0_ := Aside0.mk (Kd.V_below (by (with_reducible repeat (first | apply Kd.V_alloc | apply Kd.V_drewN | apply Kd.V_drew)); exact HO_0.out) hb)
   have n1_ := bs_ HB hb
   clear HO_0
   clear HB
   have HO_0 := n0_
   have HB := n1_
   clear n0_ n1_
   refine hK.out _ _ ⟨HS0_, HS1_, HS2_, HS3_, HS4_, HS5_⟩ (fun hHeld => ?_)
   clear hK K
   refine norm_ (a' := ?_) ?_ ?_
   rotate_left
   ·
    show Act.put _ (some 32) _ = _
    simp only [Act.put, List.setIfInBounds_toArray, List.set_cons_zero, List.set_cons_succ, i64_w, i32_w]
    rfl
   refine pu_ 21 33 (lA 22 4194303) ?_ ?_ HT_ ?_
   refine done_ (done_of HT_.out (by kernel_rfl)) ?_
   try go_wp2
   go_roundg k1
   case measure => have := HK1.out; omega
   case rel => exact ⟨(x0_1), (wrap64 (x4_1 + 1)), (by first | rfl | (simp; done) | (simp [*]; done)), H', ⟨by have := HK1.out; omega⟩, ⟨by (with_reducible repeat (first | apply Kd.V_alloc | apply Kd.V_drewN | apply Kd.V_drew)); exact HO_0.out⟩, ⟨bl_ HB⟩⟩
  rw [if_pos c12] at H
  have c12b0 : (t497 == 0) = true := beq_iff_eq.mpr c12
  have c12b1 : (t497 != 0) = false := bne_eq_false_iff_eq.mpr c12
  clear c12
  obtain ⟨y498, hy498⟩ : ∃ y_ : List (S34), y_ = (([] : List (S34))) := ⟨_, rfl⟩
  replace H : (if x4_1 ≤ (x0_1.length : Int) then ((some (x0_1.take (x4_1 : Int).toNat : List (S34))).bind fun y501 => (if y498.length + y501.length < 35184372088832 then ((some (y498 ++ y501 : List (S34))).bind fun y506 => (if 0 ≤ (wrap64 (x4_1 + 1)) then (if (wrap64 (x4_1 + 1)) ≤ (x0_1.length : Int) then ((some (x0_1.drop ((wrap64 (x4_1 + 1)) : Int).toNat : List (S34))).bind fun y509 => (if y506.length + y509.length < 35184372088832 then (spec_l03Joined.l0 k1 (y506 ++ y509) x4_1) else (none))) else (none)) else (none))) else (none))) else (none)) = some (r1, r2) := by first | (rw [hy498]; with_reducible exact H) | (have H2_ := (Option.bind_some _ _).symm.trans H; rw [hy498]; with_reducible exact H2_) | (have H2_ := (Option.bind_some _ _).symm.trans H; with_reducible exact H2_) | with_reducible exact H | (rw [hy498]; exact H) | exact H
  have Ny498 := Aside0.mk hy498
  clear hy498
  have c13b0 := eq_true (od_ : 0 ≤ x4_1)
  obtain ⟨(c14 : x4_1 ≤ (x0_1.length : Int)), H⟩ := gd_ H
  have c14b0 := eq_true c14
  have c14b1 : decide (x4_1 ≤ (x0_1.length : Int)) = true := decide_eq_true c14
  clear c14
  obtain ⟨y501, hy501⟩ : ∃ y_ : List (S34), y_ = (x0_1.take (x4_1 : Int).toNat) := ⟨_, rfl⟩
  replace H : (if y498.length + y501.length < 35184372088832 then ((some (y498 ++ y501 : List (S34))).bind fun y506 => (if 0 ≤ (wrap64 (x4_1 + 1)) then (if (wrap64 (x4_1 + 1)) ≤ (x0_1.length : Int) then ((some (x0_1.drop ((wrap64 (x4_1 + 1)) : Int).toNat : List (S34))).bind fun y509 => (if y506.length + y509.length < 35184372088832 then (spec_l03Joined.l0 k1 (y506 ++ y509) x4_1) else (none))) else (none)) else (none))) else (none)) = some (r1, r2) := by first | (rw [hy501]; with_reducible exact H) | (have H2_ := (Option.bind_some _ _).symm.trans H; rw [hy501]; with_reducible exact H2_) | (have H2_ := (Option.bind_some _ _).symm.trans H; with_reducible exact H2_) | with_reducible exact H | (rw [hy501]; exact H) | exact H
  have Ny501 := Aside0.mk hy501
  clear hy501
  obtain ⟨(c15 : y498.length + y501.length < 35184372088832), H⟩ := gd_ H
  have LMc15 := Aside0.mk c15
  clear c15
  obtain ⟨y506, hy506⟩ : ∃ y_ : List (S34), y_ = (y498 ++ y501) := ⟨_, rfl⟩
  replace H : (if 0 ≤ (wrap64 (x4_1 + 1)) then (if (wrap64 (x4_1 + 1)) ≤ (x0_1.length : Int) then ((some (x0_1.drop ((wrap64 (x4_1 + 1)) : Int).toNat : List (S34))).bind fun y509 => (if y506.length + y509.length < 35184372088832 then (spec_l03Joined.l0 k1 (y506 ++ y509) x4_1) else (none))) else (none)) else (none)) = some (r1, r2) := by first | (rw [hy506]; with_reducible exact H) | (have H2_ := (Option.bind_some _ _).symm.trans H; rw [hy506]; with_reducible exact H2_) | (have H2_ := (Option.bind_some _ _).symm.trans H; with_reducible exact H2_) | with_reducible exact H | (rw [hy506]; exact H) | exact H
  have Ny506 := Aside0.mk hy506
  clear hy506
  obtain ⟨ji16, hji16⟩ : ∃ j_ : Int, (wrap64 (x4_1 + 1)) = j_ := ⟨_, rfl⟩
  replace H : (if 0 ≤ (ji16) then (if (ji16) ≤ (x0_1.length : Int) then ((some (x0_1.drop ((ji16) : Int).toNat : List (S34))).bind fun y509 => (if y506.length + y509.length < 35184372088832 then (spec_l03Joined.l0 k1 (y506 ++ y509) x4_1) else (none))) else (none)) else (none)) = some (r1, r2) := by first | (rw [hji16] at H; exact H) | (simp only [hji16] at H ⊢; exact H)
  (try rw [hji16] at A11)
  have hji16w : (IntKind.i64.wrap (x4_1 + 1)) = ji16 := (i64_w _).trans hji16
  (try rw [hji16] at hji8)
  obtain ⟨(c17 : 0 ≤ (ji16)), H⟩ := gd_ H
  have c17b0 := eq_true c17
  have c17b1 : decide (0 ≤ (ji16)) = true := decide_eq_true c17
  clear c17
  obtain ⟨(c18 : (ji16) ≤ (x0_1.length : Int)), H⟩ := gd_ H
  have c18b0 := eq_true c18
  have c18b1 : decide ((ji16) ≤ (x0_1.length : Int)) = true := decide_eq_true c18
  clear c18
  obtain ⟨y509, hy509⟩ : ∃ y_ : List (S34), y_ = (x0_1.drop ((ji16) : Int).toNat) := ⟨_, rfl⟩
  replace H : (if y506.length + y509.length < 35184372088832 then (spec_l03Joined.l0 k1 (y506 ++ y509) x4_1) else (none)) = some (r1, r2) := by first | (rw [hy509]; with_reducible exact H) | (have H2_ := (Option.bind_some _ _).symm.trans H; rw [hy509]; with_reducible exact H2_) | (have H2_ := (Option.bind_some _ _).symm.trans H; with_reducible exact H2_) | with_reducible exact H | (rw [hy509]; exact H) | exact H
  have Ny509 := Aside0.mk hy509
  clear hy509
  obtain ⟨(c19 : y506.length + y509.length < 35184372088832), H⟩ := gd_ H
  have LMc19 := Aside0.mk c19
  clear c19
  obtain ⟨y514, hy514⟩ : ∃ y_ : List (S34), y_ = (y506 ++ y509) := ⟨_, rfl⟩
  replace H : (spec_l03Joined.l0 k1 y514 x4_1) = some (r1, r2) := by first | (rw [hy514]; with_reducible exact H) | (have H2_ := (Option.bind_some _ _).symm.trans H; rw [hy514]; with_reducible exact H2_) | (have H2_ := (Option.bind_some _ _).symm.trans H; with_reducible exact H2_) | with_reducible exact H | (rw [hy514]; exact H) | exact H
  have Ny514 := Aside0.mk hy514
  clear hy514
  have H' := Aside0.mk H
  clear H
  obtain ⟨Ao20, co20, eo20⟩ := Kd.V_slice HO_0.out
  subst eo20
  try go_wp2
  have n0_ := Aside0.mk (Kd.V_drew HO_0.out)
  have n1_ := Aside0.mk (below_drew1 HB.out)
  clear HO_0
  clear HB
  have HO_0 := n0_
  have HB := n1_
  clear n0_ n1_
  have p494 : 0 ≤ ((ji4) : Int) := od_
  have q494 : (ji4) < (x0_1.length : Int) := od_
  obtain ⟨ad494, e494, hx494_0, hx494_1⟩ := at_T34 (Kd.V_reads' HO_0.out).2.2 (ji4) p494 q494
  cases e494
  replace p494 := eq_true p494
  replace q494 := eq_true q494
  have p495 : 0 ≤ (x4_1 : Int) := od_
  have q495 : x4_1 < (x0_1.length : Int) := od_
  obtain ⟨ad495, e495, hx495_0, hx495_1⟩ := at_T34 (Kd.V_reads' HO_0.out).2.2 x4_1 p495 q495
  obtain rfl : ad494 = ad495 := (by injection e495)
  replace p495 := eq_true p495
  replace q495 := eq_true q495
  have p496 : 0 ≤ ((ji8) : Int) := od_
  have q496 : (ji8) < (x0_1.length : Int) := od_
  obtain ⟨ad496, e496, hx496_0, hx496_1⟩ := at_T34 (Kd.V_reads' HO_0.out).2.2 (ji8) p496 q496
  obtain rfl : ad494 = ad496 := (by injection e496)
  replace p496 := eq_true p496
  replace q496 := eq_true q496
  refine start_ (n := 22) (S := fun w' => w'.cell? (ad494.add (((ji4)).toNat * 2)) = some (.int .i16 ((rd_T34 x0_1 (ji4)).f0)) ∧ w'.cell? ⟨(ad494.add (((ji4)).toNat * 2)).block, (ad494.add (((ji4)).toNat * 2)).off + 1, none⟩ = some (.int .i16 ((rd_T34 x0_1 (ji4)).f1)) ∧ w'.cell? (ad494.add ((x4_1).toNat * 2)) = some (.int .i16 ((rd_T34 x0_1 x4_1).f0)) ∧ w'.cell? ⟨(ad494.add ((x4_1).toNat * 2)).block, (ad494.add ((x4_1).toNat * 2)).off + 1, none⟩ = some (.int .i16 ((rd_T34 x0_1 x4_1).f1)) ∧ w'.cell? (ad494.add (((ji8)).toNat * 2)) = some (.int .i16 ((rd_T34 x0_1 (ji8)).f0)) ∧ w'.cell? ⟨(ad494.add (((ji8)).toNat * 2)).block, (ad494.add (((ji8)).toNat * 2)).off + 1, none⟩ = some (.int .i16 ((rd_T34 x0_1 (ji8)).f1))) (ds := []) #[false, false, false, false, false, false, false, false, false, false, false, false, false, false, false, false, false, false, false, false, false, false] (by kernel_rfl) rfl rfl ⟨hx494_0, hx494_1, hx495_0, hx495_1, hx496_0, hx496_1⟩ (fun hHeld => ?_); refine with_tabW spec_l03Joined.tab4 spec_l03Joined.bits4 (fun HT_ HW_ => ?_)
  generalize wr.drew = w21 at HO_0 HB hx494_0 hx494_1 hx495_0 hx495_1 hx496_0 hx496_1 hHeld ⊢
  refine pu_ 0 12 (lA 22 1) ?_ ?_ HT_ ?_
  refine pu_ 1 13 (lA 22 3) ?_ ?_ HT_ ?_
  refine pu_ 2 14 (lA 22 7) ?_ ?_ HT_ ?_
  refine pu_ 3 15 (lA 22 15) ?_ ?_ HT_ ?_
  refine pu_ 4 16 (lA 22 31) ?_ ?_ HT_ ?_
  refine pu_ 5 17 (lA 22 63) ?_ ?_ HT_ ?_
  refine pu_ 6 18 (lA 22 127) ?_ ?_ HT_ ?_
  refine pu_ 7 19 (lA 22 255) ?_ ?_ HT_ ?_
  refine pu_ 9 21 (lA 22 767) ?_ ?_ HT_ ?_
  refine pu_ 10 22 (lA 22 1791) ?_ ?_ HT_ ?_
  refine pu_ 11 23 (lA 22 3839) ?_ ?_ HT_ ?_
  refine pu_ 13 25 (lA 22 12031) ?_ ?_ HT_ ?_
  refine pu_ 14 26 (lA 22 28415) ?_ ?_ HT_ ?_
  refine pu_ 15 27 (lA 22 61183) ?_ ?_ HT_ ?_
  refine pu_ 16 28 (lA 22 126719) ?_ ?_ HT_ ?_
  refine pu_ 17 29 (lA 22 257791) ?_ ?_ HT_ ?_
  refine pu_ 18 30 (lA 22 519935) ?_ ?_ HT_ ?_
  refine tk_ 8 20 (lA 22 520191) ?_ ?_ HT_ HW_ hHeld ?_
  refine tk_ 12 24 (lA 22 524287) ?_ ?_ HT_ HW_ hHeld ?_
  refine tk_ 19 31 (lA 22 1048575) ?_ ?_ HT_ HW_ hHeld ?_
  refine one_ (i := 20) (N := some 32) #[true, true, true, true, true, true, true, true, true, true, true, true, true, true, true, true, true, true, true, true, true, false] rfl rfl (one_of HT_.out (by kernel_rfl)) (by decide) (fun K hK => ?_)
  refine goes_ Try.func57 (by kernel_rfl) rfl #[.agg #[.int .i16 ((rd_T34 x0_1 (ji4)).f0), .int .i16 ((rd_T34 x0_1 (ji4)).f1)], .agg #[.int .i16 ((rd_T34 x0_1 x4_1).f0), .int .i16 ((rd_T34 x0_1 x4_1).f1)], .agg #[.int .i16 ((rd_T34 x0_1 (ji8)).f0), .int .i16 ((rd_T34 x0_1 (ji8)).f1)]] (by rfl) rfl rfl (by (try simp only [List.map_toArray, List.map_cons, List.map_nil]); first | done | (simp only [hji4, hji8]; rfl) | rfl | (simp only [List.length_drop, List.length_take]; rfl)) ?_
  with_reducible refine (spec_l03Side.calls ((rd_T34 x0_1 (ji4)).f0) ((rd_T34 x0_1 (ji4)).f1) ((rd_T34 x0_1 x4_1).f0) ((rd_T34 x0_1 x4_1).f1) ((rd_T34 x0_1 (ji8)).f0) ((rd_T34 x0_1 (ji8)).f1) t497 _ A11.out).mono ?_
  rintro e w22 ⟨rfl, hb⟩
  have HS0_ := (hb.cell (World.block_lt_of_cell? _ _ (hHeld.1))).trans (hHeld.1)
  have HS1_ := (hb.cell (World.block_lt_of_cell? _ _ (hHeld.2.1))).trans (hHeld.2.1)
  have HS2_ := (hb.cell (World.block_lt_of_cell? _ _ (hHeld.2.2.1))).trans (hHeld.2.2.1)
  have HS3_ := (hb.cell (World.block_lt_of_cell? _ _ (hHeld.2.2.2.1))).trans (hHeld.2.2.2.1)
  have HS4_ := (hb.cell (World.block_lt_of_cell? _ _ (hHeld.2.2.2.2.1))).trans (hHeld.2.2.2.2.1)
  have HS5_ := (hb.cell (World.block_lt_of_cell? _ _ (hHeld.2.2.2.2.2))).trans (hHeld.2.2.2.2.2)
  refine ⟨_, rfl, ?_⟩
  have n0_ := Aside0.mk (Kd.V_below (by (with_reducible repeat (first | apply Kd.V_alloc | apply Kd.V_drewN | apply Kd.V_drew)); exact HO_0.out) hb)
  have n1_ := bs_ HB hb
  clear HO_0
  clear HB
  have HO_0 := n0_
  have HB := n1_
  clear n0_ n1_
  refine hK.out _ _ ⟨HS0_, HS1_, HS2_, HS3_, HS4_, HS5_⟩ (fun hHeld => ?_)
  clear hK K
  refine norm_ (a' := ?_) ?_ ?_
  rotate_left
  ·
   show Act.put _ (some 32) _ = _
   simp only [Act.put, List.setIfInBounds_toArray, List.set_cons_zero, List.set_cons_succ, i64_w, i32_w]
   rfl
  refine pu_ 21 33 (lA 22 4194303) ?_ ?_ HT_ ?_
  refine done_ (done_of HT_.out (by kernel_rfl)) ?_
  try go_wp2
  have n0_ := Aside0.mk (Kd.V_drew HO_0.out)
  have n1_ := Aside0.mk (below_drew1 HB.out)
  clear HO_0
  clear HB
  have HO_0 := n0_
  have HB := n1_
  clear n0_ n1_
  have q24 : (x4_1 : Int) ≤ ((x0_1.length : Int) : Int) := od_
  obtain ⟨i024, hi024, _, hsz24, _⟩ := info_parts info34
  have hroom24 : x0_1.length ≤ co20 := (Kd.V_reads' HO_0.out).2.1
  have hC24 : Kd.F k34 _ _ (some ad494) x0_1.length x0_1 := (Kd.V_at (base := w.heap.size) HO_0.out).2.2
  have hcut24 := cut_to (P := Try.prog) 25 34 .i64 Try.underlying25 hi024 (some ad494) x0_1.length co20 x4_1 od_ q24 hroom24
  have hr24 := Kd.F_take (m := (x4_1 : Int).toNat) hC24 (by omega)
  have hy24 : y501.length = (x4_1 : Int).toNat := (by rw [Ny501.out, List.length_take]; omega)
  rw [← Ny501.out] at hr24
  rw [← hy24] at hcut24
  have HO505 := Aside0.mk (show Kd.V k34 34 _ w.heap.size _ (.slice (some ad494) y501.length co20) y501 from Kd.V_mk (by omega) hr24)
  have HC505 := Aside0.mk (show y501.length ≤ co20 from by omega)
  clear hr24 hC24 hroom24 hi024 hsz24
  have KY24 := Aside0.mk hy24
  clear hy24
  replace q24 := eq_true q24
  have q25 : ((ji16) : Int) ≤ ((x0_1.length : Int) : Int) := od_
  obtain ⟨i025, hi025, _, hsz25, _⟩ := info_parts info34
  have hroom25 : x0_1.length ≤ co20 := (Kd.V_reads' HO_0.out).2.1
  have hC25 : Kd.F k34 _ _ (some ad494) x0_1.length x0_1 := (Kd.V_at (base := w.heap.size) HO_0.out).2.2
  have q025 : (0 : Int) ≤ ((ji16) : Int) := od_
  have hcut25 := cut_from (P := Try.prog) 25 34 .i64 Try.underlying25 hi025 2 hsz25 (some ad494) x0_1.length co20 (ji16) q025 q25
  have hr25 := Kd.F_cut (m := ((ji16) : Int).toNat) (c := co20) hC25 (by omega) hroom25
  obtain ⟨A25, hA25⟩ : ∃ A1, A1 = (if co20 = ((ji16) : Int).toNat then (some ad494) else ((some ad494) : Option Addr).map (·.add (((ji16) : Int).toNat * 2))) := ⟨_, rfl⟩
  obtain ⟨c25, hc25⟩ : ∃ c1, c1 = co20 - ((ji16) : Int).toNat := ⟨_, rfl⟩
  have hy25 : y509.length = x0_1.length - ((ji16) : Int).toNat := (by rw [Ny509.out, List.length_drop] <;> omega)
  rw [show (x0_1).drop ((ji16) : Int).toNat = y509 from Ny509.out.symm] at hr25
  replace hr25 : Kd.F k34 _ _ A25 y509.length y509 := (by rw [hA25]; exact hr25)
  rw [← hy25, ← hA25, ← hc25] at hcut25
  have HO513 := Aside0.mk (show Kd.V k34 34 _ w.heap.size _ (.slice A25 y509.length c25) y509 from Kd.V_mk (by rw [hy25, hc25]; exact Nat.sub_le_sub_right hroom25 _) hr25)
  have HC513 := Aside0.mk (show y509.length ≤ c25 from by rw [hy25, hc25]; exact Nat.sub_le_sub_right hroom25 _)
  clear hr25 hC25 hroom25 hi025 hsz25 hc25
  have KY25 := Aside0.mk hy25
  have KA25 := Aside0.mk hA25
  clear hy25 hA25
  replace q25 := eq_true q25
  refine start_ (n := 11) (S := fun w' => True) (ds := []) #[false, false, false, false, false, false, false, false, false, false, false] (by kernel_rfl) rfl rfl trivial (fun hHeld => ?_); refine with_tabW spec_l03Joined.tab5 spec_l03Joined.bits5 (fun HT_ HW_ => ?_)
  generalize w22.drew = w23 at HO_0 HB HO505 HO513 hHeld ⊢
  refine pu_ 1 35 (lA 11 2) ?_ ?_ HT_ ?_
  refine pu_ 2 36 (lA 11 6) ?_ ?_ HT_ ?_
  refine pu_ 3 37 (lA 11 14) ?_ ?_ HT_ ?_
  refine pu_ 5 39 (lA 11 46) ?_ ?_ HT_ ?_
  refine pu_ 6 40 (lA 11 110) ?_ ?_ HT_ ?_
  refine pu_ 7 41 (lA 11 238) ?_ ?_ HT_ ?_
  refine pu_ 8 42 (lA 11 494) ?_ ?_ HT_ ?_
  refine one_ (i := 0) (N := some 34) #[true, true, true, true, false, true, true, true, true, false, false] rfl rfl (one_of HT_.out (by kernel_rfl)) (by decide) (fun K hK => ?_)
  refine Kd.R_lit_step k34 _ 34 ?hg (N := 34) ?hd (xs := ([] : List (S34))) (inner := []) (ok := fun _ => True) (okp := fun _ => True) ?hr ?hp (fun _ hk => hk) trivial (Below.refl _ _) (Nat.le_refl _) (by simp) ?_; (case hd => rfl); (case hg => rfl); (case hr => first | (go_simp; done) | (go_simp; rfl)); (case hp => exact (Reps.none _ _))
  intro v499 w26 ho27 hb hg_ hnew_
  clear hg_ hnew_
  (first | rw [← Ny498.out] at ho27 | (simp only [Int.reduceToNat] at ho27; rw [← Ny498.out] at ho27))
  have n0_ := Aside0.mk (Kd.V_elder' (by (with_reducible repeat (first | apply Kd.V_alloc | apply Kd.V_drewN | apply Kd.V_drew)); exact HO_0.out) (Kd.R_base ho27) hb)
  have n1_ := Aside0.mk (Kd.V_elder' (by (with_reducible repeat (first | apply Kd.V_alloc | apply Kd.V_drewN | apply Kd.V_drew)); exact HO505.out) (Kd.R_base ho27) hb)
  have n2_ := Aside0.mk (Kd.V_elder' (by (with_reducible repeat (first | apply Kd.V_alloc | apply Kd.V_drewN | apply Kd.V_drew)); exact HO513.out) (Kd.R_base ho27) hb)
  have n3_ := Aside0.mk (Kd.R_lower (Kd.R_newM (M := fun k_ => (w.heap.size ≤ k_)) ho27 (below_size (kB_ HB)) (fun k_ h_ => h_)) (below_size (kB_ HB)))
  have n4_ := bs_ HB hb
  clear HO_0
  clear HO505
  clear HO513
  clear HB
  have HO_0 := n0_
  have HO505 := n1_
  have HO513 := n2_
  have HO500 := n3_
  have HB := n4_
  clear n0_ n1_ n2_ n3_ n4_
  clear hb ho27
  refine hK.out _ _ trivial (fun hHeld => ?_)
  clear hK K
  refine norm_ (a' := ?_) ?_ ?_
  rotate_left
  ·
   show Act.put _ (some 34) _ = _
   simp only [Act.put, List.setIfInBounds_toArray, List.set_cons_zero, List.set_cons_succ, i64_w, i32_w]
   rfl
  refine one_ (i := 4) (N := some 38) #[true, true, true, true, true, true, true, true, true, false, false] rfl rfl (one_of HT_.out (by kernel_rfl)) (by decide) (fun K hK => ?_)
  refine Kd.R_append_rows_step k34 (w0 := w) w.heap.size (by rfl) (.tmp 34) (.tmp 37) 25 34 (.agg #[(.int .i16 0), (.int .i16 0)]) 4 rfl Try.underlying25 info34 rfl (by decide) (by omega) v499 y498 y501 _ _ _ (fun k_ => (w.heap.size ≤ k_)) (fun _ => False) rfl rfl ?aO ?aR (fun _ _ h => h) (fun _ h => h.elim) ?aF ?aB ?aS ?aL ?_
  (case aR => repeat (first | exact (Kd.V_reads' HO505.out).2.2 | (with_reducible refine Kd.C_alloc ?_ _) | (with_reducible refine Kd.C_drewN ?_ _) | (with_reducible refine Kd.C_drew ?_)))
  (case aB => exact (kB_ HB))
  (case aF => exact (fun k_ hk => (Nat.le_trans (below_size (kB_ HB)) hk)))
  (case aO => exact (by (with_reducible repeat (first | apply Kd.R_alloc | apply Kd.R_drewN | apply Kd.R_drew)); exact Kd.R_mono HO500.out (fun _ hk => hk.1)))
  (case aS => exact (below_size (kB_ HB)))
  (case aL => have := LMc15.out; omega)
  intro v507 w28 ho hb hg hat
  rw [← Ny506.out] at ho
  have n0_ := Aside0.mk (Kd.V_afterv (ok := (fun k_ => (P0_ k_ ∨ w.heap.size ≤ k_))) (by (with_reducible repeat (first | apply Kd.V_alloc | apply Kd.V_drewN | apply Kd.V_drew)); exact HO_0.out) hg hat)
  have n1_ := Aside0.mk (Kd.V_afterv (ok := (fun k_ => (P0_ k_ ∨ w.heap.size ≤ k_))) (by (with_reducible repeat (first | apply Kd.V_alloc | apply Kd.V_drewN | apply Kd.V_drew)); exact HO505.out) hg hat)
  have n2_ := Aside0.mk (Kd.V_afterv (ok := (fun k_ => (P0_ k_ ∨ w.heap.size ≤ k_))) (by (with_reducible repeat (first | apply Kd.V_alloc | apply Kd.V_drewN | apply Kd.V_drew)); exact HO513.out) hg hat)
  have n3_ := Aside0.mk (hb)
  have n4_ := Aside0.mk (ho)
  clear HO_0
  clear HO505
  clear HO513
  clear HB
  clear HO500
  have HO_0 := n0_
  have HO505 := n1_
  have HO513 := n2_
  have HB := n3_
  have HO508 := n4_
  clear n0_ n1_ n2_ n3_ n4_
  clear ho hb hg hat
  refine hK.out _ _ trivial (fun hHeld => ?_)
  clear hK K
  refine norm_ (a' := ?_) ?_ ?_
  rotate_left
  ·
   show Act.put _ (some 38) _ = _
   simp only [Act.put, List.setIfInBounds_toArray, List.set_cons_zero, List.set_cons_succ, i64_w, i32_w]
   rfl
  refine one_ (i := 9) (N := some 43) #[true, true, true, true, true, true, true, true, true, true, false] rfl rfl (one_of HT_.out (by kernel_rfl)) (by decide) (fun K hK => ?_)
  refine Kd.R_append_rows_step k34 (w0 := w) w.heap.size (by rfl) (.tmp 38) (.tmp 42) 25 34 (.agg #[(.int .i16 0), (.int .i16 0)]) 4 rfl Try.underlying25 info34 rfl (by decide) (by omega) v507 y506 y509 _ _ _ (fun k_ => (w.heap.size ≤ k_)) (fun _ => False) rfl rfl ?aO ?aR (fun _ _ h => h) (fun _ h => h.elim) ?aF ?aB ?aS ?aL ?_
  (case aR => repeat (first | exact (Kd.V_reads' HO513.out).2.2 | (with_reducible refine Kd.C_alloc ?_ _) | (with_reducible refine Kd.C_drewN ?_ _) | (with_reducible refine Kd.C_drew ?_)))
  (case aB => exact (kB_ HB))
  (case aF => exact (fun k_ hk => (Nat.le_trans (below_size (kB_ HB)) hk)))
  (case aO => exact (kp_ HO508))
  (case aS => exact (below_size (kB_ HB)))
  (case aL => have := LMc19.out; omega)
  intro v515 w29 ho hb hg hat
  rw [← Ny514.out] at ho
  have n0_ := Aside0.mk (Kd.V_afterv (ok := (fun k_ => (P0_ k_ ∨ w.heap.size ≤ k_))) (by (with_reducible repeat (first | apply Kd.V_alloc | apply Kd.V_drewN | apply Kd.V_drew)); exact HO_0.out) hg hat)
  have n1_ := Aside0.mk (Kd.V_afterv (ok := (fun k_ => (P0_ k_ ∨ w.heap.size ≤ k_))) (by (with_reducible repeat (first | apply Kd.V_alloc | apply Kd.V_drewN | apply Kd.V_drew)); exact HO505.out) hg hat)
  have n2_ := Aside0.mk (Kd.V_afterv (ok := (fun k_ => (P0_ k_ ∨ w.heap.size ≤ k_))) (by (with_reducible repeat (first | apply Kd.V_alloc | apply Kd.V_drewN | apply Kd.V_drew)); exact HO513.out) hg hat)
  have n3_ := Aside0.mk (hb)
  have n4_ := Aside0.mk (ho)
  clear HO_0
  clear HO505
  clear HO513
  clear HB
  clear HO508
  have HO_0 := n0_
  have HO505 := n1_
  have HO513 := n2_
  have HB := n3_
  have HO516 := n4_
  clear n0_ n1_ n2_ n3_ n4_
  clear ho hb hg hat
  refine hK.out _ _ trivial (fun hHeld => ?_)
  clear hK K
  refine norm_ (a' := ?_) ?_ ?_
  rotate_left
  ·
   show Act.put _ (some 43) _ = _
   simp only [Act.put, List.setIfInBounds_toArray, List.set_cons_zero, List.set_cons_succ, i64_w, i32_w]
   rfl
  refine pu_ 10 0 (lA 11 2047) ?_ ?_ HT_ ?_
  refine done_ (done_of HT_.out (by kernel_rfl)) ?_
  try go_wp2
  go_roundg k1
  case measure => have := HK1.out; omega
  case rel => exact ⟨(y514), (x4_1), (by first | rfl | (simp; done) | (simp [*]; done)), H', ⟨by have := HK1.out; omega⟩, ⟨Kd.V_mono (Kd.R_V (kp_ HO516)) (fun k_ hk => by first | exact ⟨(.inr (hk.1)), hk.2⟩ | exact (.inr (hk)))⟩, ⟨bl_ HB⟩⟩
end Go.Proofs.Ytmglnofmmgokkaa.PA
