/- Pure functions, and that Go's functions come to them. -/
import Derived.Test.YtnkihjabmbeicaaPAx0
import Derived.Test.YtnkihjabmbeicaaPAxm8
import Derived.Test.YtnkihjabmbeicaaPAxf28
import Derived.Test.YtnkihjabmbeicaaPAxf29
namespace Go.Proofs.Ytnkihjabmbeicaa.PA
open Go.RowKit Go.Proofs.YtnkihjabmbeicaaW.PrintWords Go.Proofs.YtnkihjabmbeicaaW.PrintLast Go.Proofs.YtnkihjabmbeicaaW.PrintMore
set_option linter.unusedVariables false
set_option linter.unusedSimpArgs false

/-! ### spec_BestCuts: function 8 -/
theorem spec_BestCuts.kh : Kd.Heap k46 := Kd.heap_iso _ (Kd.heap_pair (Kd.heap_int .i8) (Kd.heap_pair (Kd.heap_int .i8) (Kd.heap_int .i16)))
def spec_BestCuts.f (k : Nat) (a0 : Int) (a1 : Int) (l2 : List (S46)) : Option ((List (S48)) × Int × Int) := (spec_l04Asked.f k a0 a1 l2).bind fun t124 => (if t124 = 0 then ((spec_l04Worth.f k a0 a1 l2).bind fun t128 => ((spec_l04Cut.f k (([] : List (S48))) t128 a0 a1 l2).bind fun t134 => (if (t134.length : Int) > 60 then (some ((([] : List (S48))), 0, 3)) else (if 0 ≤ a0 then (if a0 < 25 then (if 0 ≤ a1 then (if a1 < 25 then (some (t134, rd t128 (a0 * 25 + a1), 0)) else (none)) else (none)) else (none)) else (none))))) else (some ((([] : List (S48))), 0, t124)))
theorem spec_BestCuts.mono : ∀ a0 a1 a2 k, LeO (spec_BestCuts.f k a0 a1 a2) (spec_BestCuts.f (k + 1) a0 a1 a2) := by
 intro a0 a1 a2 k
 unfold spec_BestCuts.f
 repeat' first | (with_reducible first | exact spec_l04Asked.mono _ _ _ _ | exact spec_l04Cut.mono _ _ _ _ _ _ | exact spec_l04Worth.mono _ _ _ _ | exact LeO.refl _ | exact LeO.none _ | refine LeO.ite ?_ ?_ | refine LeO.bind ?_ (fun _ => ?_))
set_option maxHeartbeats 8000000 in
set_option maxRecDepth 100000 in
theorem spec_BestCuts.calls (k : Nat) (a0 : Int) (a1 : Int) (A2 : Option Addr) (c2 : Nat) (l2 : List (S46)) (r1 : List (S48)) (r2 : Int) (r3 : Int) (w : World) (hr2 : Kd.C k46 w A2 l2.length l2) (hc2 : l2.length ≤ c2) (h : spec_BestCuts.f k a0 a1 l2 = some (r1, r2, r3)) :
  Calls Try.prog 8 #[.int .i64 a0, .int .i64 a1, .slice A2 l2.length c2] w fun e w' => ∃ v0_ : Value, e = .returned (.tuple #[v0_, .int .i64 r2, .int .i64 r3]) ∧ Kd.R k48 48 w' w.heap.size (fun _ => True) v0_ r1 ∧ Below w.heap.size w w' := by
 have HR2 := Aside0.mk hr2
 have HC2 := Aside0.mk hc2
 clear hr2 hc2
 have HB := Aside0.mk (Below.refl w.heap.size w)
 have H : ((spec_l04Asked.f k a0 a1 l2).bind fun t124 => (if t124 = 0 then ((spec_l04Worth.f k a0 a1 l2).bind fun t128 => ((spec_l04Cut.f k (([] : List (S48))) t128 a0 a1 l2).bind fun t134 => (if (t134.length : Int) > 60 then (some ((([] : List (S48))), 0, 3)) else (if 0 ≤ a0 then (if a0 < 25 then (if 0 ≤ a1 then (if a1 < 25 then (some (t134, rd t128 (a0 * 25 + a1), 0)) else (none)) else (none)) else (none)) else (none))))) else (some ((([] : List (S48))), 0, t124)))) = some (r1, r2, r3) := h
 clear h
 obtain ⟨t124, A4, H⟩ := be_ H
 (try dsimp only at H)
 rcases (Decidable.em (t124 = 0)).symm with c5 | c5
 ·
  rw [if_neg c5] at H
  have c5b0 : (t124 == 0) = false := beq_eq_false_iff_ne.mpr c5
  have c5b1 : (t124 != 0) = true := bne_iff_ne.mpr c5
  obtain ⟨y125, hy125⟩ : ∃ y_ : List (S48), y_ = (([] : List (S48))) := ⟨_, rfl⟩
  replace H : (some (y125, 0, t124)) = some (r1, r2, r3) := by first | (rw [hy125]; with_reducible exact H) | (have H2_ := (Option.bind_some _ _).symm.trans H; rw [hy125]; with_reducible exact H2_) | (have H2_ := (Option.bind_some _ _).symm.trans H; with_reducible exact H2_) | with_reducible exact H | (rw [hy125]; exact H) | exact H
  have Ny125 := Aside0.mk hy125
  clear hy125
  simp only [Option.some.injEq, Prod.mk.injEq] at H
  obtain ⟨rfl, rfl, rfl⟩ := H
  go_enter Try.func8, Try.ntmps8
  go_wp2_with (first | ((with_reducible refine gate_callee (f := 27) rfl ?_); refine goM_ (some 15) Try.func27 #[.int .i64 a0, .int .i64 a1, .slice A2 l2.length c2] ?_; (with_reducible refine (spec_l04Asked.calls k a0 a1 _ _ l2 t124 _ ?side1 ?side2 A4.out).mono ?_); (case side1 => repeat (first | exact HR2.out | exact (Kd.C_below HR2.out (kB_ HB)) | (with_reducible refine Kd.C_alloc ?_ _) | (with_reducible refine Kd.C_drewN ?_ _) | (with_reducible refine Kd.C_drew ?_))); (case side2 => exact HC2.out); rintro e w' ⟨rfl, ⟨nd, rfl⟩⟩; refine ⟨_, rfl, ?_⟩) | ((with_reducible refine gate_dst (N := 18) rfl ?_); refine Kd.R_lit k48 _ 48 ?hg (N := 18) ?hd (xs := ([] : List (S48))) (inner := []) (ok := fun _ => True) (okp := fun _ => True) ?hr ?hp (fun _ hk => hk) trivial (Below.refl _ _) (Nat.le_refl _) (by simp) ?_; (case hd => rfl); (case hg => rfl); (case hr => first | (go_simp; done) | (go_simp; rfl)); (case hp => exact (Reps.none _ _)); intro v126 w32 ho12 hb hg_ hnew_; clear hg_ hnew_; (first | rw [← Ny125.out] at ho12 | (simp only [Int.reduceToNat] at ho12; rw [← Ny125.out] at ho12)); have n1_ := Aside0.mk (Kd.R_lower ho12 (below_size (kB_ HB))); have n0_ := bs_ HB hb; clear HB; have HO127 := n1_; have HB := n0_; clear n0_ n1_; clear hb ho12))
  repeat (go_quiet (fail)); try go_wp2_with (fail)
  go_ret3
  exact ⟨_, by first | rfl | (simp [errW_none, errW_some] <;> rfl) | (simp [*, errW_none, errW_some] <;> rfl), by (with_reducible repeat (first | apply Kd.R_alloc | apply Kd.R_drewN | apply Kd.R_drew)); exact HO127.out, bl_ HB⟩

 rw [if_pos c5] at H
 have c5b0 : (t124 == 0) = true := beq_iff_eq.mpr c5
 have c5b1 : (t124 != 0) = false := bne_eq_false_iff_eq.mpr c5
 clear c5
 obtain ⟨t128, A6, H⟩ := be_ H
 (try dsimp only at H)
 obtain ⟨y131, hy131⟩ : ∃ y_ : List (S48), y_ = (([] : List (S48))) := ⟨_, rfl⟩
 replace H : ((spec_l04Cut.f k y131 t128 a0 a1 l2).bind fun t134 => (if (t134.length : Int) > 60 then (some ((([] : List (S48))), 0, 3)) else (if 0 ≤ a0 then (if a0 < 25 then (if 0 ≤ a1 then (if a1 < 25 then (some (t134, rd t128 (a0 * 25 + a1), 0)) else (none)) else (none)) else (none)) else (none)))) = some (r1, r2, r3) := by first | (rw [hy131]; with_reducible exact H) | (have H2_ := (Option.bind_some _ _).symm.trans H; rw [hy131]; with_reducible exact H2_) | (have H2_ := (Option.bind_some _ _).symm.trans H; with_reducible exact H2_) | with_reducible exact H | (rw [hy131]; exact H) | exact H
 have Ny131 := Aside0.mk hy131
 clear hy131
 obtain ⟨t134, A7, H⟩ := be_ H
 (try dsimp only at H)
 by_cases c8 : (t134.length : Int) > 60
 ·
  rw [if_pos c8] at H
  have c8b0 : decide (60 < (t134.length : Int)) = true := decide_eq_true c8
  have c8b1 : decide (60 < t134.length) = true := decide_eq_true (by omega)
  clear c8
  obtain ⟨y137, hy137⟩ : ∃ y_ : List (S48), y_ = (([] : List (S48))) := ⟨_, rfl⟩
  replace H : (some (y137, 0, 3)) = some (r1, r2, r3) := by first | (rw [hy137]; with_reducible exact H) | (have H2_ := (Option.bind_some _ _).symm.trans H; rw [hy137]; with_reducible exact H2_) | (have H2_ := (Option.bind_some _ _).symm.trans H; with_reducible exact H2_) | with_reducible exact H | (rw [hy137]; exact H) | exact H
  have Ny137 := Aside0.mk hy137
  clear hy137
  simp only [Option.some.injEq, Prod.mk.injEq] at H
  obtain ⟨rfl, rfl, rfl⟩ := H
  go_enter Try.func8, Try.ntmps8
  obtain ⟨z6, Nz⟩ : ∃ y_ : List Int, (List.replicate 625 0) = y_ := ⟨_, rfl⟩
  have ZL : z6.length = 625 := by rw [← Nz]; simp
  have ZA := Aside0.mk (show (Try.prog.info? 65).bind (·.zero) = some (.agg (spec_l04Worth.cs z6)) by rw [← Nz, spec_l04Worth.cs_zero]; kernel_rfl)
  go_wp2_with (first | ((with_reducible refine gate_callee (f := 27) rfl ?_); refine goM_ (some 15) Try.func27 #[.int .i64 a0, .int .i64 a1, .slice A2 l2.length c2] ?_; (with_reducible refine (spec_l04Asked.calls k a0 a1 _ _ l2 t124 _ ?side1 ?side2 A4.out).mono ?_); (case side1 => repeat (first | exact HR2.out | exact (Kd.C_below HR2.out (kB_ HB)) | (with_reducible refine Kd.C_alloc ?_ _) | (with_reducible refine Kd.C_drewN ?_ _) | (with_reducible refine Kd.C_drew ?_))); (case side2 => exact HC2.out); rintro e w' ⟨rfl, ⟨nd, rfl⟩⟩; refine ⟨_, rfl, ?_⟩) | ((with_reducible refine gate_callee (f := 28) rfl ?_); refine goM_ (some 23) Try.func28 #[.int .i64 a0, .int .i64 a1, .slice A2 l2.length c2] ?_; (with_reducible refine (spec_l04Worth.calls k a0 a1 _ _ l2 t128 _ ?side1 ?side2 A6.out).mono ?_); (case side1 => repeat (first | exact HR2.out | exact (Kd.C_below HR2.out (kB_ HB)) | (with_reducible refine Kd.C_alloc ?_ _) | (with_reducible refine Kd.C_drewN ?_ _) | (with_reducible refine Kd.C_drew ?_))); (case side2 => exact HC2.out); rintro e w11 ⟨rfl, hEL, hb⟩; refine ⟨_, rfl, ?_⟩; have n1_ := Aside0.mk hEL; have n0_ := bs_ HB hb; clear HB hEL hb; have TL := n1_; have HB := n0_; clear n0_ n1_) | ((with_reducible refine gate_dst (N := 10) rfl ?_); refine spec_l04Worth.alloc_ev rfl rfl 65 rfl ZA.out ?_; intro g7 hg w15 hk9 hb; have BK9 := Aside0.mk hk9; have GE9 := Aside0.mk ((by rw [hg]; exact (below_size (kB_ HB))) : w.heap.size ≤ g7); replace HB := bs_ HB hb; clear hb hk9 hg) | ((with_reducible refine gate_store (t := 65) (p := 10) rfl ?_); refine spec_l04Worth.store_ev rfl rfl 65 10 _ rfl g7 65 _ t128 rfl rfl (kb_ BK9) (by rw [spec_l04Worth.cs_size, ZL]) TL.out (by kernel_rfl) (kB_ HB) GE9.out ?_; intro w16 hk9 hb ho; have n0_ := Aside0.mk hb; have n1_ := Aside0.mk hk9; clear HB BK9; have HB := n0_; have TB := n1_; clear n0_ n1_; clear hb hk9 ho) | ((with_reducible refine gate_dst (N := 24) rfl ?_); refine Kd.R_lit k48 _ 48 ?hg (N := 24) ?hd (xs := ([] : List (S48))) (inner := []) (ok := fun _ => True) (okp := fun _ => True) ?hr ?hp (fun _ hk => hk) trivial (Below.refl _ _) (Nat.le_refl _) (by simp) ?_; (case hd => rfl); (case hg => rfl); (case hr => first | (go_simp; done) | (go_simp; rfl)); (case hp => exact (Reps.none _ _)); intro v132 w19 ho12 hb hg_ hnew_; clear hg_ hnew_; (first | rw [← Ny131.out] at ho12 | (simp only [Int.reduceToNat] at ho12; rw [← Ny131.out] at ho12)); have n3_ := Aside0.mk (blk_below (by (with_reducible repeat (first | refine blk_drewN ?_ _ | refine blk_drew ?_ | refine blk_alloc ?_ _)); exact TB.out) hb); have n1_ := Aside0.mk (Kd.R_lower ho12 (below_size (kB_ HB))); have n0_ := bs_ HB hb; clear HB; clear TB; have TB := n3_; clear n3_; have HO133 := n1_; have HB := n0_; clear n0_ n1_; clear hb ho12; obtain ⟨Ao13, co13, eo13⟩ := Kd.R_slice HO133.out; subst eo13) | ((with_reducible refine gate_callee (f := 29) rfl ?_); refine goM_ (some 28) Try.func29 #[.slice Ao13 y131.length co13, .pointer (some ⟨g7, 0, none⟩), .int .i64 a0, .int .i64 a1, .slice A2 l2.length c2] ?_; have hc1 := spec_l04Cut.calls k (fun k_ => some k_ = (.slice Ao13 y131.length co13 : Value).ownBlock) (.slice Ao13 y131.length co13) y131 g7 t128 a0 a1 A2 c2 l2 t134 w w19 HB.out (Kd.R_tight rfl HO133.out) (fun W_ hk => blk_kept TB.out hk (fun e_ => (Kd.R_ne HO133.out TB.out (by decide)) e_)) TL.out (Kd.C_kept_came spec_BestCuts.kh HR2.out HB.out (fun k_ hs_ => (fun e_ => Kd.R_base HO133.out k_ e_.symm) hs_)) HC2.out A7.out; refine hc1.mono ?_; clear hc1; rintro e w20 ⟨v135, rfl, ho0, hb, hkp⟩; refine ⟨_, rfl, ?_⟩; have n0_ := Aside0.mk (blk_kept TB.out hkp (fun e_ => (Kd.R_ne HO133.out TB.out (by decide)) e_)); have n1_ := Aside0.mk (Kd.R_mono (ok' := fun k_ => True) ho0 (fun k_ hk_ => trivial)); have n2_ := Aside0.mk (hb); clear HB TB HO133 hb hkp ho0; have TB := n0_; have HO136 := n1_; have HB := n2_; clear n0_ n1_ n2_; obtain ⟨Ao16, co16, eo16⟩ := Kd.R_slice HO136.out; subst eo16) | ((with_reducible refine gate_dst (N := 32) rfl ?_); refine Kd.R_lit k48 _ 48 ?hg (N := 32) ?hd (xs := ([] : List (S48))) (inner := []) (ok := fun _ => True) (okp := fun _ => True) ?hr ?hp (fun _ hk => hk) trivial (Below.refl _ _) (Nat.le_refl _) (by simp) ?_; (case hd => rfl); (case hg => rfl); (case hr => first | (go_simp; done) | (go_simp; rfl)); (case hp => exact (Reps.none _ _)); intro v138 w21 ho12 hb hg_ hnew_; clear hg_ hnew_; (first | rw [← Ny137.out] at ho12 | (simp only [Int.reduceToNat] at ho12; rw [← Ny137.out] at ho12)); have n1_ := Aside0.mk (Kd.R_lower ho12 (below_size (kB_ HB))); have n0_ := bs_ HB hb; clear HB; have HO139 := n1_; have HB := n0_; clear n0_ n1_; clear hb ho12))
  repeat (go_quiet (fail)); try go_wp2_with (fail)
  go_ret3
  exact ⟨_, by first | rfl | (simp [errW_none, errW_some] <;> rfl) | (simp [*, errW_none, errW_some] <;> rfl), by (with_reducible repeat (first | apply Kd.R_alloc | apply Kd.R_drewN | apply Kd.R_drew)); exact Kd.R_mono HO139.out (fun _ hk => trivial), bl_ HB⟩
 rw [if_neg c8] at H
 have c8b0 : decide (60 < (t134.length : Int)) = false := decide_eq_false c8
 have c8b1 : decide (60 < t134.length) = false := decide_eq_false (by omega)
 clear c8
 obtain ⟨c19b0, H⟩ := gx_ H
 obtain ⟨c20b0, H⟩ := gx_ H
 obtain ⟨c21b0, H⟩ := gx_ H
 obtain ⟨c22b0, H⟩ := gx_ H
 simp only [Option.some.injEq, Prod.mk.injEq] at H
 obtain ⟨rfl, rfl, rfl⟩ := H
 go_enter Try.func8, Try.ntmps8
 obtain ⟨z6, Nz⟩ : ∃ y_ : List Int, (List.replicate 625 0) = y_ := ⟨_, rfl⟩
 have ZL : z6.length = 625 := by rw [← Nz]; simp
 have ZA := Aside0.mk (show (Try.prog.info? 65).bind (·.zero) = some (.agg (spec_l04Worth.cs z6)) by rw [← Nz, spec_l04Worth.cs_zero]; kernel_rfl)
 go_wp2_with (first | ((with_reducible refine gate_callee (f := 27) rfl ?_); refine goM_ (some 15) Try.func27 #[.int .i64 a0, .int .i64 a1, .slice A2 l2.length c2] ?_; (with_reducible refine (spec_l04Asked.calls k a0 a1 _ _ l2 t124 _ ?side1 ?side2 A4.out).mono ?_); (case side1 => repeat (first | exact HR2.out | exact (Kd.C_below HR2.out (kB_ HB)) | (with_reducible refine Kd.C_alloc ?_ _) | (with_reducible refine Kd.C_drewN ?_ _) | (with_reducible refine Kd.C_drew ?_))); (case side2 => exact HC2.out); rintro e w' ⟨rfl, ⟨nd, rfl⟩⟩; refine ⟨_, rfl, ?_⟩) | ((with_reducible refine gate_callee (f := 28) rfl ?_); refine goM_ (some 23) Try.func28 #[.int .i64 a0, .int .i64 a1, .slice A2 l2.length c2] ?_; (with_reducible refine (spec_l04Worth.calls k a0 a1 _ _ l2 t128 _ ?side1 ?side2 A6.out).mono ?_); (case side1 => repeat (first | exact HR2.out | exact (Kd.C_below HR2.out (kB_ HB)) | (with_reducible refine Kd.C_alloc ?_ _) | (with_reducible refine Kd.C_drewN ?_ _) | (with_reducible refine Kd.C_drew ?_))); (case side2 => exact HC2.out); rintro e w11 ⟨rfl, hEL, hb⟩; refine ⟨_, rfl, ?_⟩; have n1_ := Aside0.mk hEL; have n0_ := bs_ HB hb; clear HB hEL hb; have TL := n1_; have HB := n0_; clear n0_ n1_) | ((with_reducible refine gate_dst (N := 10) rfl ?_); refine spec_l04Worth.alloc_ev rfl rfl 65 rfl ZA.out ?_; intro g7 hg w15 hk9 hb; have BK9 := Aside0.mk hk9; have GE9 := Aside0.mk ((by rw [hg]; exact (below_size (kB_ HB))) : w.heap.size ≤ g7); replace HB := bs_ HB hb; clear hb hk9 hg) | ((with_reducible refine gate_store (t := 65) (p := 10) rfl ?_); refine spec_l04Worth.store_ev rfl rfl 65 10 _ rfl g7 65 _ t128 rfl rfl (kb_ BK9) (by rw [spec_l04Worth.cs_size, ZL]) TL.out (by kernel_rfl) (kB_ HB) GE9.out ?_; intro w16 hk9 hb ho; have n0_ := Aside0.mk hb; have n1_ := Aside0.mk hk9; clear HB BK9; have HB := n0_; have TB := n1_; clear n0_ n1_; clear hb hk9 ho) | ((with_reducible refine gate_dst (N := 24) rfl ?_); refine Kd.R_lit k48 _ 48 ?hg (N := 24) ?hd (xs := ([] : List (S48))) (inner := []) (ok := fun _ => True) (okp := fun _ => True) ?hr ?hp (fun _ hk => hk) trivial (Below.refl _ _) (Nat.le_refl _) (by simp) ?_; (case hd => rfl); (case hg => rfl); (case hr => first | (go_simp; done) | (go_simp; rfl)); (case hp => exact (Reps.none _ _)); intro v132 w19 ho12 hb hg_ hnew_; clear hg_ hnew_; (first | rw [← Ny131.out] at ho12 | (simp only [Int.reduceToNat] at ho12; rw [← Ny131.out] at ho12)); have n3_ := Aside0.mk (blk_below (by (with_reducible repeat (first | refine blk_drewN ?_ _ | refine blk_drew ?_ | refine blk_alloc ?_ _)); exact TB.out) hb); have n1_ := Aside0.mk (Kd.R_lower ho12 (below_size (kB_ HB))); have n0_ := bs_ HB hb; clear HB; clear TB; have TB := n3_; clear n3_; have HO133 := n1_; have HB := n0_; clear n0_ n1_; clear hb ho12; obtain ⟨Ao13, co13, eo13⟩ := Kd.R_slice HO133.out; subst eo13) | ((with_reducible refine gate_callee (f := 29) rfl ?_); refine goM_ (some 28) Try.func29 #[.slice Ao13 y131.length co13, .pointer (some ⟨g7, 0, none⟩), .int .i64 a0, .int .i64 a1, .slice A2 l2.length c2] ?_; have hc1 := spec_l04Cut.calls k (fun k_ => some k_ = (.slice Ao13 y131.length co13 : Value).ownBlock) (.slice Ao13 y131.length co13) y131 g7 t128 a0 a1 A2 c2 l2 t134 w w19 HB.out (Kd.R_tight rfl HO133.out) (fun W_ hk => blk_kept TB.out hk (fun e_ => (Kd.R_ne HO133.out TB.out (by decide)) e_)) TL.out (Kd.C_kept_came spec_BestCuts.kh HR2.out HB.out (fun k_ hs_ => (fun e_ => Kd.R_base HO133.out k_ e_.symm) hs_)) HC2.out A7.out; refine hc1.mono ?_; clear hc1; rintro e w20 ⟨v135, rfl, ho0, hb, hkp⟩; refine ⟨_, rfl, ?_⟩; have n0_ := Aside0.mk (blk_kept TB.out hkp (fun e_ => (Kd.R_ne HO133.out TB.out (by decide)) e_)); have n1_ := Aside0.mk (Kd.R_mono (ok' := fun k_ => True) ho0 (fun k_ hk_ => trivial)); have n2_ := Aside0.mk (hb); clear HB TB HO133 hb hkp ho0; have TB := n0_; have HO136 := n1_; have HB := n2_; clear n0_ n1_ n2_; obtain ⟨Ao16, co16, eo16⟩ := Kd.R_slice HO136.out; subst eo16; have pi : 0 ≤ a0 := od_; have qi : a0 < 25 := od_; have pj : 0 ≤ a1 := od_; have qj : a1 < 25 := od_; have hx_0 := spec_l04Cut.tcell TB.out TL.out a0 a1 pi qi pj qj; replace pi := eq_true pi; replace qi := eq_true qi; replace pj := eq_true pj; replace qj := eq_true qj))
 repeat (go_quiet (fail)); try go_wp2_with (fail)
 go_ret3
 exact ⟨_, by first | rfl | (simp [errW_none, errW_some] <;> rfl) | (simp [*, errW_none, errW_some] <;> rfl), by (with_reducible repeat (first | apply Kd.R_alloc | apply Kd.R_drewN | apply Kd.R_drew)); exact HO136.out, bl_ HB⟩
end Go.Proofs.Ytnkihjabmbeicaa.PA
