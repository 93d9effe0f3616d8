/- Pure functions, and that Go's functions come to them. -/
import Derived.Test.YtnkihjabmbeicaaPAx0
import Derived.Test.YtnkihjabmbeicaaPAxm8
import Derived.Test.YtnkihjabmbeicaaPAxf28
namespace Go.Proofs.Ytnkihjabmbeicaa.PA
open Go.RowKit Go.Proofs.YtnkihjabmbeicaaW.PrintWords Go.Proofs.YtnkihjabmbeicaaW.PrintLast Go.Proofs.YtnkihjabmbeicaaW.PrintMore
set_option linter.unusedVariables false
set_option linter.unusedSimpArgs false

/-! ### spec_BestValue: function 10 -/
def spec_BestValue.f (k : Nat) (a0 : Int) (a1 : Int) (l2 : List (S46)) : Option (Int × Int) := (spec_l04Asked.f k a0 a1 l2).bind fun t141 => (if t141 = 0 then ((spec_l04Worth.f k a0 a1 l2).bind fun t142 => (if 0 ≤ a0 then (if a0 < 25 then (if 0 ≤ a1 then (if a1 < 25 then (some (rd t142 (a0 * 25 + a1), 0)) else (none)) else (none)) else (none)) else (none))) else (some (0, t141)))
theorem spec_BestValue.mono : ∀ a0 a1 a2 k, LeO (spec_BestValue.f k a0 a1 a2) (spec_BestValue.f (k + 1) a0 a1 a2) := by
 intro a0 a1 a2 k
 unfold spec_BestValue.f
 repeat' first | (with_reducible first | exact spec_l04Asked.mono _ _ _ _ | exact spec_l04Worth.mono _ _ _ _ | exact LeO.refl _ | exact LeO.none _ | refine LeO.ite ?_ ?_ | refine LeO.bind ?_ (fun _ => ?_))
set_option maxHeartbeats 8000000 in
set_option maxRecDepth 100000 in
theorem spec_BestValue.calls (k : Nat) (a0 : Int) (a1 : Int) (A2 : Option Addr) (c2 : Nat) (l2 : List (S46)) (r1 : Int) (r2 : Int) (w : World) (hr2 : Kd.C k46 w A2 l2.length l2) (hc2 : l2.length ≤ c2) (h : spec_BestValue.f k a0 a1 l2 = some (r1, r2)) :
  Calls Try.prog 10 #[.int .i64 a0, .int .i64 a1, .slice A2 l2.length c2] w fun e w' => e = .returned (.tuple #[.int .i64 r1, .int .i64 r2]) ∧ Below w.heap.size w w' := by
 have HR2 := Aside0.mk hr2
 have HC2 := Aside0.mk hc2
 clear hr2 hc2
 have HB := Aside0.mk (Below.refl w.heap.size w)
 have H : ((spec_l04Asked.f k a0 a1 l2).bind fun t141 => (if t141 = 0 then ((spec_l04Worth.f k a0 a1 l2).bind fun t142 => (if 0 ≤ a0 then (if a0 < 25 then (if 0 ≤ a1 then (if a1 < 25 then (some (rd t142 (a0 * 25 + a1), 0)) else (none)) else (none)) else (none)) else (none))) else (some (0, t141)))) = some (r1, r2) := h
 clear h
 obtain ⟨t141, A4, H⟩ := be_ H
 (try dsimp only at H)
 rcases (Decidable.em (t141 = 0)).symm with c5 | c5
 ·
  rw [if_neg c5] at H
  have c5b0 : (t141 == 0) = false := beq_eq_false_iff_ne.mpr c5
  have c5b1 : (t141 != 0) = true := bne_iff_ne.mpr c5
  simp only [Option.some.injEq, Prod.mk.injEq] at H
  obtain ⟨rfl, rfl⟩ := H
  go_enter Try.func10, Try.ntmps10
  go_wp2_with (first | ((with_reducible refine gate_callee (f := 27) rfl ?_); refine goM_ (some 13) Try.func27 #[.int .i64 a0, .int .i64 a1, .slice A2 l2.length c2] ?_; (with_reducible refine (spec_l04Asked.calls k a0 a1 _ _ l2 t141 _ ?side1 ?side2 A4.out).mono ?_); (case side1 => exact kc_ HR2.out); (case side2 => exact HC2.out); rintro e w' ⟨rfl, ⟨nd, rfl⟩⟩; refine ⟨_, rfl, ?_⟩))
  go_ret2
  exact ⟨rt_, bl_ HB⟩

 rw [if_pos c5] at H
 have c5b0 : (t141 == 0) = true := beq_iff_eq.mpr c5
 have c5b1 : (t141 != 0) = false := bne_eq_false_iff_eq.mpr c5
 clear c5
 obtain ⟨t142, A6, H⟩ := be_ H
 (try dsimp only at H)
 obtain ⟨c7b0, H⟩ := gx_ H
 obtain ⟨c8b0, H⟩ := gx_ H
 obtain ⟨c9b0, H⟩ := gx_ H
 obtain ⟨c10b0, H⟩ := gx_ H
 simp only [Option.some.injEq, Prod.mk.injEq] at H
 obtain ⟨rfl, rfl⟩ := H
 obtain ⟨z6, Nz⟩ : ∃ y_ : List Int, (List.replicate 625 0) = y_ := ⟨_, rfl⟩
 have ZL : z6.length = 625 := by rw [← Nz]; simp
 have ZA := Aside0.mk (show (Try.prog.info? 65).bind (·.zero) = some (.agg (spec_l04Worth.cs z6)) by rw [← Nz, spec_l04Worth.cs_zero]; kernel_rfl)
 go_enter Try.func10, Try.ntmps10
 go_wp2_with (first | ((with_reducible refine gate_callee (f := 27) rfl ?_); refine goM_ (some 13) Try.func27 #[.int .i64 a0, .int .i64 a1, .slice A2 l2.length c2] ?_; (with_reducible refine (spec_l04Asked.calls k a0 a1 _ _ l2 t141 _ ?side1 ?side2 A4.out).mono ?_); (case side1 => exact kc_ HR2.out); (case side2 => exact HC2.out); rintro e w' ⟨rfl, ⟨nd, rfl⟩⟩; refine ⟨_, rfl, ?_⟩) | ((with_reducible refine gate_callee (f := 28) rfl ?_); refine goM_ (some 20) Try.func28 #[.int .i64 a0, .int .i64 a1, .slice A2 l2.length c2] ?_; (with_reducible refine (spec_l04Worth.calls k a0 a1 _ _ l2 t142 _ ?side1 ?side2 A6.out).mono ?_); (case side1 => exact kc_ HR2.out); (case side2 => exact HC2.out); rintro e w11 ⟨rfl, hEL, hb⟩; refine ⟨_, rfl, ?_⟩; have n0_ := Aside0.mk hEL; have n1_ := bs_ HB hb; clear HB hEL hb; have EL := n0_; have HB := n1_; clear n0_ n1_) | ((with_reducible refine gate_dst (N := 9) rfl ?_); refine spec_l04Worth.alloc_ev rfl rfl 65 rfl ZA.out ?_; intro g9 hg w15 hk9 hb; have BK9 := Aside0.mk hk9; have GE9 := Aside0.mk ((by rw [hg]; exact (below_size (kB_ HB))) : w.heap.size ≤ g9); replace HB := bs_ HB hb; clear hb hk9 hg) | ((with_reducible refine gate_store (t := 65) (p := 9) rfl ?_); refine spec_l04Worth.store_ev rfl rfl 65 9 _ rfl g9 65 _ t142 rfl rfl (kb_ BK9) (by rw [spec_l04Worth.cs_size, ZL]) EL.out (by kernel_rfl) (kB_ HB) GE9.out ?_; intro w16 hk9 hb ho; have n0_ := Aside0.mk hb; have n1_ := Aside0.mk (spec_l04Worth.tab_of hk9 EL.out GE9.out); clear HB BK9; have HB := n0_; have HO_9 := n1_; clear n0_ n1_; clear hb hk9 ho; have pi : 0 ≤ a0 := od_; have qi : a0 < 25 := od_; have pj : 0 ≤ a1 := od_; have qj : a1 < 25 := od_; have hx_0 := (spec_l04Worth.tab_cell HO_9.out a0 a1 pi qi pj qj).1; replace pi := eq_true pi; replace qi := eq_true qi; replace pj := eq_true pj; replace qj := eq_true qj))
 go_ret2
 exact ⟨rt_, bl_ HB⟩

/-! ### impl_ValueOf_1: function 34 -/
def impl_ValueOf_1.f (a0_0 : Int) (a0_1 : Int) (a0_2 : Int) (a0_3 : Int) (a1_0 : Int) (a1_1 : Int) (l2 : List (S46)) : Option (Int) := if a0_0 = 1 then (if 0 ≤ a0_2 then (if a0_2 < (l2.length : Int) then (some (wrap64 ((rd_T46 l2 a0_2).f2))) else (none)) else (none)) else (some 0)
set_option maxHeartbeats 8000000 in
set_option maxRecDepth 100000 in
theorem impl_ValueOf_1.calls (a0_0 : Int) (a0_1 : Int) (a0_2 : Int) (a0_3 : Int) (a1_0 : Int) (a1_1 : Int) (A2 : Option Addr) (c2 : Nat) (l2 : List (S46)) (r : Int) (w : World) (gk : Nat) (hk : w.heap[gk]? = some (.cells #[.slice A2 l2.length c2] 24 (0, 0))) (hr2 : Kd.C k46 w A2 l2.length l2) (hc2 : l2.length ≤ c2) (h : impl_ValueOf_1.f a0_0 a0_1 a0_2 a0_3 a1_0 a1_1 l2 = some r) :
  Calls Try.prog 34 #[.agg #[.int .i8 a0_0, .int .i8 a0_1, .int .i8 a0_2, .int .i8 a0_3], .agg #[.int .i64 a1_0, .int .i64 a1_1], .pointer (some ⟨gk, 0, none⟩)] w fun e w' => e = .returned (.int .i64 r) ∧ Below w.heap.size w w' := by
 have hu48 := Try.underlying48
 have hu49 := Try.underlying49
 have HR2 := Aside0.mk hr2
 have HC2 := Aside0.mk hc2
 clear hr2 hc2
 have KB := Aside0.mk hk
 clear hk
 have HB := Aside0.mk (Below.refl w.heap.size w)
 have H : (if a0_0 = 1 then (if 0 ≤ a0_2 then (if a0_2 < (l2.length : Int) then (some (wrap64 ((rd_T46 l2 a0_2).f2))) else (none)) else (none)) else (some 0)) = some r := h
 clear h
 rcases (Decidable.em (a0_0 = 1)).symm with c4 | c4
 ·
  rw [if_neg c4] at H
  have c4b0 : (a0_0 == 1) = false := beq_eq_false_iff_ne.mpr c4
  have c4b1 : (a0_0 != 1) = true := bne_iff_ne.mpr c4
  obtain rfl := Option.some.inj H
  go_enter Try.func34, Try.ntmps34
  go_wp2_with (first | ((with_reducible refine gate_dst (N := 3) rfl ?_); refine boxM_ 3 #[.int .i8 a0_0, .int .i8 a0_1, .int .i8 a0_2, .int .i8 a0_3] 48 ?_; intro gb263 hg w11 hbox hb; have KB_ := Aside0.mk (blk_below (by (with_reducible repeat (first | refine blk_drewN ?_ _ | refine blk_drew ?_ | refine blk_alloc ?_ _)); exact KB.out) hb); clear KB; have KB := KB_; clear KB_; (try clear hkc); have hkc := (blk_cell KB.out 0).trans rfl; have BK263 := Aside0.mk (hbox); have GW263 := ge_ HB hg; have GE263 := ge_ HB hg; replace HB := bs_ HB hb; clear hb hbox hg) | ((with_reducible refine gate_dst (N := 4) rfl ?_); refine boxM_ 4 #[.int .i64 a1_0, .int .i64 a1_1] 49 ?_; intro gb264 hg w12 hbox hb; have KB_ := Aside0.mk (blk_below (by (with_reducible repeat (first | refine blk_drewN ?_ _ | refine blk_drew ?_ | refine blk_alloc ?_ _)); exact KB.out) hb); clear KB; have KB := KB_; clear KB_; (try clear hkc); have hkc := (blk_cell KB.out 0).trans rfl; have BK264 := Aside0.mk (hbox); have GW264 := ge_ HB hg; have GE264 := ge_ HB hg; replace HB := bs_ HB hb; have NB263_264 := nl_ BK263 hg; have NB264_263 := ng_ BK263 hg; replace BK263 := bd_ BK263 hb; clear hb hbox hg; have hnb13 := NB263_264.out; have hnc13 := NB264_263.out; have hcz14_0 : w12.cell? ⟨gb263, 0, none⟩ = some (.int .i8 a0_0) := (blk_cell BK263.out 0).trans rfl; have hcz14_1 : w12.cell? ⟨gb263, 1, none⟩ = some (.int .i8 a0_1) := (blk_cell BK263.out 1).trans rfl; have hcz14_2 : w12.cell? ⟨gb263, 2, none⟩ = some (.int .i8 a0_2) := (blk_cell BK263.out 2).trans rfl; have hcz14_3 : w12.cell? ⟨gb263, 3, none⟩ = some (.int .i8 a0_3) := (blk_cell BK263.out 3).trans rfl; have hfz14_0 := blk_frozen BK263.out 0; have hfz14_1 := blk_frozen BK263.out 1; have hfz14_2 := blk_frozen BK263.out 2; have hfz14_3 := blk_frozen BK263.out 3))
  go_ret
  exact ⟨rt_, k2_ HB GE263 GE264⟩


 rw [if_pos c4] at H
 have c4b0 : (a0_0 == 1) = true := beq_iff_eq.mpr c4
 have c4b1 : (a0_0 != 1) = false := bne_eq_false_iff_eq.mpr c4
 clear c4
 obtain ⟨c5b0, H⟩ := gx_ H
 obtain ⟨c6b0, H⟩ := gx_ H
 obtain rfl := Option.some.inj H
 go_enter Try.func34, Try.ntmps34
 go_wp2_with (first | ((with_reducible refine gate_dst (N := 3) rfl ?_); refine boxM_ 3 #[.int .i8 a0_0, .int .i8 a0_1, .int .i8 a0_2, .int .i8 a0_3] 48 ?_; intro gb263 hg w7 hbox hb; have KB_ := Aside0.mk (blk_below (by (with_reducible repeat (first | refine blk_drewN ?_ _ | refine blk_drew ?_ | refine blk_alloc ?_ _)); exact KB.out) hb); clear KB; have KB := KB_; clear KB_; (try clear hkc); have hkc := (blk_cell KB.out 0).trans rfl; have BK263 := Aside0.mk (hbox); have GW263 := ge_ HB hg; have GE263 := ge_ HB hg; replace HB := bs_ HB hb; clear hb hbox hg) | ((with_reducible refine gate_dst (N := 4) rfl ?_); refine boxM_ 4 #[.int .i64 a1_0, .int .i64 a1_1] 49 ?_; intro gb264 hg w8 hbox hb; have KB_ := Aside0.mk (blk_below (by (with_reducible repeat (first | refine blk_drewN ?_ _ | refine blk_drew ?_ | refine blk_alloc ?_ _)); exact KB.out) hb); clear KB; have KB := KB_; clear KB_; (try clear hkc); have hkc := (blk_cell KB.out 0).trans rfl; have BK264 := Aside0.mk (hbox); have GW264 := ge_ HB hg; have GE264 := ge_ HB hg; replace HB := bs_ HB hb; have NB263_264 := nl_ BK263 hg; have NB264_263 := ng_ BK263 hg; replace BK263 := bd_ BK263 hb; clear hb hbox hg; have hnb9 := NB263_264.out; have hnc9 := NB264_263.out; have hcz10_0 : w8.cell? ⟨gb263, 0, none⟩ = some (.int .i8 a0_0) := (blk_cell BK263.out 0).trans rfl; have hcz10_1 : w8.cell? ⟨gb263, 1, none⟩ = some (.int .i8 a0_1) := (blk_cell BK263.out 1).trans rfl; have hcz10_2 : w8.cell? ⟨gb263, 2, none⟩ = some (.int .i8 a0_2) := (blk_cell BK263.out 2).trans rfl; have hcz10_3 : w8.cell? ⟨gb263, 3, none⟩ = some (.int .i8 a0_3) := (blk_cell BK263.out 3).trans rfl; have hfz10_0 := blk_frozen BK263.out 0; have hfz10_1 := blk_frozen BK263.out 1; have hfz10_2 := blk_frozen BK263.out 2; have hfz10_3 := blk_frozen BK263.out 3; have p265 : 0 ≤ (a0_2 : Int) := od_; have q265 : a0_2 < (l2.length : Int) := od_; obtain ⟨ad265, e265, hx265_0, hx265_1, hx265_2⟩ := at_T46 HR2.out a0_2 p265 q265; cases e265; replace hx265_0 := (hw_ HB hx265_0 :); replace hx265_1 := (hw_ HB hx265_1 :); replace hx265_2 := (hw_ HB hx265_2 :); replace p265 := eq_true p265; replace q265 := eq_true q265))
 go_ret
 exact ⟨rt_, k2_ HB GE263 GE264⟩
end Go.Proofs.Ytnkihjabmbeicaa.PA
