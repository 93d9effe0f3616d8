/- Pure functions, and that Go's functions come to them. -/
import Derived.Test.YtnkihjabmbeicaaPAx0
import Derived.Test.YtnkihjabmbeicaaPAxm8
import Derived.Test.YtnkihjabmbeicaaPAxf25
import Derived.Test.YtnkihjabmbeicaaPAxf26
import Derived.Test.YtnkihjabmbeicaaPAxf28
import Derived.Test.YtnkihjabmbeicaaPAxf29
import Derived.Test.YtnkihjabmbeicaaPAxgKinds
namespace Go.Proofs.Ytnkihjabmbeicaa.PA
open Go.RowKit Go.Proofs.YtnkihjabmbeicaaW.PrintWords Go.Proofs.YtnkihjabmbeicaaW.PrintLast Go.Proofs.YtnkihjabmbeicaaW.PrintMore
set_option linter.unusedVariables false
set_option linter.unusedSimpArgs false

/-! ### impl_BestCuts: function 7 -/
theorem impl_BestCuts.kh : Kd.Heap k46 := Kd.heap_iso _ (Kd.heap_pair (Kd.heap_int .i8) (Kd.heap_pair (Kd.heap_int .i8) (Kd.heap_int .i16)))
section
variable {P : Program} {ops : Array Oper} {rest : List Oper} {o : Oper} {a : Act} {Q : Exit → Act → World → Prop} {W : World}
theorem impl_BestCuts.build_ev (hgd : o.guard = none) {N : Tmp} (_hd : o.dst = some N) (t : TypeId) (i j : Nat) (x y : Operand) (ho : o.op = .build t #[(i, x), (j, y)]) {Z : Array Value} (hb : P.built t [(i, a.eval x), (j, a.eval y)] = some Z)
  (h : wpList P ops Q rest (a.put o.dst (.agg Z)) W) : wpList P ops Q (o :: rest) a W := by
 refine Kd.event_run hgd ?_ h
 simp [execOp, ho, run_build W t #[(i, a.eval x), (j, a.eval y)] Z (by simpa using hb)]
end
def impl_BestCuts.f (k : Nat) (a0 : Int) (a1 : Int) (l2 : List (S46)) : Option ((List (S48)) × Int × Int) := (impl_ValidKinds.f l2).bind fun t148 => ((impl_isPlate.f a0 a1).bind fun t149 => ((impl_codeOf.f t148 t149).bind fun t150 => (if t150 = 0 then ((impl_worthOf.f k a0 a1 l2).bind fun t151 => ((impl_cutter_add.f k ([] : List (S48)) a0 a1 t151 l2).bind fun bt154 => (if bt154.2.2 = true then (if 0 ≤ a0 then (if a0 < 25 then (if 0 ≤ a1 then (if a1 < 25 then (some (bt154.1, rd t151 (a0 * 25 + a1), 0)) else (none)) else (none)) else (none)) else (none)) else (some (([] : List (S48)), 0, 3))))) else (some (([] : List (S48)), 0, t150)))))
theorem impl_BestCuts.mono : ∀ a0 a1 a2 k, LeO (impl_BestCuts.f k a0 a1 a2) (impl_BestCuts.f (k + 1) a0 a1 a2) := by
 intro a0 a1 a2 k
 unfold impl_BestCuts.f
 repeat' first | (with_reducible first | exact impl_cutter_add.mono _ _ _ _ _ _ | exact impl_worthOf.mono _ _ _ _ | exact LeO.refl _ | exact LeO.none _ | refine LeO.ite ?_ ?_ | refine LeO.bind ?_ (fun _ => ?_))
set_option maxHeartbeats 8000000 in
set_option maxRecDepth 100000 in
theorem impl_BestCuts.calls (k : Nat) (a0 : Int) (a1 : Int) (A2 : Option Addr) (c2 : Nat) (l2 : List (S46)) (r1 : List (S48)) (r2 : Int) (r3 : Int) (w : World) (hr2 : Kd.C k46 w A2 l2.length l2) (hc2 : l2.length ≤ c2) (h : impl_BestCuts.f k a0 a1 l2 = some (r1, r2, r3)) :
  Calls Try.prog 7 #[.int .i64 a0, .int .i64 a1, .slice A2 l2.length c2] w fun e w' => ∃ v0_ : Value, e = .returned (.tuple #[v0_, .int .i64 r2, .int .i64 r3]) ∧ Kd.R k48 48 w' w.heap.size (fun _ => True) v0_ r1 ∧ Below w.heap.size w w' := by
 have HR2 := Aside0.mk hr2
 have HC2 := Aside0.mk hc2
 clear hr2 hc2
 have HB := Aside0.mk (Below.refl w.heap.size w)
 have H : ((impl_ValidKinds.f l2).bind fun t148 => ((impl_isPlate.f a0 a1).bind fun t149 => ((impl_codeOf.f t148 t149).bind fun t150 => (if t150 = 0 then ((impl_worthOf.f k a0 a1 l2).bind fun t151 => ((impl_cutter_add.f k ([] : List (S48)) a0 a1 t151 l2).bind fun bt154 => (if bt154.2.2 = true then (if 0 ≤ a0 then (if a0 < 25 then (if 0 ≤ a1 then (if a1 < 25 then (some (bt154.1, rd t151 (a0 * 25 + a1), 0)) else (none)) else (none)) else (none)) else (none)) else (some (([] : List (S48)), 0, 3))))) else (some (([] : List (S48)), 0, t150)))))) = some (r1, r2, r3) := h
 clear h
 obtain ⟨t148, A4, H⟩ := be_ H
 (try dsimp only at H)
 obtain ⟨t149, A5, H⟩ := be_ H
 (try dsimp only at H)
 obtain ⟨t150, A6, H⟩ := be_ H
 (try dsimp only at H)
 rcases (Decidable.em (t150 = 0)).symm with c7 | c7
 ·
  rw [if_neg c7] at H
  have c7b0 : (t150 == 0) = false := beq_eq_false_iff_ne.mpr c7
  have c7b1 : (t150 != 0) = true := bne_iff_ne.mpr c7
  simp only [Option.some.injEq, Prod.mk.injEq] at H
  obtain ⟨rfl, rfl, rfl⟩ := H
  go_enter Try.func7, Try.ntmps7
  go_wp2_with (first | ((with_reducible refine gate_callee (f := 12) rfl ?_); refine goM_ (some 14) Try.func12 #[.slice A2 l2.length c2] ?_; (with_reducible refine (impl_ValidKinds.calls _ _ l2 t148 _ ?side1 ?side2 A4.out).mono ?_); (case side1 => repeat (first | exact HR2.out | exact (Kd.C_below HR2.out (kB_ HB)) | (with_reducible refine Kd.C_alloc ?_ _) | (with_reducible refine Kd.C_drewN ?_ _) | (with_reducible refine Kd.C_drew ?_))); (case side2 => exact HC2.out); rintro e w15 ⟨rfl, hb⟩; refine ⟨_, rfl, ?_⟩; have n0_ := bs_ HB hb; clear HB hb; have HB := n0_; clear n0_) | ((with_reducible refine gate_callee (f := 24) rfl ?_); refine goM_ (some 17) Try.func24 #[.int .i64 a0, .int .i64 a1] ?_; (with_reducible refine (impl_isPlate.calls a0 a1 t149 _ A5.out).mono ?_); rintro e w' ⟨rfl, ⟨nd, rfl⟩⟩; refine ⟨_, rfl, ?_⟩) | ((with_reducible refine gate_callee (f := 23) rfl ?_); refine goM_ (some 18) Try.func23 #[.bool t148, .bool t149] ?_; (with_reducible refine (impl_codeOf.calls t148 t149 t150 _ A6.out).mono ?_); rintro e w' ⟨rfl, ⟨nd, rfl⟩⟩; refine ⟨_, rfl, ?_⟩))
  repeat (go_quiet (fail)); try go_wp2_with (fail)
  go_ret3
  exact ⟨_, by first | rfl | (simp [errW_none, errW_some] <;> rfl) | (simp [*, errW_none, errW_some] <;> rfl), by first | exact Kd.R_nil _ _ _ _ _ | exact Kd.N_nil _ _ _ _ _ | exact Kd.V_nil _ _ _ _ _ | exact Kd.Q_nil _ _ _ _ _ | exact Kd.S_nil _ _ _ _ _, bl_ HB⟩

 rw [if_pos c7] at H
 have c7b0 : (t150 == 0) = true := beq_iff_eq.mpr c7
 have c7b1 : (t150 != 0) = false := bne_eq_false_iff_eq.mpr c7
 clear c7
 obtain ⟨t151, A8, H⟩ := be_ H
 (try dsimp only at H)
 obtain ⟨⟨t154, t157, t158⟩, A9, H⟩ := be_ H
 (try dsimp only at H)
 rcases (Decidable.em (t158 = true)).symm with c10 | c10
 ·
  replace c10 := Bool.eq_false_iff.mpr c10
  subst c10
  replace H := gf_ H
  simp only [Option.some.injEq, Prod.mk.injEq] at H
  obtain ⟨rfl, rfl, rfl⟩ := H
  go_enter Try.func7, Try.ntmps7
  have ZB := Aside0.mk (show ∀ (x : Option Addr) (n c : Nat) (u : Option Addr), Try.prog.built 60 [(0, .slice x n c), (1, .pointer u)] = some #[.slice x n c, .pointer u, .slice none 0 0] from fun x n c u => by kernel_rfl)
  go_wp2_with (first | ((with_reducible refine gate_callee (f := 12) rfl ?_); refine goM_ (some 14) Try.func12 #[.slice A2 l2.length c2] ?_; (with_reducible refine (impl_ValidKinds.calls _ _ l2 t148 _ ?side1 ?side2 A4.out).mono ?_); (case side1 => repeat (first | exact HR2.out | exact (Kd.C_below HR2.out (kB_ HB)) | (with_reducible refine Kd.C_alloc ?_ _) | (with_reducible refine Kd.C_drewN ?_ _) | (with_reducible refine Kd.C_drew ?_))); (case side2 => exact HC2.out); rintro e w15 ⟨rfl, hb⟩; refine ⟨_, rfl, ?_⟩; have n0_ := bs_ HB hb; clear HB hb; have HB := n0_; clear n0_) | ((with_reducible refine gate_callee (f := 24) rfl ?_); refine goM_ (some 17) Try.func24 #[.int .i64 a0, .int .i64 a1] ?_; (with_reducible refine (impl_isPlate.calls a0 a1 t149 _ A5.out).mono ?_); rintro e w' ⟨rfl, ⟨nd, rfl⟩⟩; refine ⟨_, rfl, ?_⟩) | ((with_reducible refine gate_callee (f := 23) rfl ?_); refine goM_ (some 18) Try.func23 #[.bool t148, .bool t149] ?_; (with_reducible refine (impl_codeOf.calls t148 t149 t150 _ A6.out).mono ?_); rintro e w' ⟨rfl, ⟨nd, rfl⟩⟩; refine ⟨_, rfl, ?_⟩) | ((with_reducible refine gate_callee (f := 25) rfl ?_); refine goM_ (some 26) Try.func25 #[.int .i64 a0, .int .i64 a1, .slice A2 l2.length c2] ?_; (with_reducible refine (impl_worthOf.calls k a0 a1 _ _ l2 t151 _ ?side1 ?side2 A8.out).mono ?_); (case side1 => repeat (first | exact HR2.out | exact (Kd.C_below HR2.out (kB_ HB)) | (with_reducible refine Kd.C_alloc ?_ _) | (with_reducible refine Kd.C_drewN ?_ _) | (with_reducible refine Kd.C_drew ?_))); (case side2 => exact HC2.out); rintro e w14 ⟨g7, rfl, hO, hb⟩; refine ⟨_, rfl, ?_⟩; have n0_ := bs_ HB hb; have n1_ := Aside0.mk (spec_l04Worth.tab_blk hO).1; have n2_ := Aside0.mk (spec_l04Worth.tab_blk hO).2.1; clear HB hO hb; have HB := n0_; have TB := n1_; have TL := n2_; clear n0_ n1_ n2_) | ((with_reducible refine gate_dst (N := 27) rfl ?_); refine impl_BestCuts.build_ev rfl rfl 60 0 1 (.tmp 22) (.tmp 26) rfl (Z := #[.slice A2 l2.length c2, .pointer (some ⟨g7, 0, none⟩), .slice none 0 0]) ?hb ?_; (case hb => exact ZB.out _ _ _ _)) | ((with_reducible refine gate_dst (N := 28) rfl ?_); refine boxM_ 28 #[.slice A2 l2.length c2, .pointer (some ⟨g7, 0, none⟩), .slice none 0 0] 60 ?_; intro gx hg w17 hbox hb; have n0_ := bs_ HB hb; have n1_ := Aside0.mk hbox; have n2_ := Aside0.mk (blk_below (by (with_reducible repeat (first | refine blk_drewN ?_ _ | refine blk_drew ?_ | refine blk_alloc ?_ _)); exact TB.out) hb); have n3_ := Aside0.mk ((by rw [hg]; exact below_size (kB_ HB)) : w.heap.size ≤ gx); clear HB TB hb hbox hg; have HB := n0_; have BKX := n1_; have TB := n2_; have GEX := n3_; clear n0_ n1_ n2_ n3_) | ((with_reducible refine gate_callee (f := 26) rfl ?_); refine goM_ (some 33) Try.func26 #[.pointer (some ⟨gx, 0, none⟩), .int .i64 a0, .int .i64 a1] ?_; have hc1 := impl_cutter_add.calls k (fun k_ => k_ = gx) gx (.slice none 0 0) ([] : List (S48)) a0 a1 g7 t151 A2 c2 l2 t154 t157 false w w17 rfl GEX.out BKX.out HB.out (Kd.R_nil _ _ _ _ _) (fun W_ hk => blk_kept TB.out hk (blk_ne TB.out BKX.out (by decide))) TL.out (Kd.C_kept_came impl_BestCuts.kh HR2.out HB.out (fun k_ e_ => by rw [e_]; exact GEX.out)) HC2.out A9.out; refine hc1.mono ?_; clear hc1; rintro e w18 ⟨v155, rfl, hx_, ho0, hb, hkp⟩; refine ⟨_, rfl, ?_⟩; have n0_ := Aside0.mk hb; have n1_ := Aside0.mk hx_; have n2_ := Aside0.mk (blk_kept TB.out hkp (blk_ne TB.out BKX.out (by decide))); have n3_ := Aside0.mk (Kd.R_mono (ok' := fun _ => True) ho0 (fun _ _ => trivial)); clear HB BKX TB hb hx_ hkp ho0; have HB := n0_; have BKX := n1_; have TB := n2_; have HO156 := n3_; clear n0_ n1_ n2_ n3_))
  repeat (go_quiet (fail)); try go_wp2_with (fail)
  go_ret3
  exact ⟨_, by first | rfl | (simp [errW_none, errW_some] <;> rfl) | (simp [*, errW_none, errW_some] <;> rfl), by first | exact Kd.R_nil _ _ _ _ _ | exact Kd.N_nil _ _ _ _ _ | exact Kd.V_nil _ _ _ _ _ | exact Kd.Q_nil _ _ _ _ _ | exact Kd.S_nil _ _ _ _ _, bl_ HB⟩
 subst c10
 replace H := gt_ H
 obtain ⟨c11b0, H⟩ := gx_ H
 obtain ⟨c12b0, H⟩ := gx_ H
 obtain ⟨c13b0, H⟩ := gx_ H
 obtain ⟨c14b0, H⟩ := gx_ H
 simp only [Option.some.injEq, Prod.mk.injEq] at H
 obtain ⟨rfl, rfl, rfl⟩ := H
 go_enter Try.func7, Try.ntmps7
 have ZB := Aside0.mk (show ∀ (x : Option Addr) (n c : Nat) (u : Option Addr), Try.prog.built 60 [(0, .slice x n c), (1, .pointer u)] = some #[.slice x n c, .pointer u, .slice none 0 0] from fun x n c u => by kernel_rfl)
 go_wp2_with (first | ((with_reducible refine gate_callee (f := 12) rfl ?_); refine goM_ (some 14) Try.func12 #[.slice A2 l2.length c2] ?_; (with_reducible refine (impl_ValidKinds.calls _ _ l2 t148 _ ?side1 ?side2 A4.out).mono ?_); (case side1 => repeat (first | exact HR2.out | exact (Kd.C_below HR2.out (kB_ HB)) | (with_reducible refine Kd.C_alloc ?_ _) | (with_reducible refine Kd.C_drewN ?_ _) | (with_reducible refine Kd.C_drew ?_))); (case side2 => exact HC2.out); rintro e w15 ⟨rfl, hb⟩; refine ⟨_, rfl, ?_⟩; have n0_ := bs_ HB hb; clear HB hb; have HB := n0_; clear n0_) | ((with_reducible refine gate_callee (f := 24) rfl ?_); refine goM_ (some 17) Try.func24 #[.int .i64 a0, .int .i64 a1] ?_; (with_reducible refine (impl_isPlate.calls a0 a1 t149 _ A5.out).mono ?_); rintro e w' ⟨rfl, ⟨nd, rfl⟩⟩; refine ⟨_, rfl, ?_⟩) | ((with_reducible refine gate_callee (f := 23) rfl ?_); refine goM_ (some 18) Try.func23 #[.bool t148, .bool t149] ?_; (with_reducible refine (impl_codeOf.calls t148 t149 t150 _ A6.out).mono ?_); rintro e w' ⟨rfl, ⟨nd, rfl⟩⟩; refine ⟨_, rfl, ?_⟩) | ((with_reducible refine gate_callee (f := 25) rfl ?_); refine goM_ (some 26) Try.func25 #[.int .i64 a0, .int .i64 a1, .slice A2 l2.length c2] ?_; (with_reducible refine (impl_worthOf.calls k a0 a1 _ _ l2 t151 _ ?side1 ?side2 A8.out).mono ?_); (case side1 => repeat (first | exact HR2.out | exact (Kd.C_below HR2.out (kB_ HB)) | (with_reducible refine Kd.C_alloc ?_ _) | (with_reducible refine Kd.C_drewN ?_ _) | (with_reducible refine Kd.C_drew ?_))); (case side2 => exact HC2.out); rintro e w14 ⟨g7, rfl, hO, hb⟩; refine ⟨_, rfl, ?_⟩; have n0_ := bs_ HB hb; have n1_ := Aside0.mk (spec_l04Worth.tab_blk hO).1; have n2_ := Aside0.mk (spec_l04Worth.tab_blk hO).2.1; clear HB hO hb; have HB := n0_; have TB := n1_; have TL := n2_; clear n0_ n1_ n2_) | ((with_reducible refine gate_dst (N := 27) rfl ?_); refine impl_BestCuts.build_ev rfl rfl 60 0 1 (.tmp 22) (.tmp 26) rfl (Z := #[.slice A2 l2.length c2, .pointer (some ⟨g7, 0, none⟩), .slice none 0 0]) ?hb ?_; (case hb => exact ZB.out _ _ _ _)) | ((with_reducible refine gate_dst (N := 28) rfl ?_); refine boxM_ 28 #[.slice A2 l2.length c2, .pointer (some ⟨g7, 0, none⟩), .slice none 0 0] 60 ?_; intro gx hg w17 hbox hb; have n0_ := bs_ HB hb; have n1_ := Aside0.mk hbox; have n2_ := Aside0.mk (blk_below (by (with_reducible repeat (first | refine blk_drewN ?_ _ | refine blk_drew ?_ | refine blk_alloc ?_ _)); exact TB.out) hb); have n3_ := Aside0.mk ((by rw [hg]; exact below_size (kB_ HB)) : w.heap.size ≤ gx); clear HB TB hb hbox hg; have HB := n0_; have BKX := n1_; have TB := n2_; have GEX := n3_; clear n0_ n1_ n2_ n3_) | ((with_reducible refine gate_callee (f := 26) rfl ?_); refine goM_ (some 33) Try.func26 #[.pointer (some ⟨gx, 0, none⟩), .int .i64 a0, .int .i64 a1] ?_; have hc1 := impl_cutter_add.calls k (fun k_ => k_ = gx) gx (.slice none 0 0) ([] : List (S48)) a0 a1 g7 t151 A2 c2 l2 t154 t157 true w w17 rfl GEX.out BKX.out HB.out (Kd.R_nil _ _ _ _ _) (fun W_ hk => blk_kept TB.out hk (blk_ne TB.out BKX.out (by decide))) TL.out (Kd.C_kept_came impl_BestCuts.kh HR2.out HB.out (fun k_ e_ => by rw [e_]; exact GEX.out)) HC2.out A9.out; refine hc1.mono ?_; clear hc1; rintro e w18 ⟨v155, rfl, hx_, ho0, hb, hkp⟩; refine ⟨_, rfl, ?_⟩; have n0_ := Aside0.mk hb; have n1_ := Aside0.mk hx_; have n2_ := Aside0.mk (blk_kept TB.out hkp (blk_ne TB.out BKX.out (by decide))); have n3_ := Aside0.mk (Kd.R_mono (ok' := fun _ => True) ho0 (fun _ _ => trivial)); clear HB BKX TB hb hx_ hkp ho0; have HB := n0_; have BKX := n1_; have TB := n2_; have HO156 := n3_; clear n0_ n1_ n2_ n3_; have hcx2 : w18.cell? ⟨gx, 2, none⟩ = some v155 := (blk_cell BKX.out 2).trans rfl; have hcx1 : w18.cell? ⟨gx, 1, none⟩ = some (.pointer (some ⟨g7, 0, none⟩)) := (blk_cell BKX.out 1).trans rfl; have pi : 0 ≤ a0 := od_; have qi : a0 < 25 := od_; have pj : 0 ≤ a1 := od_; have qj : a1 < 25 := od_; have hx_0 := spec_l04Cut.tcell TB.out TL.out a0 a1 pi qi pj qj; replace pi := eq_true pi; replace qi := eq_true qi; replace pj := eq_true pj; replace qj := eq_true qj))
 repeat (go_quiet (fail)); try go_wp2_with (fail)
 go_ret3
 exact ⟨_, by first | rfl | (simp [errW_none, errW_some] <;> rfl) | (simp [*, errW_none, errW_some] <;> rfl), by (with_reducible repeat (first | apply Kd.R_alloc | apply Kd.R_drewN | apply Kd.R_drew)); exact HO156.out, bl_ HB⟩
end Go.Proofs.Ytnkihjabmbeicaa.PA
