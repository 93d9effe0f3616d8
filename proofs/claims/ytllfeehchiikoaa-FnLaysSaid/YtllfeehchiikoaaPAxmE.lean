/- Pure functions, and that Go's functions come to them. -/
import Derived.Test.YtllfeehchiikoaaPAx0
import Derived.Test.YtllfeehchiikoaaPAxgImplB
import Derived.Test.YtllfeehchiikoaaPAxgSpecB
import Derived.Test.YtllfeehchiikoaaPAxgImpl
import Derived.Test.YtllfeehchiikoaaPAxgImplO
namespace Go.Proofs.Ytllfeehchiikoaa.PA
open Go.RowKit Go.Proofs.YtllfeehchiikoaaW.PrintWords Go.Proofs.YtllfeehchiikoaaW.PrintLast Go.Proofs.YtllfeehchiikoaaW.PrintMore
set_option linter.unusedVariables false
set_option linter.unusedSimpArgs false

/-! ### impl_ValidLay: function 7 -/
def impl_ValidLay.f (k : Nat) (a0_0 : Int) (a0_1 : Int) (l1 : List (List (S43))) : Option (Bool) := (impl_areStones.f k a0_0 a0_1 l1).bind fun t371 => (if t371 = true then ((impl_fault.f k a0_0 a0_1 l1).bind fun bt372 => (some (!bt372.2.2))) else (some false))
theorem impl_ValidLay.mono : ∀ a0 a1 a2 k, LeO (impl_ValidLay.f k a0 a1 a2) (impl_ValidLay.f (k + 1) a0 a1 a2) := by
 intro a0 a1 a2 k
 unfold impl_ValidLay.f
 repeat' first
   | (with_reducible exact impl_areStones.mono _ _ _ _)
   | (with_reducible exact impl_fault.mono _ _ _ _)
   | (with_reducible exact LeO.refl _)
   | (with_reducible exact LeO.none _)
   | (with_reducible refine LeO.ite ?_ ?_)
   | (with_reducible refine LeO.bind ?_ (fun _ => ?_))
set_option maxHeartbeats 8000000 in
set_option maxRecDepth 100000 in
theorem impl_ValidLay.calls (k : Nat) (a0_0 : Int) (a0_1 : Int) (A1 : Option Addr) (c1 : Nat) (l1 : List (List (S43))) (r : Bool) (w : World) (hr1 : Kd.C (Kd.slice 43 k43) w A1 l1.length l1) (hc1 : l1.length ≤ c1) (h : impl_ValidLay.f k a0_0 a0_1 l1 = some r) :
  Calls Try.prog 7 #[.agg #[.int .i16 a0_0, .int .i16 a0_1], .slice A1 l1.length c1] w fun e w' => e = .returned (.bool r) ∧ Below w.heap.size w w' := by
 have hu26 := Try.underlying26
 have HR1 := Aside0.mk hr1
 have HC1 := Aside0.mk hc1
 clear hr1 hc1
 have HB := Aside0.mk (Below.refl w.heap.size w)
 have H : ((impl_areStones.f k a0_0 a0_1 l1).bind fun t371 => (if t371 = true then ((impl_fault.f k a0_0 a0_1 l1).bind fun bt372 => (some (!bt372.2.2))) else (some false))) = some r := h
 clear h
 replace H := Option.bind_eq_some_iff.mp H
 obtain ⟨t371, A30, H⟩ := H
 (try dsimp only at H)
 have A3 := Aside0.mk A30
 clear A30
 rcases (Decidable.em (t371 = true)).symm with c4 | c4
 ·
  replace c4 := Bool.eq_false_iff.mpr c4
  subst c4
  replace H := gf_ H
  obtain rfl := Option.some.inj H
  go_enter Try.func7, Try.ntmps7
  go_wp2_with (first | ((with_reducible refine gate_dst (N := 2) rfl ?_); refine boxM_ 2 #[.int .i16 a0_0, .int .i16 a0_1] 26 ?_; intro gb370 hg w11 hbox hb; have BK370 := Aside0.mk (hbox); have GW370 := ge_ HB hg; have GE370 := ge_ HB hg; replace HB := bs_ HB hb; clear hb hbox hg; obtain ⟨⟨hcz12_0, hcz12_1⟩, hfz12_0, hfz12_1⟩ := bq_ BK370) | ((with_reducible refine gate_callee (f := 26) rfl ?_); refine goM_ (some 10) Try.func26 #[.agg #[.int .i16 a0_0, .int .i16 a0_1], .slice A1 l1.length c1] ?_; (with_reducible refine (impl_areStones.calls k a0_0 a0_1 _ _ l1 false _ ?side1 ?side2 A3.out).mono ?_); (case side1 => exact kc_ (Kd.C_below HR1.out HB.out)); (case side2 => exact HC1.out); rintro e w13 ⟨rfl, hb⟩; refine ⟨_, rfl, ?_⟩; replace BK370 := bd_ BK370 hb; replace HB := bs_ HB hb; clear hb))
  go_ret
  exact ⟨rt_, bl_ HB⟩

 subst c4
 replace H := gt_ H
 replace H := Option.bind_eq_some_iff.mp H
 obtain ⟨⟨t372, t373, t374⟩, A50, H⟩ := H
 (try dsimp only at H)
 have A5 := Aside0.mk A50
 clear A50
 obtain rfl := Option.some.inj H
 go_enter Try.func7, Try.ntmps7
 go_wp2_with (first | ((with_reducible refine gate_dst (N := 2) rfl ?_); refine boxM_ 2 #[.int .i16 a0_0, .int .i16 a0_1] 26 ?_; intro gb370 hg w6 hbox hb; have BK370 := Aside0.mk (hbox); have GW370 := ge_ HB hg; have GE370 := ge_ HB hg; replace HB := bs_ HB hb; clear hb hbox hg; obtain ⟨⟨hcz7_0, hcz7_1⟩, hfz7_0, hfz7_1⟩ := bq_ BK370) | ((with_reducible refine gate_callee (f := 26) rfl ?_); refine goM_ (some 10) Try.func26 #[.agg #[.int .i16 a0_0, .int .i16 a0_1], .slice A1 l1.length c1] ?_; (with_reducible refine (impl_areStones.calls k a0_0 a0_1 _ _ l1 true _ ?side1 ?side2 A3.out).mono ?_); (case side1 => exact kc_ (Kd.C_below HR1.out HB.out)); (case side2 => exact HC1.out); rintro e w8 ⟨rfl, hb⟩; refine ⟨_, rfl, ?_⟩; replace BK370 := bd_ BK370 hb; replace HB := bs_ HB hb; clear hb; obtain ⟨⟨hcz9_0, hcz9_1⟩, hfz9_0, hfz9_1⟩ := bq_ BK370) | ((with_reducible refine gate_callee (f := 27) rfl ?_); refine goM_ (some 15) Try.func27 #[.agg #[.int .i16 a0_0, .int .i16 a0_1], .slice A1 l1.length c1] ?_; (with_reducible refine (impl_fault.calls k a0_0 a0_1 _ _ l1 t372 t373 t374 _ ?side1 ?side2 A5.out).mono ?_); (case side1 => exact kc_ (Kd.C_below HR1.out HB.out)); (case side2 => exact HC1.out); rintro e w10 ⟨rfl, hb⟩; refine ⟨_, rfl, ?_⟩; replace BK370 := bd_ BK370 hb; replace HB := bs_ HB hb; clear hb))
 go_ret
 exact ⟨rt_, bl_ HB⟩
end Go.Proofs.Ytllfeehchiikoaa.PA
namespace Go.Proofs.Ytllfeehchiikoaa.PA
open Go.RowKit Go.Proofs.YtllfeehchiikoaaW.PrintWords Go.Proofs.YtllfeehchiikoaaW.PrintLast Go.Proofs.YtllfeehchiikoaaW.PrintMore
set_option linter.unusedVariables false
set_option linter.unusedSimpArgs false

/-! ### impl_FirstFault: function 8 -/
def impl_FirstFault.f (k : Nat) (a0_0 : Int) (a0_1 : Int) (l1 : List (List (S43))) : Option (Int × Int × Int) := (impl_areStones.f k a0_0 a0_1 l1).bind fun t376 => (if t376 = true then ((impl_fault.f k a0_0 a0_1 l1).bind fun bt377 => (if bt377.2.2 = true then (some (bt377.1, bt377.2.1, 0)) else (some (0, 0, 6)))) else (some (0, 0, 1)))
theorem impl_FirstFault.mono : ∀ a0 a1 a2 k, LeO (impl_FirstFault.f k a0 a1 a2) (impl_FirstFault.f (k + 1) a0 a1 a2) := by
 intro a0 a1 a2 k
 unfold impl_FirstFault.f
 repeat' first
   | (with_reducible exact impl_areStones.mono _ _ _ _)
   | (with_reducible exact impl_fault.mono _ _ _ _)
   | (with_reducible exact LeO.refl _)
   | (with_reducible exact LeO.none _)
   | (with_reducible refine LeO.ite ?_ ?_)
   | (with_reducible refine LeO.bind ?_ (fun _ => ?_))
set_option maxHeartbeats 8000000 in
set_option maxRecDepth 100000 in
theorem impl_FirstFault.calls (k : Nat) (a0_0 : Int) (a0_1 : Int) (A1 : Option Addr) (c1 : Nat) (l1 : List (List (S43))) (r1 : Int) (r2 : Int) (r3 : Int) (w : World) (hr1 : Kd.C (Kd.slice 43 k43) w A1 l1.length l1) (hc1 : l1.length ≤ c1) (h : impl_FirstFault.f k a0_0 a0_1 l1 = some (r1, r2, r3)) :
  Calls Try.prog 8 #[.agg #[.int .i16 a0_0, .int .i16 a0_1], .slice A1 l1.length c1] w fun e w' => e = .returned (.tuple #[.int .i64 r1, .int .i64 r2, .int .i64 r3]) ∧ Below w.heap.size w w' := by
 have hu26 := Try.underlying26
 have HR1 := Aside0.mk hr1
 have HC1 := Aside0.mk hc1
 clear hr1 hc1
 have HB := Aside0.mk (Below.refl w.heap.size w)
 have H : ((impl_areStones.f k a0_0 a0_1 l1).bind fun t376 => (if t376 = true then ((impl_fault.f k a0_0 a0_1 l1).bind fun bt377 => (if bt377.2.2 = true then (some (bt377.1, bt377.2.1, 0)) else (some (0, 0, 6)))) else (some (0, 0, 1)))) = some (r1, r2, r3) := h
 clear h
 replace H := Option.bind_eq_some_iff.mp H
 obtain ⟨t376, A30, H⟩ := H
 (try dsimp only at H)
 have A3 := Aside0.mk A30
 clear A30
 rcases (Decidable.em (t376 = true)).symm with c4 | c4
 ·
  replace c4 := Bool.eq_false_iff.mpr c4
  subst c4
  replace H := gf_ H
  simp only [Option.some.injEq, Prod.mk.injEq] at H
  obtain ⟨rfl, rfl, rfl⟩ := H
  go_enter Try.func8, Try.ntmps8
  go_wp2_with (first | ((with_reducible refine gate_dst (N := 2) rfl ?_); refine boxM_ 2 #[.int .i16 a0_0, .int .i16 a0_1] 26 ?_; intro gb375 hg w17 hbox hb; have BK375 := Aside0.mk (hbox); have GW375 := ge_ HB hg; have GE375 := ge_ HB hg; replace HB := bs_ HB hb; clear hb hbox hg; obtain ⟨⟨hcz18_0, hcz18_1⟩, hfz18_0, hfz18_1⟩ := bq_ BK375) | ((with_reducible refine gate_callee (f := 26) rfl ?_); refine goM_ (some 12) Try.func26 #[.agg #[.int .i16 a0_0, .int .i16 a0_1], .slice A1 l1.length c1] ?_; (with_reducible refine (impl_areStones.calls k a0_0 a0_1 _ _ l1 false _ ?side1 ?side2 A3.out).mono ?_); (case side1 => exact kc_ (Kd.C_below HR1.out HB.out)); (case side2 => exact HC1.out); rintro e w19 ⟨rfl, hb⟩; refine ⟨_, rfl, ?_⟩; replace BK375 := bd_ BK375 hb; replace HB := bs_ HB hb; clear hb))
  go_ret3
  exact ⟨rt_, bl_ HB⟩

 subst c4
 replace H := gt_ H
 replace H := Option.bind_eq_some_iff.mp H
 obtain ⟨⟨t377, t378, t379⟩, A50, H⟩ := H
 (try dsimp only at H)
 have A5 := Aside0.mk A50
 clear A50
 by_cases c6 : t379 = true
 ·
  subst c6
  replace H := gt_ H
  simp only [Option.some.injEq, Prod.mk.injEq] at H
  obtain ⟨rfl, rfl, rfl⟩ := H
  go_enter Try.func8, Try.ntmps8
  go_wp2_with (first | ((with_reducible refine gate_dst (N := 2) rfl ?_); refine boxM_ 2 #[.int .i16 a0_0, .int .i16 a0_1] 26 ?_; intro gb375 hg w7 hbox hb; have BK375 := Aside0.mk (hbox); have GW375 := ge_ HB hg; have GE375 := ge_ HB hg; replace HB := bs_ HB hb; clear hb hbox hg; obtain ⟨⟨hcz8_0, hcz8_1⟩, hfz8_0, hfz8_1⟩ := bq_ BK375) | ((with_reducible refine gate_callee (f := 26) rfl ?_); refine goM_ (some 12) Try.func26 #[.agg #[.int .i16 a0_0, .int .i16 a0_1], .slice A1 l1.length c1] ?_; (with_reducible refine (impl_areStones.calls k a0_0 a0_1 _ _ l1 true _ ?side1 ?side2 A3.out).mono ?_); (case side1 => exact kc_ (Kd.C_below HR1.out HB.out)); (case side2 => exact HC1.out); rintro e w9 ⟨rfl, hb⟩; refine ⟨_, rfl, ?_⟩; replace BK375 := bd_ BK375 hb; replace HB := bs_ HB hb; clear hb; obtain ⟨⟨hcz10_0, hcz10_1⟩, hfz10_0, hfz10_1⟩ := bq_ BK375) | ((with_reducible refine gate_callee (f := 27) rfl ?_); refine goM_ (some 17) Try.func27 #[.agg #[.int .i16 a0_0, .int .i16 a0_1], .slice A1 l1.length c1] ?_; (with_reducible refine (impl_fault.calls k a0_0 a0_1 _ _ l1 t377 t378 true _ ?side1 ?side2 A5.out).mono ?_); (case side1 => exact kc_ (Kd.C_below HR1.out HB.out)); (case side2 => exact HC1.out); rintro e w11 ⟨rfl, hb⟩; refine ⟨_, rfl, ?_⟩; replace BK375 := bd_ BK375 hb; replace HB := bs_ HB hb; clear hb))
  go_ret3
  exact ⟨rt_, bl_ HB⟩
 replace c6 := Bool.eq_false_iff.mpr c6
 subst c6
 replace H := gf_ H
 simp only [Option.some.injEq, Prod.mk.injEq] at H
 obtain ⟨rfl, rfl, rfl⟩ := H
 go_enter Try.func8, Try.ntmps8
 go_wp2_with (first | ((with_reducible refine gate_dst (N := 2) rfl ?_); refine boxM_ 2 #[.int .i16 a0_0, .int .i16 a0_1] 26 ?_; intro gb375 hg w12 hbox hb; have BK375 := Aside0.mk (hbox); have GW375 := ge_ HB hg; have GE375 := ge_ HB hg; replace HB := bs_ HB hb; clear hb hbox hg; obtain ⟨⟨hcz13_0, hcz13_1⟩, hfz13_0, hfz13_1⟩ := bq_ BK375) | ((with_reducible refine gate_callee (f := 26) rfl ?_); refine goM_ (some 12) Try.func26 #[.agg #[.int .i16 a0_0, .int .i16 a0_1], .slice A1 l1.length c1] ?_; (with_reducible refine (impl_areStones.calls k a0_0 a0_1 _ _ l1 true _ ?side1 ?side2 A3.out).mono ?_); (case side1 => exact kc_ (Kd.C_below HR1.out HB.out)); (case side2 => exact HC1.out); rintro e w14 ⟨rfl, hb⟩; refine ⟨_, rfl, ?_⟩; replace BK375 := bd_ BK375 hb; replace HB := bs_ HB hb; clear hb; obtain ⟨⟨hcz15_0, hcz15_1⟩, hfz15_0, hfz15_1⟩ := bq_ BK375) | ((with_reducible refine gate_callee (f := 27) rfl ?_); refine goM_ (some 17) Try.func27 #[.agg #[.int .i16 a0_0, .int .i16 a0_1], .slice A1 l1.length c1] ?_; (with_reducible refine (impl_fault.calls k a0_0 a0_1 _ _ l1 t377 t378 false _ ?side1 ?side2 A5.out).mono ?_); (case side1 => exact kc_ (Kd.C_below HR1.out HB.out)); (case side2 => exact HC1.out); rintro e w16 ⟨rfl, hb⟩; refine ⟨_, rfl, ?_⟩; replace BK375 := bd_ BK375 hb; replace HB := bs_ HB hb; clear hb))
 go_ret3
 exact ⟨rt_, bl_ HB⟩
end Go.Proofs.Ytllfeehchiikoaa.PA
namespace Go.Proofs.Ytllfeehchiikoaa.PA
open Go.RowKit Go.Proofs.YtllfeehchiikoaaW.PrintWords Go.Proofs.YtllfeehchiikoaaW.PrintLast Go.Proofs.YtllfeehchiikoaaW.PrintMore
set_option linter.unusedVariables false
set_option linter.unusedSimpArgs false

/-! ### spec_FirstFault: function 9 -/
def spec_FirstFault.f (k : Nat) (a0_0 : Int) (a0_1 : Int) (l1 : List (List (S43))) : Option (Int × Int × Int) := (spec_l03Stones.f k a0_0 a0_1 l1).bind fun t381 => (if t381 = true then ((spec_l03Fault.f k a0_0 a0_1 l1).bind fun bt382 => (if bt382.2.2 = true then (some (bt382.1, bt382.2.1, 0)) else (some (0, 0, 6)))) else (some (0, 0, 1)))
theorem spec_FirstFault.mono : ∀ a0 a1 a2 k, LeO (spec_FirstFault.f k a0 a1 a2) (spec_FirstFault.f (k + 1) a0 a1 a2) := by
 intro a0 a1 a2 k
 unfold spec_FirstFault.f
 repeat' first
   | (with_reducible exact spec_l03Fault.mono _ _ _ _)
   | (with_reducible exact spec_l03Stones.mono _ _ _ _)
   | (with_reducible exact LeO.refl _)
   | (with_reducible exact LeO.none _)
   | (with_reducible refine LeO.ite ?_ ?_)
   | (with_reducible refine LeO.bind ?_ (fun _ => ?_))
set_option maxHeartbeats 8000000 in
set_option maxRecDepth 100000 in
theorem spec_FirstFault.calls (k : Nat) (a0_0 : Int) (a0_1 : Int) (A1 : Option Addr) (c1 : Nat) (l1 : List (List (S43))) (r1 : Int) (r2 : Int) (r3 : Int) (w : World) (hr1 : Kd.C (Kd.slice 43 k43) w A1 l1.length l1) (hc1 : l1.length ≤ c1) (h : spec_FirstFault.f k a0_0 a0_1 l1 = some (r1, r2, r3)) :
  Calls Try.prog 9 #[.agg #[.int .i16 a0_0, .int .i16 a0_1], .slice A1 l1.length c1] w fun e w' => e = .returned (.tuple #[.int .i64 r1, .int .i64 r2, .int .i64 r3]) ∧ Below w.heap.size w w' := by
 have hu26 := Try.underlying26
 have HR1 := Aside0.mk hr1
 have HC1 := Aside0.mk hc1
 clear hr1 hc1
 have HB := Aside0.mk (Below.refl w.heap.size w)
 have H : ((spec_l03Stones.f k a0_0 a0_1 l1).bind fun t381 => (if t381 = true then ((spec_l03Fault.f k a0_0 a0_1 l1).bind fun bt382 => (if bt382.2.2 = true then (some (bt382.1, bt382.2.1, 0)) else (some (0, 0, 6)))) else (some (0, 0, 1)))) = some (r1, r2, r3) := h
 clear h
 replace H := Option.bind_eq_some_iff.mp H
 obtain ⟨t381, A30, H⟩ := H
 (try dsimp only at H)
 have A3 := Aside0.mk A30
 clear A30
 rcases (Decidable.em (t381 = true)).symm with c4 | c4
 ·
  replace c4 := Bool.eq_false_iff.mpr c4
  subst c4
  replace H := gf_ H
  simp only [Option.some.injEq, Prod.mk.injEq] at H
  obtain ⟨rfl, rfl, rfl⟩ := H
  go_enter Try.func9, Try.ntmps9
  go_wp2_with (first | ((with_reducible refine gate_dst (N := 2) rfl ?_); refine boxM_ 2 #[.int .i16 a0_0, .int .i16 a0_1] 26 ?_; intro gb380 hg w17 hbox hb; have BK380 := Aside0.mk (hbox); have GW380 := ge_ HB hg; have GE380 := ge_ HB hg; replace HB := bs_ HB hb; clear hb hbox hg; obtain ⟨⟨hcz18_0, hcz18_1⟩, hfz18_0, hfz18_1⟩ := bq_ BK380) | ((with_reducible refine gate_callee (f := 28) rfl ?_); refine goM_ (some 12) Try.func28 #[.agg #[.int .i16 a0_0, .int .i16 a0_1], .slice A1 l1.length c1] ?_; (with_reducible refine (spec_l03Stones.calls k a0_0 a0_1 _ _ l1 false _ ?side1 ?side2 A3.out).mono ?_); (case side1 => exact kc_ (Kd.C_below HR1.out HB.out)); (case side2 => exact HC1.out); rintro e w19 ⟨rfl, hb⟩; refine ⟨_, rfl, ?_⟩; replace BK380 := bd_ BK380 hb; replace HB := bs_ HB hb; clear hb))
  go_ret3
  exact ⟨rt_, bl_ HB⟩

 subst c4
 replace H := gt_ H
 replace H := Option.bind_eq_some_iff.mp H
 obtain ⟨⟨t382, t383, t384⟩, A50, H⟩ := H
 (try dsimp only at H)
 have A5 := Aside0.mk A50
 clear A50
 by_cases c6 : t384 = true
 ·
  subst c6
  replace H := gt_ H
  simp only [Option.some.injEq, Prod.mk.injEq] at H
  obtain ⟨rfl, rfl, rfl⟩ := H
  go_enter Try.func9, Try.ntmps9
  go_wp2_with (first | ((with_reducible refine gate_dst (N := 2) rfl ?_); refine boxM_ 2 #[.int .i16 a0_0, .int .i16 a0_1] 26 ?_; intro gb380 hg w7 hbox hb; have BK380 := Aside0.mk (hbox); have GW380 := ge_ HB hg; have GE380 := ge_ HB hg; replace HB := bs_ HB hb; clear hb hbox hg; obtain ⟨⟨hcz8_0, hcz8_1⟩, hfz8_0, hfz8_1⟩ := bq_ BK380) | ((with_reducible refine gate_callee (f := 28) rfl ?_); refine goM_ (some 12) Try.func28 #[.agg #[.int .i16 a0_0, .int .i16 a0_1], .slice A1 l1.length c1] ?_; (with_reducible refine (spec_l03Stones.calls k a0_0 a0_1 _ _ l1 true _ ?side1 ?side2 A3.out).mono ?_); (case side1 => exact kc_ (Kd.C_below HR1.out HB.out)); (case side2 => exact HC1.out); rintro e w9 ⟨rfl, hb⟩; refine ⟨_, rfl, ?_⟩; replace BK380 := bd_ BK380 hb; replace HB := bs_ HB hb; clear hb; obtain ⟨⟨hcz10_0, hcz10_1⟩, hfz10_0, hfz10_1⟩ := bq_ BK380) | ((with_reducible refine gate_callee (f := 29) rfl ?_); refine goM_ (some 17) Try.func29 #[.agg #[.int .i16 a0_0, .int .i16 a0_1], .slice A1 l1.length c1] ?_; (with_reducible refine (spec_l03Fault.calls k a0_0 a0_1 _ _ l1 t382 t383 true _ ?side1 ?side2 A5.out).mono ?_); (case side1 => exact kc_ (Kd.C_below HR1.out HB.out)); (case side2 => exact HC1.out); rintro e w11 ⟨rfl, hb⟩; refine ⟨_, rfl, ?_⟩; replace BK380 := bd_ BK380 hb; replace HB := bs_ HB hb; clear hb))
  go_ret3
  exact ⟨rt_, bl_ HB⟩
 replace c6 := Bool.eq_false_iff.mpr c6
 subst c6
 replace H := gf_ H
 simp only [Option.some.injEq, Prod.mk.injEq] at H
 obtain ⟨rfl, rfl, rfl⟩ := H
 go_enter Try.func9, Try.ntmps9
 go_wp2_with (first | ((with_reducible refine gate_dst (N := 2) rfl ?_); refine boxM_ 2 #[.int .i16 a0_0, .int .i16 a0_1] 26 ?_; intro gb380 hg w12 hbox hb; have BK380 := Aside0.mk (hbox); have GW380 := ge_ HB hg; have GE380 := ge_ HB hg; replace HB := bs_ HB hb; clear hb hbox hg; obtain ⟨⟨hcz13_0, hcz13_1⟩, hfz13_0, hfz13_1⟩ := bq_ BK380) | ((with_reducible refine gate_callee (f := 28) rfl ?_); refine goM_ (some 12) Try.func28 #[.agg #[.int .i16 a0_0, .int .i16 a0_1], .slice A1 l1.length c1] ?_; (with_reducible refine (spec_l03Stones.calls k a0_0 a0_1 _ _ l1 true _ ?side1 ?side2 A3.out).mono ?_); (case side1 => exact kc_ (Kd.C_below HR1.out HB.out)); (case side2 => exact HC1.out); rintro e w14 ⟨rfl, hb⟩; refine ⟨_, rfl, ?_⟩; replace BK380 := bd_ BK380 hb; replace HB := bs_ HB hb; clear hb; obtain ⟨⟨hcz15_0, hcz15_1⟩, hfz15_0, hfz15_1⟩ := bq_ BK380) | ((with_reducible refine gate_callee (f := 29) rfl ?_); refine goM_ (some 17) Try.func29 #[.agg #[.int .i16 a0_0, .int .i16 a0_1], .slice A1 l1.length c1] ?_; (with_reducible refine (spec_l03Fault.calls k a0_0 a0_1 _ _ l1 t382 t383 false _ ?side1 ?side2 A5.out).mono ?_); (case side1 => exact kc_ (Kd.C_below HR1.out HB.out)); (case side2 => exact HC1.out); rintro e w16 ⟨rfl, hb⟩; refine ⟨_, rfl, ?_⟩; replace BK380 := bd_ BK380 hb; replace HB := bs_ HB hb; clear hb))
 go_ret3
 exact ⟨rt_, bl_ HB⟩
end Go.Proofs.Ytllfeehchiikoaa.PA
namespace Go.Proofs.Ytllfeehchiikoaa.PA
open Go.RowKit Go.Proofs.YtllfeehchiikoaaW.PrintWords Go.Proofs.YtllfeehchiikoaaW.PrintLast Go.Proofs.YtllfeehchiikoaaW.PrintMore
set_option linter.unusedVariables false
set_option linter.unusedSimpArgs false

/-! ### impl_InFrame: function 10 -/
def impl_InFrame.f (k : Nat) (a0_0 : Int) (a0_1 : Int) (l1 : List (S43)) : Option (Bool × Int) := (impl_isFrame.f a0_0 a0_1).bind fun t386 => (if t386 = true then ((impl_ValidStone.f k l1).bind fun t387 => (if t387 = true then ((impl_Frame_holdsAll.f a0_0 a0_1 l1).bind fun t388 => (some (t388, 0))) else (some (false, 1)))) else (some (false, 1)))
theorem impl_InFrame.mono : ∀ a0 a1 a2 k, LeO (impl_InFrame.f k a0 a1 a2) (impl_InFrame.f (k + 1) a0 a1 a2) := by
 intro a0 a1 a2 k
 unfold impl_InFrame.f
 repeat' first
   | (with_reducible exact impl_ValidStone.mono _ _)
   | (with_reducible exact LeO.refl _)
   | (with_reducible exact LeO.none _)
   | (with_reducible refine LeO.ite ?_ ?_)
   | (with_reducible refine LeO.bind ?_ (fun _ => ?_))
set_option maxHeartbeats 8000000 in
set_option maxRecDepth 100000 in
theorem impl_InFrame.calls (k : Nat) (a0_0 : Int) (a0_1 : Int) (A1 : Option Addr) (c1 : Nat) (l1 : List (S43)) (r1 : Bool) (r2 : Int) (w : World) (hr1 : Kd.C k43 w A1 l1.length l1) (hc1 : l1.length ≤ c1) (h : impl_InFrame.f k a0_0 a0_1 l1 = some (r1, r2)) :
  Calls Try.prog 10 #[.agg #[.int .i16 a0_0, .int .i16 a0_1], .slice A1 l1.length c1] w fun e w' => e = .returned (.tuple #[.bool r1, .int .i64 r2]) ∧ Below w.heap.size w w' := by
 have hu26 := Try.underlying26
 have HR1 := Aside0.mk hr1
 have HC1 := Aside0.mk hc1
 clear hr1 hc1
 have HB := Aside0.mk (Below.refl w.heap.size w)
 have H : ((impl_isFrame.f a0_0 a0_1).bind fun t386 => (if t386 = true then ((impl_ValidStone.f k l1).bind fun t387 => (if t387 = true then ((impl_Frame_holdsAll.f a0_0 a0_1 l1).bind fun t388 => (some (t388, 0))) else (some (false, 1)))) else (some (false, 1)))) = some (r1, r2) := h
 clear h
 replace H := Option.bind_eq_some_iff.mp H
 obtain ⟨t386, A30, H⟩ := H
 (try dsimp only at H)
 have A3 := Aside0.mk A30
 clear A30
 rcases (Decidable.em (t386 = true)).symm with c4 | c4
 ·
  replace c4 := Bool.eq_false_iff.mpr c4
  subst c4
  replace H := gf_ H
  simp only [Option.some.injEq, Prod.mk.injEq] at H
  obtain ⟨rfl, rfl⟩ := H
  go_enter Try.func10, Try.ntmps10
  go_wp2_with (first | ((with_reducible refine gate_dst (N := 2) rfl ?_); refine boxM_ 2 #[.int .i16 a0_0, .int .i16 a0_1] 26 ?_; intro gb385 hg w18 hbox hb; have BK385 := Aside0.mk (hbox); have GW385 := ge_ HB hg; have GE385 := ge_ HB hg; replace HB := bs_ HB hb; clear hb hbox hg; obtain ⟨⟨hcz19_0, hcz19_1⟩, hfz19_0, hfz19_1⟩ := bq_ BK385) | ((with_reducible refine gate_callee (f := 30) rfl ?_); refine goM_ (some 7) Try.func30 #[.agg #[.int .i16 a0_0, .int .i16 a0_1]] ?_; (with_reducible refine (impl_isFrame.calls a0_0 a0_1 false _ A3.out).mono ?_); rintro e w20 ⟨rfl, hb⟩; refine ⟨_, rfl, ?_⟩; replace BK385 := bd_ BK385 hb; replace HB := bs_ HB hb; clear hb))
  go_ret2
  exact ⟨rt_, bl_ HB⟩

 subst c4
 replace H := gt_ H
 replace H := Option.bind_eq_some_iff.mp H
 obtain ⟨t387, A50, H⟩ := H
 (try dsimp only at H)
 have A5 := Aside0.mk A50
 clear A50
 rcases (Decidable.em (t387 = true)).symm with c6 | c6
 ·
  replace c6 := Bool.eq_false_iff.mpr c6
  subst c6
  replace H := gf_ H
  simp only [Option.some.injEq, Prod.mk.injEq] at H
  obtain ⟨rfl, rfl⟩ := H
  go_enter Try.func10, Try.ntmps10
  go_wp2_with (first | ((with_reducible refine gate_dst (N := 2) rfl ?_); refine boxM_ 2 #[.int .i16 a0_0, .int .i16 a0_1] 26 ?_; intro gb385 hg w14 hbox hb; have BK385 := Aside0.mk (hbox); have GW385 := ge_ HB hg; have GE385 := ge_ HB hg; replace HB := bs_ HB hb; clear hb hbox hg; obtain ⟨⟨hcz15_0, hcz15_1⟩, hfz15_0, hfz15_1⟩ := bq_ BK385) | ((with_reducible refine gate_callee (f := 30) rfl ?_); refine goM_ (some 7) Try.func30 #[.agg #[.int .i16 a0_0, .int .i16 a0_1]] ?_; (with_reducible refine (impl_isFrame.calls a0_0 a0_1 true _ A3.out).mono ?_); rintro e w16 ⟨rfl, hb⟩; refine ⟨_, rfl, ?_⟩; replace BK385 := bd_ BK385 hb; replace HB := bs_ HB hb; clear hb) | (go_at_call 31; (with_reducible refine (impl_ValidStone.calls k _ _ l1 false _ ?side1 ?side2 A5.out).mono ?_); (case side1 => exact kc_ (Kd.C_below HR1.out HB.out)); (case side2 => exact HC1.out); rintro e w17 ⟨rfl, hb⟩; replace BK385 := bd_ BK385 hb; replace HB := bs_ HB hb; clear hb))
  go_ret2
  exact ⟨rt_, bl_ HB⟩
 subst c6
 replace H := gt_ H
 replace H := Option.bind_eq_some_iff.mp H
 obtain ⟨t388, A70, H⟩ := H
 (try dsimp only at H)
 have A7 := Aside0.mk A70
 clear A70
 simp only [Option.some.injEq, Prod.mk.injEq] at H
 obtain ⟨rfl, rfl⟩ := H
 go_enter Try.func10, Try.ntmps10
 go_wp2_with (first | ((with_reducible refine gate_dst (N := 2) rfl ?_); refine boxM_ 2 #[.int .i16 a0_0, .int .i16 a0_1] 26 ?_; intro gb385 hg w8 hbox hb; have BK385 := Aside0.mk (hbox); have GW385 := ge_ HB hg; have GE385 := ge_ HB hg; replace HB := bs_ HB hb; clear hb hbox hg; obtain ⟨⟨hcz9_0, hcz9_1⟩, hfz9_0, hfz9_1⟩ := bq_ BK385) | ((with_reducible refine gate_callee (f := 30) rfl ?_); refine goM_ (some 7) Try.func30 #[.agg #[.int .i16 a0_0, .int .i16 a0_1]] ?_; (with_reducible refine (impl_isFrame.calls a0_0 a0_1 true _ A3.out).mono ?_); rintro e w10 ⟨rfl, hb⟩; refine ⟨_, rfl, ?_⟩; replace BK385 := bd_ BK385 hb; replace HB := bs_ HB hb; clear hb) | (go_at_call 31; (with_reducible refine (impl_ValidStone.calls k _ _ l1 true _ ?side1 ?side2 A5.out).mono ?_); (case side1 => exact kc_ (Kd.C_below HR1.out HB.out)); (case side2 => exact HC1.out); rintro e w11 ⟨rfl, hb⟩; replace BK385 := bd_ BK385 hb; replace HB := bs_ HB hb; clear hb; obtain ⟨⟨hcz12_0, hcz12_1⟩, hfz12_0, hfz12_1⟩ := bq_ BK385) | ((with_reducible refine gate_callee (f := 32) rfl ?_); refine goM_ (some 16) Try.func32 #[.agg #[.int .i16 a0_0, .int .i16 a0_1], .slice A1 l1.length c1] ?_; (with_reducible refine (impl_Frame_holdsAll.calls a0_0 a0_1 _ _ l1 t388 _ ?side1 ?side2 A7.out).mono ?_); (case side1 => exact kc_ (Kd.C_below HR1.out HB.out)); (case side2 => exact HC1.out); rintro e w13 ⟨rfl, hb⟩; refine ⟨_, rfl, ?_⟩; replace BK385 := bd_ BK385 hb; replace HB := bs_ HB hb; clear hb))
 go_ret2
 exact ⟨rt_, bl_ HB⟩
end Go.Proofs.Ytllfeehchiikoaa.PA
namespace Go.Proofs.Ytllfeehchiikoaa.PA
open Go.RowKit Go.Proofs.YtllfeehchiikoaaW.PrintWords Go.Proofs.YtllfeehchiikoaaW.PrintLast Go.Proofs.YtllfeehchiikoaaW.PrintMore
set_option linter.unusedVariables false
set_option linter.unusedSimpArgs false

/-! ### impl_DoOverlap: function 11 -/
def impl_DoOverlap.f (k : Nat) (l0 : List (S43)) (l1 : List (S43)) : Option (Bool × Int) := (impl_ValidStone.f k l0).bind fun t389 => (if t389 = true then ((impl_ValidStone.f k l1).bind fun t390 => (if t390 = true then ((impl_overlap.f l0 l1).bind fun t391 => (some (t391, 0))) else (some (false, 1)))) else (some (false, 1)))
theorem impl_DoOverlap.mono : ∀ a0 a1 k, LeO (impl_DoOverlap.f k a0 a1) (impl_DoOverlap.f (k + 1) a0 a1) := by
 intro a0 a1 k
 unfold impl_DoOverlap.f
 repeat' first
   | (with_reducible exact impl_ValidStone.mono _ _)
   | (with_reducible exact LeO.refl _)
   | (with_reducible exact LeO.none _)
   | (with_reducible refine LeO.ite ?_ ?_)
   | (with_reducible refine LeO.bind ?_ (fun _ => ?_))
set_option maxHeartbeats 8000000 in
set_option maxRecDepth 100000 in
theorem impl_DoOverlap.calls (k : Nat) (A0 : Option Addr) (c0 : Nat) (l0 : List (S43)) (A1 : Option Addr) (c1 : Nat) (l1 : List (S43)) (r1 : Bool) (r2 : Int) (w : World) (hr0 : Kd.C k43 w A0 l0.length l0) (hc0 : l0.length ≤ c0) (hr1 : Kd.C k43 w A1 l1.length l1) (hc1 : l1.length ≤ c1) (h : impl_DoOverlap.f k l0 l1 = some (r1, r2)) :
  Calls Try.prog 11 #[.slice A0 l0.length c0, .slice A1 l1.length c1] w fun e w' => e = .returned (.tuple #[.bool r1, .int .i64 r2]) ∧ Below w.heap.size w w' := by
 have HR0 := Aside0.mk hr0
 have HC0 := Aside0.mk hc0
 clear hr0 hc0
 have HR1 := Aside0.mk hr1
 have HC1 := Aside0.mk hc1
 clear hr1 hc1
 have HB := Aside0.mk (Below.refl w.heap.size w)
 have H : ((impl_ValidStone.f k l0).bind fun t389 => (if t389 = true then ((impl_ValidStone.f k l1).bind fun t390 => (if t390 = true then ((impl_overlap.f l0 l1).bind fun t391 => (some (t391, 0))) else (some (false, 1)))) else (some (false, 1)))) = some (r1, r2) := h
 clear h
 replace H := Option.bind_eq_some_iff.mp H
 obtain ⟨t389, A30, H⟩ := H
 (try dsimp only at H)
 have A3 := Aside0.mk A30
 clear A30
 rcases (Decidable.em (t389 = true)).symm with c4 | c4
 ·
  replace c4 := Bool.eq_false_iff.mpr c4
  subst c4
  replace H := gf_ H
  simp only [Option.some.injEq, Prod.mk.injEq] at H
  obtain ⟨rfl, rfl⟩ := H
  go_enter Try.func11, Try.ntmps11
  go_wp2_with (first | ((with_reducible refine gate_callee (f := 31) rfl ?_); refine goM_ (some 7) Try.func31 #[.slice A0 l0.length c0] ?_; (with_reducible refine (impl_ValidStone.calls k _ _ l0 false _ ?side1 ?side2 A3.out).mono ?_); (case side1 => exact kc_ HR0.out); (case side2 => exact HC0.out); rintro e w13 ⟨rfl, hb⟩; refine ⟨_, rfl, ?_⟩; replace HB := bs_ HB hb; clear hb))
  go_ret2
  exact ⟨rt_, bl_ HB⟩

 subst c4
 replace H := gt_ H
 replace H := Option.bind_eq_some_iff.mp H
 obtain ⟨t390, A50, H⟩ := H
 (try dsimp only at H)
 have A5 := Aside0.mk A50
 clear A50
 rcases (Decidable.em (t390 = true)).symm with c6 | c6
 ·
  replace c6 := Bool.eq_false_iff.mpr c6
  subst c6
  replace H := gf_ H
  simp only [Option.some.injEq, Prod.mk.injEq] at H
  obtain ⟨rfl, rfl⟩ := H
  go_enter Try.func11, Try.ntmps11
  go_wp2_with (first | ((with_reducible refine gate_callee (f := 31) rfl ?_); refine goM_ (some 7) Try.func31 #[.slice A0 l0.length c0] ?_; (with_reducible refine (impl_ValidStone.calls k _ _ l0 true _ ?side1 ?side2 A3.out).mono ?_); (case side1 => exact kc_ HR0.out); (case side2 => exact HC0.out); rintro e w11 ⟨rfl, hb⟩; refine ⟨_, rfl, ?_⟩; replace HB := bs_ HB hb; clear hb) | (go_at_call 31; (with_reducible refine (impl_ValidStone.calls k _ _ l1 false _ ?side1 ?side2 A5.out).mono ?_); (case side1 => exact kc_ (Kd.C_below HR1.out HB.out)); (case side2 => exact HC1.out); rintro e w12 ⟨rfl, hb⟩; replace HB := bs_ HB hb; clear hb))
  go_ret2
  exact ⟨rt_, bl_ HB⟩
 subst c6
 replace H := gt_ H
 replace H := Option.bind_eq_some_iff.mp H
 obtain ⟨t391, A70, H⟩ := H
 (try dsimp only at H)
 have A7 := Aside0.mk A70
 clear A70
 simp only [Option.some.injEq, Prod.mk.injEq] at H
 obtain ⟨rfl, rfl⟩ := H
 go_enter Try.func11, Try.ntmps11
 go_wp2_with (first | ((with_reducible refine gate_callee (f := 31) rfl ?_); refine goM_ (some 7) Try.func31 #[.slice A0 l0.length c0] ?_; (with_reducible refine (impl_ValidStone.calls k _ _ l0 true _ ?side1 ?side2 A3.out).mono ?_); (case side1 => exact kc_ HR0.out); (case side2 => exact HC0.out); rintro e w8 ⟨rfl, hb⟩; refine ⟨_, rfl, ?_⟩; replace HB := bs_ HB hb; clear hb) | (go_at_call 31; (with_reducible refine (impl_ValidStone.calls k _ _ l1 true _ ?side1 ?side2 A5.out).mono ?_); (case side1 => exact kc_ (Kd.C_below HR1.out HB.out)); (case side2 => exact HC1.out); rintro e w9 ⟨rfl, hb⟩; replace HB := bs_ HB hb; clear hb) | ((with_reducible refine gate_callee (f := 33) rfl ?_); refine goM_ (some 16) Try.func33 #[.slice A0 l0.length c0, .slice A1 l1.length c1] ?_; (with_reducible refine (impl_overlap.calls _ _ l0 _ _ l1 t391 _ ?side1 ?side2 ?side3 ?side4 A7.out).mono ?_); (case side1 => exact kc_ (Kd.C_below HR0.out HB.out)); (case side2 => exact HC0.out); (case side3 => exact kc_ (Kd.C_below HR1.out HB.out)); (case side4 => exact HC1.out); rintro e w10 ⟨rfl, hb⟩; refine ⟨_, rfl, ?_⟩; replace HB := bs_ HB hb; clear hb))
 go_ret2
 exact ⟨rt_, bl_ HB⟩
end Go.Proofs.Ytllfeehchiikoaa.PA
