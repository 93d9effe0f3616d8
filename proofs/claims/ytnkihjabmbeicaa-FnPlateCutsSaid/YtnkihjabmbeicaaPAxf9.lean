/- Pure functions, and that Go's functions come to them. -/
import Derived.Test.YtnkihjabmbeicaaPAx0
import Derived.Test.YtnkihjabmbeicaaPAxm8
import Derived.Test.YtnkihjabmbeicaaPAxf25
import Derived.Test.YtnkihjabmbeicaaPAxf28
import Derived.Test.YtnkihjabmbeicaaPAxgKinds
namespace Go.Proofs.Ytnkihjabmbeicaa.PA
open Go.RowKit Go.Proofs.YtnkihjabmbeicaaW.PrintWords Go.Proofs.YtnkihjabmbeicaaW.PrintLast Go.Proofs.YtnkihjabmbeicaaW.PrintMore
set_option linter.unusedVariables false
set_option linter.unusedSimpArgs false

/-! ### impl_BestValue: function 9 -/
def impl_BestValue.f (k : Nat) (a0 : Int) (a1 : Int) (l2 : List (S46)) : Option (Int × Int) := (impl_ValidKinds.f l2).bind fun t163 => ((impl_isPlate.f a0 a1).bind fun t164 => ((impl_codeOf.f t163 t164).bind fun t165 => (if t165 = 0 then ((impl_worthOf.f k a0 a1 l2).bind fun t166 => (if 0 ≤ a0 then (if a0 < 25 then (if 0 ≤ a1 then (if a1 < 25 then (some (rd t166 (a0 * 25 + a1), 0)) else (none)) else (none)) else (none)) else (none))) else (some (0, t165)))))
theorem impl_BestValue.mono : ∀ a0 a1 a2 k, LeO (impl_BestValue.f k a0 a1 a2) (impl_BestValue.f (k + 1) a0 a1 a2) := by
 intro a0 a1 a2 k
 unfold impl_BestValue.f
 repeat' first | (with_reducible first | exact impl_worthOf.mono _ _ _ _ | exact LeO.refl _ | exact LeO.none _ | refine LeO.ite ?_ ?_ | refine LeO.bind ?_ (fun _ => ?_))
set_option maxHeartbeats 8000000 in
set_option maxRecDepth 100000 in
theorem impl_BestValue.calls (k : Nat) (a0 : Int) (a1 : Int) (A2 : Option Addr) (c2 : Nat) (l2 : List (S46)) (r1 : Int) (r2 : Int) (w : World) (hr2 : Kd.C k46 w A2 l2.length l2) (hc2 : l2.length ≤ c2) (h : impl_BestValue.f k a0 a1 l2 = some (r1, r2)) :
  Calls Try.prog 9 #[.int .i64 a0, .int .i64 a1, .slice A2 l2.length c2] w fun e w' => e = .returned (.tuple #[.int .i64 r1, .int .i64 r2]) ∧ Below w.heap.size w w' := by
 have HR2 := Aside0.mk hr2
 have HC2 := Aside0.mk hc2
 clear hr2 hc2
 have HB := Aside0.mk (Below.refl w.heap.size w)
 have H : ((impl_ValidKinds.f l2).bind fun t163 => ((impl_isPlate.f a0 a1).bind fun t164 => ((impl_codeOf.f t163 t164).bind fun t165 => (if t165 = 0 then ((impl_worthOf.f k a0 a1 l2).bind fun t166 => (if 0 ≤ a0 then (if a0 < 25 then (if 0 ≤ a1 then (if a1 < 25 then (some (rd t166 (a0 * 25 + a1), 0)) else (none)) else (none)) else (none)) else (none))) else (some (0, t165)))))) = some (r1, r2) := h
 clear h
 obtain ⟨t163, A4, H⟩ := be_ H
 (try dsimp only at H)
 obtain ⟨t164, A5, H⟩ := be_ H
 (try dsimp only at H)
 obtain ⟨t165, A6, H⟩ := be_ H
 (try dsimp only at H)
 rcases (Decidable.em (t165 = 0)).symm with c7 | c7
 ·
  rw [if_neg c7] at H
  have c7b0 : (t165 == 0) = false := beq_eq_false_iff_ne.mpr c7
  have c7b1 : (t165 != 0) = true := bne_iff_ne.mpr c7
  simp only [Option.some.injEq, Prod.mk.injEq] at H
  obtain ⟨rfl, rfl⟩ := H
  go_enter Try.func9, Try.ntmps9
  go_wp2_with (first | ((with_reducible refine gate_callee (f := 12) rfl ?_); refine goM_ (some 10) Try.func12 #[.slice A2 l2.length c2] ?_; (with_reducible refine (impl_ValidKinds.calls _ _ l2 t163 _ ?side1 ?side2 A4.out).mono ?_); (case side1 => exact kc_ HR2.out); (case side2 => exact HC2.out); rintro e w16 ⟨rfl, hb⟩; refine ⟨_, rfl, ?_⟩; replace HB := bs_ HB hb; clear hb) | ((with_reducible refine gate_callee (f := 24) rfl ?_); refine goM_ (some 13) Try.func24 #[.int .i64 a0, .int .i64 a1] ?_; (with_reducible refine (impl_isPlate.calls a0 a1 t164 _ A5.out).mono ?_); rintro e w' ⟨rfl, ⟨nd, rfl⟩⟩; refine ⟨_, rfl, ?_⟩) | ((with_reducible refine gate_callee (f := 23) rfl ?_); refine goM_ (some 14) Try.func23 #[.bool t163, .bool t164] ?_; (with_reducible refine (impl_codeOf.calls t163 t164 t165 _ A6.out).mono ?_); rintro e w' ⟨rfl, ⟨nd, rfl⟩⟩; refine ⟨_, rfl, ?_⟩))
  go_ret2
  exact ⟨rt_, bl_ HB⟩

 rw [if_pos c7] at H
 have c7b0 : (t165 == 0) = true := beq_iff_eq.mpr c7
 have c7b1 : (t165 != 0) = false := bne_eq_false_iff_eq.mpr c7
 clear c7
 obtain ⟨t166, A8, H⟩ := be_ H
 (try dsimp only at H)
 obtain ⟨c9b0, H⟩ := gx_ H
 obtain ⟨c10b0, H⟩ := gx_ H
 obtain ⟨c11b0, H⟩ := gx_ H
 obtain ⟨c12b0, H⟩ := gx_ H
 simp only [Option.some.injEq, Prod.mk.injEq] at H
 obtain ⟨rfl, rfl⟩ := H
 go_enter Try.func9, Try.ntmps9
 go_wp2_with (first | ((with_reducible refine gate_callee (f := 12) rfl ?_); refine goM_ (some 10) Try.func12 #[.slice A2 l2.length c2] ?_; (with_reducible refine (impl_ValidKinds.calls _ _ l2 t163 _ ?side1 ?side2 A4.out).mono ?_); (case side1 => exact kc_ HR2.out); (case side2 => exact HC2.out); rintro e w13 ⟨rfl, hb⟩; refine ⟨_, rfl, ?_⟩; replace HB := bs_ HB hb; clear hb) | ((with_reducible refine gate_callee (f := 24) rfl ?_); refine goM_ (some 13) Try.func24 #[.int .i64 a0, .int .i64 a1] ?_; (with_reducible refine (impl_isPlate.calls a0 a1 t164 _ A5.out).mono ?_); rintro e w' ⟨rfl, ⟨nd, rfl⟩⟩; refine ⟨_, rfl, ?_⟩) | ((with_reducible refine gate_callee (f := 23) rfl ?_); refine goM_ (some 14) Try.func23 #[.bool t163, .bool t164] ?_; (with_reducible refine (impl_codeOf.calls t163 t164 t165 _ A6.out).mono ?_); rintro e w' ⟨rfl, ⟨nd, rfl⟩⟩; refine ⟨_, rfl, ?_⟩) | ((with_reducible refine gate_callee (f := 25) rfl ?_); refine goM_ (some 21) Try.func25 #[.int .i64 a0, .int .i64 a1, .slice A2 l2.length c2] ?_; (with_reducible refine (impl_worthOf.calls k a0 a1 _ _ l2 t166 _ ?side1 ?side2 A8.out).mono ?_); (case side1 => repeat (first | exact (Kd.C_below HR2.out (kB_ HB)) | (with_reducible refine Kd.C_alloc ?_ _) | (with_reducible refine Kd.C_drewN ?_ _) | (with_reducible refine Kd.C_drew ?_))); (case side2 => exact HC2.out); rintro e w14 ⟨g7, rfl, hO, hb⟩; refine ⟨_, rfl, ?_⟩; have n1_ := bs_ HB hb; have n0_ := Aside0.mk hO; clear HB hb hO; have HO_7 := n0_; have HB := n1_; clear n0_ n1_; have pi : 0 ≤ a0 := od_; have qi : a0 < 25 := od_; have pj : 0 ≤ a1 := od_; have qj : a1 < 25 := od_; have hx_0 := (spec_l04Worth.tab_cell HO_7.out a0 a1 pi qi pj qj).1; replace pi := eq_true pi; replace qi := eq_true qi; replace pj := eq_true pj; replace qj := eq_true qj))
 go_ret2
 exact ⟨rt_, bl_ HB⟩
end Go.Proofs.Ytnkihjabmbeicaa.PA
