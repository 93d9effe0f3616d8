/- Pure functions, and that Go's functions come to them. -/
import Derived.Test.YtmglnofmmgokkaaPAx0
import Derived.Test.YtmglnofmmgokkaaPAxgImpl
import Derived.Test.YtmglnofmmgokkaaPAxgImplO
import Derived.Test.YtmglnofmmgokkaaPAxgSpec
import Derived.Test.YtmglnofmmgokkaaPAxgSpecO
import Derived.Test.YtmglnofmmgokkaaPAxm22
import Derived.Test.YtmglnofmmgokkaaPAxf31
namespace Go.Proofs.Ytmglnofmmgokkaa.PA
open Go.RowKit Go.Proofs.YtmglnofmmgokkaaW.PrintWords Go.Proofs.YtmglnofmmgokkaaW.PrintLast Go.Proofs.YtmglnofmmgokkaaW.PrintMore
set_option linter.unusedVariables false
set_option linter.unusedSimpArgs false

/-! ### impl_DoOverlap: function 6 -/
def impl_DoOverlap.f (k : Nat) (l0 : List (S34)) (l1 : List (S34)) : Option (Bool × Int) := (impl_ValidStone.f k l0).bind fun t249 => (if t249 = true then ((impl_ValidStone.f k l1).bind fun t250 => (if t250 = true then ((impl_overlap.f l0 l1).bind fun t251 => (some (t251, 0))) else (some (false, 1)))) else (some (false, 1)))
theorem impl_DoOverlap.mono : ∀ a0 a1 k, LeO (impl_DoOverlap.f k a0 a1) (impl_DoOverlap.f (k + 1) a0 a1) := by
 intro a0 a1 k
 unfold impl_DoOverlap.f
 repeat' first | (with_reducible first | exact impl_ValidStone.mono _ _ | exact LeO.refl _ | exact LeO.none _ | refine LeO.ite ?_ ?_ | refine LeO.bind ?_ (fun _ => ?_))
set_option maxHeartbeats 8000000 in
set_option maxRecDepth 100000 in
theorem impl_DoOverlap.calls (k : Nat) (A0 : Option Addr) (c0 : Nat) (l0 : List (S34)) (A1 : Option Addr) (c1 : Nat) (l1 : List (S34)) (r1 : Bool) (r2 : Int) (w : World) (hr0 : Kd.C k34 w A0 l0.length l0) (hc0 : l0.length ≤ c0) (hr1 : Kd.C k34 w A1 l1.length l1) (hc1 : l1.length ≤ c1) (h : impl_DoOverlap.f k l0 l1 = some (r1, r2)) :
  Calls Try.prog 6 #[.slice A0 l0.length c0, .slice A1 l1.length c1] w fun e w' => e = .returned (.tuple #[.bool r1, .int .i64 r2]) ∧ Below w.heap.size w w' := by
 have HR0 := Aside0.mk hr0
 have HC0 := Aside0.mk hc0
 clear hr0 hc0
 have HR1 := Aside0.mk hr1
 have HC1 := Aside0.mk hc1
 clear hr1 hc1
 have HB := Aside0.mk (Below.refl w.heap.size w)
 have H : ((impl_ValidStone.f k l0).bind fun t249 => (if t249 = true then ((impl_ValidStone.f k l1).bind fun t250 => (if t250 = true then ((impl_overlap.f l0 l1).bind fun t251 => (some (t251, 0))) else (some (false, 1)))) else (some (false, 1)))) = some (r1, r2) := h
 clear h
 obtain ⟨t249, A3, H⟩ := be_ H
 (try dsimp only at H)
 rcases (Decidable.em (t249 = true)).symm with c4 | c4
 ·
  replace c4 := Bool.eq_false_iff.mpr c4
  subst c4
  replace H := gf_ H
  simp only [Option.some.injEq, Prod.mk.injEq] at H
  obtain ⟨rfl, rfl⟩ := H
  go_enter Try.func6, Try.ntmps6
  go_wp2_with (first | ((with_reducible refine gate_callee (f := 25) rfl ?_); refine goM_ (some 7) Try.func25 #[.slice A0 l0.length c0] ?_; (with_reducible refine (impl_ValidStone.calls k _ _ l0 false _ ?side1 ?side2 A3.out).mono ?_); (case side1 => exact kc_ HR0.out); (case side2 => exact HC0.out); rintro e w13 ⟨rfl, hb⟩; refine ⟨_, rfl, ?_⟩; replace HB := bs_ HB hb; clear hb))
  go_ret2
  exact ⟨rt_, bl_ HB⟩

 subst c4
 replace H := gt_ H
 obtain ⟨t250, A5, H⟩ := be_ H
 (try dsimp only at H)
 rcases (Decidable.em (t250 = true)).symm with c6 | c6
 ·
  replace c6 := Bool.eq_false_iff.mpr c6
  subst c6
  replace H := gf_ H
  simp only [Option.some.injEq, Prod.mk.injEq] at H
  obtain ⟨rfl, rfl⟩ := H
  go_enter Try.func6, Try.ntmps6
  go_wp2_with (first | ((with_reducible refine gate_callee (f := 25) rfl ?_); refine goM_ (some 7) Try.func25 #[.slice A0 l0.length c0] ?_; (with_reducible refine (impl_ValidStone.calls k _ _ l0 true _ ?side1 ?side2 A3.out).mono ?_); (case side1 => exact kc_ HR0.out); (case side2 => exact HC0.out); rintro e w11 ⟨rfl, hb⟩; refine ⟨_, rfl, ?_⟩; replace HB := bs_ HB hb; clear hb) | (go_at_call 25; (with_reducible refine (impl_ValidStone.calls k _ _ l1 false _ ?side1 ?side2 A5.out).mono ?_); (case side1 => exact kc_ (Kd.C_below HR1.out HB.out)); (case side2 => exact HC1.out); rintro e w12 ⟨rfl, hb⟩; replace HB := bs_ HB hb; clear hb))
  go_ret2
  exact ⟨rt_, bl_ HB⟩
 subst c6
 replace H := gt_ H
 obtain ⟨t251, A7, H⟩ := be_ H
 (try dsimp only at H)
 simp only [Option.some.injEq, Prod.mk.injEq] at H
 obtain ⟨rfl, rfl⟩ := H
 go_enter Try.func6, Try.ntmps6
 go_wp2_with (first | ((with_reducible refine gate_callee (f := 25) rfl ?_); refine goM_ (some 7) Try.func25 #[.slice A0 l0.length c0] ?_; (with_reducible refine (impl_ValidStone.calls k _ _ l0 true _ ?side1 ?side2 A3.out).mono ?_); (case side1 => exact kc_ HR0.out); (case side2 => exact HC0.out); rintro e w8 ⟨rfl, hb⟩; refine ⟨_, rfl, ?_⟩; replace HB := bs_ HB hb; clear hb) | (go_at_call 25; (with_reducible refine (impl_ValidStone.calls k _ _ l1 true _ ?side1 ?side2 A5.out).mono ?_); (case side1 => exact kc_ (Kd.C_below HR1.out HB.out)); (case side2 => exact HC1.out); rintro e w9 ⟨rfl, hb⟩; replace HB := bs_ HB hb; clear hb) | ((with_reducible refine gate_callee (f := 26) rfl ?_); refine goM_ (some 16) Try.func26 #[.slice A0 l0.length c0, .slice A1 l1.length c1] ?_; (with_reducible refine (impl_overlap.calls _ _ l0 _ _ l1 t251 _ ?side1 ?side2 ?side3 ?side4 A7.out).mono ?_); (case side1 => exact kc_ (Kd.C_below HR0.out HB.out)); (case side2 => exact HC0.out); (case side3 => exact kc_ (Kd.C_below HR1.out HB.out)); (case side4 => exact HC1.out); rintro e w10 ⟨rfl, hb⟩; refine ⟨_, rfl, ?_⟩; replace HB := bs_ HB hb; clear hb))
 go_ret2
 exact ⟨rt_, bl_ HB⟩

/-! ### spec_DoOverlap: function 7 -/
def spec_DoOverlap.f (k : Nat) (l0 : List (S34)) (l1 : List (S34)) : Option (Bool × Int) := (spec_l03Ok.f k l0).bind fun t268 => (if t268 = true then ((spec_l03Ok.f k l1).bind fun t269 => (if t269 = true then ((spec_l03Over.f k l0 l1).bind fun t270 => (some (t270, 0))) else (some (false, 1)))) else (some (false, 1)))
theorem spec_DoOverlap.mono : ∀ a0 a1 k, LeO (spec_DoOverlap.f k a0 a1) (spec_DoOverlap.f (k + 1) a0 a1) := by
 intro a0 a1 k
 unfold spec_DoOverlap.f
 repeat' first | (with_reducible first | exact spec_l03Ok.mono _ _ | exact spec_l03Over.mono _ _ _ | exact LeO.refl _ | exact LeO.none _ | refine LeO.ite ?_ ?_ | refine LeO.bind ?_ (fun _ => ?_))
set_option maxHeartbeats 8000000 in
set_option maxRecDepth 100000 in
theorem spec_DoOverlap.calls (k : Nat) (A0 : Option Addr) (c0 : Nat) (l0 : List (S34)) (A1 : Option Addr) (c1 : Nat) (l1 : List (S34)) (r1 : Bool) (r2 : Int) (w : World) (hr0 : Kd.C k34 w A0 l0.length l0) (hc0 : l0.length ≤ c0) (hr1 : Kd.C k34 w A1 l1.length l1) (hc1 : l1.length ≤ c1) (h : spec_DoOverlap.f k l0 l1 = some (r1, r2)) :
  Calls Try.prog 7 #[.slice A0 l0.length c0, .slice A1 l1.length c1] w fun e w' => e = .returned (.tuple #[.bool r1, .int .i64 r2]) ∧ Below w.heap.size w w' := by
 have HR0 := Aside0.mk hr0
 have HC0 := Aside0.mk hc0
 clear hr0 hc0
 have HR1 := Aside0.mk hr1
 have HC1 := Aside0.mk hc1
 clear hr1 hc1
 have HB := Aside0.mk (Below.refl w.heap.size w)
 have H : ((spec_l03Ok.f k l0).bind fun t268 => (if t268 = true then ((spec_l03Ok.f k l1).bind fun t269 => (if t269 = true then ((spec_l03Over.f k l0 l1).bind fun t270 => (some (t270, 0))) else (some (false, 1)))) else (some (false, 1)))) = some (r1, r2) := h
 clear h
 obtain ⟨t268, A3, H⟩ := be_ H
 (try dsimp only at H)
 rcases (Decidable.em (t268 = true)).symm with c4 | c4
 ·
  replace c4 := Bool.eq_false_iff.mpr c4
  subst c4
  replace H := gf_ H
  simp only [Option.some.injEq, Prod.mk.injEq] at H
  obtain ⟨rfl, rfl⟩ := H
  go_enter Try.func7, Try.ntmps7
  go_wp2_with (first | ((with_reducible refine gate_callee (f := 27) rfl ?_); refine goM_ (some 7) Try.func27 #[.slice A0 l0.length c0] ?_; (with_reducible refine (spec_l03Ok.calls k _ _ l0 false _ ?side1 ?side2 A3.out).mono ?_); (case side1 => exact kc_ HR0.out); (case side2 => exact HC0.out); rintro e w13 ⟨rfl, hb⟩; refine ⟨_, rfl, ?_⟩; replace HB := bs_ HB hb; clear hb))
  go_ret2
  exact ⟨rt_, bl_ HB⟩

 subst c4
 replace H := gt_ H
 obtain ⟨t269, A5, H⟩ := be_ H
 (try dsimp only at H)
 rcases (Decidable.em (t269 = true)).symm with c6 | c6
 ·
  replace c6 := Bool.eq_false_iff.mpr c6
  subst c6
  replace H := gf_ H
  simp only [Option.some.injEq, Prod.mk.injEq] at H
  obtain ⟨rfl, rfl⟩ := H
  go_enter Try.func7, Try.ntmps7
  go_wp2_with (first | ((with_reducible refine gate_callee (f := 27) rfl ?_); refine goM_ (some 7) Try.func27 #[.slice A0 l0.length c0] ?_; (with_reducible refine (spec_l03Ok.calls k _ _ l0 true _ ?side1 ?side2 A3.out).mono ?_); (case side1 => exact kc_ HR0.out); (case side2 => exact HC0.out); rintro e w11 ⟨rfl, hb⟩; refine ⟨_, rfl, ?_⟩; replace HB := bs_ HB hb; clear hb) | (go_at_call 27; (with_reducible refine (spec_l03Ok.calls k _ _ l1 false _ ?side1 ?side2 A5.out).mono ?_); (case side1 => exact kc_ (Kd.C_below HR1.out HB.out)); (case side2 => exact HC1.out); rintro e w12 ⟨rfl, hb⟩; replace HB := bs_ HB hb; clear hb))
  go_ret2
  exact ⟨rt_, bl_ HB⟩
 subst c6
 replace H := gt_ H
 obtain ⟨t270, A7, H⟩ := be_ H
 (try dsimp only at H)
 simp only [Option.some.injEq, Prod.mk.injEq] at H
 obtain ⟨rfl, rfl⟩ := H
 go_enter Try.func7, Try.ntmps7
 go_wp2_with (first | ((with_reducible refine gate_callee (f := 27) rfl ?_); refine goM_ (some 7) Try.func27 #[.slice A0 l0.length c0] ?_; (with_reducible refine (spec_l03Ok.calls k _ _ l0 true _ ?side1 ?side2 A3.out).mono ?_); (case side1 => exact kc_ HR0.out); (case side2 => exact HC0.out); rintro e w8 ⟨rfl, hb⟩; refine ⟨_, rfl, ?_⟩; replace HB := bs_ HB hb; clear hb) | (go_at_call 27; (with_reducible refine (spec_l03Ok.calls k _ _ l1 true _ ?side1 ?side2 A5.out).mono ?_); (case side1 => exact kc_ (Kd.C_below HR1.out HB.out)); (case side2 => exact HC1.out); rintro e w9 ⟨rfl, hb⟩; replace HB := bs_ HB hb; clear hb) | ((with_reducible refine gate_callee (f := 28) rfl ?_); refine goM_ (some 16) Try.func28 #[.slice A0 l0.length c0, .slice A1 l1.length c1] ?_; (with_reducible refine (spec_l03Over.calls k _ _ l0 _ _ l1 t270 _ ?side1 ?side2 ?side3 ?side4 A7.out).mono ?_); (case side1 => exact kc_ (Kd.C_below HR0.out HB.out)); (case side2 => exact HC0.out); (case side3 => exact kc_ (Kd.C_below HR1.out HB.out)); (case side4 => exact HC1.out); rintro e w10 ⟨rfl, hb⟩; refine ⟨_, rfl, ?_⟩; replace HB := bs_ HB hb; clear hb))
 go_ret2
 exact ⟨rt_, bl_ HB⟩

/-! ### spec_SeamSquare: function 11 -/
def spec_SeamSquare.f (k : Nat) (l0 : List (S34)) (l1 : List (S34)) : Option (Int × Int) := (spec_l03Ok.f k l0).bind fun t345 => (if t345 = true then ((spec_l03Ok.f k l1).bind fun t346 => (if t346 = true then ((spec_l03Seams.f k l0 l1).bind fun t347 => (some (t347, 0))) else (some (0, 1)))) else (some (0, 1)))
theorem spec_SeamSquare.mono : ∀ a0 a1 k, LeO (spec_SeamSquare.f k a0 a1) (spec_SeamSquare.f (k + 1) a0 a1) := by
 intro a0 a1 k
 unfold spec_SeamSquare.f
 repeat' first | (with_reducible first | exact spec_l03Ok.mono _ _ | exact spec_l03Seams.mono _ _ _ | exact LeO.refl _ | exact LeO.none _ | refine LeO.ite ?_ ?_ | refine LeO.bind ?_ (fun _ => ?_))
set_option maxHeartbeats 8000000 in
set_option maxRecDepth 100000 in
theorem spec_SeamSquare.calls (k : Nat) (A0 : Option Addr) (c0 : Nat) (l0 : List (S34)) (A1 : Option Addr) (c1 : Nat) (l1 : List (S34)) (r1 : Int) (r2 : Int) (w : World) (hr0 : Kd.C k34 w A0 l0.length l0) (hc0 : l0.length ≤ c0) (hr1 : Kd.C k34 w A1 l1.length l1) (hc1 : l1.length ≤ c1) (h : spec_SeamSquare.f k l0 l1 = some (r1, r2)) :
  Calls Try.prog 11 #[.slice A0 l0.length c0, .slice A1 l1.length c1] w fun e w' => e = .returned (.tuple #[.int .i64 r1, .int .i64 r2]) ∧ Below w.heap.size w w' := by
 have HR0 := Aside0.mk hr0
 have HC0 := Aside0.mk hc0
 clear hr0 hc0
 have HR1 := Aside0.mk hr1
 have HC1 := Aside0.mk hc1
 clear hr1 hc1
 have HB := Aside0.mk (Below.refl w.heap.size w)
 have H : ((spec_l03Ok.f k l0).bind fun t345 => (if t345 = true then ((spec_l03Ok.f k l1).bind fun t346 => (if t346 = true then ((spec_l03Seams.f k l0 l1).bind fun t347 => (some (t347, 0))) else (some (0, 1)))) else (some (0, 1)))) = some (r1, r2) := h
 clear h
 obtain ⟨t345, A3, H⟩ := be_ H
 (try dsimp only at H)
 rcases (Decidable.em (t345 = true)).symm with c4 | c4
 ·
  replace c4 := Bool.eq_false_iff.mpr c4
  subst c4
  replace H := gf_ H
  simp only [Option.some.injEq, Prod.mk.injEq] at H
  obtain ⟨rfl, rfl⟩ := H
  go_enter Try.func11, Try.ntmps11
  go_wp2_with (first | ((with_reducible refine gate_callee (f := 27) rfl ?_); refine goM_ (some 7) Try.func27 #[.slice A0 l0.length c0] ?_; (with_reducible refine (spec_l03Ok.calls k _ _ l0 false _ ?side1 ?side2 A3.out).mono ?_); (case side1 => exact kc_ HR0.out); (case side2 => exact HC0.out); rintro e w13 ⟨rfl, hb⟩; refine ⟨_, rfl, ?_⟩; replace HB := bs_ HB hb; clear hb))
  go_ret2
  exact ⟨rt_, bl_ HB⟩

 subst c4
 replace H := gt_ H
 obtain ⟨t346, A5, H⟩ := be_ H
 (try dsimp only at H)
 rcases (Decidable.em (t346 = true)).symm with c6 | c6
 ·
  replace c6 := Bool.eq_false_iff.mpr c6
  subst c6
  replace H := gf_ H
  simp only [Option.some.injEq, Prod.mk.injEq] at H
  obtain ⟨rfl, rfl⟩ := H
  go_enter Try.func11, Try.ntmps11
  go_wp2_with (first | ((with_reducible refine gate_callee (f := 27) rfl ?_); refine goM_ (some 7) Try.func27 #[.slice A0 l0.length c0] ?_; (with_reducible refine (spec_l03Ok.calls k _ _ l0 true _ ?side1 ?side2 A3.out).mono ?_); (case side1 => exact kc_ HR0.out); (case side2 => exact HC0.out); rintro e w11 ⟨rfl, hb⟩; refine ⟨_, rfl, ?_⟩; replace HB := bs_ HB hb; clear hb) | (go_at_call 27; (with_reducible refine (spec_l03Ok.calls k _ _ l1 false _ ?side1 ?side2 A5.out).mono ?_); (case side1 => exact kc_ (Kd.C_below HR1.out HB.out)); (case side2 => exact HC1.out); rintro e w12 ⟨rfl, hb⟩; replace HB := bs_ HB hb; clear hb))
  go_ret2
  exact ⟨rt_, bl_ HB⟩
 subst c6
 replace H := gt_ H
 obtain ⟨t347, A7, H⟩ := be_ H
 (try dsimp only at H)
 simp only [Option.some.injEq, Prod.mk.injEq] at H
 obtain ⟨rfl, rfl⟩ := H
 go_enter Try.func11, Try.ntmps11
 go_wp2_with (first | ((with_reducible refine gate_callee (f := 27) rfl ?_); refine goM_ (some 7) Try.func27 #[.slice A0 l0.length c0] ?_; (with_reducible refine (spec_l03Ok.calls k _ _ l0 true _ ?side1 ?side2 A3.out).mono ?_); (case side1 => exact kc_ HR0.out); (case side2 => exact HC0.out); rintro e w8 ⟨rfl, hb⟩; refine ⟨_, rfl, ?_⟩; replace HB := bs_ HB hb; clear hb) | (go_at_call 27; (with_reducible refine (spec_l03Ok.calls k _ _ l1 true _ ?side1 ?side2 A5.out).mono ?_); (case side1 => exact kc_ (Kd.C_below HR1.out HB.out)); (case side2 => exact HC1.out); rintro e w9 ⟨rfl, hb⟩; replace HB := bs_ HB hb; clear hb) | ((with_reducible refine gate_callee (f := 32) rfl ?_); refine goM_ (some 16) Try.func32 #[.slice A0 l0.length c0, .slice A1 l1.length c1] ?_; (with_reducible refine (spec_l03Seams.calls k _ _ l0 _ _ l1 t347 _ ?side1 ?side2 ?side3 ?side4 A7.out).mono ?_); (case side1 => exact kc_ (Kd.C_below HR0.out HB.out)); (case side2 => exact HC0.out); (case side3 => exact kc_ (Kd.C_below HR1.out HB.out)); (case side4 => exact HC1.out); rintro e w10 ⟨rfl, hb⟩; refine ⟨_, rfl, ?_⟩; replace HB := bs_ HB hb; clear hb))
 go_ret2
 exact ⟨rt_, bl_ HB⟩

/-! ### impl_SeamSquare: function 10 -/
def impl_SeamSquare.f (k : Nat) (l0 : List (S34)) (l1 : List (S34)) : Option (Int × Int) := (impl_ValidStone.f k l0).bind fun t303 => (if t303 = true then ((impl_ValidStone.f k l1).bind fun t304 => (if t304 = true then ((impl_seam.f k l0 l1).bind fun t305 => (some (t305, 0))) else (some (0, 1)))) else (some (0, 1)))
theorem impl_SeamSquare.mono : ∀ a0 a1 k, LeO (impl_SeamSquare.f k a0 a1) (impl_SeamSquare.f (k + 1) a0 a1) := by
 intro a0 a1 k
 unfold impl_SeamSquare.f
 repeat' first | (with_reducible first | exact impl_ValidStone.mono _ _ | exact impl_seam.mono _ _ _ | exact LeO.refl _ | exact LeO.none _ | refine LeO.ite ?_ ?_ | refine LeO.bind ?_ (fun _ => ?_))
set_option maxHeartbeats 8000000 in
set_option maxRecDepth 100000 in
theorem impl_SeamSquare.calls (k : Nat) (A0 : Option Addr) (c0 : Nat) (l0 : List (S34)) (A1 : Option Addr) (c1 : Nat) (l1 : List (S34)) (r1 : Int) (r2 : Int) (w : World) (hr0 : Kd.C k34 w A0 l0.length l0) (hc0 : l0.length ≤ c0) (hr1 : Kd.C k34 w A1 l1.length l1) (hc1 : l1.length ≤ c1) (h : impl_SeamSquare.f k l0 l1 = some (r1, r2)) :
  Calls Try.prog 10 #[.slice A0 l0.length c0, .slice A1 l1.length c1] w fun e w' => e = .returned (.tuple #[.int .i64 r1, .int .i64 r2]) ∧ Below w.heap.size w w' := by
 have HR0 := Aside0.mk hr0
 have HC0 := Aside0.mk hc0
 clear hr0 hc0
 have HR1 := Aside0.mk hr1
 have HC1 := Aside0.mk hc1
 clear hr1 hc1
 have HB := Aside0.mk (Below.refl w.heap.size w)
 have H : ((impl_ValidStone.f k l0).bind fun t303 => (if t303 = true then ((impl_ValidStone.f k l1).bind fun t304 => (if t304 = true then ((impl_seam.f k l0 l1).bind fun t305 => (some (t305, 0))) else (some (0, 1)))) else (some (0, 1)))) = some (r1, r2) := h
 clear h
 obtain ⟨t303, A3, H⟩ := be_ H
 (try dsimp only at H)
 rcases (Decidable.em (t303 = true)).symm with c4 | c4
 ·
  replace c4 := Bool.eq_false_iff.mpr c4
  subst c4
  replace H := gf_ H
  simp only [Option.some.injEq, Prod.mk.injEq] at H
  obtain ⟨rfl, rfl⟩ := H
  go_enter Try.func10, Try.ntmps10
  go_wp2_with (first | ((with_reducible refine gate_callee (f := 25) rfl ?_); refine goM_ (some 7) Try.func25 #[.slice A0 l0.length c0] ?_; (with_reducible refine (impl_ValidStone.calls k _ _ l0 false _ ?side1 ?side2 A3.out).mono ?_); (case side1 => exact kc_ HR0.out); (case side2 => exact HC0.out); rintro e w13 ⟨rfl, hb⟩; refine ⟨_, rfl, ?_⟩; replace HB := bs_ HB hb; clear hb))
  go_ret2
  exact ⟨rt_, bl_ HB⟩

 subst c4
 replace H := gt_ H
 obtain ⟨t304, A5, H⟩ := be_ H
 (try dsimp only at H)
 rcases (Decidable.em (t304 = true)).symm with c6 | c6
 ·
  replace c6 := Bool.eq_false_iff.mpr c6
  subst c6
  replace H := gf_ H
  simp only [Option.some.injEq, Prod.mk.injEq] at H
  obtain ⟨rfl, rfl⟩ := H
  go_enter Try.func10, Try.ntmps10
  go_wp2_with (first | ((with_reducible refine gate_callee (f := 25) rfl ?_); refine goM_ (some 7) Try.func25 #[.slice A0 l0.length c0] ?_; (with_reducible refine (impl_ValidStone.calls k _ _ l0 true _ ?side1 ?side2 A3.out).mono ?_); (case side1 => exact kc_ HR0.out); (case side2 => exact HC0.out); rintro e w11 ⟨rfl, hb⟩; refine ⟨_, rfl, ?_⟩; replace HB := bs_ HB hb; clear hb) | (go_at_call 25; (with_reducible refine (impl_ValidStone.calls k _ _ l1 false _ ?side1 ?side2 A5.out).mono ?_); (case side1 => exact kc_ (Kd.C_below HR1.out HB.out)); (case side2 => exact HC1.out); rintro e w12 ⟨rfl, hb⟩; replace HB := bs_ HB hb; clear hb))
  go_ret2
  exact ⟨rt_, bl_ HB⟩
 subst c6
 replace H := gt_ H
 obtain ⟨t305, A7, H⟩ := be_ H
 (try dsimp only at H)
 simp only [Option.some.injEq, Prod.mk.injEq] at H
 obtain ⟨rfl, rfl⟩ := H
 go_enter Try.func10, Try.ntmps10
 go_wp2_with (first | ((with_reducible refine gate_callee (f := 25) rfl ?_); refine goM_ (some 7) Try.func25 #[.slice A0 l0.length c0] ?_; (with_reducible refine (impl_ValidStone.calls k _ _ l0 true _ ?side1 ?side2 A3.out).mono ?_); (case side1 => exact kc_ HR0.out); (case side2 => exact HC0.out); rintro e w8 ⟨rfl, hb⟩; refine ⟨_, rfl, ?_⟩; replace HB := bs_ HB hb; clear hb) | (go_at_call 25; (with_reducible refine (impl_ValidStone.calls k _ _ l1 true _ ?side1 ?side2 A5.out).mono ?_); (case side1 => exact kc_ (Kd.C_below HR1.out HB.out)); (case side2 => exact HC1.out); rintro e w9 ⟨rfl, hb⟩; replace HB := bs_ HB hb; clear hb) | ((with_reducible refine gate_callee (f := 31) rfl ?_); refine goM_ (some 16) Try.func31 #[.slice A0 l0.length c0, .slice A1 l1.length c1] ?_; (with_reducible refine (impl_seam.calls k _ _ l0 _ _ l1 t305 _ ?side1 ?side2 ?side3 ?side4 A7.out).mono ?_); (case side1 => exact kc_ (Kd.C_below HR0.out HB.out)); (case side2 => exact HC0.out); (case side3 => exact kc_ (Kd.C_below HR1.out HB.out)); (case side4 => exact HC1.out); rintro e w10 ⟨rfl, hb⟩; refine ⟨_, rfl, ?_⟩; replace HB := bs_ HB hb; clear hb))
 go_ret2
 exact ⟨rt_, bl_ HB⟩
end Go.Proofs.Ytmglnofmmgokkaa.PA
