/- Pure functions, and that Go's functions come to them. -/
import Derived.Test.YtnkihjabmbeicaaPAx0
import Derived.Test.YtnkihjabmbeicaaPAxf33
import Derived.Test.YtnkihjabmbeicaaPAxm11
import Derived.Test.YtnkihjabmbeicaaPAxf36
namespace Go.Proofs.Ytnkihjabmbeicaa.PA
open Go.RowKit Go.Proofs.YtnkihjabmbeicaaW.PrintWords Go.Proofs.YtnkihjabmbeicaaW.PrintLast Go.Proofs.YtnkihjabmbeicaaW.PrintMore
set_option linter.unusedVariables false
set_option linter.unusedSimpArgs false

/-! ### impl_ValueOf: function 13 -/
def impl_ValueOf.f (k : Nat) (a0 : Int) (a1 : Int) (l2 : List (S46)) (l3 : List (S48)) : Option (Int × Int) := (impl_summed.f (fun c0 c1 c2 c3 s0 s1 => impl_ValueOf_1.f c0 c1 c2 c3 s0 s1 l2) k a0 a1 l2 l3).bind fun bt271 => (some (bt271.1, bt271.2))
theorem impl_ValueOf.mono : ∀ a0 a1 a2 a3 k, LeO (impl_ValueOf.f k a0 a1 a2 a3) (impl_ValueOf.f (k + 1) a0 a1 a2 a3) := by
 intro a0 a1 a2 a3 k
 unfold impl_ValueOf.f
 repeat' first | (with_reducible first | exact impl_summed.mono _ _ _ _ _ _ | exact LeO.refl _ | exact LeO.none _ | refine LeO.ite ?_ ?_ | refine LeO.bind ?_ (fun _ => ?_))
set_option maxHeartbeats 8000000 in
set_option maxRecDepth 100000 in
theorem impl_ValueOf.calls (k : Nat) (a0 : Int) (a1 : Int) (A2 : Option Addr) (c2 : Nat) (l2 : List (S46)) (A3 : Option Addr) (c3 : Nat) (l3 : List (S48)) (r1 : Int) (r2 : Int) (w : World) (hr2 : Kd.C k46 w A2 l2.length l2) (hc2 : l2.length ≤ c2) (hr3 : Kd.C k48 w A3 l3.length l3) (hc3 : l3.length ≤ c3) (h : impl_ValueOf.f k a0 a1 l2 l3 = some (r1, r2)) :
  Calls Try.prog 13 #[.int .i64 a0, .int .i64 a1, .slice A2 l2.length c2, .slice A3 l3.length c3] w fun e w' => e = .returned (.tuple #[.int .i64 r1, .int .i64 r2]) ∧ Below w.heap.size w w' := by
 have HR2 := Aside0.mk hr2
 have HC2 := Aside0.mk hc2
 clear hr2 hc2
 have HR3 := Aside0.mk hr3
 have HC3 := Aside0.mk hc3
 clear hr3 hc3
 have HB := Aside0.mk (Below.refl w.heap.size w)
 have H : ((impl_summed.f (fun c0 c1 c2 c3 s0 s1 => impl_ValueOf_1.f c0 c1 c2 c3 s0 s1 l2) k a0 a1 l2 l3).bind fun bt271 => (some (bt271.1, bt271.2))) = some (r1, r2) := h
 clear h
 obtain ⟨⟨t271, t272⟩, A5, H⟩ := be_ H
 (try dsimp only at H)
 simp only [Option.some.injEq, Prod.mk.injEq] at H
 obtain ⟨rfl, rfl⟩ := H
 go_enter Try.func13, Try.ntmps13
 go_wp2_with (first | ((with_reducible refine gate_dst (N := 6) rfl ?_); refine boxM_ 6 #[.slice A2 l2.length c2] 24 ?_; intro gb270 hg w6 hbox hb; have BK270 := Aside0.mk (hbox); have GW270 := ge_ HB hg; have GE270 := ge_ HB hg; replace HB := bs_ HB hb; clear hb hbox hg; have hcz7_0 : w6.cell? ⟨gb270, 0, none⟩ = some (.slice A2 l2.length c2) := (blk_cell BK270.out 0).trans rfl; have hfz7_0 := blk_frozen BK270.out 0) | ((with_reducible refine gate_callee (f := 33) rfl ?_); refine goM_ (some 15) Try.func33 #[.int .i64 a0, .int .i64 a1, .slice A2 l2.length c2, .slice A3 l3.length c3, .func (.func 34) #[] #[.pointer (some ⟨gb270, 0, none⟩)]] ?_; (refine (impl_summed.calls (fun c0 c1 c2 c3 s0 s1 => impl_ValueOf_1.f c0 c1 c2 c3 s0 s1 l2) 34 #[.pointer (some ⟨gb270, 0, none⟩)] _ (enters_of Try.func34 (by kernel_rfl) rfl) (fun c0 c1 c2 c3 s0 s1 r W hbW hx => impl_ValueOf_1.calls c0 c1 c2 c3 s0 s1 _ _ l2 r W gb270 (blk_below BK270.out hbW) (Kd.C_below (Kd.C_below HR2.out HB.out) hbW) HC2.out hx) k a0 a1 _ _ l2 _ _ l3 t271 t272 ?side1 ?side2 ?side3 ?side4 A5.out).mono ?_); (case side1 => exact kc_ (Kd.C_below HR2.out HB.out)); (case side2 => exact HC2.out); (case side3 => exact kc_ (Kd.C_below HR3.out HB.out)); (case side4 => exact HC3.out); rintro e w8 ⟨rfl, hb⟩; refine ⟨_, rfl, ?_⟩; replace BK270 := bd_ BK270 hb; replace HB := bs_ HB hb; clear hb))
 go_ret2
 exact ⟨rt_, k1_ HB GE270⟩



/-! ### impl_SizesOf: function 16 -/
def impl_SizesOf.f (k : Nat) (a0 : Int) (a1 : Int) (l2 : List (S46)) (l3 : List (S48)) : Option ((List (S49)) × Int) := (impl_sizes.f k a0 a1 l2 l3).bind fun bt212 => (if bt212.2 = true then (some (bt212.1, 0)) else (some (([] : List (S49)), 1)))
theorem impl_SizesOf.mono : ∀ a0 a1 a2 a3 k, LeO (impl_SizesOf.f k a0 a1 a2 a3) (impl_SizesOf.f (k + 1) a0 a1 a2 a3) := by
 intro a0 a1 a2 a3 k
 unfold impl_SizesOf.f
 repeat' first | (with_reducible first | exact impl_sizes.mono _ _ _ _ _ | exact LeO.refl _ | exact LeO.none _ | refine LeO.ite ?_ ?_ | refine LeO.bind ?_ (fun _ => ?_))
set_option maxHeartbeats 8000000 in
set_option maxRecDepth 100000 in
theorem impl_SizesOf.calls (k : Nat) (a0 : Int) (a1 : Int) (A2 : Option Addr) (c2 : Nat) (l2 : List (S46)) (A3 : Option Addr) (c3 : Nat) (l3 : List (S48)) (r1 : List (S49)) (r2 : Int) (w : World) (hr2 : Kd.C k46 w A2 l2.length l2) (hc2 : l2.length ≤ c2) (hr3 : Kd.C k48 w A3 l3.length l3) (hc3 : l3.length ≤ c3) (h : impl_SizesOf.f k a0 a1 l2 l3 = some (r1, r2)) :
  Calls Try.prog 16 #[.int .i64 a0, .int .i64 a1, .slice A2 l2.length c2, .slice A3 l3.length c3] w fun e w' => ∃ v0_ : Value, e = .returned (.tuple #[v0_, .int .i64 r2]) ∧ Kd.R k49 49 w' w.heap.size (fun _ => True) v0_ r1 ∧ Below w.heap.size w w' := by
 have HR2 := Aside0.mk hr2
 have HC2 := Aside0.mk hc2
 clear hr2 hc2
 have HR3 := Aside0.mk hr3
 have HC3 := Aside0.mk hc3
 clear hr3 hc3
 have HB := Aside0.mk (Below.refl w.heap.size w)
 have H : ((impl_sizes.f k a0 a1 l2 l3).bind fun bt212 => (if bt212.2 = true then (some (bt212.1, 0)) else (some (([] : List (S49)), 1)))) = some (r1, r2) := h
 clear h
 obtain ⟨⟨t212, t213⟩, A5, H⟩ := be_ H
 (try dsimp only at H)
 by_cases c6 : t213 = true
 ·
  subst c6
  replace H := gt_ H
  simp only [Option.some.injEq, Prod.mk.injEq] at H
  obtain ⟨rfl, rfl⟩ := H
  go_enter Try.func16, Try.ntmps16
  go_wp2_with (first | ((with_reducible refine gate_callee (f := 36) rfl ?_); refine goM_ (some 17) Try.func36 #[.int .i64 a0, .int .i64 a1, .slice A2 l2.length c2, .slice A3 l3.length c3] ?_; (with_reducible refine (impl_sizes.calls k a0 a1 _ _ l2 _ _ l3 t212 true _ ?side1 ?side2 ?side3 ?side4 A5.out).mono ?_); (case side1 => exact kc_ HR2.out); (case side2 => exact HC2.out); (case side3 => exact kc_ HR3.out); (case side4 => exact HC3.out); rintro e w7 ⟨v214, rfl, ho0, hb⟩; refine ⟨_, rfl, ?_⟩; have HO215 := Aside0.mk (Kd.R_lower ho0 (below_size (kB_ HB))); replace HB := bs_ HB hb; clear hb; (try clear ho0)))
  go_ret2
  exact ⟨_, by first | rfl | (simp [errW_none, errW_some] <;> rfl) | (simp [*, errW_none, errW_some] <;> rfl), by (with_reducible repeat (first | apply Kd.R_alloc | apply Kd.R_drewN | apply Kd.R_drew)); exact HO215.out, bl_ HB⟩
 replace c6 := Bool.eq_false_iff.mpr c6
 subst c6
 replace H := gf_ H
 simp only [Option.some.injEq, Prod.mk.injEq] at H
 obtain ⟨rfl, rfl⟩ := H
 go_enter Try.func16, Try.ntmps16
 go_wp2_with (first | ((with_reducible refine gate_callee (f := 36) rfl ?_); refine goM_ (some 17) Try.func36 #[.int .i64 a0, .int .i64 a1, .slice A2 l2.length c2, .slice A3 l3.length c3] ?_; (with_reducible refine (impl_sizes.calls k a0 a1 _ _ l2 _ _ l3 t212 false _ ?side1 ?side2 ?side3 ?side4 A5.out).mono ?_); (case side1 => exact kc_ HR2.out); (case side2 => exact HC2.out); (case side3 => exact kc_ HR3.out); (case side4 => exact HC3.out); rintro e w8 ⟨v214, rfl, ho0, hb⟩; refine ⟨_, rfl, ?_⟩; have HO215 := Aside0.mk (Kd.R_lower ho0 (below_size (kB_ HB))); replace HB := bs_ HB hb; clear hb; (try clear ho0)))
 go_ret2
 exact ⟨_, by first | rfl | (simp [errW_none, errW_some] <;> rfl) | (simp [*, errW_none, errW_some] <;> rfl), by first | exact Kd.R_nil _ _ _ _ _ | exact Kd.N_nil _ _ _ _ _ | exact Kd.V_nil _ _ _ _ _ | exact Kd.Q_nil _ _ _ _ _ | exact Kd.S_nil _ _ _ _ _, bl_ HB⟩

end Go.Proofs.Ytnkihjabmbeicaa.PA
