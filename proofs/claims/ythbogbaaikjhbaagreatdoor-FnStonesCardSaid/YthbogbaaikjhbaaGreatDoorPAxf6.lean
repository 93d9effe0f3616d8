/- Pure functions, and that Go's functions come to them. -/
import Derived.Test.YthbogbaaikjhbaaGreatDoorPAx0
import Derived.Test.YthbogbaaikjhbaaGreatDoorPAxm29
import Derived.Test.YthbogbaaikjhbaaGreatDoorPAxm23
import Derived.Test.YthbogbaaikjhbaaGreatDoorPAxgImpl
namespace Go.Proofs.YthbogbaaikjhbaaGreatDoor.PA
open Go.RowKit Go.Proofs.YthbogbaaikjhbaaGreatDoorW.PrintWords Go.Proofs.YthbogbaaikjhbaaGreatDoorW.PrintLast Go.Proofs.YthbogbaaikjhbaaGreatDoorW.PrintMore
set_option linter.unusedVariables false
set_option linter.unusedSimpArgs false

/-! ### impl_ReadStone: function 6 -/
def impl_ReadStone.l0 : Nat → List (S43) → List ByteArray → Int → Int → Option ((List (S43)) × Int)
 | 0, _, _, _, _ => none
 | k + 1, x4, x16, x17, x18 => if x18 < x17 then (if 0 ≤ x18 then (if x18 < (x16.length : Int) then ((strings_Cut.f (rdOf ByteArray.empty x16 x18) (⟨#[44]⟩ : ByteArray)).bind fun bt291 => ((impl_readDecimal.f bt291.1 (-1000) 1000).bind fun bt294 => ((impl_readDecimal.f bt291.2.1 (-1000) 1000).bind fun bt296 => (if bt291.2.2 = true then (if bt294.2 = true then (if bt296.2 = true then (if x4.length < 35184372088832 then (impl_ReadStone.l0 k (x4 ++ [(⟨IntKind.i16.wrap (bt294.1), IntKind.i16.wrap (bt296.1)⟩ : S43)]) x16 x17 (wrap64 (x18 + 1))) else (none)) else (some (([] : List (S43)), 5))) else (some (([] : List (S43)), 5))) else (some (([] : List (S43)), 5)))))) else (none)) else (none)) else ((impl_ValidStone.f k x4).bind fun t289 => (if t289 = true then (some (x4, 0)) else (some (([] : List (S43)), 5))))
def impl_ReadStone.f (k : Nat) (a0 : ByteArray) : Option ((List (S43)) × Int) := (strings_Split.f a0 (⟨#[32]⟩ : ByteArray)).bind fun t286 => (impl_ReadStone.l0 k (([] : List (S43))) t286 (t286.length : Int) 0)
theorem impl_ReadStone.mono_l : ∀ k, (∀ y0 y1 y2 y3, LeO (impl_ReadStone.l0 k y0 y1 y2 y3) (impl_ReadStone.l0 (k + 1) y0 y1 y2 y3))
 | 0 => fun _ _ _ _ r h => by simp [impl_ReadStone.l0] at h
 | k + 1 => by
  have ih0 := impl_ReadStone.mono_l k
  ·
   intro y0 y1 y2 y3
   unfold impl_ReadStone.l0
   repeat' first | (with_reducible first | exact ih0 _ _ _ _ | exact impl_ValidStone.mono _ _ | exact LeO.refl _ | exact LeO.none _ | refine LeO.ite ?_ ?_ | refine LeO.bind ?_ (fun _ => ?_))
theorem impl_ReadStone.mono : ∀ a0 k, LeO (impl_ReadStone.f k a0) (impl_ReadStone.f (k + 1) a0) := by
 intro a0 k
 have ih0 := impl_ReadStone.mono_l k
 unfold impl_ReadStone.f
 repeat' first | (with_reducible first | exact ih0 _ _ _ _ | exact impl_ValidStone.mono _ _ | exact LeO.refl _ | exact LeO.none _ | refine LeO.ite ?_ ?_ | refine LeO.bind ?_ (fun _ => ?_))
set_option maxHeartbeats 8000000 in
set_option maxRecDepth 100000 in
theorem impl_ReadStone.calls (k : Nat) (a0 : ByteArray) (r1 : List (S43)) (r2 : Int) (w : World) (hT : Tables.TabT w) (h : impl_ReadStone.f k a0 = some (r1, r2)) :
  Calls Tryz.prog 6 #[.string a0] w fun e w' => ∃ v0_ : Value, e = .returned (.tuple #[v0_, .int .i64 r2]) ∧ Kd.R k43 43 w' w.heap.size (fun _ => True) v0_ r1 ∧ Below w.heap.size w w' := by
 have hu43 := Tryz.underlying43
 have HT := Aside0.mk hT
 clear hT
 have HB := Aside0.mk (Below.refl w.heap.size w)
 have H : ((strings_Split.f a0 (⟨#[32]⟩ : ByteArray)).bind fun t286 => (impl_ReadStone.l0 k (([] : List (S43))) t286 (t286.length : Int) 0)) = some (r1, r2) := h
 clear h
 obtain ⟨y283, hy283⟩ : ∃ y_ : List (S43), y_ = (([] : List (S43))) := ⟨_, rfl⟩
 replace H : ((strings_Split.f a0 (⟨#[32]⟩ : ByteArray)).bind fun t286 => (impl_ReadStone.l0 k y283 t286 (t286.length : Int) 0)) = some (r1, r2) := by first | (rw [hy283]; with_reducible exact H) | (have H2_ := (Option.bind_some _ _).symm.trans H; rw [hy283]; with_reducible exact H2_) | (have H2_ := (Option.bind_some _ _).symm.trans H; with_reducible exact H2_) | with_reducible exact H | (rw [hy283]; exact H) | exact H
 have Ny283 := Aside0.mk hy283
 clear hy283
 obtain ⟨t286, A2, H⟩ := be_ H
 (try dsimp only at H)
 have H' := Aside0.mk H
 clear H
 go_enter Tryz.func6, Tryz.ntmps6
 go_wp2_with (first | ((with_reducible refine gate_dst (N := 14) rfl ?_); refine Kd.R_lit k43 _ 43 ?hg (N := 14) ?hd (xs := ([] : List (S43))) (inner := []) (ok := fun _ => True) (okp := fun _ => True) ?hr ?hp (fun _ hk => hk) trivial (Below.refl _ _) (Nat.le_refl _) (by simp) ?_; (case hd => rfl); (case hg => rfl); (case hr => first | (go_simp; done) | (go_simp; rfl)); (case hp => exact (Reps.none _ _)); intro v284 w3 ho4 hb hg_ hnew_; clear hg_ hnew_; (first | rw [← Ny283.out] at ho4 | (simp only [Int.reduceToNat] at ho4; rw [← Ny283.out] at ho4)); have HO285 := Aside0.mk (Kd.R_lower ho4 (below_size (kB_ HB))); replace HB := bs_ HB hb; clear hb ho4) | ((with_reducible refine gate_callee (f := 29) rfl ?_); refine goM_ (some 16) Tryz.func29 #[.string a0, .string (⟨#[32]⟩ : ByteArray)] ?_; (with_reducible refine (strings_Split.calls a0 (⟨#[32]⟩ : ByteArray) t286 _ (Tables.tabT_below HT.out (kB_ HB)) A2.out).mono ?_); rintro e w5 ⟨v287, rfl, ho0, hb⟩; refine ⟨_, rfl, ?_⟩; replace HO285 := Aside0.mk (Kd.R_below (kp_ HO285) hb); have HO288 := Aside0.mk (Kd.R_lower ho0 (below_size (kB_ HB))); replace HB := bs_ HB hb; clear hb; (try clear ho0); obtain ⟨Ao6, co6, eo6⟩ := Kd.R_slice HO288.out; subst eo6))
 go_loopg [4, 18] k (fun kq v4 v18 w' => ∃ (x4_1 : List (S43)) (x18_1 : Int), v18 = .int .i64 x18_1 ∧ Aside0 (impl_ReadStone.l0 kq x4_1 t286 (t286.length : Int) x18_1 = some (r1, r2)) ∧ Aside0 (kq ≤ k) ∧ Aside0 (Kd.R k43 43 w' w.heap.size (fun _ => True) v4 x4_1) ∧ Aside0 (Kd.R Kd.string 9 w' w.heap.size (fun _ => True) (.slice Ao6 t286.length co6) t286) ∧ Aside0 (Below w.heap.size w w'))
 case atStart => exact ⟨(y283), (0), (by first | rfl | (simp; done) | (simp [*]; done)), H', ⟨Nat.le_refl _⟩, ⟨kp_ HO285⟩, ⟨kp_ HO288⟩, ⟨bl_ HB⟩⟩
 case round =>
  clear H'
  obtain ⟨x4_1, x18_1, rfl, HA, HK1, HO_4, HO_16, HB⟩ := hrel
  rcases gk with _ | k1
  · exact absurd HA.out (by simp [impl_ReadStone.l0])
  have H := HA.out
  clear HA
  simp only [impl_ReadStone.l0] at H
  rcases (Decidable.em (x18_1 < (t286.length : Int))).symm with c7 | c7
  ·
   rw [if_neg c7] at H
   have c7b0 : decide (x18_1 < (t286.length : Int)) = false := decide_eq_false c7
   clear c7
   obtain ⟨t289, A26, H⟩ := be_ H
   (try dsimp only at H)
   by_cases c27 : t289 = true
   ·
    subst c27
    replace H := gt_ H
    simp only [Option.some.injEq, Prod.mk.injEq] at H
    obtain ⟨rfl, rfl⟩ := H
    obtain ⟨Ao28, co28, eo28⟩ := Kd.R_slice HO_4.out
    subst eo28
    go_wp2_with (first | ((with_reducible refine gate_callee (f := 14) rfl ?_); refine goM_ (some 58) Tryz.func14 #[.slice Ao28 x4_1.length co28] ?_; (with_reducible refine (impl_ValidStone.calls k1 _ _ x4_1 true _ ?side1 ?side2 A26.out).mono ?_); (case side1 => exact kc_ ((Kd.R_reads' HO_4.out).2.2)); (case side2 => exact (Kd.R_reads' HO_4.out).2.1); rintro e w29 ⟨rfl, hb⟩; refine ⟨_, rfl, ?_⟩; replace HO_4 := Aside0.mk (Kd.R_below (kp_ HO_4) hb); replace HO_16 := Aside0.mk (Kd.R_below (kp_ HO_16) hb); replace HB := bs_ HB hb; clear hb))
    go_ret2
    exact ⟨_, by first | rfl | (simp [errW_none, errW_some] <;> rfl) | (simp [*, errW_none, errW_some] <;> rfl), by (with_reducible repeat (first | apply Kd.R_alloc | apply Kd.R_drewN | apply Kd.R_drew)); exact HO_4.out, bl_ HB⟩
   replace c27 := Bool.eq_false_iff.mpr c27
   subst c27
   replace H := gf_ H
   simp only [Option.some.injEq, Prod.mk.injEq] at H
   obtain ⟨rfl, rfl⟩ := H
   obtain ⟨Ao30, co30, eo30⟩ := Kd.R_slice HO_4.out
   subst eo30
   go_wp2_with (first | ((with_reducible refine gate_callee (f := 14) rfl ?_); refine goM_ (some 58) Tryz.func14 #[.slice Ao30 x4_1.length co30] ?_; (with_reducible refine (impl_ValidStone.calls k1 _ _ x4_1 false _ ?side1 ?side2 A26.out).mono ?_); (case side1 => exact kc_ ((Kd.R_reads' HO_4.out).2.2)); (case side2 => exact (Kd.R_reads' HO_4.out).2.1); rintro e w31 ⟨rfl, hb⟩; refine ⟨_, rfl, ?_⟩; replace HO_4 := Aside0.mk (Kd.R_below (kp_ HO_4) hb); replace HO_16 := Aside0.mk (Kd.R_below (kp_ HO_16) hb); replace HB := bs_ HB hb; clear hb))
   go_ret2
   exact ⟨_, by first | rfl | (simp [errW_none, errW_some] <;> rfl) | (simp [*, errW_none, errW_some] <;> rfl), by first | exact Kd.R_nil _ _ _ _ _ | exact Kd.N_nil _ _ _ _ _ | exact Kd.V_nil _ _ _ _ _ | exact Kd.Q_nil _ _ _ _ _ | exact Kd.S_nil _ _ _ _ _, bl_ HB⟩

  rw [if_pos c7] at H
  have c7b0 : decide (x18_1 < (t286.length : Int)) = true := decide_eq_true c7
  clear c7
  obtain ⟨c8b0, H⟩ := gx_ H
  obtain ⟨c9b0, H⟩ := gx_ H
  obtain ⟨⟨t291, t292, t293⟩, A10, H⟩ := be_ H
  (try dsimp only at H)
  obtain ⟨⟨t294, t295⟩, A11, H⟩ := be_ H
  (try dsimp only at H)
  obtain ⟨⟨t296, t297⟩, A12, H⟩ := be_ H
  (try dsimp only at H)
  rcases (Decidable.em (t293 = true)).symm with c13 | c13
  ·
   replace c13 := Bool.eq_false_iff.mpr c13
   subst c13
   replace H := gf_ H
   simp only [Option.some.injEq, Prod.mk.injEq] at H
   obtain ⟨rfl, rfl⟩ := H
   have p290 : 0 ≤ (x18_1 : Int) := od_
   have q290 : x18_1 < (t286.length : Int) := od_
   obtain ⟨ad290, e290, hx290_0⟩ := Kd.at_string (Kd.R_reads' HO_16.out).2.2 x18_1 p290 q290
   cases e290
   replace p290 := eq_true p290
   replace q290 := eq_true q290
   go_wp2_with (first | ((with_reducible refine gate_callee (f := 30) rfl ?_); refine goM_ (some 24) Tryz.func30 #[.string (rdOf ByteArray.empty t286 x18_1), .string (⟨#[44]⟩ : ByteArray)] ?_; (with_reducible refine (strings_Cut.calls (rdOf ByteArray.empty t286 x18_1) (⟨#[44]⟩ : ByteArray) t291 t292 false _ (Tables.tabT_below HT.out (kB_ HB)) A10.out).mono ?_); rintro e w' ⟨rfl, ⟨nd, rfl⟩⟩; refine ⟨_, rfl, ?_⟩) | ((with_reducible refine gate_callee (f := 31) rfl ?_); refine goM_ (some 30) Tryz.func31 #[.string t291, .int .i64 (-1000), .int .i64 1000] ?_; (with_reducible refine (impl_readDecimal.calls t291 (-1000) 1000 t294 t295 _ (Tables.tabT_below HT.out (kB_ HB)) A11.out).mono ?_); rintro e w24 ⟨rfl, hb⟩; refine ⟨_, rfl, ?_⟩; replace HO_4 := Aside0.mk (Kd.R_below (kp_ HO_4) hb); replace HO_16 := Aside0.mk (Kd.R_below (kp_ HO_16) hb); replace HB := bs_ HB hb; clear hb) | ((with_reducible refine gate_callee (f := 31) rfl ?_); refine goM_ (some 35) Tryz.func31 #[.string t292, .int .i64 (-1000), .int .i64 1000] ?_; (with_reducible refine (impl_readDecimal.calls t292 (-1000) 1000 t296 t297 _ (Tables.tabT_below HT.out (kB_ HB)) A12.out).mono ?_); rintro e w25 ⟨rfl, hb⟩; refine ⟨_, rfl, ?_⟩; replace HO_4 := Aside0.mk (Kd.R_below (kp_ HO_4) hb); replace HO_16 := Aside0.mk (Kd.R_below (kp_ HO_16) hb); replace HB := bs_ HB hb; clear hb))
   go_ret2
   exact ⟨_, by first | rfl | (simp [errW_none, errW_some] <;> rfl) | (simp [*, errW_none, errW_some] <;> rfl), by first | exact Kd.R_nil _ _ _ _ _ | exact Kd.N_nil _ _ _ _ _ | exact Kd.V_nil _ _ _ _ _ | exact Kd.Q_nil _ _ _ _ _ | exact Kd.S_nil _ _ _ _ _, bl_ HB⟩
  subst c13
  replace H := gt_ H
  rcases (Decidable.em (t295 = true)).symm with c14 | c14
  ·
   replace c14 := Bool.eq_false_iff.mpr c14
   subst c14
   replace H := gf_ H
   simp only [Option.some.injEq, Prod.mk.injEq] at H
   obtain ⟨rfl, rfl⟩ := H
   have p290 : 0 ≤ (x18_1 : Int) := od_
   have q290 : x18_1 < (t286.length : Int) := od_
   obtain ⟨ad290, e290, hx290_0⟩ := Kd.at_string (Kd.R_reads' HO_16.out).2.2 x18_1 p290 q290
   cases e290
   replace p290 := eq_true p290
   replace q290 := eq_true q290
   go_wp2_with (first | ((with_reducible refine gate_callee (f := 30) rfl ?_); refine goM_ (some 24) Tryz.func30 #[.string (rdOf ByteArray.empty t286 x18_1), .string (⟨#[44]⟩ : ByteArray)] ?_; (with_reducible refine (strings_Cut.calls (rdOf ByteArray.empty t286 x18_1) (⟨#[44]⟩ : ByteArray) t291 t292 true _ (Tables.tabT_below HT.out (kB_ HB)) A10.out).mono ?_); rintro e w' ⟨rfl, ⟨nd, rfl⟩⟩; refine ⟨_, rfl, ?_⟩) | ((with_reducible refine gate_callee (f := 31) rfl ?_); refine goM_ (some 30) Tryz.func31 #[.string t291, .int .i64 (-1000), .int .i64 1000] ?_; (with_reducible refine (impl_readDecimal.calls t291 (-1000) 1000 t294 false _ (Tables.tabT_below HT.out (kB_ HB)) A11.out).mono ?_); rintro e w22 ⟨rfl, hb⟩; refine ⟨_, rfl, ?_⟩; replace HO_4 := Aside0.mk (Kd.R_below (kp_ HO_4) hb); replace HO_16 := Aside0.mk (Kd.R_below (kp_ HO_16) hb); replace HB := bs_ HB hb; clear hb) | ((with_reducible refine gate_callee (f := 31) rfl ?_); refine goM_ (some 35) Tryz.func31 #[.string t292, .int .i64 (-1000), .int .i64 1000] ?_; (with_reducible refine (impl_readDecimal.calls t292 (-1000) 1000 t296 t297 _ (Tables.tabT_below HT.out (kB_ HB)) A12.out).mono ?_); rintro e w23 ⟨rfl, hb⟩; refine ⟨_, rfl, ?_⟩; replace HO_4 := Aside0.mk (Kd.R_below (kp_ HO_4) hb); replace HO_16 := Aside0.mk (Kd.R_below (kp_ HO_16) hb); replace HB := bs_ HB hb; clear hb))
   go_ret2
   exact ⟨_, by first | rfl | (simp [errW_none, errW_some] <;> rfl) | (simp [*, errW_none, errW_some] <;> rfl), by first | exact Kd.R_nil _ _ _ _ _ | exact Kd.N_nil _ _ _ _ _ | exact Kd.V_nil _ _ _ _ _ | exact Kd.Q_nil _ _ _ _ _ | exact Kd.S_nil _ _ _ _ _, bl_ HB⟩
  subst c14
  replace H := gt_ H
  rcases (Decidable.em (t297 = true)).symm with c15 | c15
  ·
   replace c15 := Bool.eq_false_iff.mpr c15
   subst c15
   replace H := gf_ H
   simp only [Option.some.injEq, Prod.mk.injEq] at H
   obtain ⟨rfl, rfl⟩ := H
   have p290 : 0 ≤ (x18_1 : Int) := od_
   have q290 : x18_1 < (t286.length : Int) := od_
   obtain ⟨ad290, e290, hx290_0⟩ := Kd.at_string (Kd.R_reads' HO_16.out).2.2 x18_1 p290 q290
   cases e290
   replace p290 := eq_true p290
   replace q290 := eq_true q290
   go_wp2_with (first | ((with_reducible refine gate_callee (f := 30) rfl ?_); refine goM_ (some 24) Tryz.func30 #[.string (rdOf ByteArray.empty t286 x18_1), .string (⟨#[44]⟩ : ByteArray)] ?_; (with_reducible refine (strings_Cut.calls (rdOf ByteArray.empty t286 x18_1) (⟨#[44]⟩ : ByteArray) t291 t292 true _ (Tables.tabT_below HT.out (kB_ HB)) A10.out).mono ?_); rintro e w' ⟨rfl, ⟨nd, rfl⟩⟩; refine ⟨_, rfl, ?_⟩) | ((with_reducible refine gate_callee (f := 31) rfl ?_); refine goM_ (some 30) Tryz.func31 #[.string t291, .int .i64 (-1000), .int .i64 1000] ?_; (with_reducible refine (impl_readDecimal.calls t291 (-1000) 1000 t294 true _ (Tables.tabT_below HT.out (kB_ HB)) A11.out).mono ?_); rintro e w20 ⟨rfl, hb⟩; refine ⟨_, rfl, ?_⟩; replace HO_4 := Aside0.mk (Kd.R_below (kp_ HO_4) hb); replace HO_16 := Aside0.mk (Kd.R_below (kp_ HO_16) hb); replace HB := bs_ HB hb; clear hb) | ((with_reducible refine gate_callee (f := 31) rfl ?_); refine goM_ (some 35) Tryz.func31 #[.string t292, .int .i64 (-1000), .int .i64 1000] ?_; (with_reducible refine (impl_readDecimal.calls t292 (-1000) 1000 t296 false _ (Tables.tabT_below HT.out (kB_ HB)) A12.out).mono ?_); rintro e w21 ⟨rfl, hb⟩; refine ⟨_, rfl, ?_⟩; replace HO_4 := Aside0.mk (Kd.R_below (kp_ HO_4) hb); replace HO_16 := Aside0.mk (Kd.R_below (kp_ HO_16) hb); replace HB := bs_ HB hb; clear hb))
   go_ret2
   exact ⟨_, by first | rfl | (simp [errW_none, errW_some] <;> rfl) | (simp [*, errW_none, errW_some] <;> rfl), by first | exact Kd.R_nil _ _ _ _ _ | exact Kd.N_nil _ _ _ _ _ | exact Kd.V_nil _ _ _ _ _ | exact Kd.Q_nil _ _ _ _ _ | exact Kd.S_nil _ _ _ _ _, bl_ HB⟩
  subst c15
  replace H := gt_ H
  obtain ⟨(c16 : x4_1.length < 35184372088832), H⟩ := gd_ H
  have LMc16 := Aside0.mk c16
  clear c16
  obtain ⟨y298, hy298⟩ : ∃ y_ : List (S43), y_ = (x4_1 ++ [(⟨IntKind.i16.wrap (t294), IntKind.i16.wrap (t296)⟩ : S43)]) := ⟨_, rfl⟩
  replace H : (impl_ReadStone.l0 k1 y298 t286 (t286.length : Int) (wrap64 (x18_1 + 1))) = some (r1, r2) := by first | (rw [hy298]; with_reducible exact H) | (have H2_ := (Option.bind_some _ _).symm.trans H; rw [hy298]; with_reducible exact H2_) | (have H2_ := (Option.bind_some _ _).symm.trans H; with_reducible exact H2_) | with_reducible exact H | (rw [hy298]; exact H) | exact H
  have Ny298 := Aside0.mk hy298
  clear hy298
  have H' := Aside0.mk H
  clear H
  have p290 : 0 ≤ (x18_1 : Int) := od_
  have q290 : x18_1 < (t286.length : Int) := od_
  obtain ⟨ad290, e290, hx290_0⟩ := Kd.at_string (Kd.R_reads' HO_16.out).2.2 x18_1 p290 q290
  cases e290
  replace p290 := eq_true p290
  replace q290 := eq_true q290
  go_wp2_with (first | ((with_reducible refine gate_callee (f := 30) rfl ?_); refine goM_ (some 24) Tryz.func30 #[.string (rdOf ByteArray.empty t286 x18_1), .string (⟨#[44]⟩ : ByteArray)] ?_; (with_reducible refine (strings_Cut.calls (rdOf ByteArray.empty t286 x18_1) (⟨#[44]⟩ : ByteArray) t291 t292 true _ (Tables.tabT_below HT.out (kB_ HB)) A10.out).mono ?_); rintro e w' ⟨rfl, ⟨nd, rfl⟩⟩; refine ⟨_, rfl, ?_⟩) | ((with_reducible refine gate_callee (f := 31) rfl ?_); refine goM_ (some 30) Tryz.func31 #[.string t291, .int .i64 (-1000), .int .i64 1000] ?_; (with_reducible refine (impl_readDecimal.calls t291 (-1000) 1000 t294 true _ (Tables.tabT_below HT.out (kB_ HB)) A11.out).mono ?_); rintro e w17 ⟨rfl, hb⟩; refine ⟨_, rfl, ?_⟩; replace HO_4 := Aside0.mk (Kd.R_below (kp_ HO_4) hb); replace HO_16 := Aside0.mk (Kd.R_below (kp_ HO_16) hb); replace HB := bs_ HB hb; clear hb) | ((with_reducible refine gate_callee (f := 31) rfl ?_); refine goM_ (some 35) Tryz.func31 #[.string t292, .int .i64 (-1000), .int .i64 1000] ?_; (with_reducible refine (impl_readDecimal.calls t292 (-1000) 1000 t296 true _ (Tables.tabT_below HT.out (kB_ HB)) A12.out).mono ?_); rintro e w18 ⟨rfl, hb⟩; refine ⟨_, rfl, ?_⟩; replace HO_4 := Aside0.mk (Kd.R_below (kp_ HO_4) hb); replace HO_16 := Aside0.mk (Kd.R_below (kp_ HO_16) hb); replace HB := bs_ HB hb; clear hb) | ((with_reducible refine gate_builtin (b := .append) (xs := #[.tmp 48, .tmp 54]) rfl ?_); at_builtin; refine Kd.R_append k43 (w0 := w) w.heap.size rfl (.tmp 48) (.tmp 54) 25 43 (.agg #[(.int .i16 0), (.int .i16 0)]) 4 rfl Tryz.underlying25 info43 rfl (by decide) (by omega) u4 x4_1 (⟨IntKind.i16.wrap (t294), IntKind.i16.wrap (t296)⟩ : S43) [.int .i16 (IntKind.i16.wrap (t294)), .int .i16 (IntKind.i16.wrap (t296))] (fun _ => True) (fun _ => False) rfl rfl ?aP (fun _ hk => hk.elim) ?aF ?aO ?aB ?aS ?aL ?_; (case aP => exact k43_mkM _ _ _ (⟨IntKind.i16.wrap (t294), IntKind.i16.wrap (t296)⟩ : S43)); (case aB => exact (kB_ HB)); (case aF => exact (fun _ _ => trivial)); (case aO => exact (kp_ HO_4)); (case aS => exact (below_size (kB_ HB))); (case aL => have := LMc16.out; omega); intro v299 w19 ho hb hg hat; rw [← Ny298.out] at ho; have n0_ := Aside0.mk (Kd.R_over' (kp_ HO_16) (Kd.R_typed (kp_ HO_4)) (by decide) hg); have n1_ := Aside0.mk (hb); have n2_ := Aside0.mk (ho); clear HO_16; clear HB; clear HO_4; have HO_16 := n0_; have HB := n1_; have HO300 := n2_; clear n0_ n1_ n2_; clear ho hb hg hat))
  go_roundg k1
  case measure => have := HK1.out; omega
  case rel => exact ⟨(y298), (wrap64 (x18_1 + 1)), (by first | rfl | (simp; done) | (simp [*]; done)), H', ⟨by have := HK1.out; omega⟩, ⟨kp_ HO300⟩, ⟨kp_ HO_16⟩, ⟨bl_ HB⟩⟩
end Go.Proofs.YthbogbaaikjhbaaGreatDoor.PA
