/- Pure functions, and that Go's functions come to them. -/
import Derived.Test.YtmglnofmmgokkaaPAx0
import Derived.Test.YtmglnofmmgokkaaPAxgSpec
import Derived.Test.YtmglnofmmgokkaaPAxgSpecO
namespace Go.Proofs.Ytmglnofmmgokkaa.PA
open Go.RowKit Go.Proofs.YtmglnofmmgokkaaW.PrintWords Go.Proofs.YtmglnofmmgokkaaW.PrintLast Go.Proofs.YtmglnofmmgokkaaW.PrintMore
set_option linter.unusedVariables false
set_option linter.unusedSimpArgs false

/-! ### impl_Stone_upTo: function 36 -/
def impl_Stone_upTo.l0 : Nat → List (S34) → Int → Int → List (S34) → Option ((List (S34)))
 | 0, _, _, _, _ => none
 | k + 1, x0, x1, x2, x7 => if x1 = x2 then (some x7) else (if (x0.length : Int) = 0 then (none) else (if 0 ≤ (Int.tmod (wrap64 (x1 + 1)) (x0.length : Int)) then (if (Int.tmod (wrap64 (x1 + 1)) (x0.length : Int)) < (x0.length : Int) then (if x7.length < 35184372088832 then (impl_Stone_upTo.l0 k x0 (Int.tmod (wrap64 (x1 + 1)) (x0.length : Int)) x2 (x7 ++ [(⟨(rd_T34 x0 (Int.tmod (wrap64 (x1 + 1)) (x0.length : Int))).f0, (rd_T34 x0 (Int.tmod (wrap64 (x1 + 1)) (x0.length : Int))).f1⟩ : S34)])) else (none)) else (none)) else (none)))
def impl_Stone_upTo.f (k : Nat) (l0 : List (S34)) (a1 : Int) (a2 : Int) : Option ((List (S34))) := if 0 ≤ a1 then (if a1 < (l0.length : Int) then (impl_Stone_upTo.l0 k l0 a1 a2 (([(⟨(rd_T34 l0 a1).f0, (rd_T34 l0 a1).f1⟩ : S34)] : List (S34)))) else (none)) else (none)
theorem impl_Stone_upTo.mono_l : ∀ k, (∀ y0 y1 y2 y3, LeO (impl_Stone_upTo.l0 k y0 y1 y2 y3) (impl_Stone_upTo.l0 (k + 1) y0 y1 y2 y3))
 | 0 => fun _ _ _ _ r h => by simp [impl_Stone_upTo.l0] at h
 | k + 1 => by
  have ih0 := impl_Stone_upTo.mono_l k
  ·
   intro y0 y1 y2 y3
   unfold impl_Stone_upTo.l0
   repeat' first | (with_reducible first | exact ih0 _ _ _ _ | exact LeO.refl _ | exact LeO.none _ | refine LeO.ite ?_ ?_ | refine LeO.bind ?_ (fun _ => ?_))
theorem impl_Stone_upTo.mono : ∀ a0 a1 a2 k, LeO (impl_Stone_upTo.f k a0 a1 a2) (impl_Stone_upTo.f (k + 1) a0 a1 a2) := by
 intro a0 a1 a2 k
 have ih0 := impl_Stone_upTo.mono_l k
 unfold impl_Stone_upTo.f
 repeat' first | (with_reducible first | exact ih0 _ _ _ _ | exact LeO.refl _ | exact LeO.none _ | refine LeO.ite ?_ ?_ | refine LeO.bind ?_ (fun _ => ?_))
set_option maxHeartbeats 8000000 in
set_option maxRecDepth 100000 in
theorem impl_Stone_upTo.calls (k : Nat) (A0 : Option Addr) (c0 : Nat) (l0 : List (S34)) (a1 : Int) (a2 : Int) (r : List (S34)) (w : World) (hr0 : Kd.C k34 w A0 l0.length l0) (hc0 : l0.length ≤ c0) (h : impl_Stone_upTo.f k l0 a1 a2 = some r) :
  Calls Try.prog 36 #[.slice A0 l0.length c0, .int .i64 a1, .int .i64 a2] w fun e w' => ∃ v0_ : Value, e = .returned (v0_) ∧ Kd.R k34 34 w' w.heap.size (fun _ => True) v0_ r ∧ Below w.heap.size w w' := by
 have hu34 := Try.underlying34
 have HR0 := Aside0.mk hr0
 have HC0 := Aside0.mk hc0
 clear hr0 hc0
 have HB := Aside0.mk (Below.refl w.heap.size w)
 have H : (if 0 ≤ a1 then (if a1 < (l0.length : Int) then (impl_Stone_upTo.l0 k l0 a1 a2 (([(⟨(rd_T34 l0 a1).f0, (rd_T34 l0 a1).f1⟩ : S34)] : List (S34)))) else (none)) else (none)) = some r := h
 clear h
 obtain ⟨c4b0, H⟩ := gx_ H
 obtain ⟨c5b0, H⟩ := gx_ H
 obtain ⟨y368, hy368⟩ : ∃ y_ : List (S34), y_ = (([(⟨(rd_T34 l0 a1).f0, (rd_T34 l0 a1).f1⟩ : S34)] : List (S34))) := ⟨_, rfl⟩
 replace H : (impl_Stone_upTo.l0 k l0 a1 a2 y368) = some r := by first | (rw [hy368]; with_reducible exact H) | (have H2_ := (Option.bind_some _ _).symm.trans H; rw [hy368]; with_reducible exact H2_) | (have H2_ := (Option.bind_some _ _).symm.trans H; with_reducible exact H2_) | with_reducible exact H | (rw [hy368]; exact H) | exact H
 have Ny368 := Aside0.mk hy368
 clear hy368
 have H' := Aside0.mk H
 clear H
 have p367 : 0 ≤ (a1 : Int) := od_
 have q367 : a1 < (l0.length : Int) := od_
 obtain ⟨ad367, e367, hx367_0, hx367_1⟩ := at_T34 HR0.out a1 p367 q367
 cases e367
 replace p367 := eq_true p367
 replace q367 := eq_true q367
 go_enter Try.func36, Try.ntmps36
 go_wp2_with (first | ((with_reducible refine gate_dst (N := 12) rfl ?_); refine Kd.R_lit k34 _ 34 ?hg (N := 12) ?hd (xs := ([(⟨(rd_T34 l0 a1).f0, (rd_T34 l0 a1).f1⟩ : S34)] : List (S34))) (inner := [.int .i16 ((rd_T34 l0 a1).f0), .int .i16 ((rd_T34 l0 a1).f1)]) (ok := fun _ => True) (okp := fun _ => True) ?hr ?hp (fun _ hk => hk) trivial (Below.refl _ _) (Nat.le_refl _) (by simp) ?_; (case hd => rfl); (case hg => rfl); (case hr => first | (go_simp; done) | (go_simp; rfl)); (case hp => exact (Reps.c2 (show Kd.M k34 _ _ _ (⟨(rd_T34 l0 a1).f0, (rd_T34 l0 a1).f1⟩ : S34) [.int .i16 ((rd_T34 l0 a1).f0), .int .i16 ((rd_T34 l0 a1).f1)] from (k34_mkM _ _ _ (⟨(rd_T34 l0 a1).f0, (rd_T34 l0 a1).f1⟩ : S34) )) (Reps.none _ _))); intro v369 w6 ho7 hb hg_ hnew_; clear hg_ hnew_; (first | rw [← Ny368.out] at ho7 | (simp only [Int.reduceToNat] at ho7; rw [← Ny368.out] at ho7)); have HO370 := Aside0.mk (Kd.R_lower ho7 (below_size (kB_ HB))); replace HB := bs_ HB hb; clear hb ho7))
 go_loopg [1, 7] k (fun kq v1 v7 w' => ∃ (x1_1 : Int) (x7_1 : List (S34)), v1 = .int .i64 x1_1 ∧ Aside0 (impl_Stone_upTo.l0 kq l0 x1_1 a2 x7_1 = some r) ∧ Aside0 (kq ≤ k) ∧ Aside0 (Kd.R k34 34 w' w.heap.size (fun _ => True) v7 x7_1) ∧ Aside0 (Below w.heap.size w w'))
 case atStart => exact ⟨(a1), (y368), (by first | rfl | (simp; done) | (simp [*]; done)), H', ⟨Nat.le_refl _⟩, ⟨kp_ HO370⟩, ⟨bl_ HB⟩⟩
 case round =>
  clear H'
  obtain ⟨x1_1, x7_1, rfl, HA, HK1, HO_7, HB⟩ := hrel
  rcases gk with _ | k1
  · exact absurd HA.out (by simp [impl_Stone_upTo.l0])
  have H := HA.out
  clear HA
  simp only [impl_Stone_upTo.l0] at H
  by_cases c8 : x1_1 = a2
  ·
   rw [if_pos c8] at H
   have c8b0 : (x1_1 == a2) = true := beq_iff_eq.mpr c8
   have c8b1 : (x1_1 != a2) = false := bne_eq_false_iff_eq.mpr c8
   clear c8
   obtain rfl := Option.some.inj H
   go_wp2
   go_ret
   exact ⟨_, by first | rfl | (simp [errW_none, errW_some] <;> rfl) | (simp [*, errW_none, errW_some] <;> rfl), by (with_reducible repeat (first | apply Kd.R_alloc | apply Kd.R_drewN | apply Kd.R_drew)); exact HO_7.out, bl_ HB⟩
  rw [if_neg c8] at H
  have c8b0 : (x1_1 == a2) = false := beq_eq_false_iff_ne.mpr c8
  have c8b1 : (x1_1 != a2) = true := bne_iff_ne.mpr c8
  by_cases c9 : (l0.length : Int) = 0
  ·
   rw [if_pos c9] at H
   exact absurd H (by simp)
  rw [if_neg c9] at H
  have c9b0 : ((l0.length : Int) == 0) = false := beq_eq_false_iff_ne.mpr c9
  have c9b1 : ((l0.length : Int) != 0) = true := bne_iff_ne.mpr c9
  have c9b2 : ¬ (l0 = []) := fun h_ => c9 (by rw [h_]; rfl)
  obtain ⟨ji10, hji10⟩ : ∃ j_ : Int, (Int.tmod (wrap64 (x1_1 + 1)) (l0.length : Int)) = j_ := ⟨_, rfl⟩
  replace H : (if 0 ≤ (ji10) then (if (ji10) < (l0.length : Int) then (if x7_1.length < 35184372088832 then (impl_Stone_upTo.l0 k1 l0 ji10 a2 (x7_1 ++ [(⟨(rd_T34 l0 (ji10)).f0, (rd_T34 l0 (ji10)).f1⟩ : S34)])) else (none)) else (none)) else (none)) = some r := by first | (rw [hji10] at H; exact H) | (simp only [hji10] at H ⊢; exact H)
  obtain ⟨c11b0, H⟩ := gx_ H
  obtain ⟨c12b0, H⟩ := gx_ H
  obtain ⟨(c13 : x7_1.length < 35184372088832), H⟩ := gd_ H
  have LMc13 := Aside0.mk c13
  clear c13
  obtain ⟨y372, hy372⟩ : ∃ y_ : List (S34), y_ = (x7_1 ++ [(⟨(rd_T34 l0 (ji10)).f0, (rd_T34 l0 (ji10)).f1⟩ : S34)]) := ⟨_, rfl⟩
  replace H : (impl_Stone_upTo.l0 k1 l0 ji10 a2 y372) = some r := by first | (rw [hy372]; with_reducible exact H) | (have H2_ := (Option.bind_some _ _).symm.trans H; rw [hy372]; with_reducible exact H2_) | (have H2_ := (Option.bind_some _ _).symm.trans H; with_reducible exact H2_) | with_reducible exact H | (rw [hy372]; exact H) | exact H
  have Ny372 := Aside0.mk hy372
  clear hy372
  have H' := Aside0.mk H
  clear H
  have p371 : 0 ≤ ((ji10) : Int) := od_
  have q371 : (ji10) < (l0.length : Int) := od_
  obtain ⟨ad371, e371, hx371_0, hx371_1⟩ := af_ HB (at_T34 HR0.out (ji10) p371 q371)
  obtain rfl : ad367 = ad371 := (by injection e371)
  replace p371 := eq_true p371
  replace q371 := eq_true q371
  go_wp2_with (first | ((with_reducible refine gate_builtin (b := .append) (xs := #[.tmp 21, .tmp 26]) rfl ?_); at_builtin; refine Kd.R_append k34 (w0 := w) w.heap.size rfl (.tmp 21) (.tmp 26) 25 34 (.agg #[(.int .i16 0), (.int .i16 0)]) 4 rfl Try.underlying25 info34 rfl (by decide) (by omega) u7 x7_1 (⟨(rd_T34 l0 (ji10)).f0, (rd_T34 l0 (ji10)).f1⟩ : S34) [.int .i16 ((rd_T34 l0 (ji10)).f0), .int .i16 ((rd_T34 l0 (ji10)).f1)] (fun _ => True) (fun _ => False) rfl rfl ?aP (fun _ hk => hk.elim) ?aF ?aO ?aB ?aS ?aL ?_; (case aP => exact k34_mkM _ _ _ (⟨(rd_T34 l0 (ji10)).f0, (rd_T34 l0 (ji10)).f1⟩ : S34)); (case aB => exact (kB_ HB)); (case aF => exact (fun _ _ => trivial)); (case aO => exact (kp_ HO_7)); (case aS => exact (below_size (kB_ HB))); (case aL => have := LMc13.out; omega); intro v373 w14 ho hb hg hat; rw [← Ny372.out] at ho; have n0_ := Aside0.mk (hb); have n1_ := Aside0.mk (ho); clear HB; clear HO_7; have HB := n0_; have HO374 := n1_; clear n0_ n1_; clear ho hb hg hat))
  go_roundg k1
  case measure => have := HK1.out; omega
  case rel => exact ⟨(ji10), (y372), (by first | rfl | (simp; done) | (simp only [← hji10] <;> (first | rfl | simp)) | (simp [*]; done)), H', ⟨by have := HK1.out; omega⟩, ⟨kp_ HO374⟩, ⟨bl_ HB⟩⟩

/-! ### spec_DoTouch: function 9 -/
def spec_DoTouch.j0 : Nat → List (S34) → List (S34) → Bool → Option (Bool × Int)
 | 0, _, _, _ => none
 | k + 1, x0, x1, x13 => if x13 = true then (some (false, 1)) else ((spec_l03Over.f k x0 x1).bind fun t278 => (if t278 = true then (some (false, 0)) else ((spec_l03Apart.f k x0 x1 false).bind fun t279 => (if t279 = true then (some (false, 0)) else ((spec_l03Apart.f k x1 x0 false).bind fun t280 => (some (!t280, 0)))))))
def spec_DoTouch.f (k : Nat) (l0 : List (S34)) (l1 : List (S34)) : Option (Bool × Int) := (spec_l03Ok.f k l0).bind fun t276 => (if t276 = true then ((spec_l03Ok.f k l1).bind fun t277 => (spec_DoTouch.j0 k l0 l1 (!t277))) else (spec_DoTouch.j0 k l0 l1 true))
theorem spec_DoTouch.mono_l : ∀ k, (∀ y0 y1 y2, LeO (spec_DoTouch.j0 k y0 y1 y2) (spec_DoTouch.j0 (k + 1) y0 y1 y2))
 | 0 => fun _ _ _ r h => by simp [spec_DoTouch.j0] at h
 | k + 1 => by
  have ih0 := spec_DoTouch.mono_l k
  ·
   intro y0 y1 y2
   unfold spec_DoTouch.j0
   repeat' first | (with_reducible first | exact ih0 _ _ _ | exact spec_l03Apart.mono _ _ _ _ | exact spec_l03Ok.mono _ _ | exact spec_l03Over.mono _ _ _ | exact LeO.refl _ | exact LeO.none _ | refine LeO.ite ?_ ?_ | refine LeO.bind ?_ (fun _ => ?_))
theorem spec_DoTouch.mono : ∀ a0 a1 k, LeO (spec_DoTouch.f k a0 a1) (spec_DoTouch.f (k + 1) a0 a1) := by
 intro a0 a1 k
 have ih0 := spec_DoTouch.mono_l k
 unfold spec_DoTouch.f
 repeat' first | (with_reducible first | exact ih0 _ _ _ | exact spec_l03Apart.mono _ _ _ _ | exact spec_l03Ok.mono _ _ | exact spec_l03Over.mono _ _ _ | exact LeO.refl _ | exact LeO.none _ | refine LeO.ite ?_ ?_ | refine LeO.bind ?_ (fun _ => ?_))
set_option maxHeartbeats 8000000 in
set_option maxRecDepth 100000 in
theorem spec_DoTouch.calls (k : Nat) (A0 : Option Addr) (c0 : Nat) (l0 : List (S34)) (A1 : Option Addr) (c1 : Nat) (l1 : List (S34)) (r1 : Bool) (r2 : Int) (w : World) (hr0 : Kd.C k34 w A0 l0.length l0) (hc0 : l0.length ≤ c0) (hr1 : Kd.C k34 w A1 l1.length l1) (hc1 : l1.length ≤ c1) (h : spec_DoTouch.f k l0 l1 = some (r1, r2)) :
  Calls Try.prog 9 #[.slice A0 l0.length c0, .slice A1 l1.length c1] w fun e w' => e = .returned (.tuple #[.bool r1, .int .i64 r2]) ∧ Below w.heap.size w w' := by
 have HR0 := Aside0.mk hr0
 have HC0 := Aside0.mk hc0
 clear hr0 hc0
 have HR1 := Aside0.mk hr1
 have HC1 := Aside0.mk hc1
 clear hr1 hc1
 have HB := Aside0.mk (Below.refl w.heap.size w)
 have H : ((spec_l03Ok.f k l0).bind fun t276 => (if t276 = true then ((spec_l03Ok.f k l1).bind fun t277 => (spec_DoTouch.j0 k l0 l1 (!t277))) else (spec_DoTouch.j0 k l0 l1 true))) = some (r1, r2) := h
 clear h
 have HC3 := Aside0.mk H
 clear H
 go_enter Try.func9, Try.ntmps9
 go_upto_region 1 with (fail)
 go_cut [13] (fun v13 wc => ∃ (kq : Nat) (x13_2 : Bool), v13 = .bool x13_2 ∧ Aside0 (spec_DoTouch.j0 kq l0 l1 x13_2 = some (r1, r2)) ∧ Aside0 (kq ≤ k) ∧ Aside0 (Below w.heap.size w wc))
 case first =>
  have H := HC3.out
  clear HC3
  obtain ⟨t276, A4, H⟩ := be_ H
  (try dsimp only at H)
  rcases (Decidable.em (t276 = true)).symm with c5 | c5
  ·
   replace c5 := Bool.eq_false_iff.mpr c5
   subst c5
   replace H := gf_ H
   have H' := Aside0.mk H
   clear H
   go_wp2_with (first | ((with_reducible refine gate_callee (f := 27) rfl ?_); refine goM_ (some 7) Try.func27 #[.slice A0 l0.length c0] ?_; (with_reducible refine (spec_l03Ok.calls k _ _ l0 false _ ?side1 ?side2 A4.out).mono ?_); (case side1 => exact kc_ (Kd.C_below HR0.out HB.out)); (case side2 => exact HC0.out); rintro e w9 ⟨rfl, hb⟩; refine ⟨_, rfl, ?_⟩; replace HB := bs_ HB hb; clear hb))
   go_meet
   case rel => exact ⟨_, (true), (by first | rfl | (simp; done) | (simp [*]; done)), H', ⟨by first | omega | exact Nat.le_refl _⟩, ⟨bl_ HB⟩⟩
  subst c5
  replace H := gt_ H
  obtain ⟨t277, A6, H⟩ := be_ H
  (try dsimp only at H)
  have H' := Aside0.mk H
  clear H
  go_wp2_with (first | ((with_reducible refine gate_callee (f := 27) rfl ?_); refine goM_ (some 7) Try.func27 #[.slice A0 l0.length c0] ?_; (with_reducible refine (spec_l03Ok.calls k _ _ l0 true _ ?side1 ?side2 A4.out).mono ?_); (case side1 => exact kc_ (Kd.C_below HR0.out HB.out)); (case side2 => exact HC0.out); rintro e w7 ⟨rfl, hb⟩; refine ⟨_, rfl, ?_⟩; replace HB := bs_ HB hb; clear hb) | (go_at_call 27; (with_reducible refine (spec_l03Ok.calls k _ _ l1 t277 _ ?side1 ?side2 A6.out).mono ?_); (case side1 => exact kc_ (Kd.C_below HR1.out HB.out)); (case side2 => exact HC1.out); rintro e w8 ⟨rfl, hb⟩; replace HB := bs_ HB hb; clear hb))
  go_meet
  case rel => exact ⟨_, (!t277), (by first | rfl | (simp; done) | (simp [*]; done)), H', ⟨by first | omega | exact Nat.le_refl _⟩, ⟨bl_ HB⟩⟩
 case rest =>
  clear HC3
  obtain ⟨kq, x13_2, rfl, HA, HJ2, HB⟩ := hcut
  rcases kq with _ | kj2
  · exact absurd HA.out (by simp [spec_DoTouch.j0])
  have H := HA.out
  clear HA
  simp only [spec_DoTouch.j0] at H
  by_cases c10 : x13_2 = true
  ·
   subst c10
   replace H := gt_ H
   simp only [Option.some.injEq, Prod.mk.injEq] at H
   obtain ⟨rfl, rfl⟩ := H
   go_wp2
   go_ret2
   exact ⟨rt_, bl_ HB⟩
  replace c10 := Bool.eq_false_iff.mpr c10
  subst c10
  replace H := gf_ H
  obtain ⟨t278, A11, H⟩ := be_ H
  (try dsimp only at H)
  by_cases c12 : t278 = true
  ·
   subst c12
   replace H := gt_ H
   simp only [Option.some.injEq, Prod.mk.injEq] at H
   obtain ⟨rfl, rfl⟩ := H
   go_wp2_with (first | ((with_reducible refine gate_callee (f := 28) rfl ?_); refine goM_ (some 16) Try.func28 #[.slice A0 l0.length c0, .slice A1 l1.length c1] ?_; (with_reducible refine (spec_l03Over.calls kj2 _ _ l0 _ _ l1 true _ ?side1 ?side2 ?side3 ?side4 A11.out).mono ?_); (case side1 => exact kc_ (Kd.C_below HR0.out HB.out)); (case side2 => exact HC0.out); (case side3 => exact kc_ (Kd.C_below HR1.out HB.out)); (case side4 => exact HC1.out); rintro e w13 ⟨rfl, hb⟩; refine ⟨_, rfl, ?_⟩; replace HB := bs_ HB hb; clear hb))
   go_ret2
   exact ⟨rt_, bl_ HB⟩
  replace c12 := Bool.eq_false_iff.mpr c12
  subst c12
  replace H := gf_ H
  obtain ⟨t279, A14, H⟩ := be_ H
  (try dsimp only at H)
  by_cases c15 : t279 = true
  ·
   subst c15
   replace H := gt_ H
   simp only [Option.some.injEq, Prod.mk.injEq] at H
   obtain ⟨rfl, rfl⟩ := H
   go_wp2_with (first | ((with_reducible refine gate_callee (f := 28) rfl ?_); refine goM_ (some 16) Try.func28 #[.slice A0 l0.length c0, .slice A1 l1.length c1] ?_; (with_reducible refine (spec_l03Over.calls kj2 _ _ l0 _ _ l1 false _ ?side1 ?side2 ?side3 ?side4 A11.out).mono ?_); (case side1 => exact kc_ (Kd.C_below HR0.out HB.out)); (case side2 => exact HC0.out); (case side3 => exact kc_ (Kd.C_below HR1.out HB.out)); (case side4 => exact HC1.out); rintro e w16 ⟨rfl, hb⟩; refine ⟨_, rfl, ?_⟩; replace HB := bs_ HB hb; clear hb) | (go_at_call 30; (with_reducible refine (spec_l03Apart.calls kj2 _ _ l0 _ _ l1 false true _ ?side1 ?side2 ?side3 ?side4 A14.out).mono ?_); (case side1 => exact kc_ (Kd.C_below HR0.out HB.out)); (case side2 => exact HC0.out); (case side3 => exact kc_ (Kd.C_below HR1.out HB.out)); (case side4 => exact HC1.out); rintro e w17 ⟨rfl, hb⟩; replace HB := bs_ HB hb; clear hb))
   go_ret2
   exact ⟨rt_, bl_ HB⟩
  replace c15 := Bool.eq_false_iff.mpr c15
  subst c15
  replace H := gf_ H
  obtain ⟨t280, A18, H⟩ := be_ H
  (try dsimp only at H)
  simp only [Option.some.injEq, Prod.mk.injEq] at H
  obtain ⟨rfl, rfl⟩ := H
  go_wp2_with (first | ((with_reducible refine gate_callee (f := 28) rfl ?_); refine goM_ (some 16) Try.func28 #[.slice A0 l0.length c0, .slice A1 l1.length c1] ?_; (with_reducible refine (spec_l03Over.calls kj2 _ _ l0 _ _ l1 false _ ?side1 ?side2 ?side3 ?side4 A11.out).mono ?_); (case side1 => exact kc_ (Kd.C_below HR0.out HB.out)); (case side2 => exact HC0.out); (case side3 => exact kc_ (Kd.C_below HR1.out HB.out)); (case side4 => exact HC1.out); rintro e w19 ⟨rfl, hb⟩; refine ⟨_, rfl, ?_⟩; replace HB := bs_ HB hb; clear hb) | (go_at_call 30; (with_reducible refine (spec_l03Apart.calls kj2 _ _ l0 _ _ l1 false false _ ?side1 ?side2 ?side3 ?side4 A14.out).mono ?_); (case side1 => exact kc_ (Kd.C_below HR0.out HB.out)); (case side2 => exact HC0.out); (case side3 => exact kc_ (Kd.C_below HR1.out HB.out)); (case side4 => exact HC1.out); rintro e w20 ⟨rfl, hb⟩; replace HB := bs_ HB hb; clear hb) | (go_at_call 30; (with_reducible refine (spec_l03Apart.calls kj2 _ _ l1 _ _ l0 false t280 _ ?side1 ?side2 ?side3 ?side4 A18.out).mono ?_); (case side1 => exact kc_ (Kd.C_below HR1.out HB.out)); (case side2 => exact HC1.out); (case side3 => exact kc_ (Kd.C_below HR0.out HB.out)); (case side4 => exact HC0.out); rintro e w21 ⟨rfl, hb⟩; replace HB := bs_ HB hb; clear hb))
  go_ret2
  exact ⟨rt_, bl_ HB⟩

end Go.Proofs.Ytmglnofmmgokkaa.PA
