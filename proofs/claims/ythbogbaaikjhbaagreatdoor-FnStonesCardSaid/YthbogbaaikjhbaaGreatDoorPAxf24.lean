/- Pure functions, and that Go's functions come to them. -/
import Derived.Test.YthbogbaaikjhbaaGreatDoorPAx0
import Derived.Test.YthbogbaaikjhbaaGreatDoorPAxm21
import Derived.Test.YthbogbaaikjhbaaGreatDoorPAxm27
import Derived.Test.YthbogbaaikjhbaaGreatDoorPAxm29
import Derived.Test.YthbogbaaikjhbaaGreatDoorPAxf54
import Derived.Test.YthbogbaaikjhbaaGreatDoorPAxm28
namespace Go.Proofs.YthbogbaaikjhbaaGreatDoor.PA
open Go.RowKit Go.Proofs.YthbogbaaikjhbaaGreatDoorW.PrintWords Go.Proofs.YthbogbaaikjhbaaGreatDoorW.PrintLast Go.Proofs.YthbogbaaikjhbaaGreatDoorW.PrintMore
set_option linter.unusedVariables false
set_option linter.unusedSimpArgs false

/-! ### impl_HullOf: function 24 -/
def impl_HullOf.j0 : Nat → List (S43) → Bool → Option ((List (S43)) × Int)
 | 0, _, _ => none
 | k + 1, x0, x12 => if x12 = true then (some (([] : List (S43)), 2)) else (if (x0.length : Int) = 0 then (some (([] : List (S43)), 4)) else ((impl_Corner_50.f x0).bind fun t530 => ((impl_Corner_51.f t530).bind fun t533 => ((impl_Corner_53.f t533).bind fun t534 => ((impl_chain.f k t534).bind fun t537 => ((impl_Corner_55.f t534).bind fun t540 => ((impl_chain.f k t540).bind fun t541 => (if t537.length + t541.length < 35184372088832 then ((some (t537 ++ t541 : List (S43))).bind fun y544 => (if (y544.length : Int) < 3 then (some (([] : List (S43)), 4)) else (if (y544.length : Int) > 8 then (some (([] : List (S43)), 3)) else (some (y544, 0))))) else (none)))))))))
def impl_HullOf.f (k : Nat) (l0 : List (S43)) : Option ((List (S43)) × Int) := if (l0.length : Int) > 100 then (impl_HullOf.j0 k l0 true) else ((impl_HullOf_1_any.f l0).bind fun t529 => (impl_HullOf.j0 k l0 t529))
theorem impl_HullOf.mono_l : ∀ k, (∀ y0 y1, LeO (impl_HullOf.j0 k y0 y1) (impl_HullOf.j0 (k + 1) y0 y1))
 | 0 => fun _ _ r h => by simp [impl_HullOf.j0] at h
 | k + 1 => by
  have ih0 := impl_HullOf.mono_l k
  ·
   intro y0 y1
   unfold impl_HullOf.j0
   repeat' first | (with_reducible first | exact ih0 _ _ | exact impl_chain.mono _ _ | exact LeO.refl _ | exact LeO.none _ | refine LeO.ite ?_ ?_ | refine LeO.bind ?_ (fun _ => ?_))
theorem impl_HullOf.mono : ∀ a0 k, LeO (impl_HullOf.f k a0) (impl_HullOf.f (k + 1) a0) := by
 intro a0 k
 have ih0 := impl_HullOf.mono_l k
 unfold impl_HullOf.f
 repeat' first | (with_reducible first | exact ih0 _ _ | exact impl_chain.mono _ _ | exact LeO.refl _ | exact LeO.none _ | refine LeO.ite ?_ ?_ | refine LeO.bind ?_ (fun _ => ?_))
set_option maxHeartbeats 8000000 in
set_option maxRecDepth 100000 in
theorem impl_HullOf.calls (k : Nat) (A0 : Option Addr) (c0 : Nat) (l0 : List (S43)) (r1 : List (S43)) (r2 : Int) (w : World) (hr0 : Kd.C k43 w A0 l0.length l0) (hc0 : l0.length ≤ c0) (h : impl_HullOf.f k l0 = some (r1, r2)) :
  Calls Tryz.prog 24 #[.slice A0 l0.length c0] w fun e w' => ∃ v0_ : Value, e = .returned (.tuple #[v0_, .int .i64 r2]) ∧ Kd.R k43 43 w' w.heap.size (fun _ => True) v0_ r1 ∧ Below w.heap.size w w' := by
 have HR0 := Aside0.mk hr0
 have HC0 := Aside0.mk hc0
 clear hr0 hc0
 have HB := Aside0.mk (Below.refl w.heap.size w)
 have H : (if (l0.length : Int) > 100 then (impl_HullOf.j0 k l0 true) else ((impl_HullOf_1_any.f l0).bind fun t529 => (impl_HullOf.j0 k l0 t529))) = some (r1, r2) := h
 clear h
 have HC2 := Aside0.mk H
 clear H
 go_enter Tryz.func24, Tryz.ntmps24
 go_upto_region 1 with (fail)
 go_cut [12] (fun v12 wc => ∃ (kq : Nat) (x12_1 : Bool), v12 = .bool x12_1 ∧ Aside0 (impl_HullOf.j0 kq l0 x12_1 = some (r1, r2)) ∧ Aside0 (kq ≤ k) ∧ Aside0 (Below w.heap.size w wc))
 case first =>
  have H := HC2.out
  clear HC2
  by_cases c3 : (l0.length : Int) > 100
  ·
   rw [if_pos c3] at H
   have c3b0 : decide (100 < (l0.length : Int)) = true := decide_eq_true c3
   have c3b1 : decide (100 < l0.length) = true := decide_eq_true (by omega)
   clear c3
   (first | rw [c3b0] | (simp only [i64_w, i32_w]; rw [c3b0]) | skip)
   have H' := Aside0.mk H
   clear H
   go_wp2
   go_meet
   case rel => exact ⟨_, (true), (by first | rfl | (simp; done) | (simp [*]; done)), H', ⟨by first | omega | exact Nat.le_refl _⟩, ⟨bl_ HB⟩⟩
  rw [if_neg c3] at H
  have c3b0 : decide (100 < (l0.length : Int)) = false := decide_eq_false c3
  have c3b1 : decide (100 < l0.length) = false := decide_eq_false (by omega)
  clear c3
  (first | rw [c3b0] | (simp only [i64_w, i32_w]; rw [c3b0]) | skip)
  obtain ⟨t529, A4, H⟩ := be_ H
  (try dsimp only at H)
  have H' := Aside0.mk H
  clear H
  go_wp2_with (first | (go_at_call 48; (with_reducible refine (impl_HullOf_1_any.calls _ _ l0  t529 _ ?side1 ?side2 A4.out).mono ?_); (case side1 => exact kc_ (Kd.C_below HR0.out HB.out)); (case side2 => exact HC0.out); rintro e w5 ⟨rfl, hb⟩; replace HB := bs_ HB hb; clear hb))
  go_meet
  case rel => exact ⟨_, (t529), (by first | rfl | (simp; done) | (simp [*]; done)), H', ⟨by first | omega | exact Nat.le_refl _⟩, ⟨bl_ HB⟩⟩
 case rest =>
  clear HC2
  obtain ⟨kq, x12_1, rfl, HA, HJ1, HB⟩ := hcut
  rcases kq with _ | kj1
  · exact absurd HA.out (by simp [impl_HullOf.j0])
  have H := HA.out
  clear HA
  simp only [impl_HullOf.j0] at H
  by_cases c6 : x12_1 = true
  ·
   subst c6
   replace H := gt_ H
   simp only [Option.some.injEq, Prod.mk.injEq] at H
   obtain ⟨rfl, rfl⟩ := H
   go_wp2
   go_ret2
   exact ⟨_, by first | rfl | (simp [errW_none, errW_some] <;> rfl) | (simp [*, errW_none, errW_some] <;> rfl), by first | exact Kd.R_nil _ _ _ _ _ | exact Kd.N_nil _ _ _ _ _ | exact Kd.V_nil _ _ _ _ _ | exact Kd.Q_nil _ _ _ _ _ | exact Kd.S_nil _ _ _ _ _, bl_ HB⟩
  replace c6 := Bool.eq_false_iff.mpr c6
  subst c6
  replace H := gf_ H
  by_cases c7 : (l0.length : Int) = 0
  ·
   rw [if_pos c7] at H
   have c7b0 : ((l0.length : Int) == 0) = true := beq_iff_eq.mpr c7
   have c7b1 : ((l0.length : Int) != 0) = false := bne_eq_false_iff_eq.mpr c7
   clear c7
   simp only [Option.some.injEq, Prod.mk.injEq] at H
   obtain ⟨rfl, rfl⟩ := H
   go_wp2
   go_ret2
   exact ⟨_, by first | rfl | (simp [errW_none, errW_some] <;> rfl) | (simp [*, errW_none, errW_some] <;> rfl), by first | exact Kd.R_nil _ _ _ _ _ | exact Kd.N_nil _ _ _ _ _ | exact Kd.V_nil _ _ _ _ _ | exact Kd.Q_nil _ _ _ _ _ | exact Kd.S_nil _ _ _ _ _, bl_ HB⟩
  rw [if_neg c7] at H
  have c7b0 : ((l0.length : Int) == 0) = false := beq_eq_false_iff_ne.mpr c7
  have c7b1 : ((l0.length : Int) != 0) = true := bne_iff_ne.mpr c7
  have c7b2 : ¬ (l0 = []) := fun h_ => c7 (by rw [h_]; rfl)
  obtain ⟨t530, A8, H⟩ := be_ H
  (try dsimp only at H)
  obtain ⟨t533, A9, H⟩ := be_ H
  (try dsimp only at H)
  obtain ⟨t534, A10, H⟩ := be_ H
  (try dsimp only at H)
  obtain ⟨t537, A11, H⟩ := be_ H
  (try dsimp only at H)
  obtain ⟨t540, A12, H⟩ := be_ H
  (try dsimp only at H)
  obtain ⟨t541, A13, H⟩ := be_ H
  (try dsimp only at H)
  obtain ⟨(c14 : t537.length + t541.length < 35184372088832), H⟩ := gd_ H
  have LMc14 := Aside0.mk c14
  clear c14
  obtain ⟨y544, hy544⟩ : ∃ y_ : List (S43), y_ = (t537 ++ t541) := ⟨_, rfl⟩
  replace H : (if (y544.length : Int) < 3 then (some (([] : List (S43)), 4)) else (if (y544.length : Int) > 8 then (some (([] : List (S43)), 3)) else (some (y544, 0)))) = some (r1, r2) := by first | (rw [hy544]; with_reducible exact H) | (have H2_ := (Option.bind_some _ _).symm.trans H; rw [hy544]; with_reducible exact H2_) | (have H2_ := (Option.bind_some _ _).symm.trans H; with_reducible exact H2_) | with_reducible exact H | (rw [hy544]; exact H) | exact H
  have Ny544 := Aside0.mk hy544
  clear hy544
  by_cases c15 : (y544.length : Int) < 3
  ·
   rw [if_pos c15] at H
   have c15b0 : decide ((y544.length : Int) < 3) = true := decide_eq_true c15
   have c15b1 : decide (y544.length < 3) = true := decide_eq_true (by omega)
   clear c15
   simp only [Option.some.injEq, Prod.mk.injEq] at H
   obtain ⟨rfl, rfl⟩ := H
   go_wp2_with (first | ((with_reducible refine gate_callee (f := 50) rfl ?_); refine goM_ (some 17) Tryz.func50 #[.slice A0 l0.length c0] ?_; (with_reducible refine (impl_Corner_50.calls _ _ l0 t530 _ ?side1 ?side2 A8.out).mono ?_); (case side1 => exact kc_ (Kd.C_below HR0.out HB.out)); (case side2 => exact HC0.out); rintro e w16 ⟨v531, rfl, ho0, hb⟩; refine ⟨_, rfl, ?_⟩; have HO532 := Aside0.mk (Kd.R_lower ho0 (below_size (kB_ HB))); replace HB := bs_ HB hb; clear hb; (try clear ho0); obtain ⟨Ao17, co17, eo17⟩ := Kd.R_slice HO532.out; subst eo17) | ((with_reducible refine gate_callee (f := 51) rfl ?_); refine goM_ (some 19) Tryz.func51 #[.slice Ao17 t530.length co17, .func (.func 52) #[] #[]] ?_; (with_reducible refine (impl_Corner_51.calls (fun k_ => some k_ = (.slice Ao17 t530.length co17 : Value).ownBlock) (.slice Ao17 t530.length co17) t530 t533 w _ ?side1 ?side2 A9.out).mono ?_); (case side1 => repeat (first | (with_reducible first | exact HB.out | apply below_alloc | apply pw_below_drewN | apply below_drew1) | exact HB.out)); (case side2 => exact Kd.R_tight rfl HO532.out); rintro e w18 ⟨rfl, hy0, hb, hkp⟩; refine ⟨_, rfl, ?_⟩; replace HO532 := Aside0.mk (Kd.R_reok rfl hy0 (fun k_ e_ => HO532.out.1 k_ e_)); replace HB := Aside0.mk (hb); clear hb; (try clear hkp); (try clear hy0)) | ((with_reducible refine gate_callee (f := 53) rfl ?_); refine goM_ (some 21) Tryz.func53 #[.slice Ao17 t530.length co17] ?_; (with_reducible refine (impl_Corner_53.calls (fun k_ => some k_ = (.slice Ao17 t530.length co17 : Value).ownBlock) (.slice Ao17 t530.length co17) t533 t534 w _ ?side1 ?side2 A10.out).mono ?_); (case side1 => repeat (first | (with_reducible first | exact HB.out | apply below_alloc | apply pw_below_drewN | apply below_drew1) | exact HB.out)); (case side2 => exact Kd.R_tight rfl HO532.out); rintro e w19 ⟨v535, rfl, ho0, hb, hkp⟩; refine ⟨_, rfl, ?_⟩; have n0_ := Aside0.mk (Kd.R_mono (ok' := fun k_ => True) ho0 (fun k_ hk_ => trivial)); have n1_ := Aside0.mk (hb); clear HB; clear HO532; have HO536 := n0_; have HB := n1_; clear n0_ n1_; clear hb; (try clear hkp); (try clear ho0); obtain ⟨Ao20, co20, eo20⟩ := Kd.R_slice HO536.out; subst eo20) | ((with_reducible refine gate_callee (f := 54) rfl ?_); refine goM_ (some 23) Tryz.func54 #[.slice Ao20 t534.length co20] ?_; (with_reducible refine (impl_chain.calls kj1 _ _ t534 t537 _ ?side1 ?side2 A11.out).mono ?_); (case side1 => exact kc_ ((Kd.R_reads' HO536.out).2.2)); (case side2 => exact (Kd.R_reads' HO536.out).2.1); rintro e w21 ⟨v538, rfl, ho0, hb⟩; refine ⟨_, rfl, ?_⟩; have HO539 := Aside0.mk (Kd.R_lower (Kd.R_new' ho0 (Kd.R_lt (kp_ HO536))) (below_size (kB_ HB))); replace HO536 := Aside0.mk (Kd.R_elder' (kp_ HO536) (Kd.R_base ho0) hb); replace HB := bs_ HB hb; clear hb; (try clear ho0)) | ((with_reducible refine gate_callee (f := 55) rfl ?_); refine goM_ (some 25) Tryz.func55 #[.slice Ao20 t534.length co20] ?_; (with_reducible refine (impl_Corner_55.calls (fun k_ => some k_ = (.slice Ao20 t534.length co20 : Value).ownBlock) (.slice Ao20 t534.length co20) t534 t540 w _ ?side1 ?side2 A12.out).mono ?_); (case side1 => repeat (first | (with_reducible first | exact HB.out | apply below_alloc | apply pw_below_drewN | apply below_drew1) | exact HB.out)); (case side2 => exact Kd.R_tight rfl HO536.out); rintro e w22 ⟨rfl, hy0, hb, hkp⟩; refine ⟨_, rfl, ?_⟩; replace HO536 := Aside0.mk (Kd.R_reok rfl hy0 (fun k_ e_ => HO536.out.1 k_ e_)); replace HO539 := Aside0.mk (Kd.R_mono (ok' := fun k_ => some k_ ≠ (.slice Ao20 t534.length co20 : Value).ownBlock) (Kd.R_keptB (HO539.out) hkp (fun k_ hk_ hs_ => (hk_.2) hs_)) (fun k_ hk_ => hk_.1.2)); replace HB := Aside0.mk (hb); clear hb; (try clear hkp); (try clear hy0)) | ((with_reducible refine gate_callee (f := 54) rfl ?_); refine goesL_ (some 28) rfl rfl Tryz.func54 (by kernel_rfl) rfl #[.slice Ao20 t540.length co20] rfl (by (try simp only [List.map_toArray, List.map_cons, List.map_nil]); first | done | (rw [show t540.length = t534.length from (Kd.R_reads' HO536.out).1.symm] <;> rfl) | rfl | (simp only [List.length_drop, List.length_take]; rfl)) ?_; (with_reducible refine (impl_chain.calls kj1 _ _ t540 t541 _ ?side1 ?side2 A13.out).mono ?_); (case side1 => exact kc_ ((Kd.R_reads' HO536.out).2.2)); (case side2 => rw [show t540.length = t534.length from (Kd.R_reads' HO536.out).1.symm]; exact (Kd.R_reads' HO536.out).2.1); rintro e w23 ⟨v542, rfl, ho0, hb⟩; refine ⟨_, rfl, ?_⟩; have HO543 := Aside0.mk (Kd.R_lower (Kd.R_new' (Kd.R_new' ho0 (Kd.R_lt (kp_ HO536))) (Kd.R_lt (kp_ HO539))) (below_size (kB_ HB))); replace HO536 := Aside0.mk (Kd.R_elder' (kp_ HO536) (Kd.R_base ho0) hb); replace HO539 := Aside0.mk (Kd.R_elder' (kp_ HO539) (Kd.R_base ho0) hb); replace HB := bs_ HB hb; clear hb; (try clear ho0); obtain ⟨Ao25, co25, eo25⟩ := Kd.R_slice HO543.out; subst eo25) | ((with_reducible refine gate_builtin (b := .append) (xs := #[.tmp 26, .tmp 28]) rfl ?_); at_builtin; refine Kd.R_append_rows k43 (w0 := w) w.heap.size rfl (.tmp 26) (.tmp 28) 25 43 (.agg #[(.int .i16 0), (.int .i16 0)]) 4 rfl Tryz.underlying25 info43 rfl (by decide) (by omega) v538 t537 t541 _ _ _ (fun k_ => some k_ ≠ (.slice Ao20 t534.length co20 : Value).ownBlock ∧ some k_ ≠ (.slice Ao25 t541.length co25 : Value).ownBlock) (fun _ => False) rfl rfl ?aO ?aR (fun _ _ h => h) (fun _ h => h.elim) ?aF ?aB ?aS ?aL ?_; (case aR => exact kc_ ((Kd.R_reads' HO543.out).2.2)); (case aB => exact (kB_ HB)); (case aF => exact (fun k_ hk => ⟨Kd.fresh' (Kd.R_lt (kp_ HO536)) k_ hk, Kd.fresh' (Kd.R_lt (kp_ HO543)) k_ hk⟩)); (case aO => exact (kp_ HO539)); (case aS => exact (below_size (kB_ HB))); (case aL => have := LMc14.out; omega); intro v545 w24 ho hb hg hat; rw [← Ny544.out] at ho; have n0_ := Aside0.mk (Kd.R_after (ok := (fun k_ => some k_ ≠ (.slice Ao25 t541.length co25 : Value).ownBlock)) (by (with_reducible repeat (first | apply Kd.R_alloc | apply Kd.R_drewN | apply Kd.R_drew)); exact Kd.R_mono HO536.out (fun _ hk => ⟨hk.2, hk.1.2⟩)) hg hat); have n1_ := Aside0.mk (Kd.R_after (ok := (fun k_ => some k_ ≠ (.slice Ao20 t534.length co20 : Value).ownBlock)) (by (with_reducible repeat (first | apply Kd.R_alloc | apply Kd.R_drewN | apply Kd.R_drew)); exact Kd.R_mono HO543.out (fun _ hk => ⟨hk.1.2, hk.2⟩)) hg hat); have n2_ := Aside0.mk (hb); have n3_ := Aside0.mk (ho); clear HO536; clear HO543; clear HB; clear HO539; have HO536 := n0_; have HO543 := n1_; have HB := n2_; have HO546 := n3_; clear n0_ n1_ n2_ n3_; clear ho hb hg hat; obtain ⟨Ao26, co26, eo26⟩ := Kd.R_slice HO546.out; subst eo26))
   go_ret2
   exact ⟨_, by first | rfl | (simp [errW_none, errW_some] <;> rfl) | (simp [*, errW_none, errW_some] <;> rfl), by first | exact Kd.R_nil _ _ _ _ _ | exact Kd.N_nil _ _ _ _ _ | exact Kd.V_nil _ _ _ _ _ | exact Kd.Q_nil _ _ _ _ _ | exact Kd.S_nil _ _ _ _ _, bl_ HB⟩
  rw [if_neg c15] at H
  have c15b0 : decide ((y544.length : Int) < 3) = false := decide_eq_false c15
  have c15b1 : decide (y544.length < 3) = false := decide_eq_false (by omega)
  clear c15
  by_cases c27 : (y544.length : Int) > 8
  ·
   rw [if_pos c27] at H
   have c27b0 : decide (8 < (y544.length : Int)) = true := decide_eq_true c27
   have c27b1 : decide (8 < y544.length) = true := decide_eq_true (by omega)
   clear c27
   simp only [Option.some.injEq, Prod.mk.injEq] at H
   obtain ⟨rfl, rfl⟩ := H
   go_wp2_with (first | ((with_reducible refine gate_callee (f := 50) rfl ?_); refine goM_ (some 17) Tryz.func50 #[.slice A0 l0.length c0] ?_; (with_reducible refine (impl_Corner_50.calls _ _ l0 t530 _ ?side1 ?side2 A8.out).mono ?_); (case side1 => exact kc_ (Kd.C_below HR0.out HB.out)); (case side2 => exact HC0.out); rintro e w28 ⟨v531, rfl, ho0, hb⟩; refine ⟨_, rfl, ?_⟩; have HO532 := Aside0.mk (Kd.R_lower ho0 (below_size (kB_ HB))); replace HB := bs_ HB hb; clear hb; (try clear ho0); obtain ⟨Ao29, co29, eo29⟩ := Kd.R_slice HO532.out; subst eo29) | ((with_reducible refine gate_callee (f := 51) rfl ?_); refine goM_ (some 19) Tryz.func51 #[.slice Ao29 t530.length co29, .func (.func 52) #[] #[]] ?_; (with_reducible refine (impl_Corner_51.calls (fun k_ => some k_ = (.slice Ao29 t530.length co29 : Value).ownBlock) (.slice Ao29 t530.length co29) t530 t533 w _ ?side1 ?side2 A9.out).mono ?_); (case side1 => repeat (first | (with_reducible first | exact HB.out | apply below_alloc | apply pw_below_drewN | apply below_drew1) | exact HB.out)); (case side2 => exact Kd.R_tight rfl HO532.out); rintro e w30 ⟨rfl, hy0, hb, hkp⟩; refine ⟨_, rfl, ?_⟩; replace HO532 := Aside0.mk (Kd.R_reok rfl hy0 (fun k_ e_ => HO532.out.1 k_ e_)); replace HB := Aside0.mk (hb); clear hb; (try clear hkp); (try clear hy0)) | ((with_reducible refine gate_callee (f := 53) rfl ?_); refine goM_ (some 21) Tryz.func53 #[.slice Ao29 t530.length co29] ?_; (with_reducible refine (impl_Corner_53.calls (fun k_ => some k_ = (.slice Ao29 t530.length co29 : Value).ownBlock) (.slice Ao29 t530.length co29) t533 t534 w _ ?side1 ?side2 A10.out).mono ?_); (case side1 => repeat (first | (with_reducible first | exact HB.out | apply below_alloc | apply pw_below_drewN | apply below_drew1) | exact HB.out)); (case side2 => exact Kd.R_tight rfl HO532.out); rintro e w31 ⟨v535, rfl, ho0, hb, hkp⟩; refine ⟨_, rfl, ?_⟩; have n0_ := Aside0.mk (Kd.R_mono (ok' := fun k_ => True) ho0 (fun k_ hk_ => trivial)); have n1_ := Aside0.mk (hb); clear HB; clear HO532; have HO536 := n0_; have HB := n1_; clear n0_ n1_; clear hb; (try clear hkp); (try clear ho0); obtain ⟨Ao32, co32, eo32⟩ := Kd.R_slice HO536.out; subst eo32) | ((with_reducible refine gate_callee (f := 54) rfl ?_); refine goM_ (some 23) Tryz.func54 #[.slice Ao32 t534.length co32] ?_; (with_reducible refine (impl_chain.calls kj1 _ _ t534 t537 _ ?side1 ?side2 A11.out).mono ?_); (case side1 => exact kc_ ((Kd.R_reads' HO536.out).2.2)); (case side2 => exact (Kd.R_reads' HO536.out).2.1); rintro e w33 ⟨v538, rfl, ho0, hb⟩; refine ⟨_, rfl, ?_⟩; have HO539 := Aside0.mk (Kd.R_lower (Kd.R_new' ho0 (Kd.R_lt (kp_ HO536))) (below_size (kB_ HB))); replace HO536 := Aside0.mk (Kd.R_elder' (kp_ HO536) (Kd.R_base ho0) hb); replace HB := bs_ HB hb; clear hb; (try clear ho0)) | ((with_reducible refine gate_callee (f := 55) rfl ?_); refine goM_ (some 25) Tryz.func55 #[.slice Ao32 t534.length co32] ?_; (with_reducible refine (impl_Corner_55.calls (fun k_ => some k_ = (.slice Ao32 t534.length co32 : Value).ownBlock) (.slice Ao32 t534.length co32) t534 t540 w _ ?side1 ?side2 A12.out).mono ?_); (case side1 => repeat (first | (with_reducible first | exact HB.out | apply below_alloc | apply pw_below_drewN | apply below_drew1) | exact HB.out)); (case side2 => exact Kd.R_tight rfl HO536.out); rintro e w34 ⟨rfl, hy0, hb, hkp⟩; refine ⟨_, rfl, ?_⟩; replace HO536 := Aside0.mk (Kd.R_reok rfl hy0 (fun k_ e_ => HO536.out.1 k_ e_)); replace HO539 := Aside0.mk (Kd.R_mono (ok' := fun k_ => some k_ ≠ (.slice Ao32 t534.length co32 : Value).ownBlock) (Kd.R_keptB (HO539.out) hkp (fun k_ hk_ hs_ => (hk_.2) hs_)) (fun k_ hk_ => hk_.1.2)); replace HB := Aside0.mk (hb); clear hb; (try clear hkp); (try clear hy0)) | ((with_reducible refine gate_callee (f := 54) rfl ?_); refine goesL_ (some 28) rfl rfl Tryz.func54 (by kernel_rfl) rfl #[.slice Ao32 t540.length co32] rfl (by (try simp only [List.map_toArray, List.map_cons, List.map_nil]); first | done | (rw [show t540.length = t534.length from (Kd.R_reads' HO536.out).1.symm] <;> rfl) | rfl | (simp only [List.length_drop, List.length_take]; rfl)) ?_; (with_reducible refine (impl_chain.calls kj1 _ _ t540 t541 _ ?side1 ?side2 A13.out).mono ?_); (case side1 => exact kc_ ((Kd.R_reads' HO536.out).2.2)); (case side2 => rw [show t540.length = t534.length from (Kd.R_reads' HO536.out).1.symm]; exact (Kd.R_reads' HO536.out).2.1); rintro e w35 ⟨v542, rfl, ho0, hb⟩; refine ⟨_, rfl, ?_⟩; have HO543 := Aside0.mk (Kd.R_lower (Kd.R_new' (Kd.R_new' ho0 (Kd.R_lt (kp_ HO536))) (Kd.R_lt (kp_ HO539))) (below_size (kB_ HB))); replace HO536 := Aside0.mk (Kd.R_elder' (kp_ HO536) (Kd.R_base ho0) hb); replace HO539 := Aside0.mk (Kd.R_elder' (kp_ HO539) (Kd.R_base ho0) hb); replace HB := bs_ HB hb; clear hb; (try clear ho0); obtain ⟨Ao37, co37, eo37⟩ := Kd.R_slice HO543.out; subst eo37) | ((with_reducible refine gate_builtin (b := .append) (xs := #[.tmp 26, .tmp 28]) rfl ?_); at_builtin; refine Kd.R_append_rows k43 (w0 := w) w.heap.size rfl (.tmp 26) (.tmp 28) 25 43 (.agg #[(.int .i16 0), (.int .i16 0)]) 4 rfl Tryz.underlying25 info43 rfl (by decide) (by omega) v538 t537 t541 _ _ _ (fun k_ => some k_ ≠ (.slice Ao32 t534.length co32 : Value).ownBlock ∧ some k_ ≠ (.slice Ao37 t541.length co37 : Value).ownBlock) (fun _ => False) rfl rfl ?aO ?aR (fun _ _ h => h) (fun _ h => h.elim) ?aF ?aB ?aS ?aL ?_; (case aR => exact kc_ ((Kd.R_reads' HO543.out).2.2)); (case aB => exact (kB_ HB)); (case aF => exact (fun k_ hk => ⟨Kd.fresh' (Kd.R_lt (kp_ HO536)) k_ hk, Kd.fresh' (Kd.R_lt (kp_ HO543)) k_ hk⟩)); (case aO => exact (kp_ HO539)); (case aS => exact (below_size (kB_ HB))); (case aL => have := LMc14.out; omega); intro v545 w36 ho hb hg hat; rw [← Ny544.out] at ho; have n0_ := Aside0.mk (Kd.R_after (ok := (fun k_ => some k_ ≠ (.slice Ao37 t541.length co37 : Value).ownBlock)) (by (with_reducible repeat (first | apply Kd.R_alloc | apply Kd.R_drewN | apply Kd.R_drew)); exact Kd.R_mono HO536.out (fun _ hk => ⟨hk.2, hk.1.2⟩)) hg hat); have n1_ := Aside0.mk (Kd.R_after (ok := (fun k_ => some k_ ≠ (.slice Ao32 t534.length co32 : Value).ownBlock)) (by (with_reducible repeat (first | apply Kd.R_alloc | apply Kd.R_drewN | apply Kd.R_drew)); exact Kd.R_mono HO543.out (fun _ hk => ⟨hk.1.2, hk.2⟩)) hg hat); have n2_ := Aside0.mk (hb); have n3_ := Aside0.mk (ho); clear HO536; clear HO543; clear HB; clear HO539; have HO536 := n0_; have HO543 := n1_; have HB := n2_; have HO546 := n3_; clear n0_ n1_ n2_ n3_; clear ho hb hg hat; obtain ⟨Ao38, co38, eo38⟩ := Kd.R_slice HO546.out; subst eo38))
   go_ret2
   exact ⟨_, by first | rfl | (simp [errW_none, errW_some] <;> rfl) | (simp [*, errW_none, errW_some] <;> rfl), by first | exact Kd.R_nil _ _ _ _ _ | exact Kd.N_nil _ _ _ _ _ | exact Kd.V_nil _ _ _ _ _ | exact Kd.Q_nil _ _ _ _ _ | exact Kd.S_nil _ _ _ _ _, bl_ HB⟩
  ·
   rw [if_neg c27] at H
   have c27b0 : decide (8 < (y544.length : Int)) = false := decide_eq_false c27
   have c27b1 : decide (8 < y544.length) = false := decide_eq_false (by omega)
   clear c27
   simp only [Option.some.injEq, Prod.mk.injEq] at H
   obtain ⟨rfl, rfl⟩ := H
   go_wp2_with (first | ((with_reducible refine gate_callee (f := 50) rfl ?_); refine goM_ (some 17) Tryz.func50 #[.slice A0 l0.length c0] ?_; (with_reducible refine (impl_Corner_50.calls _ _ l0 t530 _ ?side1 ?side2 A8.out).mono ?_); (case side1 => exact kc_ (Kd.C_below HR0.out HB.out)); (case side2 => exact HC0.out); rintro e w39 ⟨v531, rfl, ho0, hb⟩; refine ⟨_, rfl, ?_⟩; have HO532 := Aside0.mk (Kd.R_lower ho0 (below_size (kB_ HB))); replace HB := bs_ HB hb; clear hb; (try clear ho0); obtain ⟨Ao40, co40, eo40⟩ := Kd.R_slice HO532.out; subst eo40) | ((with_reducible refine gate_callee (f := 51) rfl ?_); refine goM_ (some 19) Tryz.func51 #[.slice Ao40 t530.length co40, .func (.func 52) #[] #[]] ?_; (with_reducible refine (impl_Corner_51.calls (fun k_ => some k_ = (.slice Ao40 t530.length co40 : Value).ownBlock) (.slice Ao40 t530.length co40) t530 t533 w _ ?side1 ?side2 A9.out).mono ?_); (case side1 => repeat (first | (with_reducible first | exact HB.out | apply below_alloc | apply pw_below_drewN | apply below_drew1) | exact HB.out)); (case side2 => exact Kd.R_tight rfl HO532.out); rintro e w41 ⟨rfl, hy0, hb, hkp⟩; refine ⟨_, rfl, ?_⟩; replace HO532 := Aside0.mk (Kd.R_reok rfl hy0 (fun k_ e_ => HO532.out.1 k_ e_)); replace HB := Aside0.mk (hb); clear hb; (try clear hkp); (try clear hy0)) | ((with_reducible refine gate_callee (f := 53) rfl ?_); refine goM_ (some 21) Tryz.func53 #[.slice Ao40 t530.length co40] ?_; (with_reducible refine (impl_Corner_53.calls (fun k_ => some k_ = (.slice Ao40 t530.length co40 : Value).ownBlock) (.slice Ao40 t530.length co40) t533 t534 w _ ?side1 ?side2 A10.out).mono ?_); (case side1 => repeat (first | (with_reducible first | exact HB.out | apply below_alloc | apply pw_below_drewN | apply below_drew1) | exact HB.out)); (case side2 => exact Kd.R_tight rfl HO532.out); rintro e w42 ⟨v535, rfl, ho0, hb, hkp⟩; refine ⟨_, rfl, ?_⟩; have n0_ := Aside0.mk (Kd.R_mono (ok' := fun k_ => True) ho0 (fun k_ hk_ => trivial)); have n1_ := Aside0.mk (hb); clear HB; clear HO532; have HO536 := n0_; have HB := n1_; clear n0_ n1_; clear hb; (try clear hkp); (try clear ho0); obtain ⟨Ao43, co43, eo43⟩ := Kd.R_slice HO536.out; subst eo43) | ((with_reducible refine gate_callee (f := 54) rfl ?_); refine goM_ (some 23) Tryz.func54 #[.slice Ao43 t534.length co43] ?_; (with_reducible refine (impl_chain.calls kj1 _ _ t534 t537 _ ?side1 ?side2 A11.out).mono ?_); (case side1 => exact kc_ ((Kd.R_reads' HO536.out).2.2)); (case side2 => exact (Kd.R_reads' HO536.out).2.1); rintro e w44 ⟨v538, rfl, ho0, hb⟩; refine ⟨_, rfl, ?_⟩; have HO539 := Aside0.mk (Kd.R_lower (Kd.R_new' ho0 (Kd.R_lt (kp_ HO536))) (below_size (kB_ HB))); replace HO536 := Aside0.mk (Kd.R_elder' (kp_ HO536) (Kd.R_base ho0) hb); replace HB := bs_ HB hb; clear hb; (try clear ho0)) | ((with_reducible refine gate_callee (f := 55) rfl ?_); refine goM_ (some 25) Tryz.func55 #[.slice Ao43 t534.length co43] ?_; (with_reducible refine (impl_Corner_55.calls (fun k_ => some k_ = (.slice Ao43 t534.length co43 : Value).ownBlock) (.slice Ao43 t534.length co43) t534 t540 w _ ?side1 ?side2 A12.out).mono ?_); (case side1 => repeat (first | (with_reducible first | exact HB.out | apply below_alloc | apply pw_below_drewN | apply below_drew1) | exact HB.out)); (case side2 => exact Kd.R_tight rfl HO536.out); rintro e w45 ⟨rfl, hy0, hb, hkp⟩; refine ⟨_, rfl, ?_⟩; replace HO536 := Aside0.mk (Kd.R_reok rfl hy0 (fun k_ e_ => HO536.out.1 k_ e_)); replace HO539 := Aside0.mk (Kd.R_mono (ok' := fun k_ => some k_ ≠ (.slice Ao43 t534.length co43 : Value).ownBlock) (Kd.R_keptB (HO539.out) hkp (fun k_ hk_ hs_ => (hk_.2) hs_)) (fun k_ hk_ => hk_.1.2)); replace HB := Aside0.mk (hb); clear hb; (try clear hkp); (try clear hy0)) | ((with_reducible refine gate_callee (f := 54) rfl ?_); refine goesL_ (some 28) rfl rfl Tryz.func54 (by kernel_rfl) rfl #[.slice Ao43 t540.length co43] rfl (by (try simp only [List.map_toArray, List.map_cons, List.map_nil]); first | done | (rw [show t540.length = t534.length from (Kd.R_reads' HO536.out).1.symm] <;> rfl) | rfl | (simp only [List.length_drop, List.length_take]; rfl)) ?_; (with_reducible refine (impl_chain.calls kj1 _ _ t540 t541 _ ?side1 ?side2 A13.out).mono ?_); (case side1 => exact kc_ ((Kd.R_reads' HO536.out).2.2)); (case side2 => rw [show t540.length = t534.length from (Kd.R_reads' HO536.out).1.symm]; exact (Kd.R_reads' HO536.out).2.1); rintro e w46 ⟨v542, rfl, ho0, hb⟩; refine ⟨_, rfl, ?_⟩; have HO543 := Aside0.mk (Kd.R_lower (Kd.R_new' (Kd.R_new' ho0 (Kd.R_lt (kp_ HO536))) (Kd.R_lt (kp_ HO539))) (below_size (kB_ HB))); replace HO536 := Aside0.mk (Kd.R_elder' (kp_ HO536) (Kd.R_base ho0) hb); replace HO539 := Aside0.mk (Kd.R_elder' (kp_ HO539) (Kd.R_base ho0) hb); replace HB := bs_ HB hb; clear hb; (try clear ho0); obtain ⟨Ao48, co48, eo48⟩ := Kd.R_slice HO543.out; subst eo48) | ((with_reducible refine gate_builtin (b := .append) (xs := #[.tmp 26, .tmp 28]) rfl ?_); at_builtin; refine Kd.R_append_rows k43 (w0 := w) w.heap.size rfl (.tmp 26) (.tmp 28) 25 43 (.agg #[(.int .i16 0), (.int .i16 0)]) 4 rfl Tryz.underlying25 info43 rfl (by decide) (by omega) v538 t537 t541 _ _ _ (fun k_ => some k_ ≠ (.slice Ao43 t534.length co43 : Value).ownBlock ∧ some k_ ≠ (.slice Ao48 t541.length co48 : Value).ownBlock) (fun _ => False) rfl rfl ?aO ?aR (fun _ _ h => h) (fun _ h => h.elim) ?aF ?aB ?aS ?aL ?_; (case aR => exact kc_ ((Kd.R_reads' HO543.out).2.2)); (case aB => exact (kB_ HB)); (case aF => exact (fun k_ hk => ⟨Kd.fresh' (Kd.R_lt (kp_ HO536)) k_ hk, Kd.fresh' (Kd.R_lt (kp_ HO543)) k_ hk⟩)); (case aO => exact (kp_ HO539)); (case aS => exact (below_size (kB_ HB))); (case aL => have := LMc14.out; omega); intro v545 w47 ho hb hg hat; rw [← Ny544.out] at ho; have n0_ := Aside0.mk (Kd.R_after (ok := (fun k_ => some k_ ≠ (.slice Ao48 t541.length co48 : Value).ownBlock)) (by (with_reducible repeat (first | apply Kd.R_alloc | apply Kd.R_drewN | apply Kd.R_drew)); exact Kd.R_mono HO536.out (fun _ hk => ⟨hk.2, hk.1.2⟩)) hg hat); have n1_ := Aside0.mk (Kd.R_after (ok := (fun k_ => some k_ ≠ (.slice Ao43 t534.length co43 : Value).ownBlock)) (by (with_reducible repeat (first | apply Kd.R_alloc | apply Kd.R_drewN | apply Kd.R_drew)); exact Kd.R_mono HO543.out (fun _ hk => ⟨hk.1.2, hk.2⟩)) hg hat); have n2_ := Aside0.mk (hb); have n3_ := Aside0.mk (ho); clear HO536; clear HO543; clear HB; clear HO539; have HO536 := n0_; have HO543 := n1_; have HB := n2_; have HO546 := n3_; clear n0_ n1_ n2_ n3_; clear ho hb hg hat; obtain ⟨Ao49, co49, eo49⟩ := Kd.R_slice HO546.out; subst eo49))
   go_ret2
   exact ⟨_, by first | rfl | (simp [errW_none, errW_some] <;> rfl) | (simp [*, errW_none, errW_some] <;> rfl), by (with_reducible repeat (first | apply Kd.R_alloc | apply Kd.R_drewN | apply Kd.R_drew)); exact Kd.R_mono HO546.out (fun _ hk => trivial), bl_ HB⟩
end Go.Proofs.YthbogbaaikjhbaaGreatDoor.PA
