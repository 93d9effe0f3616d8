/- Pure functions, and that Go's functions come to them. -/
import Derived.Test.YtllfeehchiikoaaPAx0
import Derived.Test.YtllfeehchiikoaaPAxmA
import Derived.Test.YtllfeehchiikoaaPAxf45
namespace Go.Proofs.Ytllfeehchiikoaa.PA
open Go.RowKit Go.Proofs.YtllfeehchiikoaaW.PrintWords Go.Proofs.YtllfeehchiikoaaW.PrintLast Go.Proofs.YtllfeehchiikoaaW.PrintMore
set_option linter.unusedVariables false
set_option linter.unusedSimpArgs false

/-! ### spec_l03Drawn: function 22 -/
def spec_l03Drawn.l0 : Nat → Int → Int → List (S43) → Int → List Int → Int → Int → Option ((List (S43)) × Int × Int)
 | 0, _, _, _, _, _, _, _ => none
 | k + 1, x1, x2, x7, x8, x1000, x1001, x1002 => if x8 > 0 then ((spec_l03Near.f x1000 x1001 x1002 x1 x2 9).bind fun bt174 => (if x7.length < 35184372088832 then (spec_l03Drawn.l0 k x1 x2 (x7 ++ [(⟨bt174.1, bt174.2.1⟩ : S43)]) (wrap64 (x8 - 1)) x1000 bt174.2.2.1 bt174.2.2.2) else (none))) else ((spec_HullOf.f k x7).bind fun bt181 => (if bt181.2 = 0 then ((spec_l00Src_pick.f x1000 x1001 x1002 (bt181.1.length : Int)).bind fun bt185 => ((some (([] : List (S43)) : List (S43))).bind fun y188 => (if 0 ≤ bt185.1 then (if bt185.1 ≤ (bt181.1.length : Int) then ((some (bt181.1.drop (bt185.1 : Int).toNat : List (S43))).bind fun y191 => (if y188.length + y191.length < 35184372088832 then ((some (y188 ++ y191 : List (S43))).bind fun y195 => ((some (bt181.1.take (bt185.1 : Int).toNat : List (S43))).bind fun y198 => (if y195.length + y198.length < 35184372088832 then (some ((y195 ++ y198), bt185.2.1, bt185.2.2)) else (none)))) else (none))) else (none)) else (none)))) else ((spec_l00Src_pick.f x1000 x1001 x1002 6).bind fun bt205 => ((spec_l00Src_pick.f x1000 bt205.2.1 bt205.2.2 6).bind fun bt208 => (some ((([(⟨IntKind.i16.wrap (x1), IntKind.i16.wrap (x2)⟩ : S43), (⟨IntKind.i16.wrap (wrap64 (x1 + (wrap64 (1 + bt205.1)))), IntKind.i16.wrap (x2)⟩ : S43), (⟨IntKind.i16.wrap (wrap64 (x1 + (wrap64 (1 + bt205.1)))), IntKind.i16.wrap (wrap64 (x2 + (wrap64 (1 + bt208.1))))⟩ : S43), (⟨IntKind.i16.wrap (x1), IntKind.i16.wrap (wrap64 (x2 + (wrap64 (1 + bt208.1))))⟩ : S43)] : List (S43))), bt208.2.1, bt208.2.2))))))
def spec_l03Drawn.f (k : Nat) (s0_0 : List Int) (s0_1 : Int) (s0_2 : Int) (a1 : Int) (a2 : Int) : Option ((List (S43)) × Int × Int) := (spec_l00Src_pick.f s0_0 s0_1 s0_2 4).bind fun bt171 => (spec_l03Drawn.l0 k a1 a2 (([] : List (S43))) (wrap64 (3 + bt171.1)) s0_0 bt171.2.1 bt171.2.2)
theorem spec_l03Drawn.mono_l : ∀ k, (∀ y0 y1 y2 y3 y4 y5 y6, LeO (spec_l03Drawn.l0 k y0 y1 y2 y3 y4 y5 y6) (spec_l03Drawn.l0 (k + 1) y0 y1 y2 y3 y4 y5 y6))
 | 0 => fun _ _ _ _ _ _ _ r h => by simp [spec_l03Drawn.l0] at h
 | k + 1 => by
  have ih0 := spec_l03Drawn.mono_l k
  ·
   intro y0 y1 y2 y3 y4 y5 y6
   unfold spec_l03Drawn.l0
   repeat' first
   | (with_reducible exact ih0 _ _ _ _ _ _ _)
   | (with_reducible exact spec_HullOf.mono _ _)
   | (with_reducible exact LeO.refl _)
   | (with_reducible exact LeO.none _)
   | (with_reducible refine LeO.ite ?_ ?_)
   | (with_reducible refine LeO.bind ?_ (fun _ => ?_))
theorem spec_l03Drawn.mono : ∀ a0 a1 a2 a3 a4 k, LeO (spec_l03Drawn.f k a0 a1 a2 a3 a4) (spec_l03Drawn.f (k + 1) a0 a1 a2 a3 a4) := by
 intro a0 a1 a2 a3 a4 k
 have ih0 := spec_l03Drawn.mono_l k
 unfold spec_l03Drawn.f
 repeat' first
   | (with_reducible exact ih0 _ _ _ _ _ _ _)
   | (with_reducible exact spec_HullOf.mono _ _)
   | (with_reducible exact LeO.refl _)
   | (with_reducible exact LeO.none _)
   | (with_reducible refine LeO.ite ?_ ?_)
   | (with_reducible refine LeO.bind ?_ (fun _ => ?_))
def spec_l03Drawn.T16 : Bool × List (List Nat × List Nat) := (true, [([], []), ([], []), ([], []), ([1, 2], [1, 2]), ([0, 3], [0, 3]), ([], []), ([], []), ([5, 6], [5, 6]), ([4, 7, 4], [4, 7]), ([8, 8, 0, 1, 2, 3, 4, 5, 6, 7, 8], [8])])
def spec_l03Drawn.B16 : List Nat := [0, 0, 0, 6, 15, 0, 0, 96, 255, 511]
theorem spec_l03Drawn.tab16 : rtab .any (opsOf Try.f22 16) = spec_l03Drawn.T16 := by kernel_rfl
theorem spec_l03Drawn.bits16 : waitsOk spec_l03Drawn.T16.2 spec_l03Drawn.B16 = true := by kernel_rfl
set_option maxHeartbeats 8000000 in
set_option maxRecDepth 100000 in
theorem spec_l03Drawn.calls (k : Nat) (g : Nat) (s0_0 : List Int) (s0_1 : Int) (s0_2 : Int) (a1 : Int) (a2 : Int) (r1 : List (S43)) (r2 : Int) (r3 : Int) (w0 w : World) (hI : IsS74 w0 w g s0_0 s0_1 s0_2) (hB : Below w0.heap.size w0 w) (h : spec_l03Drawn.f k s0_0 s0_1 s0_2 a1 a2 = some (r1, r2, r3)) :
  Calls Try.prog 22 #[.pointer (some ⟨g, 0, none⟩), .int .i64 a1, .int .i64 a2] w fun e w' => ∃ v0_ : Value, e = .returned (v0_) ∧ Kd.R k43 43 w' w.heap.size (fun _ => True) v0_ r1 ∧ IsS74 w0 w' g s0_0 r2 r3 ∧ Below w0.heap.size w0 w' ∧ KeepBut w w' g none := by
 have hu43 := Try.underlying43
 have HI0 := Aside0.mk hI
 have HK := Aside0.mk (KeepBut.refl w g none)
 have HL := Aside0.mk hB.size
 clear hI
 have HW0 := Aside0.mk hB.size
 have HB := Aside0.mk hB
 clear hB
 have H : ((spec_l00Src_pick.f s0_0 s0_1 s0_2 4).bind fun bt171 => (spec_l03Drawn.l0 k a1 a2 (([] : List (S43))) (wrap64 (3 + bt171.1)) s0_0 bt171.2.1 bt171.2.2)) = some (r1, r2, r3) := h
 clear h
 obtain ⟨y168, hy168⟩ : ∃ y_ : List (S43), y_ = (([] : List (S43))) := ⟨_, rfl⟩
 replace H : ((spec_l00Src_pick.f s0_0 s0_1 s0_2 4).bind fun bt171 => (spec_l03Drawn.l0 k a1 a2 y168 (wrap64 (3 + bt171.1)) s0_0 bt171.2.1 bt171.2.2)) = some (r1, r2, r3) := by first | (rw [hy168]; with_reducible exact H) | (have H2_ := (Option.bind_some _ _).symm.trans H; rw [hy168]; with_reducible exact H2_) | (have H2_ := (Option.bind_some _ _).symm.trans H; with_reducible exact H2_) | with_reducible exact H | (rw [hy168]; exact H) | exact H
 have Ny168 := Aside0.mk hy168
 clear hy168
 replace H := Option.bind_eq_some_iff.mp H
 obtain ⟨⟨t171, t172, t173⟩, A40, H⟩ := H
 (try dsimp only at H)
 have A4 := Aside0.mk A40
 clear A40
 have H' := Aside0.mk H
 clear H
 go_enter Try.func22, Try.ntmps22
 go_wp2_with (first | ((with_reducible refine gate_dst (N := 18) rfl ?_); refine Kd.R_lit k43 _ 43 ?hg (N := 18) ?hd (xs := ([] : List (S43))) (inner := []) (ok := fun _ => True) (okp := fun _ => True) ?hr ?hp (fun _ hk => hk) trivial (Below.refl _ _) (Nat.le_refl _) (by simp) ?_; (case hd => rfl); (case hg => rfl); (case hr => first | (go_simp; done) | (go_simp; rfl)); (case hp => exact (Reps.none _ _)); intro v169 w5 ho6 hb hg_ hnew_; clear hg_ hnew_; (first | rw [← Ny168.out] at ho6 | (simp only [Int.reduceToNat] at ho6; rw [← Ny168.out] at ho6)); have HO170 := Aside0.mk (Kd.R_lower ho6 (keep_size (w := w) (g := g) (row := none) (kk_ HK))); replace HK := Aside0.mk (KeepBut.trans (kk_ HK) (KeepBut.of_below hb g none) (.inl rfl)); replace HB := Aside0.mk (below_step (by repeat (first | (with_reducible first | exact HB.out | apply below_alloc | apply pw_below_drewN | apply below_drew1 | refine below_set ?_ (IsS74.ge HI0.out)) | exact HB.out)) hb); replace HI0 := Aside0.mk (IsS74.below (ki_ HI0) hb); clear hb ho6) | ((with_reducible refine gate_callee (f := 21) rfl ?_); refine goM_ (some 20) Try.func21 #[.pointer (some ⟨g, 0, none⟩), .int .i64 4] ?_; (with_reducible refine (spec_l00Src_pick.calls g s0_0 s0_1 s0_2 4 t171 t172 t173 w0 _ ?side1 ?side2 A4.out).mono ?_); (case side1 => exact ki_ HI0); (case side2 => repeat (first | (with_reducible first | exact HB.out | apply below_alloc | apply pw_below_drewN | apply below_drew1 | refine below_set ?_ (IsS74.ge HI0.out)) | exact HB.out)); rintro e w7 ⟨rfl, hi, hb, hk⟩; refine ⟨_, rfl, ?_⟩; replace HO170 := Aside0.mk (Kd.R_mono (Kd.R_keep (IsS74.apart (show IsS74 w0 _ g s0_0 s0_1 s0_2 from ki_ HI0) (kp_ HO170) (by decide)) hk (fun _ h => h.2)) (fun _ h => h.1)); replace HK := Aside0.mk (KeepBut.trans (kk_ HK) hk (.inl rfl)); replace HB := Aside0.mk (hb); replace HI0 := Aside0.mk (hi); clear hb; clear hk; clear hi))
 go_loopg [7, 8] k (fun kq v7 v8 w' => ∃ (x7_1 : List (S43)) (x8_1 : Int) (x1001_1 : Int) (x1002_1 : Int), v8 = .int .i64 x8_1 ∧ Aside0 (spec_l03Drawn.l0 kq a1 a2 x7_1 x8_1 s0_0 x1001_1 x1002_1 = some (r1, r2, r3)) ∧ Aside0 (kq ≤ k) ∧ Aside0 (Kd.R k43 43 w' w.heap.size (fun _ => True) v7 x7_1) ∧ Aside0 (IsS74 w0 w' g s0_0 x1001_1 x1002_1) ∧ Aside0 (KeepBut w w' g none) ∧ Aside0 (Below w0.heap.size w0 w'))
 case atStart => exact ⟨(y168), (wrap64 (3 + t171)), (t172), (t173), (by first | rfl | (simp; done) | (simp [*]; done)), H', ⟨Nat.le_refl _⟩, ⟨kp_ HO170⟩, ⟨ki_ HI0⟩, ⟨kk_ HK⟩, ⟨by repeat (first | (with_reducible first | exact HB.out | apply below_alloc | apply pw_below_drewN | apply below_drew1 | refine below_set ?_ (IsS74.ge HI0.out)) | exact HB.out)⟩⟩
 case round =>
  clear H'
  obtain ⟨x7_1, x8_1, x1001_1, x1002_1, rfl, HA, HK1, HO_7, HI0, HK, HB⟩ := hrel
  rcases gk with _ | k1
  · exact absurd HA.out (by simp [spec_l03Drawn.l0])
  have H := HA.out
  clear HA
  simp only [spec_l03Drawn.l0] at H
  by_cases c8 : x8_1 > 0
  ·
   rw [if_pos c8] at H
   have c8b0 : decide (0 < x8_1) = true := decide_eq_true c8
   clear c8
   replace H := Option.bind_eq_some_iff.mp H
   obtain ⟨⟨t174, t175, t176, t177⟩, A90, H⟩ := H
   (try dsimp only at H)
   have A9 := Aside0.mk A90
   clear A90
   obtain ⟨(c10 : x7_1.length < 35184372088832), H⟩ := gd_ H
   have LMc10 := Aside0.mk c10
   clear c10
   obtain ⟨y178, hy178⟩ : ∃ y_ : List (S43), y_ = (x7_1 ++ [(⟨t174, t175⟩ : S43)]) := ⟨_, rfl⟩
   replace H : (spec_l03Drawn.l0 k1 a1 a2 y178 (wrap64 (x8_1 - 1)) s0_0 t176 t177) = some (r1, r2, r3) := by first | (rw [hy178]; with_reducible exact H) | (have H2_ := (Option.bind_some _ _).symm.trans H; rw [hy178]; with_reducible exact H2_) | (have H2_ := (Option.bind_some _ _).symm.trans H; with_reducible exact H2_) | with_reducible exact H | (rw [hy178]; exact H) | exact H
   have Ny178 := Aside0.mk hy178
   clear hy178
   have H' := Aside0.mk H
   clear H
   go_wp2_with (first | ((with_reducible refine gate_callee (f := 44) rfl ?_); refine goM_ (some 30) Try.func44 #[.pointer (some ⟨g, 0, none⟩), .int .i64 a1, .int .i64 a2, .int .i64 9] ?_; (with_reducible refine (spec_l03Near.calls g s0_0 x1001_1 x1002_1 a1 a2 9 t174 t175 t176 t177 w0 _ ?side1 ?side2 A9.out).mono ?_); (case side1 => exact ki_ HI0); (case side2 => repeat (first | (with_reducible first | exact HB.out | apply below_alloc | apply pw_below_drewN | apply below_drew1 | refine below_set ?_ (IsS74.ge HI0.out)) | exact HB.out)); rintro e w11 ⟨rfl, hi, hb, hk⟩; refine ⟨_, rfl, ?_⟩; replace HO_7 := Aside0.mk (Kd.R_mono (Kd.R_keep (IsS74.apart (show IsS74 w0 _ g s0_0 x1001_1 x1002_1 from ki_ HI0) (kp_ HO_7) (by decide)) hk (fun _ h => h.2)) (fun _ h => h.1)); replace HK := Aside0.mk (KeepBut.trans (kk_ HK) hk (.inl rfl)); replace HB := Aside0.mk (hb); replace HI0 := Aside0.mk (hi); clear hb; clear hk; clear hi) | ((with_reducible refine gate_builtin (b := .append) (xs := #[.tmp 26, .tmp 31]) rfl ?_); at_builtin; refine Kd.R_append k43 w.heap.size rfl (.tmp 26) (.tmp 31) 35 43 (.agg #[(.int .i16 0), (.int .i16 0)]) 4 rfl Try.underlying35 info43 rfl (by decide) (by omega) u7 x7_1 (⟨t174, t175⟩ : S43) [.int .i16 t174, .int .i16 t175] (fun _ => True) (fun _ => False) rfl rfl ?aP (fun _ hk => hk.elim) ?aF ?aO (Below.refl _ _) ?aS ?aL ?_; (case aP => exact k43_mkM _ _ _ (⟨t174, t175⟩ : S43)); (case aF => exact (fun _ _ => trivial)); (case aO => exact (kp_ HO_7)); (case aS => exact (keep_size (w := w) (g := g) (row := none) (kk_ HK))); (case aL => have := LMc10.out; omega); intro v179 w12 ho hb hg hat; rw [← Ny178.out] at ho; have n0_ := Aside0.mk (IsS74.grown (ki_ HI0) hg (IsS74.own_ne HI0.out HO_7.out (by decide))); have n1_ := Aside0.mk (below_weaken (by repeat (first | (with_reducible first | exact HB.out | apply below_alloc | apply pw_below_drewN | apply below_drew1 | refine below_set ?_ (IsS74.ge HI0.out)) | exact HB.out)) HL.out hb); have n2_ := Aside0.mk (KeepBut.trans (kk_ HK) (KeepBut.of_grown hg g) (Kd.R_base2 HO_7.out)); have n3_ := Aside0.mk (ho); clear HI0; clear HB; clear HK; clear HO_7; have HI0 := n0_; have HB := n1_; have HK := n2_; have HO180 := n3_; clear n0_ n1_ n2_ n3_; clear ho hb hg hat))
   go_roundg k1
   case measure => have := HK1.out; omega
   case rel => exact ⟨(y178), (wrap64 (x8_1 - 1)), (t176), (t177), (by first | rfl | (simp; done) | (simp [*]; done)), H', ⟨by have := HK1.out; omega⟩, ⟨kp_ HO180⟩, ⟨ki_ HI0⟩, ⟨kk_ HK⟩, ⟨by repeat (first | (with_reducible first | exact HB.out | apply below_alloc | apply pw_below_drewN | apply below_drew1 | refine below_set ?_ (IsS74.ge HI0.out)) | exact HB.out)⟩⟩
  rw [if_neg c8] at H
  have c8b0 : decide (0 < x8_1) = false := decide_eq_false c8
  clear c8
  replace H := Option.bind_eq_some_iff.mp H
  obtain ⟨⟨t181, t182⟩, A130, H⟩ := H
  (try dsimp only at H)
  have A13 := Aside0.mk A130
  clear A130
  rcases (Decidable.em (t182 = 0)).symm with c14 | c14
  ·
   rw [if_neg c14] at H
   have c14b0 : (t182 == 0) = false := beq_eq_false_iff_ne.mpr c14
   have c14b1 : (t182 != 0) = true := bne_iff_ne.mpr c14
   replace H := Option.bind_eq_some_iff.mp H
   obtain ⟨⟨t205, t206, t207⟩, A330, H⟩ := H
   (try dsimp only at H)
   have A33 := Aside0.mk A330
   clear A330
   replace H := Option.bind_eq_some_iff.mp H
   obtain ⟨⟨t208, t209, t210⟩, A340, H⟩ := H
   (try dsimp only at H)
   have A34 := Aside0.mk A340
   clear A340
   obtain ⟨y215, hy215⟩ : ∃ y_ : List (S43), y_ = (([(⟨IntKind.i16.wrap (a1), IntKind.i16.wrap (a2)⟩ : S43), (⟨IntKind.i16.wrap (wrap64 (a1 + (wrap64 (1 + t205)))), IntKind.i16.wrap (a2)⟩ : S43), (⟨IntKind.i16.wrap (wrap64 (a1 + (wrap64 (1 + t205)))), IntKind.i16.wrap (wrap64 (a2 + (wrap64 (1 + t208))))⟩ : S43), (⟨IntKind.i16.wrap (a1), IntKind.i16.wrap (wrap64 (a2 + (wrap64 (1 + t208))))⟩ : S43)] : List (S43))) := ⟨_, rfl⟩
   replace H : (some (y215, t209, t210)) = some (r1, r2, r3) := by first | (rw [hy215]; with_reducible exact H) | (have H2_ := (Option.bind_some _ _).symm.trans H; rw [hy215]; with_reducible exact H2_) | (have H2_ := (Option.bind_some _ _).symm.trans H; with_reducible exact H2_) | with_reducible exact H | (rw [hy215]; exact H) | exact H
   have Ny215 := Aside0.mk hy215
   clear hy215
   simp only [Option.some.injEq, Prod.mk.injEq] at H
   obtain ⟨rfl, rfl, rfl⟩ := H
   obtain ⟨Ao35, co35, eo35⟩ := Kd.R_slice HO_7.out
   subst eo35
   go_wp2_with (first | ((with_reducible refine gate_callee (f := 45) rfl ?_); refine goM_ (some 35) Try.func45 #[.slice Ao35 x7_1.length co35] ?_; (with_reducible refine (spec_HullOf.calls k1 _ _ x7_1 t181 t182 _ ?side1 ?side2 A13.out).mono ?_); (case side1 => exact kc_ ((Kd.R_reads' HO_7.out).2.2)); (case side2 => exact (Kd.R_reads' HO_7.out).2.1); rintro e w36 ⟨v183, rfl, ho0, hb⟩; refine ⟨_, rfl, ?_⟩; have HO184 := Aside0.mk (Kd.R_lower (Kd.R_new' ho0 (Kd.R_lt (kp_ HO_7))) (keep_size (w := w) (g := g) (row := none) (kk_ HK))); replace HO_7 := Aside0.mk (Kd.R_elder' (kp_ HO_7) (Kd.R_base ho0) hb); replace HK := Aside0.mk (KeepBut.trans (kk_ HK) (KeepBut.of_below hb g none) (.inl rfl)); replace HB := Aside0.mk (below_step (by repeat (first | (with_reducible first | exact HB.out | apply below_alloc | apply pw_below_drewN | apply below_drew1 | refine below_set ?_ (IsS74.ge HI0.out)) | exact HB.out)) hb); replace HI0 := Aside0.mk (IsS74.below (ki_ HI0) hb); clear hb; (try clear ho0)) | ((with_reducible refine gate_callee (f := 21) rfl ?_); refine goM_ (some 41) Try.func21 #[.pointer (some ⟨g, 0, none⟩), .int .i64 6] ?_; (with_reducible refine (spec_l00Src_pick.calls g s0_0 x1001_1 x1002_1 6 t205 t206 t207 w0 _ ?side1 ?side2 A33.out).mono ?_); (case side1 => exact ki_ HI0); (case side2 => repeat (first | (with_reducible first | exact HB.out | apply below_alloc | apply pw_below_drewN | apply below_drew1 | refine below_set ?_ (IsS74.ge HI0.out)) | exact HB.out)); rintro e w37 ⟨rfl, hi, hb, hk⟩; refine ⟨_, rfl, ?_⟩; replace HO_7 := Aside0.mk (Kd.R_mono (Kd.R_keep (IsS74.apart (show IsS74 w0 _ g s0_0 x1001_1 x1002_1 from ki_ HI0) (kp_ HO_7) (by decide)) hk (fun _ h => h.2)) (fun _ h => h.1)); replace HO184 := Aside0.mk (Kd.R_mono (Kd.R_keep (IsS74.apart (show IsS74 w0 _ g s0_0 x1001_1 x1002_1 from ki_ HI0) (kp_ HO184) (by decide)) hk (fun _ h => h.2)) (fun _ h => h.1)); replace HK := Aside0.mk (KeepBut.trans (kk_ HK) hk (.inl rfl)); replace HB := Aside0.mk (hb); replace HI0 := Aside0.mk (hi); clear hb; clear hk; clear hi) | ((with_reducible refine gate_callee (f := 21) rfl ?_); refine goM_ (some 44) Try.func21 #[.pointer (some ⟨g, 0, none⟩), .int .i64 6] ?_; (with_reducible refine (spec_l00Src_pick.calls g s0_0 t206 t207 6 t208 t209 t210 w0 _ ?side1 ?side2 A34.out).mono ?_); (case side1 => exact ki_ HI0); (case side2 => repeat (first | (with_reducible first | exact HB.out | apply below_alloc | apply pw_below_drewN | apply below_drew1 | refine below_set ?_ (IsS74.ge HI0.out)) | exact HB.out)); rintro e w38 ⟨rfl, hi, hb, hk⟩; refine ⟨_, rfl, ?_⟩; replace HO_7 := Aside0.mk (Kd.R_mono (Kd.R_keep (IsS74.apart (show IsS74 w0 _ g s0_0 t206 t207 from ki_ HI0) (kp_ HO_7) (by decide)) hk (fun _ h => h.2)) (fun _ h => h.1)); replace HO184 := Aside0.mk (Kd.R_mono (Kd.R_keep (IsS74.apart (show IsS74 w0 _ g s0_0 t206 t207 from ki_ HI0) (kp_ HO184) (by decide)) hk (fun _ h => h.2)) (fun _ h => h.1)); replace HK := Aside0.mk (KeepBut.trans (kk_ HK) hk (.inl rfl)); replace HB := Aside0.mk (hb); replace HI0 := Aside0.mk (hi); clear hb; clear hk; clear hi) | ((with_reducible refine gate_dst (N := 13) rfl ?_); refine boxM_ 13 #[.int .i16 0, .int .i16 0] 43 ?_; intro gb211 hg w39 hbox hb; replace HO_7 := Aside0.mk (Kd.R_below (Kd.R_elderB (kp_ HO_7) gb211 (Nat.le_of_eq hg.symm)) hb); replace HO184 := Aside0.mk (Kd.R_below (Kd.R_elderB (kp_ HO184) gb211 (Nat.le_of_eq hg.symm)) hb); replace HB := Aside0.mk (below_step (by repeat (first | (with_reducible first | exact HB.out | apply below_alloc | apply pw_below_drewN | apply below_drew1 | refine below_set ?_ (IsS74.ge HI0.out)) | exact HB.out)) hb); have BK211 := Aside0.mk (hbox); have GW211 := Aside0.mk ((by rw [hg]; exact (keep_size (w := w) (g := g) (row := none) (kk_ HK)) : w.heap.size ≤ gb211)); have GE211 := Aside0.mk ((Nat.le_trans HW0.out (by rw [hg]; exact (keep_size (w := w) (g := g) (row := none) (kk_ HK)) : w.heap.size ≤ gb211) : w0.heap.size ≤ gb211)); replace HK := Aside0.mk (KeepBut.trans (kk_ HK) (KeepBut.of_below hb g none) (.inl rfl)); have NB0_211 := Aside0.mk ((by rw [hg]; exact Nat.ne_of_lt (IsS74.lt (show IsS74 w0 _ g s0_0 t209 t210 from ki_ HI0)) : g ≠ gb211)); have NB211_0 := Aside0.mk ((by rw [hg]; exact Nat.ne_of_gt (IsS74.lt (show IsS74 w0 _ g s0_0 t209 t210 from ki_ HI0)) : gb211 ≠ g)); replace HI0 := Aside0.mk (IsS74.below (ki_ HI0) hb); clear hb hbox hg; have hnb40 := NB211_0.out; have hnc40 := NB0_211.out; obtain ⟨⟨hcz41_0, hcz41_1⟩, hfz41_0, hfz41_1⟩ := bq_ BK211) | ((with_reducible refine gate_dst (N := 14) rfl ?_); refine boxM_ 14 #[.int .i16 0, .int .i16 0] 43 ?_; intro gb212 hg w42 hbox hb; replace HO_7 := Aside0.mk (Kd.R_below (Kd.R_elderB (by (with_reducible repeat (first | apply Kd.R_alloc | apply Kd.R_drewN | apply Kd.R_drew)); exact (Kd.R_mono (Kd.R_far (p := ⟨gb211, 1, none⟩) (Kd.R_far (p := ⟨gb211, 0, none⟩) (Kd.R_mono HO_7.out (fun k_ hk => (⟨hk, hk.2⟩ : _ ∧ k_ ≠ gb211))) (fun _ hk => hk.2) (.int .i16 (IntKind.i16.wrap (a1)))) (fun _ hk => hk.2) (.int .i16 (IntKind.i16.wrap (a2)))) (fun _ h_ => h_.1))) gb212 (Nat.le_of_eq hg.symm)) hb); replace HO184 := Aside0.mk (Kd.R_below (Kd.R_elderB (by (with_reducible repeat (first | apply Kd.R_alloc | apply Kd.R_drewN | apply Kd.R_drew)); exact (Kd.R_mono (Kd.R_far (p := ⟨gb211, 1, none⟩) (Kd.R_far (p := ⟨gb211, 0, none⟩) (Kd.R_mono HO184.out (fun k_ hk => (⟨hk, hk.2⟩ : _ ∧ k_ ≠ gb211))) (fun _ hk => hk.2) (.int .i16 (IntKind.i16.wrap (a1)))) (fun _ hk => hk.2) (.int .i16 (IntKind.i16.wrap (a2)))) (fun _ h_ => h_.1))) gb212 (Nat.le_of_eq hg.symm)) hb); replace HB := Aside0.mk (below_step (by repeat (first | (with_reducible first | exact HB.out | apply below_alloc | apply pw_below_drewN | apply below_drew1 | refine below_set ?_ (IsS74.ge HI0.out) | refine below_set ?_ GE211.out) | exact HB.out)) hb); have BK212 := Aside0.mk (hbox); have GW212 := Aside0.mk ((by rw [hg]; exact (keep_size (w := w) (g := g) (row := none) (by repeat (first | (with_reducible first | exact HK.out | apply KeepBut.set_ | apply keep_drewN | apply keep_drew | apply keep_alloc | refine keep_far ?_ GW211.out _) | exact HK.out))) : w.heap.size ≤ gb212)); have GE212 := Aside0.mk ((Nat.le_trans HW0.out (by rw [hg]; exact (keep_size (w := w) (g := g) (row := none) (by repeat (first | (with_reducible first | exact HK.out | apply KeepBut.set_ | apply keep_drewN | apply keep_drew | apply keep_alloc | refine keep_far ?_ GW211.out _) | exact HK.out))) : w.heap.size ≤ gb212) : w0.heap.size ≤ gb212)); replace HK := Aside0.mk (KeepBut.trans (by repeat (first | (with_reducible first | exact HK.out | apply KeepBut.set_ | apply keep_drewN | apply keep_drew | apply keep_alloc | refine keep_far ?_ GW211.out _) | exact HK.out)) (KeepBut.of_below hb g none) (.inl rfl)); have NB211_212 := Aside0.mk ((by rw [hg]; exact Nat.ne_of_lt (blk_lt (g := gb211) (o := .cells #[.int .i16 (IntKind.i16.wrap (a1)), .int .i16 (IntKind.i16.wrap (a2))] 43 (0, 0)) (by (with_reducible repeat (first | refine blk_drewN ?_ _ | refine blk_drew ?_ | refine blk_alloc ?_ _)); refine blk_put (cs := #[.int .i16 (IntKind.i16.wrap (a1)), .int .i16 0]) ?_ 1 _ rfl; (with_reducible repeat (first | refine blk_drewN ?_ _ | refine blk_drew ?_ | refine blk_alloc ?_ _)); refine blk_put (cs := #[.int .i16 0, .int .i16 0]) ?_ 0 _ rfl; (with_reducible repeat (first | refine blk_drewN ?_ _ | refine blk_drew ?_ | refine blk_alloc ?_ _)); exact BK211.out)) : gb211 ≠ gb212)); have NB212_211 := Aside0.mk ((by rw [hg]; exact Nat.ne_of_gt (blk_lt (g := gb211) (o := .cells #[.int .i16 (IntKind.i16.wrap (a1)), .int .i16 (IntKind.i16.wrap (a2))] 43 (0, 0)) (by (with_reducible repeat (first | refine blk_drewN ?_ _ | refine blk_drew ?_ | refine blk_alloc ?_ _)); refine blk_put (cs := #[.int .i16 (IntKind.i16.wrap (a1)), .int .i16 0]) ?_ 1 _ rfl; (with_reducible repeat (first | refine blk_drewN ?_ _ | refine blk_drew ?_ | refine blk_alloc ?_ _)); refine blk_put (cs := #[.int .i16 0, .int .i16 0]) ?_ 0 _ rfl; (with_reducible repeat (first | refine blk_drewN ?_ _ | refine blk_drew ?_ | refine blk_alloc ?_ _)); exact BK211.out)) : gb212 ≠ gb211)); replace BK211 := Aside0.mk (blk_below (g := gb211) (o := .cells #[.int .i16 (IntKind.i16.wrap (a1)), .int .i16 (IntKind.i16.wrap (a2))] 43 (0, 0)) (by (with_reducible repeat (first | refine blk_drewN ?_ _ | refine blk_drew ?_ | refine blk_alloc ?_ _)); refine blk_put (cs := #[.int .i16 (IntKind.i16.wrap (a1)), .int .i16 0]) ?_ 1 _ rfl; (with_reducible repeat (first | refine blk_drewN ?_ _ | refine blk_drew ?_ | refine blk_alloc ?_ _)); refine blk_put (cs := #[.int .i16 0, .int .i16 0]) ?_ 0 _ rfl; (with_reducible repeat (first | refine blk_drewN ?_ _ | refine blk_drew ?_ | refine blk_alloc ?_ _)); exact BK211.out) hb); have NB0_212 := Aside0.mk ((by rw [hg]; exact Nat.ne_of_lt (IsS74.lt (show IsS74 w0 _ g s0_0 t209 t210 from by repeat (first | (with_reducible first | exact HI0.out | apply IsS74.alloc | apply IsS74.drewN | apply IsS74.drew | apply IsS74.set_1 | apply IsS74.set_2 | refine IsS74.far ?_ NB0_211.out _) | exact HI0.out))) : g ≠ gb212)); have NB212_0 := Aside0.mk ((by rw [hg]; exact Nat.ne_of_gt (IsS74.lt (show IsS74 w0 _ g s0_0 t209 t210 from by repeat (first | (with_reducible first | exact HI0.out | apply IsS74.alloc | apply IsS74.drewN | apply IsS74.drew | apply IsS74.set_1 | apply IsS74.set_2 | refine IsS74.far ?_ NB0_211.out _) | exact HI0.out))) : gb212 ≠ g)); replace HI0 := Aside0.mk (IsS74.below (show IsS74 w0 ((w39.setCell ⟨gb211, 0, none⟩ (.int .i16 (IntKind.i16.wrap (a1)))).setCell ⟨gb211, 1, none⟩ (.int .i16 (IntKind.i16.wrap (a2)))) g s0_0 t209 t210 from by repeat (first | (with_reducible first | exact HI0.out | apply IsS74.alloc | apply IsS74.drewN | apply IsS74.drew | apply IsS74.set_1 | apply IsS74.set_2 | refine IsS74.far ?_ NB0_211.out _) | exact HI0.out)) hb); clear hb hbox hg; have hnb43 := NB212_211.out; have hnc43 := NB211_212.out; have hnb44 := NB212_0.out; have hnc44 := NB0_212.out; obtain ⟨⟨hcz45_0, hcz45_1⟩, hfz45_0, hfz45_1⟩ := bq_ BK212) | ((with_reducible refine gate_dst (N := 15) rfl ?_); refine boxM_ 15 #[.int .i16 0, .int .i16 0] 43 ?_; intro gb213 hg w46 hbox hb; replace HO_7 := Aside0.mk (Kd.R_below (Kd.R_elderB (by (with_reducible repeat (first | apply Kd.R_alloc | apply Kd.R_drewN | apply Kd.R_drew)); exact (Kd.R_mono (Kd.R_far (p := ⟨gb212, 1, none⟩) (Kd.R_far (p := ⟨gb212, 0, none⟩) (Kd.R_mono HO_7.out (fun k_ hk => (⟨hk, hk.2⟩ : _ ∧ k_ ≠ gb212))) (fun _ hk => hk.2) (.int .i16 (IntKind.i16.wrap (wrap64 (a1 + (wrap64 (1 + t205))))))) (fun _ hk => hk.2) (.int .i16 (IntKind.i16.wrap (a2)))) (fun _ h_ => h_.1))) gb213 (Nat.le_of_eq hg.symm)) hb); replace HO184 := Aside0.mk (Kd.R_below (Kd.R_elderB (by (with_reducible repeat (first | apply Kd.R_alloc | apply Kd.R_drewN | apply Kd.R_drew)); exact (Kd.R_mono (Kd.R_far (p := ⟨gb212, 1, none⟩) (Kd.R_far (p := ⟨gb212, 0, none⟩) (Kd.R_mono HO184.out (fun k_ hk => (⟨hk, hk.2⟩ : _ ∧ k_ ≠ gb212))) (fun _ hk => hk.2) (.int .i16 (IntKind.i16.wrap (wrap64 (a1 + (wrap64 (1 + t205))))))) (fun _ hk => hk.2) (.int .i16 (IntKind.i16.wrap (a2)))) (fun _ h_ => h_.1))) gb213 (Nat.le_of_eq hg.symm)) hb); replace HB := Aside0.mk (below_step (by repeat (first | (with_reducible first | exact HB.out | apply below_alloc | apply pw_below_drewN | apply below_drew1 | refine below_set ?_ (IsS74.ge HI0.out) | refine below_set ?_ GE211.out | refine below_set ?_ GE212.out) | exact HB.out)) hb); have BK213 := Aside0.mk (hbox); have GW213 := Aside0.mk ((by rw [hg]; exact (keep_size (w := w) (g := g) (row := none) (by repeat (first | (with_reducible first | exact HK.out | apply KeepBut.set_ | apply keep_drewN | apply keep_drew | apply keep_alloc | refine keep_far ?_ GW211.out _ | refine keep_far ?_ GW212.out _) | exact HK.out))) : w.heap.size ≤ gb213)); have GE213 := Aside0.mk ((Nat.le_trans HW0.out (by rw [hg]; exact (keep_size (w := w) (g := g) (row := none) (by repeat (first | (with_reducible first | exact HK.out | apply KeepBut.set_ | apply keep_drewN | apply keep_drew | apply keep_alloc | refine keep_far ?_ GW211.out _ | refine keep_far ?_ GW212.out _) | exact HK.out))) : w.heap.size ≤ gb213) : w0.heap.size ≤ gb213)); replace HK := Aside0.mk (KeepBut.trans (by repeat (first | (with_reducible first | exact HK.out | apply KeepBut.set_ | apply keep_drewN | apply keep_drew | apply keep_alloc | refine keep_far ?_ GW211.out _ | refine keep_far ?_ GW212.out _) | exact HK.out)) (KeepBut.of_below hb g none) (.inl rfl)); have NB211_213 := Aside0.mk ((by rw [hg]; exact Nat.ne_of_lt (blk_lt (g := gb211) (o := .cells #[.int .i16 (IntKind.i16.wrap (a1)), .int .i16 (IntKind.i16.wrap (a2))] 43 (0, 0)) (by (with_reducible repeat (first | refine blk_drewN ?_ _ | refine blk_drew ?_ | refine blk_alloc ?_ _)); refine blk_far ?_ NB211_212.out _; (with_reducible repeat (first | refine blk_drewN ?_ _ | refine blk_drew ?_ | refine blk_alloc ?_ _)); refine blk_far ?_ NB211_212.out _; (with_reducible repeat (first | refine blk_drewN ?_ _ | refine blk_drew ?_ | refine blk_alloc ?_ _)); exact BK211.out)) : gb211 ≠ gb213)); have NB213_211 := Aside0.mk ((by rw [hg]; exact Nat.ne_of_gt (blk_lt (g := gb211) (o := .cells #[.int .i16 (IntKind.i16.wrap (a1)), .int .i16 (IntKind.i16.wrap (a2))] 43 (0, 0)) (by (with_reducible repeat (first | refine blk_drewN ?_ _ | refine blk_drew ?_ | refine blk_alloc ?_ _)); refine blk_far ?_ NB211_212.out _; (with_reducible repeat (first | refine blk_drewN ?_ _ | refine blk_drew ?_ | refine blk_alloc ?_ _)); refine blk_far ?_ NB211_212.out _; (with_reducible repeat (first | refine blk_drewN ?_ _ | refine blk_drew ?_ | refine blk_alloc ?_ _)); exact BK211.out)) : gb213 ≠ gb211)); replace BK211 := Aside0.mk (blk_below (g := gb211) (o := .cells #[.int .i16 (IntKind.i16.wrap (a1)), .int .i16 (IntKind.i16.wrap (a2))] 43 (0, 0)) (by (with_reducible repeat (first | refine blk_drewN ?_ _ | refine blk_drew ?_ | refine blk_alloc ?_ _)); refine blk_far ?_ NB211_212.out _; (with_reducible repeat (first | refine blk_drewN ?_ _ | refine blk_drew ?_ | refine blk_alloc ?_ _)); refine blk_far ?_ NB211_212.out _; (with_reducible repeat (first | refine blk_drewN ?_ _ | refine blk_drew ?_ | refine blk_alloc ?_ _)); exact BK211.out) hb); have NB212_213 := Aside0.mk ((by rw [hg]; exact Nat.ne_of_lt (blk_lt (g := gb212) (o := .cells #[.int .i16 (IntKind.i16.wrap (wrap64 (a1 + (wrap64 (1 + t205))))), .int .i16 (IntKind.i16.wrap (a2))] 43 (0, 0)) (by (with_reducible repeat (first | refine blk_drewN ?_ _ | refine blk_drew ?_ | refine blk_alloc ?_ _)); refine blk_put (cs := #[.int .i16 (IntKind.i16.wrap (wrap64 (a1 + (wrap64 (1 + t205))))), .int .i16 0]) ?_ 1 _ rfl; (with_reducible repeat (first | refine blk_drewN ?_ _ | refine blk_drew ?_ | refine blk_alloc ?_ _)); refine blk_put (cs := #[.int .i16 0, .int .i16 0]) ?_ 0 _ rfl; (with_reducible repeat (first | refine blk_drewN ?_ _ | refine blk_drew ?_ | refine blk_alloc ?_ _)); exact BK212.out)) : gb212 ≠ gb213)); have NB213_212 := Aside0.mk ((by rw [hg]; exact Nat.ne_of_gt (blk_lt (g := gb212) (o := .cells #[.int .i16 (IntKind.i16.wrap (wrap64 (a1 + (wrap64 (1 + t205))))), .int .i16 (IntKind.i16.wrap (a2))] 43 (0, 0)) (by (with_reducible repeat (first | refine blk_drewN ?_ _ | refine blk_drew ?_ | refine blk_alloc ?_ _)); refine blk_put (cs := #[.int .i16 (IntKind.i16.wrap (wrap64 (a1 + (wrap64 (1 + t205))))), .int .i16 0]) ?_ 1 _ rfl; (with_reducible repeat (first | refine blk_drewN ?_ _ | refine blk_drew ?_ | refine blk_alloc ?_ _)); refine blk_put (cs := #[.int .i16 0, .int .i16 0]) ?_ 0 _ rfl; (with_reducible repeat (first | refine blk_drewN ?_ _ | refine blk_drew ?_ | refine blk_alloc ?_ _)); exact BK212.out)) : gb213 ≠ gb212)); replace BK212 := Aside0.mk (blk_below (g := gb212) (o := .cells #[.int .i16 (IntKind.i16.wrap (wrap64 (a1 + (wrap64 (1 + t205))))), .int .i16 (IntKind.i16.wrap (a2))] 43 (0, 0)) (by (with_reducible repeat (first | refine blk_drewN ?_ _ | refine blk_drew ?_ | refine blk_alloc ?_ _)); refine blk_put (cs := #[.int .i16 (IntKind.i16.wrap (wrap64 (a1 + (wrap64 (1 + t205))))), .int .i16 0]) ?_ 1 _ rfl; (with_reducible repeat (first | refine blk_drewN ?_ _ | refine blk_drew ?_ | refine blk_alloc ?_ _)); refine blk_put (cs := #[.int .i16 0, .int .i16 0]) ?_ 0 _ rfl; (with_reducible repeat (first | refine blk_drewN ?_ _ | refine blk_drew ?_ | refine blk_alloc ?_ _)); exact BK212.out) hb); have NB0_213 := Aside0.mk ((by rw [hg]; exact Nat.ne_of_lt (IsS74.lt (show IsS74 w0 _ g s0_0 t209 t210 from by repeat (first | (with_reducible first | exact HI0.out | apply IsS74.alloc | apply IsS74.drewN | apply IsS74.drew | apply IsS74.set_1 | apply IsS74.set_2 | refine IsS74.far ?_ NB0_211.out _ | refine IsS74.far ?_ NB0_212.out _) | exact HI0.out))) : g ≠ gb213)); have NB213_0 := Aside0.mk ((by rw [hg]; exact Nat.ne_of_gt (IsS74.lt (show IsS74 w0 _ g s0_0 t209 t210 from by repeat (first | (with_reducible first | exact HI0.out | apply IsS74.alloc | apply IsS74.drewN | apply IsS74.drew | apply IsS74.set_1 | apply IsS74.set_2 | refine IsS74.far ?_ NB0_211.out _ | refine IsS74.far ?_ NB0_212.out _) | exact HI0.out))) : gb213 ≠ g)); replace HI0 := Aside0.mk (IsS74.below (show IsS74 w0 ((w42.setCell ⟨gb212, 0, none⟩ (.int .i16 (IntKind.i16.wrap (wrap64 (a1 + (wrap64 (1 + t205))))))).setCell ⟨gb212, 1, none⟩ (.int .i16 (IntKind.i16.wrap (a2)))) g s0_0 t209 t210 from by repeat (first | (with_reducible first | exact HI0.out | apply IsS74.alloc | apply IsS74.drewN | apply IsS74.drew | apply IsS74.set_1 | apply IsS74.set_2 | refine IsS74.far ?_ NB0_211.out _ | refine IsS74.far ?_ NB0_212.out _) | exact HI0.out)) hb); clear hb hbox hg; have hnb47 := NB213_211.out; have hnc47 := NB211_213.out; have hnb48 := NB213_212.out; have hnc48 := NB212_213.out; have hnb49 := NB213_0.out; have hnc49 := NB0_213.out; obtain ⟨⟨hcz50_0, hcz50_1⟩, hfz50_0, hfz50_1⟩ := bq_ BK213) | ((with_reducible refine gate_dst (N := 16) rfl ?_); refine boxM_ 16 #[.int .i16 0, .int .i16 0] 43 ?_; intro gb214 hg w51 hbox hb; replace HO_7 := Aside0.mk (Kd.R_below (Kd.R_elderB (by (with_reducible repeat (first | apply Kd.R_alloc | apply Kd.R_drewN | apply Kd.R_drew)); exact (Kd.R_mono (Kd.R_far (p := ⟨gb213, 1, none⟩) (Kd.R_far (p := ⟨gb213, 0, none⟩) (Kd.R_mono HO_7.out (fun k_ hk => (⟨hk, hk.2⟩ : _ ∧ k_ ≠ gb213))) (fun _ hk => hk.2) (.int .i16 (IntKind.i16.wrap (wrap64 (a1 + (wrap64 (1 + t205))))))) (fun _ hk => hk.2) (.int .i16 (IntKind.i16.wrap (wrap64 (a2 + (wrap64 (1 + t208))))))) (fun _ h_ => h_.1))) gb214 (Nat.le_of_eq hg.symm)) hb); replace HO184 := Aside0.mk (Kd.R_below (Kd.R_elderB (by (with_reducible repeat (first | apply Kd.R_alloc | apply Kd.R_drewN | apply Kd.R_drew)); exact (Kd.R_mono (Kd.R_far (p := ⟨gb213, 1, none⟩) (Kd.R_far (p := ⟨gb213, 0, none⟩) (Kd.R_mono HO184.out (fun k_ hk => (⟨hk, hk.2⟩ : _ ∧ k_ ≠ gb213))) (fun _ hk => hk.2) (.int .i16 (IntKind.i16.wrap (wrap64 (a1 + (wrap64 (1 + t205))))))) (fun _ hk => hk.2) (.int .i16 (IntKind.i16.wrap (wrap64 (a2 + (wrap64 (1 + t208))))))) (fun _ h_ => h_.1))) gb214 (Nat.le_of_eq hg.symm)) hb); replace HB := Aside0.mk (below_step (by repeat (first | (with_reducible first | exact HB.out | apply below_alloc | apply pw_below_drewN | apply below_drew1 | refine below_set ?_ (IsS74.ge HI0.out) | refine below_set ?_ GE211.out | refine below_set ?_ GE212.out | refine below_set ?_ GE213.out) | exact HB.out)) hb); have BK214 := Aside0.mk (hbox); have GW214 := Aside0.mk ((by rw [hg]; exact (keep_size (w := w) (g := g) (row := none) (by repeat (first | (with_reducible first | exact HK.out | apply KeepBut.set_ | apply keep_drewN | apply keep_drew | apply keep_alloc | refine keep_far ?_ GW211.out _ | refine keep_far ?_ GW212.out _ | refine keep_far ?_ GW213.out _) | exact HK.out))) : w.heap.size ≤ gb214)); have GE214 := Aside0.mk ((Nat.le_trans HW0.out (by rw [hg]; exact (keep_size (w := w) (g := g) (row := none) (by repeat (first | (with_reducible first | exact HK.out | apply KeepBut.set_ | apply keep_drewN | apply keep_drew | apply keep_alloc | refine keep_far ?_ GW211.out _ | refine keep_far ?_ GW212.out _ | refine keep_far ?_ GW213.out _) | exact HK.out))) : w.heap.size ≤ gb214) : w0.heap.size ≤ gb214)); replace HK := Aside0.mk (KeepBut.trans (by repeat (first | (with_reducible first | exact HK.out | apply KeepBut.set_ | apply keep_drewN | apply keep_drew | apply keep_alloc | refine keep_far ?_ GW211.out _ | refine keep_far ?_ GW212.out _ | refine keep_far ?_ GW213.out _) | exact HK.out)) (KeepBut.of_below hb g none) (.inl rfl)); have NB211_214 := Aside0.mk ((by rw [hg]; exact Nat.ne_of_lt (blk_lt (g := gb211) (o := .cells #[.int .i16 (IntKind.i16.wrap (a1)), .int .i16 (IntKind.i16.wrap (a2))] 43 (0, 0)) (by (with_reducible repeat (first | refine blk_drewN ?_ _ | refine blk_drew ?_ | refine blk_alloc ?_ _)); refine blk_far ?_ NB211_213.out _; (with_reducible repeat (first | refine blk_drewN ?_ _ | refine blk_drew ?_ | refine blk_alloc ?_ _)); refine blk_far ?_ NB211_213.out _; (with_reducible repeat (first | refine blk_drewN ?_ _ | refine blk_drew ?_ | refine blk_alloc ?_ _)); exact BK211.out)) : gb211 ≠ gb214)); have NB214_211 := Aside0.mk ((by rw [hg]; exact Nat.ne_of_gt (blk_lt (g := gb211) (o := .cells #[.int .i16 (IntKind.i16.wrap (a1)), .int .i16 (IntKind.i16.wrap (a2))] 43 (0, 0)) (by (with_reducible repeat (first | refine blk_drewN ?_ _ | refine blk_drew ?_ | refine blk_alloc ?_ _)); refine blk_far ?_ NB211_213.out _; (with_reducible repeat (first | refine blk_drewN ?_ _ | refine blk_drew ?_ | refine blk_alloc ?_ _)); refine blk_far ?_ NB211_213.out _; (with_reducible repeat (first | refine blk_drewN ?_ _ | refine blk_drew ?_ | refine blk_alloc ?_ _)); exact BK211.out)) : gb214 ≠ gb211)); replace BK211 := Aside0.mk (blk_below (g := gb211) (o := .cells #[.int .i16 (IntKind.i16.wrap (a1)), .int .i16 (IntKind.i16.wrap (a2))] 43 (0, 0)) (by (with_reducible repeat (first | refine blk_drewN ?_ _ | refine blk_drew ?_ | refine blk_alloc ?_ _)); refine blk_far ?_ NB211_213.out _; (with_reducible repeat (first | refine blk_drewN ?_ _ | refine blk_drew ?_ | refine blk_alloc ?_ _)); refine blk_far ?_ NB211_213.out _; (with_reducible repeat (first | refine blk_drewN ?_ _ | refine blk_drew ?_ | refine blk_alloc ?_ _)); exact BK211.out) hb); have NB212_214 := Aside0.mk ((by rw [hg]; exact Nat.ne_of_lt (blk_lt (g := gb212) (o := .cells #[.int .i16 (IntKind.i16.wrap (wrap64 (a1 + (wrap64 (1 + t205))))), .int .i16 (IntKind.i16.wrap (a2))] 43 (0, 0)) (by (with_reducible repeat (first | refine blk_drewN ?_ _ | refine blk_drew ?_ | refine blk_alloc ?_ _)); refine blk_far ?_ NB212_213.out _; (with_reducible repeat (first | refine blk_drewN ?_ _ | refine blk_drew ?_ | refine blk_alloc ?_ _)); refine blk_far ?_ NB212_213.out _; (with_reducible repeat (first | refine blk_drewN ?_ _ | refine blk_drew ?_ | refine blk_alloc ?_ _)); exact BK212.out)) : gb212 ≠ gb214)); have NB214_212 := Aside0.mk ((by rw [hg]; exact Nat.ne_of_gt (blk_lt (g := gb212) (o := .cells #[.int .i16 (IntKind.i16.wrap (wrap64 (a1 + (wrap64 (1 + t205))))), .int .i16 (IntKind.i16.wrap (a2))] 43 (0, 0)) (by (with_reducible repeat (first | refine blk_drewN ?_ _ | refine blk_drew ?_ | refine blk_alloc ?_ _)); refine blk_far ?_ NB212_213.out _; (with_reducible repeat (first | refine blk_drewN ?_ _ | refine blk_drew ?_ | refine blk_alloc ?_ _)); refine blk_far ?_ NB212_213.out _; (with_reducible repeat (first | refine blk_drewN ?_ _ | refine blk_drew ?_ | refine blk_alloc ?_ _)); exact BK212.out)) : gb214 ≠ gb212)); replace BK212 := Aside0.mk (blk_below (g := gb212) (o := .cells #[.int .i16 (IntKind.i16.wrap (wrap64 (a1 + (wrap64 (1 + t205))))), .int .i16 (IntKind.i16.wrap (a2))] 43 (0, 0)) (by (with_reducible repeat (first | refine blk_drewN ?_ _ | refine blk_drew ?_ | refine blk_alloc ?_ _)); refine blk_far ?_ NB212_213.out _; (with_reducible repeat (first | refine blk_drewN ?_ _ | refine blk_drew ?_ | refine blk_alloc ?_ _)); refine blk_far ?_ NB212_213.out _; (with_reducible repeat (first | refine blk_drewN ?_ _ | refine blk_drew ?_ | refine blk_alloc ?_ _)); exact BK212.out) hb); have NB213_214 := Aside0.mk ((by rw [hg]; exact Nat.ne_of_lt (blk_lt (g := gb213) (o := .cells #[.int .i16 (IntKind.i16.wrap (wrap64 (a1 + (wrap64 (1 + t205))))), .int .i16 (IntKind.i16.wrap (wrap64 (a2 + (wrap64 (1 + t208)))))] 43 (0, 0)) (by (with_reducible repeat (first | refine blk_drewN ?_ _ | refine blk_drew ?_ | refine blk_alloc ?_ _)); refine blk_put (cs := #[.int .i16 (IntKind.i16.wrap (wrap64 (a1 + (wrap64 (1 + t205))))), .int .i16 0]) ?_ 1 _ rfl; (with_reducible repeat (first | refine blk_drewN ?_ _ | refine blk_drew ?_ | refine blk_alloc ?_ _)); refine blk_put (cs := #[.int .i16 0, .int .i16 0]) ?_ 0 _ rfl; (with_reducible repeat (first | refine blk_drewN ?_ _ | refine blk_drew ?_ | refine blk_alloc ?_ _)); exact BK213.out)) : gb213 ≠ gb214)); have NB214_213 := Aside0.mk ((by rw [hg]; exact Nat.ne_of_gt (blk_lt (g := gb213) (o := .cells #[.int .i16 (IntKind.i16.wrap (wrap64 (a1 + (wrap64 (1 + t205))))), .int .i16 (IntKind.i16.wrap (wrap64 (a2 + (wrap64 (1 + t208)))))] 43 (0, 0)) (by (with_reducible repeat (first | refine blk_drewN ?_ _ | refine blk_drew ?_ | refine blk_alloc ?_ _)); refine blk_put (cs := #[.int .i16 (IntKind.i16.wrap (wrap64 (a1 + (wrap64 (1 + t205))))), .int .i16 0]) ?_ 1 _ rfl; (with_reducible repeat (first | refine blk_drewN ?_ _ | refine blk_drew ?_ | refine blk_alloc ?_ _)); refine blk_put (cs := #[.int .i16 0, .int .i16 0]) ?_ 0 _ rfl; (with_reducible repeat (first | refine blk_drewN ?_ _ | refine blk_drew ?_ | refine blk_alloc ?_ _)); exact BK213.out)) : gb214 ≠ gb213)); replace BK213 := Aside0.mk (blk_below (g := gb213) (o := .cells #[.int .i16 (IntKind.i16.wrap (wrap64 (a1 + (wrap64 (1 + t205))))), .int .i16 (IntKind.i16.wrap (wrap64 (a2 + (wrap64 (1 + t208)))))] 43 (0, 0)) (by (with_reducible repeat (first | refine blk_drewN ?_ _ | refine blk_drew ?_ | refine blk_alloc ?_ _)); refine blk_put (cs := #[.int .i16 (IntKind.i16.wrap (wrap64 (a1 + (wrap64 (1 + t205))))), .int .i16 0]) ?_ 1 _ rfl; (with_reducible repeat (first | refine blk_drewN ?_ _ | refine blk_drew ?_ | refine blk_alloc ?_ _)); refine blk_put (cs := #[.int .i16 0, .int .i16 0]) ?_ 0 _ rfl; (with_reducible repeat (first | refine blk_drewN ?_ _ | refine blk_drew ?_ | refine blk_alloc ?_ _)); exact BK213.out) hb); have NB0_214 := Aside0.mk ((by rw [hg]; exact Nat.ne_of_lt (IsS74.lt (show IsS74 w0 _ g s0_0 t209 t210 from by repeat (first | (with_reducible first | exact HI0.out | apply IsS74.alloc | apply IsS74.drewN | apply IsS74.drew | apply IsS74.set_1 | apply IsS74.set_2 | refine IsS74.far ?_ NB0_211.out _ | refine IsS74.far ?_ NB0_212.out _ | refine IsS74.far ?_ NB0_213.out _) | exact HI0.out))) : g ≠ gb214)); have NB214_0 := Aside0.mk ((by rw [hg]; exact Nat.ne_of_gt (IsS74.lt (show IsS74 w0 _ g s0_0 t209 t210 from by repeat (first | (with_reducible first | exact HI0.out | apply IsS74.alloc | apply IsS74.drewN | apply IsS74.drew | apply IsS74.set_1 | apply IsS74.set_2 | refine IsS74.far ?_ NB0_211.out _ | refine IsS74.far ?_ NB0_212.out _ | refine IsS74.far ?_ NB0_213.out _) | exact HI0.out))) : gb214 ≠ g)); replace HI0 := Aside0.mk (IsS74.below (show IsS74 w0 ((w46.setCell ⟨gb213, 0, none⟩ (.int .i16 (IntKind.i16.wrap (wrap64 (a1 + (wrap64 (1 + t205))))))).setCell ⟨gb213, 1, none⟩ (.int .i16 (IntKind.i16.wrap (wrap64 (a2 + (wrap64 (1 + t208))))))) g s0_0 t209 t210 from by repeat (first | (with_reducible first | exact HI0.out | apply IsS74.alloc | apply IsS74.drewN | apply IsS74.drew | apply IsS74.set_1 | apply IsS74.set_2 | refine IsS74.far ?_ NB0_211.out _ | refine IsS74.far ?_ NB0_212.out _ | refine IsS74.far ?_ NB0_213.out _) | exact HI0.out)) hb); clear hb hbox hg; have hnb52 := NB214_211.out; have hnc52 := NB211_214.out; have hnb53 := NB214_212.out; have hnc53 := NB212_214.out; have hnb54 := NB214_213.out; have hnc54 := NB213_214.out; have hnb55 := NB214_0.out; have hnc55 := NB0_214.out; obtain ⟨⟨hcz56_0, hcz56_1⟩, hfz56_0, hfz56_1⟩ := bq_ BK214; obtain ⟨⟨hcz57_0, hcz57_1⟩, hfz57_0, hfz57_1⟩ := bq_ BK211; have hcz58_0 : w51.cell? ⟨gb212, 0, none⟩ = some (.int .i16 (IntKind.i16.wrap (wrap64 (a1 + (wrap64 (1 + t205)))))) := (blk_cell BK212.out 0).trans rfl; have hcz58_1 : w51.cell? ⟨gb212, 1, none⟩ = some (.int .i16 (IntKind.i16.wrap (a2))) := (blk_cell BK212.out 1).trans rfl; have hfz58_0 := blk_frozen BK212.out 0; have hfz58_1 := blk_frozen BK212.out 1; have hcz59_0 : w51.cell? ⟨gb213, 0, none⟩ = some (.int .i16 (IntKind.i16.wrap (wrap64 (a1 + (wrap64 (1 + t205)))))) := (blk_cell BK213.out 0).trans rfl; have hcz59_1 : w51.cell? ⟨gb213, 1, none⟩ = some (.int .i16 (IntKind.i16.wrap (wrap64 (a2 + (wrap64 (1 + t208)))))) := (blk_cell BK213.out 1).trans rfl; have hfz59_0 := blk_frozen BK213.out 0; have hfz59_1 := blk_frozen BK213.out 1) | ((with_reducible refine gate_dst (N := 78) rfl ?_); refine Kd.R_lit k43 _ 43 ?hg (N := 78) ?hd (xs := ([(⟨IntKind.i16.wrap (a1), IntKind.i16.wrap (a2)⟩ : S43), (⟨IntKind.i16.wrap (wrap64 (a1 + (wrap64 (1 + t205)))), IntKind.i16.wrap (a2)⟩ : S43), (⟨IntKind.i16.wrap (wrap64 (a1 + (wrap64 (1 + t205)))), IntKind.i16.wrap (wrap64 (a2 + (wrap64 (1 + t208))))⟩ : S43), (⟨IntKind.i16.wrap (a1), IntKind.i16.wrap (wrap64 (a2 + (wrap64 (1 + t208))))⟩ : S43)] : List (S43))) (inner := [.int .i16 (IntKind.i16.wrap (a1)), .int .i16 (IntKind.i16.wrap (a2)), .int .i16 (IntKind.i16.wrap (wrap64 (a1 + (wrap64 (1 + t205))))), .int .i16 (IntKind.i16.wrap (a2)), .int .i16 (IntKind.i16.wrap (wrap64 (a1 + (wrap64 (1 + t205))))), .int .i16 (IntKind.i16.wrap (wrap64 (a2 + (wrap64 (1 + t208))))), .int .i16 (IntKind.i16.wrap (a1)), .int .i16 (IntKind.i16.wrap (wrap64 (a2 + (wrap64 (1 + t208)))))]) (ok := fun _ => True) (okp := fun _ => True) ?hr ?hp (fun _ hk => hk) trivial (Below.refl _ _) (Nat.le_refl _) (by simp) ?_; (case hd => rfl); (case hg => rfl); (case hr => first | (go_simp; done) | (go_simp; rfl)); (case hp => exact (Reps.c2 (show Kd.M k43 _ _ _ (⟨IntKind.i16.wrap (a1), IntKind.i16.wrap (a2)⟩ : S43) [.int .i16 (IntKind.i16.wrap (a1)), .int .i16 (IntKind.i16.wrap (a2))] from (k43_mkM _ _ _ (⟨IntKind.i16.wrap (a1), IntKind.i16.wrap (a2)⟩ : S43) )) (Reps.c2 (show Kd.M k43 _ _ _ (⟨IntKind.i16.wrap (wrap64 (a1 + (wrap64 (1 + t205)))), IntKind.i16.wrap (a2)⟩ : S43) [.int .i16 (IntKind.i16.wrap (wrap64 (a1 + (wrap64 (1 + t205))))), .int .i16 (IntKind.i16.wrap (a2))] from (k43_mkM _ _ _ (⟨IntKind.i16.wrap (wrap64 (a1 + (wrap64 (1 + t205)))), IntKind.i16.wrap (a2)⟩ : S43) )) (Reps.c2 (show Kd.M k43 _ _ _ (⟨IntKind.i16.wrap (wrap64 (a1 + (wrap64 (1 + t205)))), IntKind.i16.wrap (wrap64 (a2 + (wrap64 (1 + t208))))⟩ : S43) [.int .i16 (IntKind.i16.wrap (wrap64 (a1 + (wrap64 (1 + t205))))), .int .i16 (IntKind.i16.wrap (wrap64 (a2 + (wrap64 (1 + t208)))))] from (k43_mkM _ _ _ (⟨IntKind.i16.wrap (wrap64 (a1 + (wrap64 (1 + t205)))), IntKind.i16.wrap (wrap64 (a2 + (wrap64 (1 + t208))))⟩ : S43) )) (Reps.c2 (show Kd.M k43 _ _ _ (⟨IntKind.i16.wrap (a1), IntKind.i16.wrap (wrap64 (a2 + (wrap64 (1 + t208))))⟩ : S43) [.int .i16 (IntKind.i16.wrap (a1)), .int .i16 (IntKind.i16.wrap (wrap64 (a2 + (wrap64 (1 + t208)))))] from (k43_mkM _ _ _ (⟨IntKind.i16.wrap (a1), IntKind.i16.wrap (wrap64 (a2 + (wrap64 (1 + t208))))⟩ : S43) )) (Reps.none _ _)))))); intro v216 w60 ho61 hb hg_ hnew_; clear hg_ hnew_; (first | rw [← Ny215.out] at ho61 | (simp only [Int.reduceToNat] at ho61; rw [← Ny215.out] at ho61)); have HO217 := Aside0.mk (Kd.R_lower (Kd.R_newB (Kd.R_newB (Kd.R_newB (Kd.R_newB (Kd.R_new' (Kd.R_new' ho61 (Kd.R_lt (by (with_reducible repeat (first | apply Kd.R_alloc | apply Kd.R_drewN | apply Kd.R_drew)); exact (Kd.R_mono (Kd.R_far (p := ⟨gb214, 1, none⟩) (Kd.R_far (p := ⟨gb214, 0, none⟩) (Kd.R_mono HO_7.out (fun k_ hk => (⟨hk, hk.2⟩ : _ ∧ k_ ≠ gb214))) (fun _ hk => hk.2) (.int .i16 (IntKind.i16.wrap (a1)))) (fun _ hk => hk.2) (.int .i16 (IntKind.i16.wrap (wrap64 (a2 + (wrap64 (1 + t208))))))) (fun _ h_ => h_.1))))) (Kd.R_lt (by (with_reducible repeat (first | apply Kd.R_alloc | apply Kd.R_drewN | apply Kd.R_drew)); exact (Kd.R_mono (Kd.R_far (p := ⟨gb214, 1, none⟩) (Kd.R_far (p := ⟨gb214, 0, none⟩) (Kd.R_mono HO184.out (fun k_ hk => (⟨hk, hk.2⟩ : _ ∧ k_ ≠ gb214))) (fun _ hk => hk.2) (.int .i16 (IntKind.i16.wrap (a1)))) (fun _ hk => hk.2) (.int .i16 (IntKind.i16.wrap (wrap64 (a2 + (wrap64 (1 + t208))))))) (fun _ h_ => h_.1))))) (g := gb211) (o := .cells #[.int .i16 (IntKind.i16.wrap (a1)), .int .i16 (IntKind.i16.wrap (a2))] 43 (0, 0)) (by (with_reducible repeat (first | refine blk_drewN ?_ _ | refine blk_drew ?_ | refine blk_alloc ?_ _)); refine blk_far ?_ NB211_214.out _; (with_reducible repeat (first | refine blk_drewN ?_ _ | refine blk_drew ?_ | refine blk_alloc ?_ _)); refine blk_far ?_ NB211_214.out _; (with_reducible repeat (first | refine blk_drewN ?_ _ | refine blk_drew ?_ | refine blk_alloc ?_ _)); exact BK211.out)) (g := gb212) (o := .cells #[.int .i16 (IntKind.i16.wrap (wrap64 (a1 + (wrap64 (1 + t205))))), .int .i16 (IntKind.i16.wrap (a2))] 43 (0, 0)) (by (with_reducible repeat (first | refine blk_drewN ?_ _ | refine blk_drew ?_ | refine blk_alloc ?_ _)); refine blk_far ?_ NB212_214.out _; (with_reducible repeat (first | refine blk_drewN ?_ _ | refine blk_drew ?_ | refine blk_alloc ?_ _)); refine blk_far ?_ NB212_214.out _; (with_reducible repeat (first | refine blk_drewN ?_ _ | refine blk_drew ?_ | refine blk_alloc ?_ _)); exact BK212.out)) (g := gb213) (o := .cells #[.int .i16 (IntKind.i16.wrap (wrap64 (a1 + (wrap64 (1 + t205))))), .int .i16 (IntKind.i16.wrap (wrap64 (a2 + (wrap64 (1 + t208)))))] 43 (0, 0)) (by (with_reducible repeat (first | refine blk_drewN ?_ _ | refine blk_drew ?_ | refine blk_alloc ?_ _)); refine blk_far ?_ NB213_214.out _; (with_reducible repeat (first | refine blk_drewN ?_ _ | refine blk_drew ?_ | refine blk_alloc ?_ _)); refine blk_far ?_ NB213_214.out _; (with_reducible repeat (first | refine blk_drewN ?_ _ | refine blk_drew ?_ | refine blk_alloc ?_ _)); exact BK213.out)) (g := gb214) (o := .cells #[.int .i16 (IntKind.i16.wrap (a1)), .int .i16 (IntKind.i16.wrap (wrap64 (a2 + (wrap64 (1 + t208)))))] 43 (0, 0)) (by (with_reducible repeat (first | refine blk_drewN ?_ _ | refine blk_drew ?_ | refine blk_alloc ?_ _)); refine blk_put (cs := #[.int .i16 (IntKind.i16.wrap (a1)), .int .i16 0]) ?_ 1 _ rfl; (with_reducible repeat (first | refine blk_drewN ?_ _ | refine blk_drew ?_ | refine blk_alloc ?_ _)); refine blk_put (cs := #[.int .i16 0, .int .i16 0]) ?_ 0 _ rfl; (with_reducible repeat (first | refine blk_drewN ?_ _ | refine blk_drew ?_ | refine blk_alloc ?_ _)); exact BK214.out)) (keep_size (w := w) (g := g) (row := none) (by repeat (first | (with_reducible first | exact HK.out | apply KeepBut.set_ | apply keep_drewN | apply keep_drew | apply keep_alloc | refine keep_far ?_ GW211.out _ | refine keep_far ?_ GW212.out _ | refine keep_far ?_ GW213.out _ | refine keep_far ?_ GW214.out _) | exact HK.out)))); replace HO_7 := Aside0.mk (Kd.R_elder' (by (with_reducible repeat (first | apply Kd.R_alloc | apply Kd.R_drewN | apply Kd.R_drew)); exact (Kd.R_mono (Kd.R_far (p := ⟨gb214, 1, none⟩) (Kd.R_far (p := ⟨gb214, 0, none⟩) (Kd.R_mono HO_7.out (fun k_ hk => (⟨hk, hk.2⟩ : _ ∧ k_ ≠ gb214))) (fun _ hk => hk.2) (.int .i16 (IntKind.i16.wrap (a1)))) (fun _ hk => hk.2) (.int .i16 (IntKind.i16.wrap (wrap64 (a2 + (wrap64 (1 + t208))))))) (fun _ h_ => h_.1))) (Kd.R_base ho61) hb); replace HO184 := Aside0.mk (Kd.R_elder' (by (with_reducible repeat (first | apply Kd.R_alloc | apply Kd.R_drewN | apply Kd.R_drew)); exact (Kd.R_mono (Kd.R_far (p := ⟨gb214, 1, none⟩) (Kd.R_far (p := ⟨gb214, 0, none⟩) (Kd.R_mono HO184.out (fun k_ hk => (⟨hk, hk.2⟩ : _ ∧ k_ ≠ gb214))) (fun _ hk => hk.2) (.int .i16 (IntKind.i16.wrap (a1)))) (fun _ hk => hk.2) (.int .i16 (IntKind.i16.wrap (wrap64 (a2 + (wrap64 (1 + t208))))))) (fun _ h_ => h_.1))) (Kd.R_base ho61) hb); replace BK211 := Aside0.mk (blk_below (g := gb211) (o := .cells #[.int .i16 (IntKind.i16.wrap (a1)), .int .i16 (IntKind.i16.wrap (a2))] 43 (0, 0)) (by (with_reducible repeat (first | refine blk_drewN ?_ _ | refine blk_drew ?_ | refine blk_alloc ?_ _)); refine blk_far ?_ NB211_214.out _; (with_reducible repeat (first | refine blk_drewN ?_ _ | refine blk_drew ?_ | refine blk_alloc ?_ _)); refine blk_far ?_ NB211_214.out _; (with_reducible repeat (first | refine blk_drewN ?_ _ | refine blk_drew ?_ | refine blk_alloc ?_ _)); exact BK211.out) hb); replace BK212 := Aside0.mk (blk_below (g := gb212) (o := .cells #[.int .i16 (IntKind.i16.wrap (wrap64 (a1 + (wrap64 (1 + t205))))), .int .i16 (IntKind.i16.wrap (a2))] 43 (0, 0)) (by (with_reducible repeat (first | refine blk_drewN ?_ _ | refine blk_drew ?_ | refine blk_alloc ?_ _)); refine blk_far ?_ NB212_214.out _; (with_reducible repeat (first | refine blk_drewN ?_ _ | refine blk_drew ?_ | refine blk_alloc ?_ _)); refine blk_far ?_ NB212_214.out _; (with_reducible repeat (first | refine blk_drewN ?_ _ | refine blk_drew ?_ | refine blk_alloc ?_ _)); exact BK212.out) hb); replace BK213 := Aside0.mk (blk_below (g := gb213) (o := .cells #[.int .i16 (IntKind.i16.wrap (wrap64 (a1 + (wrap64 (1 + t205))))), .int .i16 (IntKind.i16.wrap (wrap64 (a2 + (wrap64 (1 + t208)))))] 43 (0, 0)) (by (with_reducible repeat (first | refine blk_drewN ?_ _ | refine blk_drew ?_ | refine blk_alloc ?_ _)); refine blk_far ?_ NB213_214.out _; (with_reducible repeat (first | refine blk_drewN ?_ _ | refine blk_drew ?_ | refine blk_alloc ?_ _)); refine blk_far ?_ NB213_214.out _; (with_reducible repeat (first | refine blk_drewN ?_ _ | refine blk_drew ?_ | refine blk_alloc ?_ _)); exact BK213.out) hb); replace BK214 := Aside0.mk (blk_below (g := gb214) (o := .cells #[.int .i16 (IntKind.i16.wrap (a1)), .int .i16 (IntKind.i16.wrap (wrap64 (a2 + (wrap64 (1 + t208)))))] 43 (0, 0)) (by (with_reducible repeat (first | refine blk_drewN ?_ _ | refine blk_drew ?_ | refine blk_alloc ?_ _)); refine blk_put (cs := #[.int .i16 (IntKind.i16.wrap (a1)), .int .i16 0]) ?_ 1 _ rfl; (with_reducible repeat (first | refine blk_drewN ?_ _ | refine blk_drew ?_ | refine blk_alloc ?_ _)); refine blk_put (cs := #[.int .i16 0, .int .i16 0]) ?_ 0 _ rfl; (with_reducible repeat (first | refine blk_drewN ?_ _ | refine blk_drew ?_ | refine blk_alloc ?_ _)); exact BK214.out) hb); replace HK := Aside0.mk (KeepBut.trans (by repeat (first | (with_reducible first | exact HK.out | apply KeepBut.set_ | apply keep_drewN | apply keep_drew | apply keep_alloc | refine keep_far ?_ GW211.out _ | refine keep_far ?_ GW212.out _ | refine keep_far ?_ GW213.out _ | refine keep_far ?_ GW214.out _) | exact HK.out)) (KeepBut.of_below hb g none) (.inl rfl)); replace HB := Aside0.mk (below_step (by repeat (first | (with_reducible first | exact HB.out | apply below_alloc | apply pw_below_drewN | apply below_drew1 | refine below_set ?_ (IsS74.ge HI0.out) | refine below_set ?_ GE211.out | refine below_set ?_ GE212.out | refine below_set ?_ GE213.out | refine below_set ?_ GE214.out) | exact HB.out)) hb); replace HI0 := Aside0.mk (IsS74.below (show IsS74 w0 ((w51.setCell ⟨gb214, 0, none⟩ (.int .i16 (IntKind.i16.wrap (a1)))).setCell ⟨gb214, 1, none⟩ (.int .i16 (IntKind.i16.wrap (wrap64 (a2 + (wrap64 (1 + t208))))))) g s0_0 t209 t210 from by repeat (first | (with_reducible first | exact HI0.out | apply IsS74.alloc | apply IsS74.drewN | apply IsS74.drew | apply IsS74.set_1 | apply IsS74.set_2 | refine IsS74.far ?_ NB0_211.out _ | refine IsS74.far ?_ NB0_212.out _ | refine IsS74.far ?_ NB0_213.out _ | refine IsS74.far ?_ NB0_214.out _) | exact HI0.out)) hb); clear hb ho61))
   go_ret
   exact ⟨_, by first | rfl | (simp [errW_none, errW_some] <;> rfl) | (simp [*, errW_none, errW_some] <;> rfl), by (with_reducible repeat (first | apply Kd.R_alloc | apply Kd.R_drewN | apply Kd.R_drew)); exact Kd.R_mono HO217.out (fun _ hk => trivial), by repeat (first | (with_reducible first | exact HI0.out | apply IsS74.alloc | apply IsS74.drewN | apply IsS74.drew | apply IsS74.set_1 | apply IsS74.set_2 | refine IsS74.far ?_ NB0_211.out _ | refine IsS74.far ?_ NB0_212.out _ | refine IsS74.far ?_ NB0_213.out _ | refine IsS74.far ?_ NB0_214.out _) | exact HI0.out), by repeat (first | (with_reducible first | exact HB.out | apply below_alloc | apply pw_below_drewN | apply below_drew1 | refine below_set ?_ (IsS74.ge HI0.out) | refine below_set ?_ GE211.out | refine below_set ?_ GE212.out | refine below_set ?_ GE213.out | refine below_set ?_ GE214.out) | exact HB.out), by repeat (first | (with_reducible first | exact HK.out | apply KeepBut.set_ | apply keep_drewN | apply keep_drew | apply keep_alloc | refine keep_far ?_ GW211.out _ | refine keep_far ?_ GW212.out _ | refine keep_far ?_ GW213.out _ | refine keep_far ?_ GW214.out _) | exact HK.out)⟩

  rw [if_pos c14] at H
  have c14b0 : (t182 == 0) = true := beq_iff_eq.mpr c14
  have c14b1 : (t182 != 0) = false := bne_eq_false_iff_eq.mpr c14
  clear c14
  replace H := Option.bind_eq_some_iff.mp H
  obtain ⟨⟨t185, t186, t187⟩, A150, H⟩ := H
  (try dsimp only at H)
  have A15 := Aside0.mk A150
  clear A150
  obtain ⟨y188, hy188⟩ : ∃ y_ : List (S43), y_ = (([] : List (S43))) := ⟨_, rfl⟩
  replace H : (if 0 ≤ t185 then (if t185 ≤ (t181.length : Int) then ((some (t181.drop (t185 : Int).toNat : List (S43))).bind fun y191 => (if y188.length + y191.length < 35184372088832 then ((some (y188 ++ y191 : List (S43))).bind fun y195 => ((some (t181.take (t185 : Int).toNat : List (S43))).bind fun y198 => (if y195.length + y198.length < 35184372088832 then (some ((y195 ++ y198), t186, t187)) else (none)))) else (none))) else (none)) else (none)) = some (r1, r2, r3) := by first | (rw [hy188]; with_reducible exact H) | (have H2_ := (Option.bind_some _ _).symm.trans H; rw [hy188]; with_reducible exact H2_) | (have H2_ := (Option.bind_some _ _).symm.trans H; with_reducible exact H2_) | with_reducible exact H | (rw [hy188]; exact H) | exact H
  have Ny188 := Aside0.mk hy188
  clear hy188
  obtain ⟨(c16 : 0 ≤ t185), H⟩ := gd_ H
  have c16b0 := eq_true c16
  have c16b1 : decide (0 ≤ t185) = true := decide_eq_true c16
  clear c16
  obtain ⟨(c17 : t185 ≤ (t181.length : Int)), H⟩ := gd_ H
  have c17b0 := eq_true c17
  have c17b1 : decide (t185 ≤ (t181.length : Int)) = true := decide_eq_true c17
  clear c17
  obtain ⟨y191, hy191⟩ : ∃ y_ : List (S43), y_ = (t181.drop (t185 : Int).toNat) := ⟨_, rfl⟩
  replace H : (if y188.length + y191.length < 35184372088832 then ((some (y188 ++ y191 : List (S43))).bind fun y195 => ((some (t181.take (t185 : Int).toNat : List (S43))).bind fun y198 => (if y195.length + y198.length < 35184372088832 then (some ((y195 ++ y198), t186, t187)) else (none)))) else (none)) = some (r1, r2, r3) := by first | (rw [hy191]; with_reducible exact H) | (have H2_ := (Option.bind_some _ _).symm.trans H; rw [hy191]; with_reducible exact H2_) | (have H2_ := (Option.bind_some _ _).symm.trans H; with_reducible exact H2_) | with_reducible exact H | (rw [hy191]; exact H) | exact H
  have Ny191 := Aside0.mk hy191
  clear hy191
  obtain ⟨(c18 : y188.length + y191.length < 35184372088832), H⟩ := gd_ H
  have LMc18 := Aside0.mk c18
  clear c18
  obtain ⟨y195, hy195⟩ : ∃ y_ : List (S43), y_ = (y188 ++ y191) := ⟨_, rfl⟩
  replace H : ((some (t181.take (t185 : Int).toNat : List (S43))).bind fun y198 => (if y195.length + y198.length < 35184372088832 then (some ((y195 ++ y198), t186, t187)) else (none))) = some (r1, r2, r3) := by first | (rw [hy195]; with_reducible exact H) | (have H2_ := (Option.bind_some _ _).symm.trans H; rw [hy195]; with_reducible exact H2_) | (have H2_ := (Option.bind_some _ _).symm.trans H; with_reducible exact H2_) | with_reducible exact H | (rw [hy195]; exact H) | exact H
  have Ny195 := Aside0.mk hy195
  clear hy195
  have c19b0 := eq_true (od_ : 0 ≤ t185)
  have c20b0 := eq_true (od_ : t185 ≤ (t181.length : Int))
  obtain ⟨y198, hy198⟩ : ∃ y_ : List (S43), y_ = (t181.take (t185 : Int).toNat) := ⟨_, rfl⟩
  replace H : (if y195.length + y198.length < 35184372088832 then (some ((y195 ++ y198), t186, t187)) else (none)) = some (r1, r2, r3) := by first | (rw [hy198]; with_reducible exact H) | (have H2_ := (Option.bind_some _ _).symm.trans H; rw [hy198]; with_reducible exact H2_) | (have H2_ := (Option.bind_some _ _).symm.trans H; with_reducible exact H2_) | with_reducible exact H | (rw [hy198]; exact H) | exact H
  have Ny198 := Aside0.mk hy198
  clear hy198
  obtain ⟨(c21 : y195.length + y198.length < 35184372088832), H⟩ := gd_ H
  have LMc21 := Aside0.mk c21
  clear c21
  obtain ⟨y202, hy202⟩ : ∃ y_ : List (S43), y_ = (y195 ++ y198) := ⟨_, rfl⟩
  replace H : (some (y202, t186, t187)) = some (r1, r2, r3) := by first | (rw [hy202]; with_reducible exact H) | (have H2_ := (Option.bind_some _ _).symm.trans H; rw [hy202]; with_reducible exact H2_) | (have H2_ := (Option.bind_some _ _).symm.trans H; with_reducible exact H2_) | with_reducible exact H | (rw [hy202]; exact H) | exact H
  have Ny202 := Aside0.mk hy202
  clear hy202
  simp only [Option.some.injEq, Prod.mk.injEq] at H
  obtain ⟨rfl, rfl, rfl⟩ := H
  obtain ⟨Ao22, co22, eo22⟩ := Kd.R_slice HO_7.out
  subst eo22
  try go_wp2_with (first | ((with_reducible refine gate_callee (f := 45) rfl ?_); refine goM_ (some 35) Try.func45 #[.slice Ao22 x7_1.length co22] ?_; (with_reducible refine (spec_HullOf.calls k1 _ _ x7_1 t181 t182 _ ?side1 ?side2 A13.out).mono ?_); (case side1 => exact kc_ ((Kd.R_reads' HO_7.out).2.2)); (case side2 => exact (Kd.R_reads' HO_7.out).2.1); rintro e w23 ⟨v183, rfl, ho0, hb⟩; refine ⟨_, rfl, ?_⟩; have HO184 := Aside0.mk (Kd.R_lower (Kd.R_new' ho0 (Kd.R_lt (kp_ HO_7))) (keep_size (w := w) (g := g) (row := none) (kk_ HK))); replace HO_7 := Aside0.mk (Kd.R_elder' (kp_ HO_7) (Kd.R_base ho0) hb); replace HK := Aside0.mk (KeepBut.trans (kk_ HK) (KeepBut.of_below hb g none) (.inl rfl)); replace HB := Aside0.mk (below_step (by repeat (first | (with_reducible first | exact HB.out | apply below_alloc | apply pw_below_drewN | apply below_drew1 | refine below_set ?_ (IsS74.ge HI0.out)) | exact HB.out)) hb); replace HI0 := Aside0.mk (IsS74.below (ki_ HI0) hb); clear hb; (try clear ho0); obtain ⟨Ao24, co24, eo24⟩ := Kd.R_slice HO184.out; subst eo24) | ((with_reducible refine gate_callee (f := 21) rfl ?_); refine goM_ (some 82) Try.func21 #[.pointer (some ⟨g, 0, none⟩), .int .i64 (t181.length : Int)] ?_; (with_reducible refine (spec_l00Src_pick.calls g s0_0 x1001_1 x1002_1 (t181.length : Int) t185 t186 t187 w0 _ ?side1 ?side2 A15.out).mono ?_); (case side1 => exact ki_ HI0); (case side2 => repeat (first | (with_reducible first | exact HB.out | apply below_alloc | apply pw_below_drewN | apply below_drew1 | refine below_set ?_ (IsS74.ge HI0.out)) | exact HB.out)); rintro e w25 ⟨rfl, hi, hb, hk⟩; refine ⟨_, rfl, ?_⟩; replace HO_7 := Aside0.mk (Kd.R_mono (Kd.R_keep (IsS74.apart (show IsS74 w0 _ g s0_0 x1001_1 x1002_1 from ki_ HI0) (kp_ HO_7) (by decide)) hk (fun _ h => h.2)) (fun _ h => h.1)); replace HO184 := Aside0.mk (Kd.R_mono (Kd.R_keep (IsS74.apart (show IsS74 w0 _ g s0_0 x1001_1 x1002_1 from ki_ HI0) (kp_ HO184) (by decide)) hk (fun _ h => h.2)) (fun _ h => h.1)); replace HK := Aside0.mk (KeepBut.trans (kk_ HK) hk (.inl rfl)); replace HB := Aside0.mk (hb); replace HI0 := Aside0.mk (hi); clear hb; clear hk; clear hi))
  have n0_ := Aside0.mk (Kd.R_drew HO_7.out)
  have n1_ := Aside0.mk (Kd.R_drew HO184.out)
  have n2_ := Aside0.mk (IsS74.drew HI0.out)
  have n3_ := Aside0.mk (keep_drew HK.out)
  have n4_ := Aside0.mk (below_drew1 HB.out)
  clear HO_7
  clear HO184
  clear HI0
  clear HK
  clear HB
  have HO_7 := n0_
  have HO184 := n1_
  have HI0 := n2_
  have HK := n3_
  have HB := n4_
  clear n0_ n1_ n2_ n3_ n4_
  have q27 : (t185 : Int) ≤ ((t181.length : Int) : Int) := od_
  obtain ⟨i027, hi027, _, hsz27, _⟩ := info_parts info43
  have hroom27 : t181.length ≤ co24 := (Kd.R_reads' HO184.out).2.1
  have hC27 : Kd.C k43 _ Ao24 t181.length t181 := (Kd.R_reads' HO184.out).2.2
  have q027 : (0 : Int) ≤ (t185 : Int) := od_
  have hcut27 := cut_from (P := Try.prog) 36 43 .i64 Try.underlying36 hi027 2 hsz27 Ao24 t181.length co24 t185 q027 q27
  have hr27 := Kd.C_drop (m := (t185 : Int).toNat) (c := co24) hC27 (by omega) hroom27
  obtain ⟨A27, hA27⟩ : ∃ A1, A1 = (if co24 = (t185 : Int).toNat then Ao24 else (Ao24 : Option Addr).map (·.add ((t185 : Int).toNat * 2))) := ⟨_, rfl⟩
  obtain ⟨c27, hc27⟩ : ∃ c1, c1 = co24 - (t185 : Int).toNat := ⟨_, rfl⟩
  have hy27 : y191.length = t181.length - (t185 : Int).toNat := (by rw [Ny191.out, List.length_drop] <;> omega)
  rw [show (t181).drop (t185 : Int).toNat = y191 from Ny191.out.symm] at hr27
  replace hr27 : Kd.C k43 _ A27 y191.length y191 := (by rw [hA27]; exact hr27)
  rw [← hy27, ← hA27, ← hc27] at hcut27
  have HR194 := Aside0.mk hr27
  have HC194 := Aside0.mk (show y191.length ≤ c27 from by rw [hy27, hc27]; exact Nat.sub_le_sub_right hroom27 _)
  clear hr27 hC27 hroom27 hi027 hsz27 hc27
  have KY27 := Aside0.mk hy27
  have KA27 := Aside0.mk hA27
  clear hy27 hA27
  have KL27 := Aside0.mk (show (t185 : Int).toNat ≤ t181.length from by omega)
  replace q27 := eq_true q27
  have q28 : (t185 : Int) ≤ ((t181.length : Int) : Int) := od_
  obtain ⟨i028, hi028, _, hsz28, _⟩ := info_parts info43
  have hroom28 : t181.length ≤ co24 := (Kd.R_reads' HO184.out).2.1
  have hC28 : Kd.C k43 _ Ao24 t181.length t181 := (Kd.R_reads' HO184.out).2.2
  have hcut28 := cut_to (P := Try.prog) 36 43 .i64 Try.underlying36 hi028 Ao24 t181.length co24 t185 od_ q28 hroom28
  have hr28 := Kd.C_take (m := (t185 : Int).toNat) hC28 (by omega)
  have hy28 : y198.length = (t185 : Int).toNat := (by rw [Ny198.out, List.length_take]; omega)
  rw [← Ny198.out] at hr28
  rw [← hy28] at hcut28
  have HR201 := Aside0.mk hr28
  have HC201 := Aside0.mk (show y198.length ≤ co24 from by omega)
  clear hr28 hC28 hroom28 hi028 hsz28
  have KY28 := Aside0.mk hy28
  clear hy28
  have KL28 := Aside0.mk (show (t185 : Int).toNat ≤ t181.length from by omega)
  replace q28 := eq_true q28
  refine start_ (n := 10) (S := fun w' => True) (ds := []) #[false, false, false, false, false, false, false, false, false, false] (by kernel_rfl) rfl rfl trivial (fun hHeld => ?_); refine with_tabW spec_l03Drawn.tab16 spec_l03Drawn.bits16 (fun HT_ HW_ => ?_)
  generalize w25.drew = w26 at HO_7 HO184 HI0 HK HB HR194 HR201 hHeld ⊢
  refine pu_ 1 84 (lA 10 2) ?_ ?_ HT_ ?_
  refine pu_ 2 85 (lA 10 6) ?_ ?_ HT_ ?_
  refine pu_ 3 86 (lA 10 14) ?_ ?_ HT_ ?_
  refine pu_ 5 88 (lA 10 46) ?_ ?_ HT_ ?_
  refine pu_ 6 89 (lA 10 110) ?_ ?_ HT_ ?_
  refine pu_ 7 90 (lA 10 238) ?_ ?_ HT_ ?_
  refine one_ (i := 0) (N := some 83) #[true, true, true, true, false, true, true, true, false, false] rfl rfl (one_of HT_.out (by kernel_rfl)) (by decide) (fun K hK => ?_)
  refine Kd.R_lit_step k43 _ 43 ?hg (N := 83) ?hd (xs := ([] : List (S43))) (inner := []) (ok := fun _ => True) (okp := fun _ => True) ?hr ?hp (fun _ hk => hk) trivial (Below.refl _ _) (Nat.le_refl _) (by simp) ?_; (case hd => rfl); (case hg => rfl); (case hr => first | (go_simp; done) | (go_simp; rfl)); (case hp => exact (Reps.none _ _))
  intro v189 w29 ho30 hb hg_ hnew_
  clear hg_ hnew_
  (first | rw [← Ny188.out] at ho30 | (simp only [Int.reduceToNat] at ho30; rw [← Ny188.out] at ho30))
  have n0_ := Aside0.mk (Kd.R_elder' (kp_ HO_7) (Kd.R_base ho30) hb)
  have n1_ := Aside0.mk (Kd.R_elder' (kp_ HO184) (Kd.R_base ho30) hb)
  have n2_ := Aside0.mk (Kd.R_lower (Kd.R_new' (Kd.R_new' ho30 (Kd.R_lt (kp_ HO_7))) (Kd.R_lt (kp_ HO184))) (keep_size (w := w) (g := g) (row := none) (kk_ HK)))
  have n3_ := Aside0.mk (IsS74.below (ki_ HI0) hb)
  have n4_ := Aside0.mk (Kd.C_below (kc_ HR194.out) hb)
  have n5_ := Aside0.mk (Kd.C_below (kc_ HR201.out) hb)
  have n6_ := Aside0.mk (KeepBut.trans (kk_ HK) (KeepBut.of_below hb g none) (.inl rfl))
  have n7_ := Aside0.mk (below_step (by repeat (first | (with_reducible first | exact HB.out | apply below_alloc | apply pw_below_drewN | apply below_drew1 | refine below_set ?_ (IsS74.ge HI0.out)) | exact HB.out)) hb)
  clear HO_7
  clear HO184
  clear HI0
  clear HR194
  clear HR201
  clear HK
  clear HB
  have HO_7 := n0_
  have HO184 := n1_
  have HO190 := n2_
  have HI0 := n3_
  have HR194 := n4_
  have HR201 := n5_
  have HK := n6_
  have HB := n7_
  clear n0_ n1_ n2_ n3_ n4_ n5_ n6_ n7_
  clear hb ho30
  refine hK.out _ _ trivial (fun hHeld => ?_)
  clear hK K
  refine norm_ (a' := ?_) ?_ ?_
  rotate_left
  ·
   show Act.put _ (some 83) _ = _
   simp only [Act.put, List.setIfInBounds_toArray, List.set_cons_zero, List.set_cons_succ, i64_w, i32_w]
   rfl
  refine one_ (i := 4) (N := some 87) #[true, true, true, true, true, true, true, true, false, false] rfl rfl (one_of HT_.out (by kernel_rfl)) (by decide) (fun K hK => ?_)
  refine Kd.R_append_rows_step k43 w.heap.size (by rfl) (.tmp 83) (.tmp 86) 36 43 (.agg #[(.int .i16 0), (.int .i16 0)]) 4 rfl Try.underlying36 info43 rfl (by decide) (by omega) v189 y188 y191 _ _ _ (fun k_ => some k_ ≠ (.slice Ao22 x7_1.length co22 : Value).ownBlock ∧ some k_ ≠ (.slice Ao24 t181.length co24 : Value).ownBlock) (fun _ => False) rfl rfl ?aO ?aR (fun _ _ h => h) (fun _ h => h.elim) ?aF (Below.refl _ _) ?aS ?aL ?_
  (case aR => repeat (first | exact (kc_ HR194.out) | (with_reducible refine Kd.C_alloc ?_ _) | (with_reducible refine Kd.C_drewN ?_ _) | (with_reducible refine Kd.C_drew ?_)))
  (case aF => exact (fun k_ hk => ⟨Kd.fresh' (Kd.R_lt (kp_ HO_7)) k_ hk, Kd.fresh' (Kd.R_lt (kp_ HO184)) k_ hk⟩))
  (case aO => exact (by (with_reducible repeat (first | apply Kd.R_alloc | apply Kd.R_drewN | apply Kd.R_drew)); exact Kd.R_mono HO190.out (fun _ hk => ⟨hk.1.2, hk.2⟩)))
  (case aS => exact (keep_size (w := w) (g := g) (row := none) (kk_ HK)))
  (case aL => have := LMc18.out; omega)
  intro v196 w31 ho hb hg hat
  rw [← Ny195.out] at ho
  have n0_ := Aside0.mk (Kd.R_after (ok := (fun k_ => some k_ ≠ (.slice Ao24 t181.length co24 : Value).ownBlock)) (by (with_reducible repeat (first | apply Kd.R_alloc | apply Kd.R_drewN | apply Kd.R_drew)); exact Kd.R_mono HO_7.out (fun _ hk => ⟨hk.1.2, hk.2⟩)) hg hat)
  have n1_ := Aside0.mk (IsS74.grown (ki_ HI0) hg (IsS74.own_ne HI0.out HO190.out (by decide)))
  have n2_ := Aside0.mk (Kd.R_after (ok := (fun k_ => some k_ ≠ (.slice Ao22 x7_1.length co22 : Value).ownBlock)) (by (with_reducible repeat (first | apply Kd.R_alloc | apply Kd.R_drewN | apply Kd.R_drew)); exact Kd.R_mono HO184.out (fun _ hk => ⟨hk.1.2, hk.2⟩)) hg hat)
  have n3_ := Aside0.mk (below_weaken (by repeat (first | (with_reducible first | exact HB.out | apply below_alloc | apply pw_below_drewN | apply below_drew1 | refine below_set ?_ (IsS74.ge HI0.out)) | exact HB.out)) HL.out hb)
  have n4_ := Aside0.mk (KeepBut.trans (kk_ HK) (KeepBut.of_grown hg g) (Kd.R_base2 HO190.out))
  have n5_ := Aside0.mk ((show Kd.C k43 w31 A27 y191.length y191 from by rw [Ny191.out, KA27.out]; exact Kd.C_drop (m := (t185 : Int).toNat) (c := co24) ((Kd.R_reads' (Kd.R_after (ok := (fun k_ => some k_ ≠ (.slice Ao22 x7_1.length co22 : Value).ownBlock)) (by (with_reducible repeat (first | apply Kd.R_alloc | apply Kd.R_drewN | apply Kd.R_drew)); exact Kd.R_mono HO184.out (fun _ hk => ⟨hk.1.2, hk.2⟩)) hg hat)).2.2) KL27.out ((Kd.R_reads' (Kd.R_after (ok := (fun k_ => some k_ ≠ (.slice Ao22 x7_1.length co22 : Value).ownBlock)) (by (with_reducible repeat (first | apply Kd.R_alloc | apply Kd.R_drewN | apply Kd.R_drew)); exact Kd.R_mono HO184.out (fun _ hk => ⟨hk.1.2, hk.2⟩)) hg hat)).2.1)))
  have n6_ := Aside0.mk ((show Kd.C k43 w31 Ao24 y198.length y198 from by rw [Ny198.out]; exact Kd.C_take (m := (t185 : Int).toNat) ((Kd.R_reads' (Kd.R_after (ok := (fun k_ => some k_ ≠ (.slice Ao22 x7_1.length co22 : Value).ownBlock)) (by (with_reducible repeat (first | apply Kd.R_alloc | apply Kd.R_drewN | apply Kd.R_drew)); exact Kd.R_mono HO184.out (fun _ hk => ⟨hk.1.2, hk.2⟩)) hg hat)).2.2) KL28.out))
  have n7_ := Aside0.mk (ho)
  clear HO_7
  clear HI0
  clear HO184
  clear HB
  clear HK
  clear HR194
  clear HR201
  clear HO190
  have HO_7 := n0_
  have HI0 := n1_
  have HO184 := n2_
  have HB := n3_
  have HK := n4_
  have HR194 := n5_
  have HR201 := n6_
  have HO197 := n7_
  clear n0_ n1_ n2_ n3_ n4_ n5_ n6_ n7_
  clear ho hb hg hat
  refine hK.out _ _ trivial (fun hHeld => ?_)
  clear hK K
  refine norm_ (a' := ?_) ?_ ?_
  rotate_left
  ·
   show Act.put _ (some 87) _ = _
   simp only [Act.put, List.setIfInBounds_toArray, List.set_cons_zero, List.set_cons_succ, i64_w, i32_w]
   rfl
  refine one_ (i := 8) (N := some 91) #[true, true, true, true, true, true, true, true, true, false] rfl rfl (one_of HT_.out (by kernel_rfl)) (by decide) (fun K hK => ?_)
  refine Kd.R_append_rows_step k43 w.heap.size (by rfl) (.tmp 87) (.tmp 90) 36 43 (.agg #[(.int .i16 0), (.int .i16 0)]) 4 rfl Try.underlying36 info43 rfl (by decide) (by omega) v196 y195 y198 _ _ _ (fun k_ => some k_ ≠ (.slice Ao22 x7_1.length co22 : Value).ownBlock ∧ some k_ ≠ (.slice Ao24 t181.length co24 : Value).ownBlock) (fun _ => False) rfl rfl ?aO ?aR (fun _ _ h => h) (fun _ h => h.elim) ?aF (Below.refl _ _) ?aS ?aL ?_
  (case aR => repeat (first | exact (kc_ HR201.out) | (with_reducible refine Kd.C_alloc ?_ _) | (with_reducible refine Kd.C_drewN ?_ _) | (with_reducible refine Kd.C_drew ?_)))
  (case aF => exact (fun k_ hk => ⟨Kd.fresh' (Kd.R_lt (kp_ HO_7)) k_ hk, Kd.fresh' (Kd.R_lt (kp_ HO184)) k_ hk⟩))
  (case aO => exact (kp_ HO197))
  (case aS => exact (keep_size (w := w) (g := g) (row := none) (kk_ HK)))
  (case aL => have := LMc21.out; omega)
  intro v203 w32 ho hb hg hat
  rw [← Ny202.out] at ho
  have n0_ := Aside0.mk (Kd.R_after (ok := (fun k_ => some k_ ≠ (.slice Ao24 t181.length co24 : Value).ownBlock)) (kp_ HO_7) hg hat)
  have n1_ := Aside0.mk (IsS74.grown (ki_ HI0) hg (IsS74.own_ne HI0.out HO197.out (by decide)))
  have n2_ := Aside0.mk (Kd.R_after (ok := (fun k_ => some k_ ≠ (.slice Ao22 x7_1.length co22 : Value).ownBlock)) (kp_ HO184) hg hat)
  have n3_ := Aside0.mk (below_weaken (by repeat (first | (with_reducible first | exact HB.out | apply below_alloc | apply pw_below_drewN | apply below_drew1 | refine below_set ?_ (IsS74.ge HI0.out)) | exact HB.out)) HL.out hb)
  have n4_ := Aside0.mk (KeepBut.trans (kk_ HK) (KeepBut.of_grown hg g) (Kd.R_base2 HO197.out))
  have n5_ := Aside0.mk ((show Kd.C k43 w32 A27 y191.length y191 from by rw [Ny191.out, KA27.out]; exact Kd.C_drop (m := (t185 : Int).toNat) (c := co24) ((Kd.R_reads' (Kd.R_after (ok := (fun k_ => some k_ ≠ (.slice Ao22 x7_1.length co22 : Value).ownBlock)) (kp_ HO184) hg hat)).2.2) KL27.out ((Kd.R_reads' (Kd.R_after (ok := (fun k_ => some k_ ≠ (.slice Ao22 x7_1.length co22 : Value).ownBlock)) (kp_ HO184) hg hat)).2.1)))
  have n6_ := Aside0.mk ((show Kd.C k43 w32 Ao24 y198.length y198 from by rw [Ny198.out]; exact Kd.C_take (m := (t185 : Int).toNat) ((Kd.R_reads' (Kd.R_after (ok := (fun k_ => some k_ ≠ (.slice Ao22 x7_1.length co22 : Value).ownBlock)) (kp_ HO184) hg hat)).2.2) KL28.out))
  have n7_ := Aside0.mk (ho)
  clear HO_7
  clear HI0
  clear HO184
  clear HB
  clear HK
  clear HR194
  clear HR201
  clear HO197
  have HO_7 := n0_
  have HI0 := n1_
  have HO184 := n2_
  have HB := n3_
  have HK := n4_
  have HR194 := n5_
  have HR201 := n6_
  have HO204 := n7_
  clear n0_ n1_ n2_ n3_ n4_ n5_ n6_ n7_
  clear ho hb hg hat
  refine hK.out _ _ trivial (fun hHeld => ?_)
  clear hK K
  refine norm_ (a' := ?_) ?_ ?_
  rotate_left
  ·
   show Act.put _ (some 91) _ = _
   simp only [Act.put, List.setIfInBounds_toArray, List.set_cons_zero, List.set_cons_succ, i64_w, i32_w]
   rfl
  refine pu_ 9 6 (lA 10 1023) ?_ ?_ HT_ ?_
  refine done_ (done_of HT_.out (by kernel_rfl)) ?_
  try go_wp2
  go_ret
  exact ⟨_, by first | rfl | (simp [errW_none, errW_some] <;> rfl) | (simp [*, errW_none, errW_some] <;> rfl), by (with_reducible repeat (first | apply Kd.R_alloc | apply Kd.R_drewN | apply Kd.R_drew)); exact Kd.R_mono HO204.out (fun _ hk => trivial), ki_ HI0, by repeat (first | (with_reducible first | exact HB.out | apply below_alloc | apply pw_below_drewN | apply below_drew1 | refine below_set ?_ (IsS74.ge HI0.out)) | exact HB.out), kk_ HK⟩
end Go.Proofs.Ytllfeehchiikoaa.PA
