/- Pure functions, and that Go's functions come to them. -/
import Derived.Test.YtllfeehchiikoaaPAx0
import Derived.Test.YtllfeehchiikoaaPAxmG
import Derived.Test.YtllfeehchiikoaaPAxmE
import Derived.Test.YtllfeehchiikoaaPAxgImpl
import Derived.Test.YtllfeehchiikoaaPAxgImplB
namespace Go.Proofs.Ytllfeehchiikoaa.PA
open Go.RowKit Go.Proofs.YtllfeehchiikoaaW.PrintWords Go.Proofs.YtllfeehchiikoaaW.PrintLast Go.Proofs.YtllfeehchiikoaaW.PrintMore
set_option linter.unusedVariables false
set_option linter.unusedSimpArgs false

/-! ### impl_StoneAt: function 14 -/
def impl_StoneAt.w (k : Nat) (l1 : List (List (S43))) (a2 a3 : Int) : Option Int := Base.idxO (fun s : List (S43) => impl_StoneAt_1.f k s a2 a3) l1 0
theorem impl_StoneAt.w_mono (k : Nat) (l1 : List (List (S43))) (a2 a3 : Int) : LeO (impl_StoneAt.w k l1 a2 a3) (impl_StoneAt.w (k + 1) l1 a2 a3) := Base.idxO_mono (fun s => impl_StoneAt_1.mono s a2 a3 k) _ _
theorem impl_StoneAt.w_eq {k : Nat} {l1 : List (List (S43))} {a2 a3 r : Int} (h : impl_StoneAt.w k l1 a2 a3 = some r) : Base.idxO (fun s : List (S43) => impl_StoneAt_1.f k s a2 a3) l1 0 = some r := h
def impl_StoneAt.j0 : Nat → Int → Int → List (List (S43)) → Int → Option (Int × Int)
 | 0, _, _, _, _ => none
 | k + 1, a2, a3, x1, x10 => if x10 = 0 then ((impl_StoneAt.w k x1 a2 a3).bind fun t242 => (if t242 < 0 then (some (0, 6)) else (some (t242, 0)))) else (some (0, x10))
def impl_StoneAt.f (k : Nat) (a0_0 : Int) (a0_1 : Int) (l1 : List (List (S43))) (a2 : Int) (a3 : Int) : Option (Int × Int) := (impl_ValidLay.f k a0_0 a0_1 l1).bind fun t237 => ((impl_within.f a2 0 (wrap64 (a0_0))).bind fun t238 => (if t238 = true then ((impl_within.f a3 0 (wrap64 (a0_1))).bind fun t239 => ((impl_codeOf.f t237 t239).bind fun t240 => (impl_StoneAt.j0 k a2 a3 l1 t240))) else ((impl_codeOf.f t237 false).bind fun t241 => (impl_StoneAt.j0 k a2 a3 l1 t241))))
theorem impl_StoneAt.mono_l : ∀ k, (∀ a2 a3 y0 y1, LeO (impl_StoneAt.j0 k a2 a3 y0 y1) (impl_StoneAt.j0 (k + 1) a2 a3 y0 y1))
 | 0 => fun _ _ _ _ r h => by simp [impl_StoneAt.j0] at h
 | k + 1 => by
  have ih0 := impl_StoneAt.mono_l k
  ·
   intro a2 a3 y0 y1
   unfold impl_StoneAt.j0
   repeat' first
   | (with_reducible exact ih0 _ _ _ _)
   | (with_reducible exact impl_ValidLay.mono _ _ _ _)
   | (with_reducible exact impl_StoneAt.w_mono _ _ _ _)
   | (with_reducible exact LeO.refl _)
   | (with_reducible exact LeO.none _)
   | (with_reducible refine LeO.ite ?_ ?_)
   | (with_reducible refine LeO.bind ?_ (fun _ => ?_))
theorem impl_StoneAt.mono : ∀ a0 a1 a2 a3 a4 k, LeO (impl_StoneAt.f k a0 a1 a2 a3 a4) (impl_StoneAt.f (k + 1) a0 a1 a2 a3 a4) := by
 intro a0 a1 a2 a3 a4 k
 have ih0 := impl_StoneAt.mono_l k
 unfold impl_StoneAt.f
 repeat' first
   | (with_reducible exact ih0 _ _ _ _)
   | (with_reducible exact impl_ValidLay.mono _ _ _ _)
   | (with_reducible exact impl_StoneAt.w_mono _ _ _ _)
   | (with_reducible exact LeO.refl _)
   | (with_reducible exact LeO.none _)
   | (with_reducible refine LeO.ite ?_ ?_)
   | (with_reducible refine LeO.bind ?_ (fun _ => ?_))
def impl_StoneAt.T1 : Bool × List (List Nat × List Nat) := (true, [([], []), ([], []), ([0, 1], [0, 1]), ([], []), ([], []), ([4], [4]), ([5], [5]), ([3, 6, 2], [3, 6]), ([7, 7], [7]), ([8], [8]), ([8], [8]), ([10, 8], [8, 10]), ([11, 8], [8, 11]), ([9, 12, 8, 8], [8, 9, 12]), ([8, 13], [8, 13]), ([2, 14, 13], [2, 14]), ([15, 15, 0, 1, 2, 3, 4, 5, 6, 7, 8, 9, 10, 11, 12, 13, 14, 15], [15])])
def impl_StoneAt.B1 : List Nat := [0, 0, 3, 0, 0, 16, 48, 127, 255, 511, 511, 1535, 3583, 8191, 16383, 32767, 65535]
theorem impl_StoneAt.tab1 : rtab .any (opsOf Try.f14 1) = impl_StoneAt.T1 := by kernel_rfl
theorem impl_StoneAt.bits1 : waitsOk impl_StoneAt.T1.2 impl_StoneAt.B1 = true := by kernel_rfl
set_option maxHeartbeats 8000000 in
set_option maxRecDepth 100000 in
theorem impl_StoneAt.calls (k : Nat) (a0_0 : Int) (a0_1 : Int) (A1 : Option Addr) (c1 : Nat) (l1 : List (List (S43))) (a2 : Int) (a3 : Int) (r1 : Int) (r2 : Int) (w : World) (hr1 : Kd.C (Kd.slice 43 k43) w A1 l1.length l1) (hc1 : l1.length ≤ c1) (h : impl_StoneAt.f k a0_0 a0_1 l1 a2 a3 = some (r1, r2)) :
  Calls Try.prog 14 #[.agg #[.int .i16 a0_0, .int .i16 a0_1], .slice A1 l1.length c1, .int .i64 a2, .int .i64 a3] w fun e w' => e = .returned (.tuple #[.int .i64 r1, .int .i64 r2]) ∧ Below w.heap.size w w' := by
 have hu1 := Try.underlying26
 have HR1 := Aside0.mk hr1
 have HC1 := Aside0.mk hc1
 clear hr1 hc1
 have HB := Aside0.mk (Below.refl w.heap.size w)
 have H : ((impl_ValidLay.f k a0_0 a0_1 l1).bind fun t237 => ((impl_within.f a2 0 (wrap64 (a0_0))).bind fun t238 => (if t238 = true then ((impl_within.f a3 0 (wrap64 (a0_1))).bind fun t239 => ((impl_codeOf.f t237 t239).bind fun t240 => (impl_StoneAt.j0 k a2 a3 l1 t240))) else ((impl_codeOf.f t237 false).bind fun t241 => (impl_StoneAt.j0 k a2 a3 l1 t241))))) = some (r1, r2) := h
 clear h
 have HC5 := Aside0.mk H
 clear H
 have eg : ∀ args w, (callFunc 38 args).run Try.prog w = .ok (.enter 38 args) w := enters_of Try.func38 (by kernel_rfl) rfl
 go_enter Try.func14, Try.ntmps14
 go_upto_region 1 with (first | ((with_reducible refine gate_dst (N := 4) rfl ?_); refine boxM_ 4 #[.int .i16 a0_0, .int .i16 a0_1] 26 ?_; intro gb234 hg w6 hbox hb; have BK234 := Aside0.mk (hbox); have GW234 := ge_ HB hg; have GE234 := ge_ HB hg; replace HB := bs_ HB hb; clear hb hbox hg) | ((with_reducible refine gate_dst (N := 6) rfl ?_); refine boxM_ 6 #[.int .i64 a2] 2 ?_; intro gb235 hg w7 hbox hb; have BK235 := Aside0.mk (hbox); have GW235 := ge_ HB hg; have GE235 := ge_ HB hg; replace HB := bs_ HB hb; have NB234_235 := nl_ BK234 hg; have NB235_234 := ng_ BK234 hg; replace BK234 := bd_ BK234 hb; clear hb hbox hg) | ((with_reducible refine gate_dst (N := 7) rfl ?_); refine boxM_ 7 #[.int .i64 a3] 2 ?_; intro gb236 hg w8 hbox hb; have BK236 := Aside0.mk (hbox); have GW236 := ge_ HB hg; have GE236 := ge_ HB hg; replace HB := bs_ HB hb; have NB234_236 := nl_ BK234 hg; have NB236_234 := ng_ BK234 hg; replace BK234 := bd_ BK234 hb; have NB235_236 := nl_ BK235 hg; have NB236_235 := ng_ BK235 hg; replace BK235 := bd_ BK235 hb; clear hb hbox hg))
 (try simp only [Act.put, List.setIfInBounds_toArray, List.set_cons_zero, List.set_cons_succ])
 go_cut [10] (fun v10 wc => ∃ (kq : Nat) (x10_4 : Int), v10 = .int .i64 x10_4 ∧ Aside0 (impl_StoneAt.j0 kq a2 a3 l1 x10_4 = some (r1, r2)) ∧ Aside0 (kq ≤ k) ∧ Aside0 (wc.heap[gb234]? = some (.cells #[.int .i16 a0_0, .int .i16 a0_1] 26 (0, 0))) ∧ Aside0 (wc.heap[gb235]? = some (.cells #[.int .i64 a2] 2 (0, 0))) ∧ Aside0 (wc.heap[gb236]? = some (.cells #[.int .i64 a3] 2 (0, 0))) ∧ Aside0 (Below w.heap.size w wc))
 case first =>
  have H := HC5.out
  clear HC5
  replace H := Option.bind_eq_some_iff.mp H
  obtain ⟨t237, A90, H⟩ := H
  (try dsimp only at H)
  have A9 := Aside0.mk A90
  clear A90
  replace H := Option.bind_eq_some_iff.mp H
  obtain ⟨t238, A100, H⟩ := H
  (try dsimp only at H)
  have A10 := Aside0.mk A100
  clear A100
  rcases (Decidable.em (t238 = true)).symm with c11 | c11
  ·
   replace c11 := Bool.eq_false_iff.mpr c11
   subst c11
   replace H := gf_ H
   replace H := Option.bind_eq_some_iff.mp H
   obtain ⟨t241, A160, H⟩ := H
   (try dsimp only at H)
   have A16 := Aside0.mk A160
   clear A160
   have H' := Aside0.mk H
   clear H
   try go_wp2
   have n0_ := Aside0.mk (blk_drew BK234.out)
   have n1_ := Aside0.mk (blk_drew BK235.out)
   have n2_ := Aside0.mk (blk_drew BK236.out)
   have n3_ := Aside0.mk (below_drew1 HB.out)
   clear BK234
   clear BK235
   clear BK236
   clear HB
   have BK234 := n0_
   have BK235 := n1_
   have BK236 := n2_
   have HB := n3_
   clear n0_ n1_ n2_ n3_
   refine start_ (n := 17) (S := fun w' => w'.cell? ⟨gb234, 0, none⟩ = some (.int .i16 a0_0) ∧ w'.cell? ⟨gb234, 1, none⟩ = some (.int .i16 a0_1) ∧ w'.cell? ⟨gb235, 0, none⟩ = some (.int .i64 a2)) (ds := []) #[false, false, false, false, false, false, false, false, false, false, false, false, false, false, false, false, false] (by kernel_rfl) rfl rfl ⟨(blk_cell BK234.out 0).trans rfl, (blk_cell BK234.out 1).trans rfl, (blk_cell BK235.out 0).trans rfl⟩ (fun hHeld => ?_); refine with_tabW impl_StoneAt.tab1 impl_StoneAt.bits1 (fun HT_ HW_ => ?_)
   generalize w8.drew = w17 at BK234 BK235 BK236 HB hHeld ⊢
   refine pu_ 1 13 (lA 17 2) ?_ ?_ HT_ ?_
   refine pu_ 4 16 (lA 17 18) ?_ ?_ HT_ ?_
   refine tk_ 0 12 (lA 17 19) ?_ ?_ HT_ HW_ hHeld ?_
   refine tk_ 3 15 (lA 17 27) ?_ ?_ HT_ HW_ hHeld ?_
   refine tk_ 5 17 (lA 17 59) ?_ ?_ HT_ HW_ hHeld ?_
   refine pu_ 6 18 (lA 17 123) ?_ ?_ HT_ ?_
   refine one_ (i := 2) (N := some 14) #[true, true, true, true, true, true, true, false, false, false, false, false, false, false, false, false, false] rfl rfl (one_of HT_.out (by kernel_rfl)) (by decide) (fun K hK => ?_)
   refine goes_ Try.func7 (by kernel_rfl) rfl #[.agg #[.int .i16 a0_0, .int .i16 a0_1], .slice A1 l1.length c1] (by rfl) rfl rfl (by (try simp only [List.map_toArray, List.map_cons, List.map_nil]); first | done | rfl | (simp only [List.length_drop, List.length_take]; rfl)) ?_
   with_reducible refine (impl_ValidLay.calls k a0_0 a0_1 _ _ l1 t237 _ ?side1 ?side2 A9.out).mono ?_
   (case side1 => exact kc_ (Kd.C_below HR1.out HB.out))
   (case side2 => exact HC1.out)
   rintro e w18 ⟨rfl, hb⟩
   refine ⟨_, rfl, ?_⟩
   have n0_ := bd_ BK234 hb
   have n1_ := bd_ BK235 hb
   have n2_ := bd_ BK236 hb
   have n3_ := bs_ HB hb
   clear BK234
   clear BK235
   clear BK236
   clear HB
   have BK234 := n0_
   have BK235 := n1_
   have BK236 := n2_
   have HB := n3_
   clear n0_ n1_ n2_ n3_
   refine hK.out _ _ ⟨(blk_cell BK234.out 0).trans rfl, (blk_cell BK234.out 1).trans rfl, (blk_cell BK235.out 0).trans rfl⟩ (fun hHeld => ?_)
   clear hK K
   refine norm_ (a' := ?_) ?_ ?_
   rotate_left
   ·
    show Act.put _ (some 14) _ = _
    simp only [Act.put, List.setIfInBounds_toArray, List.set_cons_zero, List.set_cons_succ, i64_w, i32_w]
    rfl
   refine one_ (i := 7) (N := some 19) #[true, true, true, true, true, true, true, true, false, false, false, false, false, false, false, false, false] rfl rfl (one_of HT_.out (by kernel_rfl)) (by decide) (fun K hK => ?_)
   refine goes_ Try.func36 (by kernel_rfl) rfl #[.int .i64 a2, .int .i64 0, .int .i64 (wrap64 (a0_0))] (by rfl) rfl rfl (by (try simp only [List.map_toArray, List.map_cons, List.map_nil]); first | done | rfl | (simp only [List.length_drop, List.length_take]; rfl)) ?_
   with_reducible refine (impl_within.calls a2 0 (wrap64 (a0_0)) false _ A10.out).mono ?_
   rintro e w' ⟨rfl, ⟨nd, rfl⟩⟩
   refine ⟨_, rfl, ?_⟩
   refine hK.out _ _ ⟨(blk_cell BK234.out 0).trans rfl, (blk_cell BK234.out 1).trans rfl, (blk_cell BK235.out 0).trans rfl⟩ (fun hHeld => ?_)
   clear hK K
   refine norm_ (a' := ?_) ?_ ?_
   rotate_left
   ·
    show Act.put _ (some 19) _ = _
    simp only [Act.put, List.setIfInBounds_toArray, List.set_cons_zero, List.set_cons_succ, i64_w, i32_w]
    rfl
   refine pu_ 8 20 (lA 17 511) ?_ ?_ HT_ ?_
   refine pn_ 9 21 (lA 17 1023) ?_ HT_ ?_
   refine pn_ 10 22 (lA 17 2047) ?_ HT_ ?_
   refine pn_ 11 23 (lA 17 4095) ?_ HT_ ?_
   refine pn_ 12 24 (lA 17 8191) ?_ HT_ ?_
   refine pn_ 13 25 (lA 17 16383) ?_ HT_ ?_
   refine pu_ 14 26 (lA 17 32767) ?_ ?_ HT_ ?_
   refine one_ (i := 15) (N := some 27) #[true, true, true, true, true, true, true, true, true, true, true, true, true, true, true, true, false] rfl rfl (one_of HT_.out (by kernel_rfl)) (by decide) (fun K hK => ?_)
   refine goes_ Try.func35 (by kernel_rfl) rfl #[.bool t237, .bool false] (by rfl) rfl rfl (by (try simp only [List.map_toArray, List.map_cons, List.map_nil]); first | done | rfl | (simp only [List.length_drop, List.length_take]; rfl)) ?_
   with_reducible refine (impl_codeOf.calls t237 false t241 _ A16.out).mono ?_
   rintro e w' ⟨rfl, ⟨nd, rfl⟩⟩
   refine ⟨_, rfl, ?_⟩
   refine hK.out _ _ ⟨(blk_cell BK234.out 0).trans rfl, (blk_cell BK234.out 1).trans rfl, (blk_cell BK235.out 0).trans rfl⟩ (fun hHeld => ?_)
   clear hK K
   refine norm_ (a' := ?_) ?_ ?_
   rotate_left
   ·
    show Act.put _ (some 27) _ = _
    simp only [Act.put, List.setIfInBounds_toArray, List.set_cons_zero, List.set_cons_succ, i64_w, i32_w]
    rfl
   refine pu_ 16 10 (lA 17 131071) ?_ ?_ HT_ ?_
   refine done_ (done_of HT_.out (by kernel_rfl)) ?_
   try go_wp2
   go_meet
   case rel => exact ⟨_, (t241), (by first | rfl | (simp; done) | (simp [*]; done)), H', ⟨by first | omega | exact Nat.le_refl _⟩, ⟨bk_ BK234⟩, ⟨bk_ BK235⟩, ⟨bk_ BK236⟩, ⟨bl_ HB⟩⟩
  subst c11
  replace H := gt_ H
  replace H := Option.bind_eq_some_iff.mp H
  obtain ⟨t239, A120, H⟩ := H
  (try dsimp only at H)
  have A12 := Aside0.mk A120
  clear A120
  replace H := Option.bind_eq_some_iff.mp H
  obtain ⟨t240, A130, H⟩ := H
  (try dsimp only at H)
  have A13 := Aside0.mk A130
  clear A130
  have H' := Aside0.mk H
  clear H
  try go_wp2
  have n0_ := Aside0.mk (blk_drew BK234.out)
  have n1_ := Aside0.mk (blk_drew BK235.out)
  have n2_ := Aside0.mk (blk_drew BK236.out)
  have n3_ := Aside0.mk (below_drew1 HB.out)
  clear BK234
  clear BK235
  clear BK236
  clear HB
  have BK234 := n0_
  have BK235 := n1_
  have BK236 := n2_
  have HB := n3_
  clear n0_ n1_ n2_ n3_
  refine start_ (n := 17) (S := fun w' => w'.cell? ⟨gb234, 0, none⟩ = some (.int .i16 a0_0) ∧ w'.cell? ⟨gb234, 1, none⟩ = some (.int .i16 a0_1) ∧ w'.cell? ⟨gb235, 0, none⟩ = some (.int .i64 a2) ∧ w'.cell? ⟨gb236, 0, none⟩ = some (.int .i64 a3)) (ds := []) #[false, false, false, false, false, false, false, false, false, false, false, false, false, false, false, false, false] (by kernel_rfl) rfl rfl ⟨(blk_cell BK234.out 0).trans rfl, (blk_cell BK234.out 1).trans rfl, (blk_cell BK235.out 0).trans rfl, (blk_cell BK236.out 0).trans rfl⟩ (fun hHeld => ?_); refine with_tabW impl_StoneAt.tab1 impl_StoneAt.bits1 (fun HT_ HW_ => ?_)
  generalize w8.drew = w14 at BK234 BK235 BK236 HB hHeld ⊢
  refine pu_ 1 13 (lA 17 2) ?_ ?_ HT_ ?_
  refine pu_ 4 16 (lA 17 18) ?_ ?_ HT_ ?_
  refine tk_ 0 12 (lA 17 19) ?_ ?_ HT_ HW_ hHeld ?_
  refine tk_ 3 15 (lA 17 27) ?_ ?_ HT_ HW_ hHeld ?_
  refine tk_ 5 17 (lA 17 59) ?_ ?_ HT_ HW_ hHeld ?_
  refine pu_ 6 18 (lA 17 123) ?_ ?_ HT_ ?_
  refine one_ (i := 2) (N := some 14) #[true, true, true, true, true, true, true, false, false, false, false, false, false, false, false, false, false] rfl rfl (one_of HT_.out (by kernel_rfl)) (by decide) (fun K hK => ?_)
  refine goes_ Try.func7 (by kernel_rfl) rfl #[.agg #[.int .i16 a0_0, .int .i16 a0_1], .slice A1 l1.length c1] (by rfl) rfl rfl (by (try simp only [List.map_toArray, List.map_cons, List.map_nil]); first | done | rfl | (simp only [List.length_drop, List.length_take]; rfl)) ?_
  with_reducible refine (impl_ValidLay.calls k a0_0 a0_1 _ _ l1 t237 _ ?side1 ?side2 A9.out).mono ?_
  (case side1 => exact kc_ (Kd.C_below HR1.out HB.out))
  (case side2 => exact HC1.out)
  rintro e w15 ⟨rfl, hb⟩
  refine ⟨_, rfl, ?_⟩
  have n0_ := bd_ BK234 hb
  have n1_ := bd_ BK235 hb
  have n2_ := bd_ BK236 hb
  have n3_ := bs_ HB hb
  clear BK234
  clear BK235
  clear BK236
  clear HB
  have BK234 := n0_
  have BK235 := n1_
  have BK236 := n2_
  have HB := n3_
  clear n0_ n1_ n2_ n3_
  refine hK.out _ _ ⟨(blk_cell BK234.out 0).trans rfl, (blk_cell BK234.out 1).trans rfl, (blk_cell BK235.out 0).trans rfl, (blk_cell BK236.out 0).trans rfl⟩ (fun hHeld => ?_)
  clear hK K
  refine norm_ (a' := ?_) ?_ ?_
  rotate_left
  ·
   show Act.put _ (some 14) _ = _
   simp only [Act.put, List.setIfInBounds_toArray, List.set_cons_zero, List.set_cons_succ, i64_w, i32_w]
   rfl
  refine one_ (i := 7) (N := some 19) #[true, true, true, true, true, true, true, true, false, false, false, false, false, false, false, false, false] rfl rfl (one_of HT_.out (by kernel_rfl)) (by decide) (fun K hK => ?_)
  refine goes_ Try.func36 (by kernel_rfl) rfl #[.int .i64 a2, .int .i64 0, .int .i64 (wrap64 (a0_0))] (by rfl) rfl rfl (by (try simp only [List.map_toArray, List.map_cons, List.map_nil]); first | done | rfl | (simp only [List.length_drop, List.length_take]; rfl)) ?_
  with_reducible refine (impl_within.calls a2 0 (wrap64 (a0_0)) true _ A10.out).mono ?_
  rintro e w' ⟨rfl, ⟨nd, rfl⟩⟩
  refine ⟨_, rfl, ?_⟩
  refine hK.out _ _ ⟨(blk_cell BK234.out 0).trans rfl, (blk_cell BK234.out 1).trans rfl, (blk_cell BK235.out 0).trans rfl, (blk_cell BK236.out 0).trans rfl⟩ (fun hHeld => ?_)
  clear hK K
  refine norm_ (a' := ?_) ?_ ?_
  rotate_left
  ·
   show Act.put _ (some 19) _ = _
   simp only [Act.put, List.setIfInBounds_toArray, List.set_cons_zero, List.set_cons_succ, i64_w, i32_w]
   rfl
  refine pu_ 8 20 (lA 17 511) ?_ ?_ HT_ ?_
  refine pu_ 10 22 (lA 17 1535) ?_ ?_ HT_ ?_
  refine tk_ 9 21 (lA 17 2047) ?_ ?_ HT_ HW_ hHeld ?_
  refine tk_ 11 23 (lA 17 4095) ?_ ?_ HT_ HW_ hHeld ?_
  refine pu_ 12 24 (lA 17 8191) ?_ ?_ HT_ ?_
  refine one_ (i := 13) (N := some 25) #[true, true, true, true, true, true, true, true, true, true, true, true, true, true, false, false, false] rfl rfl (one_of HT_.out (by kernel_rfl)) (by decide) (fun K hK => ?_)
  refine goes_ Try.func36 (by kernel_rfl) rfl #[.int .i64 a3, .int .i64 0, .int .i64 (wrap64 (a0_1))] (by rfl) rfl rfl (by (try simp only [List.map_toArray, List.map_cons, List.map_nil]); first | done | rfl | (simp only [List.length_drop, List.length_take]; rfl)) ?_
  with_reducible refine (impl_within.calls a3 0 (wrap64 (a0_1)) t239 _ A12.out).mono ?_
  rintro e w' ⟨rfl, ⟨nd, rfl⟩⟩
  refine ⟨_, rfl, ?_⟩
  refine hK.out _ _ ⟨(blk_cell BK234.out 0).trans rfl, (blk_cell BK234.out 1).trans rfl, (blk_cell BK235.out 0).trans rfl, (blk_cell BK236.out 0).trans rfl⟩ (fun hHeld => ?_)
  clear hK K
  refine norm_ (a' := ?_) ?_ ?_
  rotate_left
  ·
   show Act.put _ (some 25) _ = _
   simp only [Act.put, List.setIfInBounds_toArray, List.set_cons_zero, List.set_cons_succ, i64_w, i32_w]
   rfl
  refine pu_ 14 26 (lA 17 32767) ?_ ?_ HT_ ?_
  refine one_ (i := 15) (N := some 27) #[true, true, true, true, true, true, true, true, true, true, true, true, true, true, true, true, false] rfl rfl (one_of HT_.out (by kernel_rfl)) (by decide) (fun K hK => ?_)
  refine goes_ Try.func35 (by kernel_rfl) rfl #[.bool t237, .bool t239] (by rfl) rfl rfl (by (try simp only [List.map_toArray, List.map_cons, List.map_nil]); first | done | rfl | (simp only [List.length_drop, List.length_take]; rfl)) ?_
  with_reducible refine (impl_codeOf.calls t237 t239 t240 _ A13.out).mono ?_
  rintro e w' ⟨rfl, ⟨nd, rfl⟩⟩
  refine ⟨_, rfl, ?_⟩
  refine hK.out _ _ ⟨(blk_cell BK234.out 0).trans rfl, (blk_cell BK234.out 1).trans rfl, (blk_cell BK235.out 0).trans rfl, (blk_cell BK236.out 0).trans rfl⟩ (fun hHeld => ?_)
  clear hK K
  refine norm_ (a' := ?_) ?_ ?_
  rotate_left
  ·
   show Act.put _ (some 27) _ = _
   simp only [Act.put, List.setIfInBounds_toArray, List.set_cons_zero, List.set_cons_succ, i64_w, i32_w]
   rfl
  refine pu_ 16 10 (lA 17 131071) ?_ ?_ HT_ ?_
  refine done_ (done_of HT_.out (by kernel_rfl)) ?_
  try go_wp2
  go_meet
  case rel => exact ⟨_, (t240), (by first | rfl | (simp; done) | (simp [*]; done)), H', ⟨by first | omega | exact Nat.le_refl _⟩, ⟨bk_ BK234⟩, ⟨bk_ BK235⟩, ⟨bk_ BK236⟩, ⟨bl_ HB⟩⟩
 case rest =>
  clear HC5
  obtain ⟨kq, x10_4, rfl, HA, HJ4, BK234, BK235, BK236, HB⟩ := hcut
  rcases kq with _ | kj4
  · exact absurd HA.out (by simp [impl_StoneAt.j0])
  have H := HA.out
  clear HA
  simp only [impl_StoneAt.j0] at H
  rcases (Decidable.em (x10_4 = 0)).symm with c19 | c19
  ·
   rw [if_neg c19] at H
   have c19b0 : (x10_4 == 0) = false := beq_eq_false_iff_ne.mpr c19
   have c19b1 : (x10_4 != 0) = true := bne_iff_ne.mpr c19
   simp only [Option.some.injEq, Prod.mk.injEq] at H
   obtain ⟨rfl, rfl⟩ := H
   go_wp2
   go_ret2
   exact ⟨rt_, bl_ HB⟩

  rw [if_pos c19] at H
  have c19b0 : (x10_4 == 0) = true := beq_iff_eq.mpr c19
  have c19b1 : (x10_4 != 0) = false := bne_eq_false_iff_eq.mpr c19
  clear c19
  replace H := Option.bind_eq_some_iff.mp H
  obtain ⟨t242, A200, H⟩ := H
  (try dsimp only at H)
  have A20 := Aside0.mk A200
  clear A200
  by_cases c21 : t242 < 0
  ·
   rw [if_pos c21] at H
   have c21b0 : decide (t242 < 0) = true := decide_eq_true c21
   clear c21
   simp only [Option.some.injEq, Prod.mk.injEq] at H
   obtain ⟨rfl, rfl⟩ := H
   go_wp2_with (first | (go_at_call 37; (with_reducible refine (impl_Stone_37.anyB 38 #[.pointer (some ⟨gb235, 0, none⟩), .pointer (some ⟨gb236, 0, none⟩)] eg (fun s : List (S43) => impl_StoneAt_1.f kj4 s a2 a3) _ _ l1 t242 _ ?side1 HC1.out (impl_StoneAt.w_eq A20.out) ?side2).mono ?_); (case side1 => exact kc_ (Kd.C_below HR1.out HB.out)); (case side2 => exact fun W x A c b hb0 _ hx hi hl => (impl_StoneAt_1.calls kj4 A c x a2 a3 gb235 gb236 b W hi hl (blk_below (g := gb235) (o := .cells #[.int .i64 a2] 2 (0, 0)) (kb_ BK235) hb0) (blk_below (g := gb236) (o := .cells #[.int .i64 a3] 2 (0, 0)) (kb_ BK236) hb0) hx).mono fun e w' h => ⟨h.1, below_then hb0 hb0.size h.2⟩); rintro e w' ⟨rfl, hb⟩; have hb9 := Aside0.mk hb; clear hb))
   go_ret2
   exact ⟨rt_, below_step (k3_ HB GE234 GE235 GE236) hb9.out⟩
  ·
   rw [if_neg c21] at H
   have c21b0 : decide (t242 < 0) = false := decide_eq_false c21
   clear c21
   simp only [Option.some.injEq, Prod.mk.injEq] at H
   obtain ⟨rfl, rfl⟩ := H
   go_wp2_with (first | (go_at_call 37; (with_reducible refine (impl_Stone_37.anyB 38 #[.pointer (some ⟨gb235, 0, none⟩), .pointer (some ⟨gb236, 0, none⟩)] eg (fun s : List (S43) => impl_StoneAt_1.f kj4 s a2 a3) _ _ l1 t242 _ ?side1 HC1.out (impl_StoneAt.w_eq A20.out) ?side2).mono ?_); (case side1 => exact kc_ (Kd.C_below HR1.out HB.out)); (case side2 => exact fun W x A c b hb0 _ hx hi hl => (impl_StoneAt_1.calls kj4 A c x a2 a3 gb235 gb236 b W hi hl (blk_below (g := gb235) (o := .cells #[.int .i64 a2] 2 (0, 0)) (kb_ BK235) hb0) (blk_below (g := gb236) (o := .cells #[.int .i64 a3] 2 (0, 0)) (kb_ BK236) hb0) hx).mono fun e w' h => ⟨h.1, below_then hb0 hb0.size h.2⟩); rintro e w' ⟨rfl, hb⟩; have hb9 := Aside0.mk hb; clear hb))
   go_ret2
   exact ⟨rt_, below_step (k3_ HB GE234 GE235 GE236) hb9.out⟩
end Go.Proofs.Ytllfeehchiikoaa.PA
