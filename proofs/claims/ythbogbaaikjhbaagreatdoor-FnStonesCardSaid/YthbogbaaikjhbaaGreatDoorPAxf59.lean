/- Pure functions, and that Go's functions come to them. -/
import Derived.Test.YthbogbaaikjhbaaGreatDoorPAx0
import Derived.Test.YthbogbaaikjhbaaGreatDoorPAxm29
import Derived.Test.YthbogbaaikjhbaaGreatDoorPAxm21
import Derived.Test.YthbogbaaikjhbaaGreatDoorPAxgSpec
namespace Go.Proofs.YthbogbaaikjhbaaGreatDoor.PA
open Go.RowKit Go.Proofs.YthbogbaaikjhbaaGreatDoorW.PrintWords Go.Proofs.YthbogbaaikjhbaaGreatDoorW.PrintLast Go.Proofs.YthbogbaaikjhbaaGreatDoorW.PrintMore
set_option linter.unusedVariables false
set_option linter.unusedSimpArgs false

/-! ### spec_l03Between: function 59 -/
def spec_l03Between.f (a0_0 : Int) (a0_1 : Int) (a1_0 : Int) (a1_1 : Int) (a2_0 : Int) (a2_1 : Int) : Option (Bool) := (spec_l00Min.f (wrap64 (a1_0)) (wrap64 (a2_0))).bind fun t121 => ((spec_l00Max.f (wrap64 (a1_0)) (wrap64 (a2_0))).bind fun t122 => ((spec_l00In.f (wrap64 (a0_0)) t121 t122).bind fun t123 => (if t123 = true then ((spec_l00Min.f (wrap64 (a1_1)) (wrap64 (a2_1))).bind fun t124 => ((spec_l00Max.f (wrap64 (a1_1)) (wrap64 (a2_1))).bind fun t125 => ((spec_l00In.f (wrap64 (a0_1)) t124 t125).bind fun t126 => (some t126)))) else (some false))))
def spec_l03Between.T1 : Bool × List (List Nat × List Nat) := (true, [([], []), ([0], [0]), ([1], [1]), ([], []), ([3], [3]), ([4], [4]), ([], []), ([6], [6]), ([7], [7]), ([5, 8], [5, 8]), ([], []), ([10], [10]), ([11], [11]), ([], []), ([13], [13]), ([14], [14]), ([12, 15, 9], [12, 15]), ([2, 9, 16, 16], [2, 9, 16]), ([17, 17], [17]), ([18], [18]), ([19, 18], [18, 19]), ([20, 18], [18, 20]), ([18], [18]), ([22, 18], [18, 22]), ([23, 18], [18, 23]), ([18], [18]), ([25, 18], [18, 25]), ([26, 18], [18, 26]), ([24, 27, 18, 18], [18, 24, 27]), ([18], [18]), ([29, 18], [18, 29]), ([30, 18], [18, 30]), ([18], [18]), ([32, 18], [18, 32]), ([33, 18], [18, 33]), ([31, 34, 28, 18], [18, 31, 34]), ([21, 28, 35, 35, 18], [18, 21, 28, 35]), ([18, 36], [18, 36]), ([37, 36, 0, 1, 2, 3, 4, 5, 6, 7, 8, 9, 10, 11, 12, 13, 14, 15, 16, 17, 18, 19, 20, 21, 22, 23, 24, 25, 26, 27, 28, 29, 30, 31, 32, 33, 34, 35, 36, 37], [37])])
def spec_l03Between.B1 : List Nat := [0, 1, 3, 0, 8, 24, 0, 64, 192, 504, 0, 1024, 3072, 0, 8192, 24576, 65528, 131071, 262143, 524287, 1048575, 2097151, 524287, 4718591, 13107199, 524287, 34078719, 101187583, 264765439, 524287, 537395199, 1611137023, 524287, 4295491583, 12885426175, 34356068351, 68719476735, 137438953471, 274877906943]
theorem spec_l03Between.tab1 : rtab .any (opsOf Tryz.f59 1) = spec_l03Between.T1 := by kernel_rfl
theorem spec_l03Between.bits1 : waitsOk spec_l03Between.T1.2 spec_l03Between.B1 = true := by kernel_rfl
set_option maxHeartbeats 8000000 in
set_option maxRecDepth 100000 in
theorem spec_l03Between.calls (a0_0 : Int) (a0_1 : Int) (a1_0 : Int) (a1_1 : Int) (a2_0 : Int) (a2_1 : Int) (r : Bool) (w : World) (h : spec_l03Between.f a0_0 a0_1 a1_0 a1_1 a2_0 a2_1 = some r) :
  Calls Tryz.prog 59 #[.agg #[.int .i16 a0_0, .int .i16 a0_1], .agg #[.int .i16 a1_0, .int .i16 a1_1], .agg #[.int .i16 a2_0, .int .i16 a2_1]] w fun e w' => e = .returned (.bool r) ∧ Below w.heap.size w w' := by
 have hu43 := Tryz.underlying43
 have HB := Aside0.mk (Below.refl w.heap.size w)
 have H : ((spec_l00Min.f (wrap64 (a1_0)) (wrap64 (a2_0))).bind fun t121 => ((spec_l00Max.f (wrap64 (a1_0)) (wrap64 (a2_0))).bind fun t122 => ((spec_l00In.f (wrap64 (a0_0)) t121 t122).bind fun t123 => (if t123 = true then ((spec_l00Min.f (wrap64 (a1_1)) (wrap64 (a2_1))).bind fun t124 => ((spec_l00Max.f (wrap64 (a1_1)) (wrap64 (a2_1))).bind fun t125 => ((spec_l00In.f (wrap64 (a0_1)) t124 t125).bind fun t126 => (some t126)))) else (some false))))) = some r := h
 clear h
 obtain ⟨t121, A4, H⟩ := be_ H
 (try dsimp only at H)
 obtain ⟨t122, A5, H⟩ := be_ H
 (try dsimp only at H)
 obtain ⟨t123, A6, H⟩ := be_ H
 (try dsimp only at H)
 rcases (Decidable.em (t123 = true)).symm with c7 | c7
 ·
  replace c7 := Bool.eq_false_iff.mpr c7
  subst c7
  replace H := gf_ H
  obtain rfl := Option.some.inj H
  go_enter Tryz.func59, Tryz.ntmps59
  try go_wp2_with (first | ((with_reducible refine gate_dst (N := 3) rfl ?_); refine boxM_ 3 #[.int .i16 a0_0, .int .i16 a0_1] 43 ?_; intro gb118 hg w15 hbox hb; have BK118 := Aside0.mk (hbox); have GW118 := ge_ HB hg; have GE118 := ge_ HB hg; replace HB := bs_ HB hb; clear hb hbox hg) | ((with_reducible refine gate_dst (N := 4) rfl ?_); refine boxM_ 4 #[.int .i16 a1_0, .int .i16 a1_1] 43 ?_; intro gb119 hg w16 hbox hb; have BK119 := Aside0.mk (hbox); have GW119 := ge_ HB hg; have GE119 := ge_ HB hg; replace HB := bs_ HB hb; have NB118_119 := nl_ BK118 hg; have NB119_118 := ng_ BK118 hg; replace BK118 := bd_ BK118 hb; clear hb hbox hg) | ((with_reducible refine gate_dst (N := 5) rfl ?_); refine boxM_ 5 #[.int .i16 a2_0, .int .i16 a2_1] 43 ?_; intro gb120 hg w17 hbox hb; have BK120 := Aside0.mk (hbox); have GW120 := ge_ HB hg; have GE120 := ge_ HB hg; replace HB := bs_ HB hb; have NB118_120 := nl_ BK118 hg; have NB120_118 := ng_ BK118 hg; replace BK118 := bd_ BK118 hb; have NB119_120 := nl_ BK119 hg; have NB120_119 := ng_ BK119 hg; replace BK119 := bd_ BK119 hb; clear hb hbox hg))
  have n0_ := Aside0.mk (blk_drew BK118.out)
  have n1_ := Aside0.mk (blk_drew BK119.out)
  have n2_ := Aside0.mk (blk_drew BK120.out)
  have n3_ := Aside0.mk (below_drew1 HB.out)
  clear BK118
  clear BK119
  clear BK120
  clear HB
  have BK118 := n0_
  have BK119 := n1_
  have BK120 := n2_
  have HB := n3_
  clear n0_ n1_ n2_ n3_
  refine start_ (n := 39) (S := fun w' => w'.cell? ⟨gb118, 0, none⟩ = some (.int .i16 a0_0) ∧ w'.cell? ⟨gb118, 1, none⟩ = some (.int .i16 a0_1) ∧ w'.cell? ⟨gb119, 0, none⟩ = some (.int .i16 a1_0) ∧ w'.cell? ⟨gb119, 1, none⟩ = some (.int .i16 a1_1) ∧ w'.cell? ⟨gb120, 0, none⟩ = some (.int .i16 a2_0) ∧ w'.cell? ⟨gb120, 1, none⟩ = some (.int .i16 a2_1)) (ds := []) #[false, false, false, false, false, false, false, false, false, false, false, false, false, false, false, false, false, false, false, false, false, false, false, false, false, false, false, false, false, false, false, false, false, false, false, false, false, false, false] (by kernel_rfl) rfl rfl ⟨(blk_cell BK118.out 0).trans rfl, (blk_cell BK118.out 1).trans rfl, (blk_cell BK119.out 0).trans rfl, (blk_cell BK119.out 1).trans rfl, (blk_cell BK120.out 0).trans rfl, (blk_cell BK120.out 1).trans rfl⟩ (fun hHeld => ?_); refine with_tabW spec_l03Between.tab1 spec_l03Between.bits1 (fun HT_ HW_ => ?_)
  generalize w17.drew = w18 at BK118 BK119 BK120 HB hHeld ⊢
  refine pu_ 0 7 (lA 39 1) ?_ ?_ HT_ ?_
  refine pu_ 3 10 (lA 39 9) ?_ ?_ HT_ ?_
  refine pu_ 6 13 (lA 39 73) ?_ ?_ HT_ ?_
  refine pu_ 10 17 (lA 39 1097) ?_ ?_ HT_ ?_
  refine pu_ 13 20 (lA 39 9289) ?_ ?_ HT_ ?_
  refine tk_ 1 8 (lA 39 9291) ?_ ?_ HT_ HW_ hHeld ?_
  refine pu_ 2 9 (lA 39 9295) ?_ ?_ HT_ ?_
  refine tk_ 4 11 (lA 39 9311) ?_ ?_ HT_ HW_ hHeld ?_
  refine pu_ 5 12 (lA 39 9343) ?_ ?_ HT_ ?_
  refine tk_ 7 14 (lA 39 9471) ?_ ?_ HT_ HW_ hHeld ?_
  refine pu_ 8 15 (lA 39 9727) ?_ ?_ HT_ ?_
  refine tk_ 11 18 (lA 39 11775) ?_ ?_ HT_ HW_ hHeld ?_
  refine pu_ 12 19 (lA 39 15871) ?_ ?_ HT_ ?_
  refine tk_ 14 21 (lA 39 32255) ?_ ?_ HT_ HW_ hHeld ?_
  refine pu_ 15 22 (lA 39 65023) ?_ ?_ HT_ ?_
  refine one_ (i := 9) (N := some 16) #[true, true, true, true, true, true, true, true, true, true, true, true, true, true, true, true, false, false, false, false, false, false, false, false, false, false, false, false, false, false, false, false, false, false, false, false, false, false, false] rfl rfl (one_of HT_.out (by kernel_rfl)) (by decide) (fun K hK => ?_)
  refine goes_ Tryz.func78 (by kernel_rfl) rfl #[.int .i64 (wrap64 (a1_0)), .int .i64 (wrap64 (a2_0))] (by rfl) rfl rfl (by (try simp only [List.map_toArray, List.map_cons, List.map_nil]); first | done | rfl | (simp only [List.length_drop, List.length_take]; rfl)) ?_
  with_reducible refine (spec_l00Min.calls (wrap64 (a1_0)) (wrap64 (a2_0)) t121 _ A4.out).mono ?_
  rintro e w' ⟨rfl, ⟨nd, rfl⟩⟩
  refine ⟨_, rfl, ?_⟩
  refine hK.out _ _ ⟨(blk_cell BK118.out 0).trans rfl, (blk_cell BK118.out 1).trans rfl, (blk_cell BK119.out 0).trans rfl, (blk_cell BK119.out 1).trans rfl, (blk_cell BK120.out 0).trans rfl, (blk_cell BK120.out 1).trans rfl⟩ (fun hHeld => ?_)
  clear hK K
  refine norm_ (a' := ?_) ?_ ?_
  rotate_left
  ·
   show Act.put _ (some 16) _ = _
   simp only [Act.put, List.setIfInBounds_toArray, List.set_cons_zero, List.set_cons_succ, i64_w, i32_w]
   rfl
  refine one_ (i := 16) (N := some 23) #[true, true, true, true, true, true, true, true, true, true, true, true, true, true, true, true, true, false, false, false, false, false, false, false, false, false, false, false, false, false, false, false, false, false, false, false, false, false, false] rfl rfl (one_of HT_.out (by kernel_rfl)) (by decide) (fun K hK => ?_)
  refine goes_ Tryz.func79 (by kernel_rfl) rfl #[.int .i64 (wrap64 (a1_0)), .int .i64 (wrap64 (a2_0))] (by rfl) rfl rfl (by (try simp only [List.map_toArray, List.map_cons, List.map_nil]); first | done | rfl | (simp only [List.length_drop, List.length_take]; rfl)) ?_
  with_reducible refine (spec_l00Max.calls (wrap64 (a1_0)) (wrap64 (a2_0)) t122 _ A5.out).mono ?_
  rintro e w' ⟨rfl, ⟨nd, rfl⟩⟩
  refine ⟨_, rfl, ?_⟩
  refine hK.out _ _ ⟨(blk_cell BK118.out 0).trans rfl, (blk_cell BK118.out 1).trans rfl, (blk_cell BK119.out 0).trans rfl, (blk_cell BK119.out 1).trans rfl, (blk_cell BK120.out 0).trans rfl, (blk_cell BK120.out 1).trans rfl⟩ (fun hHeld => ?_)
  clear hK K
  refine norm_ (a' := ?_) ?_ ?_
  rotate_left
  ·
   show Act.put _ (some 23) _ = _
   simp only [Act.put, List.setIfInBounds_toArray, List.set_cons_zero, List.set_cons_succ, i64_w, i32_w]
   rfl
  refine one_ (i := 17) (N := some 24) #[true, true, true, true, true, true, true, true, true, true, true, true, true, true, true, true, true, true, false, false, false, false, false, false, false, false, false, false, false, false, false, false, false, false, false, false, false, false, false] rfl rfl (one_of HT_.out (by kernel_rfl)) (by decide) (fun K hK => ?_)
  refine goes_ Tryz.func68 (by kernel_rfl) rfl #[.int .i64 (wrap64 (a0_0)), .int .i64 t121, .int .i64 t122] (by rfl) rfl rfl (by (try simp only [List.map_toArray, List.map_cons, List.map_nil]); first | done | rfl | (simp only [List.length_drop, List.length_take]; rfl)) ?_
  with_reducible refine (spec_l00In.calls (wrap64 (a0_0)) t121 t122 false _ A6.out).mono ?_
  rintro e w' ⟨rfl, ⟨nd, rfl⟩⟩
  refine ⟨_, rfl, ?_⟩
  refine hK.out _ _ ⟨(blk_cell BK118.out 0).trans rfl, (blk_cell BK118.out 1).trans rfl, (blk_cell BK119.out 0).trans rfl, (blk_cell BK119.out 1).trans rfl, (blk_cell BK120.out 0).trans rfl, (blk_cell BK120.out 1).trans rfl⟩ (fun hHeld => ?_)
  clear hK K
  refine norm_ (a' := ?_) ?_ ?_
  rotate_left
  ·
   show Act.put _ (some 24) _ = _
   simp only [Act.put, List.setIfInBounds_toArray, List.set_cons_zero, List.set_cons_succ, i64_w, i32_w]
   rfl
  refine pu_ 18 25 (lA 39 524287) ?_ ?_ HT_ ?_
  refine pn_ 19 26 (lA 39 1048575) ?_ HT_ ?_
  refine pn_ 20 27 (lA 39 2097151) ?_ HT_ ?_
  refine pn_ 21 28 (lA 39 4194303) ?_ HT_ ?_
  refine pn_ 22 29 (lA 39 8388607) ?_ HT_ ?_
  refine pn_ 23 30 (lA 39 16777215) ?_ HT_ ?_
  refine pn_ 24 31 (lA 39 33554431) ?_ HT_ ?_
  refine pn_ 25 32 (lA 39 67108863) ?_ HT_ ?_
  refine pn_ 26 33 (lA 39 134217727) ?_ HT_ ?_
  refine pn_ 27 34 (lA 39 268435455) ?_ HT_ ?_
  refine pn_ 28 35 (lA 39 536870911) ?_ HT_ ?_
  refine pn_ 29 36 (lA 39 1073741823) ?_ HT_ ?_
  refine pn_ 30 37 (lA 39 2147483647) ?_ HT_ ?_
  refine pn_ 31 38 (lA 39 4294967295) ?_ HT_ ?_
  refine pn_ 32 39 (lA 39 8589934591) ?_ HT_ ?_
  refine pn_ 33 40 (lA 39 17179869183) ?_ HT_ ?_
  refine pn_ 34 41 (lA 39 34359738367) ?_ HT_ ?_
  refine pn_ 35 42 (lA 39 68719476735) ?_ HT_ ?_
  refine pn_ 36 43 (lA 39 137438953471) ?_ HT_ ?_
  refine pu_ 37 44 (lA 39 274877906943) ?_ ?_ HT_ ?_
  refine pu_ 38 6 (lA 39 549755813887) ?_ ?_ HT_ ?_
  refine done_ (done_of HT_.out (by kernel_rfl)) ?_
  try go_wp2
  go_ret
  exact ⟨rt_, k3_ HB GE118 GE119 GE120⟩

 subst c7
 replace H := gt_ H
 obtain ⟨t124, A8, H⟩ := be_ H
 (try dsimp only at H)
 obtain ⟨t125, A9, H⟩ := be_ H
 (try dsimp only at H)
 obtain ⟨t126, A10, H⟩ := be_ H
 (try dsimp only at H)
 obtain rfl := Option.some.inj H
 go_enter Tryz.func59, Tryz.ntmps59
 try go_wp2_with (first | ((with_reducible refine gate_dst (N := 3) rfl ?_); refine boxM_ 3 #[.int .i16 a0_0, .int .i16 a0_1] 43 ?_; intro gb118 hg w11 hbox hb; have BK118 := Aside0.mk (hbox); have GW118 := ge_ HB hg; have GE118 := ge_ HB hg; replace HB := bs_ HB hb; clear hb hbox hg) | ((with_reducible refine gate_dst (N := 4) rfl ?_); refine boxM_ 4 #[.int .i16 a1_0, .int .i16 a1_1] 43 ?_; intro gb119 hg w12 hbox hb; have BK119 := Aside0.mk (hbox); have GW119 := ge_ HB hg; have GE119 := ge_ HB hg; replace HB := bs_ HB hb; have NB118_119 := nl_ BK118 hg; have NB119_118 := ng_ BK118 hg; replace BK118 := bd_ BK118 hb; clear hb hbox hg) | ((with_reducible refine gate_dst (N := 5) rfl ?_); refine boxM_ 5 #[.int .i16 a2_0, .int .i16 a2_1] 43 ?_; intro gb120 hg w13 hbox hb; have BK120 := Aside0.mk (hbox); have GW120 := ge_ HB hg; have GE120 := ge_ HB hg; replace HB := bs_ HB hb; have NB118_120 := nl_ BK118 hg; have NB120_118 := ng_ BK118 hg; replace BK118 := bd_ BK118 hb; have NB119_120 := nl_ BK119 hg; have NB120_119 := ng_ BK119 hg; replace BK119 := bd_ BK119 hb; clear hb hbox hg))
 have n0_ := Aside0.mk (blk_drew BK118.out)
 have n1_ := Aside0.mk (blk_drew BK119.out)
 have n2_ := Aside0.mk (blk_drew BK120.out)
 have n3_ := Aside0.mk (below_drew1 HB.out)
 clear BK118
 clear BK119
 clear BK120
 clear HB
 have BK118 := n0_
 have BK119 := n1_
 have BK120 := n2_
 have HB := n3_
 clear n0_ n1_ n2_ n3_
 refine start_ (n := 39) (S := fun w' => w'.cell? ⟨gb118, 0, none⟩ = some (.int .i16 a0_0) ∧ w'.cell? ⟨gb118, 1, none⟩ = some (.int .i16 a0_1) ∧ w'.cell? ⟨gb119, 0, none⟩ = some (.int .i16 a1_0) ∧ w'.cell? ⟨gb119, 1, none⟩ = some (.int .i16 a1_1) ∧ w'.cell? ⟨gb120, 0, none⟩ = some (.int .i16 a2_0) ∧ w'.cell? ⟨gb120, 1, none⟩ = some (.int .i16 a2_1)) (ds := []) #[false, false, false, false, false, false, false, false, false, false, false, false, false, false, false, false, false, false, false, false, false, false, false, false, false, false, false, false, false, false, false, false, false, false, false, false, false, false, false] (by kernel_rfl) rfl rfl ⟨(blk_cell BK118.out 0).trans rfl, (blk_cell BK118.out 1).trans rfl, (blk_cell BK119.out 0).trans rfl, (blk_cell BK119.out 1).trans rfl, (blk_cell BK120.out 0).trans rfl, (blk_cell BK120.out 1).trans rfl⟩ (fun hHeld => ?_); refine with_tabW spec_l03Between.tab1 spec_l03Between.bits1 (fun HT_ HW_ => ?_)
 generalize w13.drew = w14 at BK118 BK119 BK120 HB hHeld ⊢
 refine pu_ 0 7 (lA 39 1) ?_ ?_ HT_ ?_
 refine pu_ 3 10 (lA 39 9) ?_ ?_ HT_ ?_
 refine pu_ 6 13 (lA 39 73) ?_ ?_ HT_ ?_
 refine pu_ 10 17 (lA 39 1097) ?_ ?_ HT_ ?_
 refine pu_ 13 20 (lA 39 9289) ?_ ?_ HT_ ?_
 refine tk_ 1 8 (lA 39 9291) ?_ ?_ HT_ HW_ hHeld ?_
 refine pu_ 2 9 (lA 39 9295) ?_ ?_ HT_ ?_
 refine tk_ 4 11 (lA 39 9311) ?_ ?_ HT_ HW_ hHeld ?_
 refine pu_ 5 12 (lA 39 9343) ?_ ?_ HT_ ?_
 refine tk_ 7 14 (lA 39 9471) ?_ ?_ HT_ HW_ hHeld ?_
 refine pu_ 8 15 (lA 39 9727) ?_ ?_ HT_ ?_
 refine tk_ 11 18 (lA 39 11775) ?_ ?_ HT_ HW_ hHeld ?_
 refine pu_ 12 19 (lA 39 15871) ?_ ?_ HT_ ?_
 refine tk_ 14 21 (lA 39 32255) ?_ ?_ HT_ HW_ hHeld ?_
 refine pu_ 15 22 (lA 39 65023) ?_ ?_ HT_ ?_
 refine one_ (i := 9) (N := some 16) #[true, true, true, true, true, true, true, true, true, true, true, true, true, true, true, true, false, false, false, false, false, false, false, false, false, false, false, false, false, false, false, false, false, false, false, false, false, false, false] rfl rfl (one_of HT_.out (by kernel_rfl)) (by decide) (fun K hK => ?_)
 refine goes_ Tryz.func78 (by kernel_rfl) rfl #[.int .i64 (wrap64 (a1_0)), .int .i64 (wrap64 (a2_0))] (by rfl) rfl rfl (by (try simp only [List.map_toArray, List.map_cons, List.map_nil]); first | done | rfl | (simp only [List.length_drop, List.length_take]; rfl)) ?_
 with_reducible refine (spec_l00Min.calls (wrap64 (a1_0)) (wrap64 (a2_0)) t121 _ A4.out).mono ?_
 rintro e w' ⟨rfl, ⟨nd, rfl⟩⟩
 refine ⟨_, rfl, ?_⟩
 refine hK.out _ _ ⟨(blk_cell BK118.out 0).trans rfl, (blk_cell BK118.out 1).trans rfl, (blk_cell BK119.out 0).trans rfl, (blk_cell BK119.out 1).trans rfl, (blk_cell BK120.out 0).trans rfl, (blk_cell BK120.out 1).trans rfl⟩ (fun hHeld => ?_)
 clear hK K
 refine norm_ (a' := ?_) ?_ ?_
 rotate_left
 ·
  show Act.put _ (some 16) _ = _
  simp only [Act.put, List.setIfInBounds_toArray, List.set_cons_zero, List.set_cons_succ, i64_w, i32_w]
  rfl
 refine one_ (i := 16) (N := some 23) #[true, true, true, true, true, true, true, true, true, true, true, true, true, true, true, true, true, false, false, false, false, false, false, false, false, false, false, false, false, false, false, false, false, false, false, false, false, false, false] rfl rfl (one_of HT_.out (by kernel_rfl)) (by decide) (fun K hK => ?_)
 refine goes_ Tryz.func79 (by kernel_rfl) rfl #[.int .i64 (wrap64 (a1_0)), .int .i64 (wrap64 (a2_0))] (by rfl) rfl rfl (by (try simp only [List.map_toArray, List.map_cons, List.map_nil]); first | done | rfl | (simp only [List.length_drop, List.length_take]; rfl)) ?_
 with_reducible refine (spec_l00Max.calls (wrap64 (a1_0)) (wrap64 (a2_0)) t122 _ A5.out).mono ?_
 rintro e w' ⟨rfl, ⟨nd, rfl⟩⟩
 refine ⟨_, rfl, ?_⟩
 refine hK.out _ _ ⟨(blk_cell BK118.out 0).trans rfl, (blk_cell BK118.out 1).trans rfl, (blk_cell BK119.out 0).trans rfl, (blk_cell BK119.out 1).trans rfl, (blk_cell BK120.out 0).trans rfl, (blk_cell BK120.out 1).trans rfl⟩ (fun hHeld => ?_)
 clear hK K
 refine norm_ (a' := ?_) ?_ ?_
 rotate_left
 ·
  show Act.put _ (some 23) _ = _
  simp only [Act.put, List.setIfInBounds_toArray, List.set_cons_zero, List.set_cons_succ, i64_w, i32_w]
  rfl
 refine one_ (i := 17) (N := some 24) #[true, true, true, true, true, true, true, true, true, true, true, true, true, true, true, true, true, true, false, false, false, false, false, false, false, false, false, false, false, false, false, false, false, false, false, false, false, false, false] rfl rfl (one_of HT_.out (by kernel_rfl)) (by decide) (fun K hK => ?_)
 refine goes_ Tryz.func68 (by kernel_rfl) rfl #[.int .i64 (wrap64 (a0_0)), .int .i64 t121, .int .i64 t122] (by rfl) rfl rfl (by (try simp only [List.map_toArray, List.map_cons, List.map_nil]); first | done | rfl | (simp only [List.length_drop, List.length_take]; rfl)) ?_
 with_reducible refine (spec_l00In.calls (wrap64 (a0_0)) t121 t122 true _ A6.out).mono ?_
 rintro e w' ⟨rfl, ⟨nd, rfl⟩⟩
 refine ⟨_, rfl, ?_⟩
 refine hK.out _ _ ⟨(blk_cell BK118.out 0).trans rfl, (blk_cell BK118.out 1).trans rfl, (blk_cell BK119.out 0).trans rfl, (blk_cell BK119.out 1).trans rfl, (blk_cell BK120.out 0).trans rfl, (blk_cell BK120.out 1).trans rfl⟩ (fun hHeld => ?_)
 clear hK K
 refine norm_ (a' := ?_) ?_ ?_
 rotate_left
 ·
  show Act.put _ (some 24) _ = _
  simp only [Act.put, List.setIfInBounds_toArray, List.set_cons_zero, List.set_cons_succ, i64_w, i32_w]
  rfl
 refine pu_ 18 25 (lA 39 524287) ?_ ?_ HT_ ?_
 refine pu_ 19 26 (lA 39 1048575) ?_ ?_ HT_ ?_
 refine pu_ 22 29 (lA 39 5242879) ?_ ?_ HT_ ?_
 refine pu_ 25 32 (lA 39 38797311) ?_ ?_ HT_ ?_
 refine pu_ 29 36 (lA 39 575668223) ?_ ?_ HT_ ?_
 refine pu_ 32 39 (lA 39 4870635519) ?_ ?_ HT_ ?_
 refine tk_ 20 27 (lA 39 4871684095) ?_ ?_ HT_ HW_ hHeld ?_
 refine pu_ 21 28 (lA 39 4873781247) ?_ ?_ HT_ ?_
 refine tk_ 23 30 (lA 39 4882169855) ?_ ?_ HT_ HW_ hHeld ?_
 refine pu_ 24 31 (lA 39 4898947071) ?_ ?_ HT_ ?_
 refine tk_ 26 33 (lA 39 4966055935) ?_ ?_ HT_ HW_ hHeld ?_
 refine pu_ 27 34 (lA 39 5100273663) ?_ ?_ HT_ ?_
 refine tk_ 30 37 (lA 39 6174015487) ?_ ?_ HT_ HW_ hHeld ?_
 refine pu_ 31 38 (lA 39 8321499135) ?_ ?_ HT_ ?_
 refine tk_ 33 40 (lA 39 16911433727) ?_ ?_ HT_ HW_ hHeld ?_
 refine pu_ 34 41 (lA 39 34091302911) ?_ ?_ HT_ ?_
 refine one_ (i := 28) (N := some 35) #[true, true, true, true, true, true, true, true, true, true, true, true, true, true, true, true, true, true, true, true, true, true, true, true, true, true, true, true, true, true, true, true, true, true, true, false, false, false, false] rfl rfl (one_of HT_.out (by kernel_rfl)) (by decide) (fun K hK => ?_)
 refine goes_ Tryz.func78 (by kernel_rfl) rfl #[.int .i64 (wrap64 (a1_1)), .int .i64 (wrap64 (a2_1))] (by rfl) rfl rfl (by (try simp only [List.map_toArray, List.map_cons, List.map_nil]); first | done | rfl | (simp only [List.length_drop, List.length_take]; rfl)) ?_
 with_reducible refine (spec_l00Min.calls (wrap64 (a1_1)) (wrap64 (a2_1)) t124 _ A8.out).mono ?_
 rintro e w' ⟨rfl, ⟨nd, rfl⟩⟩
 refine ⟨_, rfl, ?_⟩
 refine hK.out _ _ ⟨(blk_cell BK118.out 0).trans rfl, (blk_cell BK118.out 1).trans rfl, (blk_cell BK119.out 0).trans rfl, (blk_cell BK119.out 1).trans rfl, (blk_cell BK120.out 0).trans rfl, (blk_cell BK120.out 1).trans rfl⟩ (fun hHeld => ?_)
 clear hK K
 refine norm_ (a' := ?_) ?_ ?_
 rotate_left
 ·
  show Act.put _ (some 35) _ = _
  simp only [Act.put, List.setIfInBounds_toArray, List.set_cons_zero, List.set_cons_succ, i64_w, i32_w]
  rfl
 refine one_ (i := 35) (N := some 42) #[true, true, true, true, true, true, true, true, true, true, true, true, true, true, true, true, true, true, true, true, true, true, true, true, true, true, true, true, true, true, true, true, true, true, true, true, false, false, false] rfl rfl (one_of HT_.out (by kernel_rfl)) (by decide) (fun K hK => ?_)
 refine goes_ Tryz.func79 (by kernel_rfl) rfl #[.int .i64 (wrap64 (a1_1)), .int .i64 (wrap64 (a2_1))] (by rfl) rfl rfl (by (try simp only [List.map_toArray, List.map_cons, List.map_nil]); first | done | rfl | (simp only [List.length_drop, List.length_take]; rfl)) ?_
 with_reducible refine (spec_l00Max.calls (wrap64 (a1_1)) (wrap64 (a2_1)) t125 _ A9.out).mono ?_
 rintro e w' ⟨rfl, ⟨nd, rfl⟩⟩
 refine ⟨_, rfl, ?_⟩
 refine hK.out _ _ ⟨(blk_cell BK118.out 0).trans rfl, (blk_cell BK118.out 1).trans rfl, (blk_cell BK119.out 0).trans rfl, (blk_cell BK119.out 1).trans rfl, (blk_cell BK120.out 0).trans rfl, (blk_cell BK120.out 1).trans rfl⟩ (fun hHeld => ?_)
 clear hK K
 refine norm_ (a' := ?_) ?_ ?_
 rotate_left
 ·
  show Act.put _ (some 42) _ = _
  simp only [Act.put, List.setIfInBounds_toArray, List.set_cons_zero, List.set_cons_succ, i64_w, i32_w]
  rfl
 refine one_ (i := 36) (N := some 43) #[true, true, true, true, true, true, true, true, true, true, true, true, true, true, true, true, true, true, true, true, true, true, true, true, true, true, true, true, true, true, true, true, true, true, true, true, true, false, false] rfl rfl (one_of HT_.out (by kernel_rfl)) (by decide) (fun K hK => ?_)
 refine goes_ Tryz.func68 (by kernel_rfl) rfl #[.int .i64 (wrap64 (a0_1)), .int .i64 t124, .int .i64 t125] (by rfl) rfl rfl (by (try simp only [List.map_toArray, List.map_cons, List.map_nil]); first | done | rfl | (simp only [List.length_drop, List.length_take]; rfl)) ?_
 with_reducible refine (spec_l00In.calls (wrap64 (a0_1)) t124 t125 t126 _ A10.out).mono ?_
 rintro e w' ⟨rfl, ⟨nd, rfl⟩⟩
 refine ⟨_, rfl, ?_⟩
 refine hK.out _ _ ⟨(blk_cell BK118.out 0).trans rfl, (blk_cell BK118.out 1).trans rfl, (blk_cell BK119.out 0).trans rfl, (blk_cell BK119.out 1).trans rfl, (blk_cell BK120.out 0).trans rfl, (blk_cell BK120.out 1).trans rfl⟩ (fun hHeld => ?_)
 clear hK K
 refine norm_ (a' := ?_) ?_ ?_
 rotate_left
 ·
  show Act.put _ (some 43) _ = _
  simp only [Act.put, List.setIfInBounds_toArray, List.set_cons_zero, List.set_cons_succ, i64_w, i32_w]
  rfl
 refine pu_ 37 44 (lA 39 274877906943) ?_ ?_ HT_ ?_
 refine pu_ 38 6 (lA 39 549755813887) ?_ ?_ HT_ ?_
 refine done_ (done_of HT_.out (by kernel_rfl)) ?_
 try go_wp2
 go_ret
 exact ⟨rt_, k3_ HB GE118 GE119 GE120⟩
end Go.Proofs.YthbogbaaikjhbaaGreatDoor.PA
