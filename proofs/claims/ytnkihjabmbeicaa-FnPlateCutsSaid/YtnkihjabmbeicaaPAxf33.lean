/- Pure functions, and that Go's functions come to them. -/
import Derived.Test.YtnkihjabmbeicaaPAx0
import Derived.Test.YtnkihjabmbeicaaPAxf36
namespace Go.Proofs.Ytnkihjabmbeicaa.PA
open Go.RowKit Go.Proofs.YtnkihjabmbeicaaW.PrintWords Go.Proofs.YtnkihjabmbeicaaW.PrintLast Go.Proofs.YtnkihjabmbeicaaW.PrintMore
set_option linter.unusedVariables false
set_option linter.unusedSimpArgs false

/-! ### impl_summed: function 33 -/
theorem impl_summed.goesT_ {P : Program} {ops : Array Oper} {Q : Exit → Act → World → Prop} {oi : Oper} {N : Option Tmp} {a : Act} {w : World} {K : Act → World → Prop} {t : Tmp} {g : Nat} {lb : Array Value} {ao : Array Operand} {ts : Array TypeId} (eg : ∀ args w, (callFunc g args).run P w = .ok (.enter g args) w) (ht : a.eval (.tmp t) = .func (.func g) #[] lb) (args : Array Value)
  (hw : Region.wanted oi (yielded ops a.tmps) = true) (hN : oi.dst = N) (hop : oi.op = .call { callee := .value (.tmp t), args := ao, argTypes := ts }) (hargs : ao.map a.eval = args)
  (h : Calls P g (args ++ lb) w fun e w' => ∃ v, e = .returned v ∧ K (a.put N v) w') : if Region.wanted oi (yielded ops a.tmps) = true then Oper.wp P oi a w K Q else K (a.put N undef) w := by
 refine call_ g (args ++ lb) hw hN ?_ h
 have he := eg (args ++ lb) w
 unfold execOp
 simp [hop, resolve, Deferred.ofValue, invoke, ht, hargs, he]
def impl_summed.l0 (F : Int → Int → Int → Int → Int → Int → Option Int) : Nat → List (S49) → Int → List (S48) → Int → Int → Option (Int × Int)
 | 0, _, _, _, _, _ => none
 | k + 1, x12, x14, x27, x28, x29 => if x29 < x28 then (if 0 ≤ x29 then (if x29 < (x27.length : Int) then (if x29 < (x12.length : Int) then ((F ((rd_T48 x27 x29).f0) ((rd_T48 x27 x29).f1) ((rd_T48 x27 x29).f2) ((rd_T48 x27 x29).f3) ((rd_T49 x12 x29).f0) ((rd_T49 x12 x29).f1)).bind fun t259 => (impl_summed.l0 F k x12 (wrap64 (x14 + t259)) x27 x28 (wrap64 (x29 + 1)))) else (none)) else (none)) else (none)) else (some (x14, 0))
def impl_summed.f (F : Int → Int → Int → Int → Int → Int → Option Int) (k : Nat) (a0 : Int) (a1 : Int) (l2 : List (S46)) (l3 : List (S48)) : Option (Int × Int) := (impl_sizes.f k a0 a1 l2 l3).bind fun bt252 => (if bt252.2 = true then (impl_summed.l0 F k bt252.1 0 l3 (l3.length : Int) 0) else (some (0, 1)))
theorem impl_summed.mono_l (F : Int → Int → Int → Int → Int → Int → Option Int) : ∀ k, (∀ y0 y1 y2 y3 y4, LeO (impl_summed.l0 F k y0 y1 y2 y3 y4) (impl_summed.l0 F (k + 1) y0 y1 y2 y3 y4))
 | 0 => fun _ _ _ _ _ r h => by simp [impl_summed.l0] at h
 | k + 1 => by
  have ih0 := impl_summed.mono_l F k
  ·
   intro y0 y1 y2 y3 y4
   unfold impl_summed.l0
   repeat' first | (with_reducible first | exact ih0 _ _ _ _ _ | exact impl_sizes.mono _ _ _ _ _ | exact LeO.refl _ | exact LeO.none _ | refine LeO.ite ?_ ?_ | refine LeO.bind ?_ (fun _ => ?_))
theorem impl_summed.mono (F : Int → Int → Int → Int → Int → Int → Option Int) : ∀ a0 a1 a2 a3 k, LeO (impl_summed.f F k a0 a1 a2 a3) (impl_summed.f F (k + 1) a0 a1 a2 a3) := by
 intro a0 a1 a2 a3 k
 have ih0 := impl_summed.mono_l F k
 unfold impl_summed.f
 repeat' first | (with_reducible first | exact ih0 _ _ _ _ _ | exact impl_sizes.mono _ _ _ _ _ | exact LeO.refl _ | exact LeO.none _ | refine LeO.ite ?_ ?_ | refine LeO.bind ?_ (fun _ => ?_))
def impl_summed.T8 : Bool × List (List Nat × List Nat) := (true, [([], []), ([], []), ([], []), ([], []), ([], []), ([3, 4], [3, 4]), ([5], [5]), ([1, 2, 6], [1, 2, 6]), ([0, 7], [0, 7]), ([8, 7, 0, 1, 2, 3, 4, 5, 6, 7, 8], [0, 8])])
def impl_summed.B8 : List Nat := [0, 0, 0, 0, 0, 24, 56, 126, 255, 511]
theorem impl_summed.tab8 : rtab .any (opsOf Try.f33 8) = impl_summed.T8 := by kernel_rfl
theorem impl_summed.bits8 : waitsOk impl_summed.T8.2 impl_summed.B8 = true := by kernel_rfl
set_option maxHeartbeats 8000000 in
set_option maxRecDepth 100000 in
theorem impl_summed.calls (F : Int → Int → Int → Int → Int → Int → Option Int) (g : Nat) (lb : Array Value) (w : World) (eg : ∀ args w, (callFunc g args).run Try.prog w = .ok (.enter g args) w)
  (hm : ∀ (c0 c1 c2 c3 s0 s1 r : Int) (W : World), Below w.heap.size w W → F c0 c1 c2 c3 s0 s1 = some r → Calls Try.prog g (#[.agg #[.int .i8 c0, .int .i8 c1, .int .i8 c2, .int .i8 c3], .agg #[.int .i64 s0, .int .i64 s1]] ++ lb) W fun e w' => e = .returned (.int .i64 r) ∧ Below W.heap.size W w') (k : Nat) (a0 : Int) (a1 : Int) (A2 : Option Addr) (c2 : Nat) (l2 : List (S46)) (A3 : Option Addr) (c3 : Nat) (l3 : List (S48)) (r1 : Int) (r2 : Int) (hr2 : Kd.C k46 w A2 l2.length l2) (hc2 : l2.length ≤ c2) (hr3 : Kd.C k48 w A3 l3.length l3) (hc3 : l3.length ≤ c3) (h : impl_summed.f F k a0 a1 l2 l3 = some (r1, r2)) :
  Calls Try.prog 33 #[.int .i64 a0, .int .i64 a1, .slice A2 l2.length c2, .slice A3 l3.length c3, .func (.func g) #[] lb] w fun e w' => e = .returned (.tuple #[.int .i64 r1, .int .i64 r2]) ∧ Below w.heap.size w w' := by
 have hu48 := Try.underlying48
 have hu49 := Try.underlying49
 have HR2 := Aside0.mk hr2
 have HC2 := Aside0.mk hc2
 clear hr2 hc2
 have HR3 := Aside0.mk hr3
 have HC3 := Aside0.mk hc3
 clear hr3 hc3
 have HB := Aside0.mk (Below.refl w.heap.size w)
 have H : ((impl_sizes.f k a0 a1 l2 l3).bind fun bt252 => (if bt252.2 = true then (impl_summed.l0 F k bt252.1 0 l3 (l3.length : Int) 0) else (some (0, 1)))) = some (r1, r2) := h
 clear h
 obtain ⟨⟨t252, t253⟩, A6, H⟩ := be_ H
 (try dsimp only at H)
 rcases (Decidable.em (t253 = true)).symm with c7 | c7
 ·
  replace c7 := Bool.eq_false_iff.mpr c7
  subst c7
  replace H := gf_ H
  simp only [Option.some.injEq, Prod.mk.injEq] at H
  obtain ⟨rfl, rfl⟩ := H
  go_enter Try.func33, Try.ntmps33
  go_wp2_with (first | ((with_reducible refine gate_callee (f := 36) rfl ?_); refine goM_ (some 22) Try.func36 #[.int .i64 a0, .int .i64 a1, .slice A2 l2.length c2, .slice A3 l3.length c3] ?_; (with_reducible refine (impl_sizes.calls k a0 a1 _ _ l2 _ _ l3 t252 false _ ?side1 ?side2 ?side3 ?side4 A6.out).mono ?_); (case side1 => exact kc_ HR2.out); (case side2 => exact HC2.out); (case side3 => exact kc_ HR3.out); (case side4 => exact HC3.out); rintro e w20 ⟨v254, rfl, ho0, hb⟩; refine ⟨_, rfl, ?_⟩; have HO255 := Aside0.mk (Kd.R_lower ho0 (below_size (kB_ HB))); replace HB := Aside0.mk (below_step (kB_ HB) hb); clear hb; (try clear ho0)))
  go_ret2
  exact ⟨rt_, kB_ HB⟩


 subst c7
 replace H := gt_ H
 have H' := Aside0.mk H
 clear H
 go_enter Try.func33, Try.ntmps33
 go_wp2_with (first | ((with_reducible refine gate_callee (f := 36) rfl ?_); refine goM_ (some 22) Try.func36 #[.int .i64 a0, .int .i64 a1, .slice A2 l2.length c2, .slice A3 l3.length c3] ?_; (with_reducible refine (impl_sizes.calls k a0 a1 _ _ l2 _ _ l3 t252 true _ ?side1 ?side2 ?side3 ?side4 A6.out).mono ?_); (case side1 => exact kc_ HR2.out); (case side2 => exact HC2.out); (case side3 => exact kc_ HR3.out); (case side4 => exact HC3.out); rintro e w8 ⟨v254, rfl, ho0, hb⟩; refine ⟨_, rfl, ?_⟩; have HO255 := Aside0.mk (Kd.R_lower ho0 (below_size (kB_ HB))); replace HB := Aside0.mk (below_step (kB_ HB) hb); clear hb; (try clear ho0)))
 go_loopg [14, 29] k (fun kq v14 v29 w' => ∃ (x14_1 : Int) (x29_1 : Int), v14 = .int .i64 x14_1 ∧ v29 = .int .i64 x29_1 ∧ Aside0 (impl_summed.l0 F kq t252 x14_1 l3 (l3.length : Int) x29_1 = some (r1, r2)) ∧ Aside0 (kq ≤ k) ∧ Aside0 (Kd.R k49 49 w' w.heap.size (fun _ => True) v254 t252) ∧ Aside0 (Below w.heap.size w w'))
 case atStart => exact ⟨(0), (0), (by first | rfl | (simp; done) | (simp [*]; done)), (by first | rfl | (simp; done) | (simp [*]; done)), H', ⟨Nat.le_refl _⟩, ⟨kp_ HO255⟩, ⟨kB_ HB⟩⟩
 case round =>
  clear H'
  obtain ⟨x14_1, x29_1, rfl, rfl, HA, HK1, HO_12, HB⟩ := hrel
  rcases gk with _ | k1
  · exact absurd HA.out (by simp [impl_summed.l0])
  have H := HA.out
  clear HA
  simp only [impl_summed.l0] at H
  rcases (Decidable.em (x29_1 < (l3.length : Int))).symm with c9 | c9
  ·
   rw [if_neg c9] at H
   have c9b0 : decide (x29_1 < (l3.length : Int)) = false := decide_eq_false c9
   clear c9
   simp only [Option.some.injEq, Prod.mk.injEq] at H
   obtain ⟨rfl, rfl⟩ := H
   go_wp2
   go_ret2
   exact ⟨rt_, kB_ HB⟩
  rw [if_pos c9] at H
  have c9b0 : decide (x29_1 < (l3.length : Int)) = true := decide_eq_true c9
  clear c9
  obtain ⟨c10b0, H⟩ := gx_ H
  obtain ⟨c11b0, H⟩ := gx_ H
  obtain ⟨c12b0, H⟩ := gx_ H
  obtain ⟨t259, A13, H⟩ := be_ H
  (try dsimp only at H)
  have H' := Aside0.mk H
  clear H
  have p256 : 0 ≤ (x29_1 : Int) := od_
  have q256 : x29_1 < (l3.length : Int) := od_
  obtain ⟨ad256, e256, hx256_0, hx256_1, hx256_2, hx256_3⟩ := at_T48 HR3.out x29_1 p256 q256
  cases e256
  replace hx256_0 := (hw_ HB hx256_0 :)
  replace hx256_1 := (hw_ HB hx256_1 :)
  replace hx256_2 := (hw_ HB hx256_2 :)
  replace hx256_3 := (hw_ HB hx256_3 :)
  replace p256 := eq_true p256
  replace q256 := eq_true q256
  try go_wp2_with (first | ((with_reducible refine gate_dst (N := 16) rfl ?_); refine boxM_ 16 #[.int .i8 0, .int .i8 0, .int .i8 0, .int .i8 0] 48 ?_; intro gb257 hg w14 hbox hb; replace HO_12 := Aside0.mk (Kd.R_below (kp_ HO_12) hb); have BK257 := Aside0.mk (hbox); have GW257 := Aside0.mk ((by rw [hg]; exact (below_size (kB_ HB)) : w.heap.size ≤ gb257)); have GE257 := Aside0.mk ((by rw [hg]; exact (below_size (kB_ HB)) : w.heap.size ≤ gb257)); replace HB := Aside0.mk (below_step (kB_ HB) hb); clear hb hbox hg; have hcz15_0 : w14.cell? ⟨gb257, 0, none⟩ = some (.int .i8 0) := (blk_cell BK257.out 0).trans rfl; have hcz15_1 : w14.cell? ⟨gb257, 1, none⟩ = some (.int .i8 0) := (blk_cell BK257.out 1).trans rfl; have hcz15_2 : w14.cell? ⟨gb257, 2, none⟩ = some (.int .i8 0) := (blk_cell BK257.out 2).trans rfl; have hcz15_3 : w14.cell? ⟨gb257, 3, none⟩ = some (.int .i8 0) := (blk_cell BK257.out 3).trans rfl; have hfz15_0 := blk_frozen BK257.out 0; have hfz15_1 := blk_frozen BK257.out 1; have hfz15_2 := blk_frozen BK257.out 2; have hfz15_3 := blk_frozen BK257.out 3))
  have n0_ : Aside0 (Kd.R k49 49 ((((w14.setCell ⟨gb257, 0, none⟩ (.int .i8 ((rd_T48 l3 x29_1).f0))).setCell ⟨gb257, 1, none⟩ (.int .i8 ((rd_T48 l3 x29_1).f1))).setCell ⟨gb257, 2, none⟩ (.int .i8 ((rd_T48 l3 x29_1).f2))).setCell ⟨gb257, 3, none⟩ (.int .i8 ((rd_T48 l3 x29_1).f3))) w.heap.size (fun _ => True) v254 t252) := ⟨by (with_reducible repeat (first | apply Kd.R_alloc | apply Kd.R_drewN | apply Kd.R_drew)); exact Kd.R_mono (Kd.R_far (p := ⟨gb257, 3, none⟩) (Kd.R_far (p := ⟨gb257, 2, none⟩) (Kd.R_far (p := ⟨gb257, 1, none⟩) (Kd.R_far (p := ⟨gb257, 0, none⟩) (Kd.R_types HO_12.out BK257.out (by decide)) (fun _ hk => hk.2) (.int .i8 ((rd_T48 l3 x29_1).f0))) (fun _ hk => hk.2) (.int .i8 ((rd_T48 l3 x29_1).f1))) (fun _ hk => hk.2) (.int .i8 ((rd_T48 l3 x29_1).f2))) (fun _ hk => hk.2) (.int .i8 ((rd_T48 l3 x29_1).f3))) (fun _ hk => trivial)⟩
  have n1_ : Aside0 (((((w14.setCell ⟨gb257, 0, none⟩ (.int .i8 ((rd_T48 l3 x29_1).f0))).setCell ⟨gb257, 1, none⟩ (.int .i8 ((rd_T48 l3 x29_1).f1))).setCell ⟨gb257, 2, none⟩ (.int .i8 ((rd_T48 l3 x29_1).f2))).setCell ⟨gb257, 3, none⟩ (.int .i8 ((rd_T48 l3 x29_1).f3))).heap[gb257]? = some (.cells #[.int .i8 ((rd_T48 l3 x29_1).f0), .int .i8 ((rd_T48 l3 x29_1).f1), .int .i8 ((rd_T48 l3 x29_1).f2), .int .i8 ((rd_T48 l3 x29_1).f3)] 48 (0, 0))) := ⟨by (with_reducible repeat (first | refine blk_drewN ?_ _ | refine blk_drew ?_ | refine blk_alloc ?_ _)); refine blk_put (cs := #[.int .i8 ((rd_T48 l3 x29_1).f0), .int .i8 ((rd_T48 l3 x29_1).f1), .int .i8 ((rd_T48 l3 x29_1).f2), .int .i8 0]) ?_ 3 _ rfl; (with_reducible repeat (first | refine blk_drewN ?_ _ | refine blk_drew ?_ | refine blk_alloc ?_ _)); refine blk_put (cs := #[.int .i8 ((rd_T48 l3 x29_1).f0), .int .i8 ((rd_T48 l3 x29_1).f1), .int .i8 0, .int .i8 0]) ?_ 2 _ rfl; (with_reducible repeat (first | refine blk_drewN ?_ _ | refine blk_drew ?_ | refine blk_alloc ?_ _)); refine blk_put (cs := #[.int .i8 ((rd_T48 l3 x29_1).f0), .int .i8 0, .int .i8 0, .int .i8 0]) ?_ 1 _ rfl; (with_reducible repeat (first | refine blk_drewN ?_ _ | refine blk_drew ?_ | refine blk_alloc ?_ _)); refine blk_put (cs := #[.int .i8 0, .int .i8 0, .int .i8 0, .int .i8 0]) ?_ 0 _ rfl; (with_reducible repeat (first | refine blk_drewN ?_ _ | refine blk_drew ?_ | refine blk_alloc ?_ _)); exact BK257.out⟩
  have n2_ : Aside0 (Below w.heap.size w ((((w14.setCell ⟨gb257, 0, none⟩ (.int .i8 ((rd_T48 l3 x29_1).f0))).setCell ⟨gb257, 1, none⟩ (.int .i8 ((rd_T48 l3 x29_1).f1))).setCell ⟨gb257, 2, none⟩ (.int .i8 ((rd_T48 l3 x29_1).f2))).setCell ⟨gb257, 3, none⟩ (.int .i8 ((rd_T48 l3 x29_1).f3)))) := ⟨k1_ HB GE257⟩
  generalize ((((w14.setCell ⟨gb257, 0, none⟩ (.int .i8 ((rd_T48 l3 x29_1).f0))).setCell ⟨gb257, 1, none⟩ (.int .i8 ((rd_T48 l3 x29_1).f1))).setCell ⟨gb257, 2, none⟩ (.int .i8 ((rd_T48 l3 x29_1).f2))).setCell ⟨gb257, 3, none⟩ (.int .i8 ((rd_T48 l3 x29_1).f3))) = w16 at n0_ n1_ n2_ ⊢
  have HO_12 := n0_
  have BK257 := n1_
  have HB := n2_
  clear n0_ n1_ n2_
  have n0_ := Aside0.mk (Kd.R_drew HO_12.out)
  have n1_ := Aside0.mk (blk_drew BK257.out)
  have n2_ := Aside0.mk (below_drew1 HB.out)
  clear HO_12
  clear BK257
  clear HB
  have HO_12 := n0_
  have BK257 := n1_
  have HB := n2_
  clear n0_ n1_ n2_
  obtain ⟨Ao18, co18, eo18⟩ := Kd.R_slice HO_12.out
  (first | subst eo18 | (injection eo18 with f1_ f2_ f3_; have f4_ := f1_.symm; have f5_ := f3_.symm; clear f1_ f2_ f3_; subst f4_; subst f5_))
  have p258 : 0 ≤ (x29_1 : Int) := od_
  have q258 : x29_1 < (t252.length : Int) := od_
  obtain ⟨ad258, e258, hx258_0, hx258_1⟩ := at_T49 (Kd.R_reads' HO_12.out).2.2 x29_1 p258 q258
  cases e258
  replace p258 := eq_true p258
  replace q258 := eq_true q258
  refine start_ (n := 10) (S := fun w' => w'.cell? ⟨gb257, 0, none⟩ = some (.int .i8 ((rd_T48 l3 x29_1).f0)) ∧ w'.cell? ⟨gb257, 1, none⟩ = some (.int .i8 ((rd_T48 l3 x29_1).f1)) ∧ w'.cell? ⟨gb257, 2, none⟩ = some (.int .i8 ((rd_T48 l3 x29_1).f2)) ∧ w'.cell? ⟨gb257, 3, none⟩ = some (.int .i8 ((rd_T48 l3 x29_1).f3)) ∧ w'.cell? (ad258.add ((x29_1).toNat * 2)) = some (.int .i64 ((rd_T49 t252 x29_1).f0)) ∧ w'.cell? ⟨(ad258.add ((x29_1).toNat * 2)).block, (ad258.add ((x29_1).toNat * 2)).off + 1, none⟩ = some (.int .i64 ((rd_T49 t252 x29_1).f1))) (ds := []) #[false, false, false, false, false, false, false, false, false, false] (by kernel_rfl) rfl rfl ⟨(blk_cell BK257.out 0).trans rfl, (blk_cell BK257.out 1).trans rfl, (blk_cell BK257.out 2).trans rfl, (blk_cell BK257.out 3).trans rfl, hx258_0, hx258_1⟩ (fun hHeld => ?_); refine with_tabW impl_summed.tab8 impl_summed.bits8 (fun HT_ HW_ => ?_)
  generalize w16.drew = w17 at HO_12 BK257 HB hx258_0 hx258_1 hHeld ⊢
  refine pu_ 0 34 (lA 10 1) ?_ ?_ HT_ ?_
  refine pu_ 1 35 (lA 10 3) ?_ ?_ HT_ ?_
  refine pu_ 3 37 (lA 10 11) ?_ ?_ HT_ ?_
  refine pu_ 4 38 (lA 10 27) ?_ ?_ HT_ ?_
  refine pu_ 5 39 (lA 10 59) ?_ ?_ HT_ ?_
  refine tk_ 2 36 (lA 10 63) ?_ ?_ HT_ HW_ hHeld ?_
  refine tk_ 6 40 (lA 10 127) ?_ ?_ HT_ HW_ hHeld ?_
  refine one_ (i := 7) (N := some 41) #[true, true, true, true, true, true, true, true, false, false] rfl rfl (one_of HT_.out (by kernel_rfl)) (by decide) (fun K hK => ?_)
  refine impl_summed.goesT_ (t := 35) eg (by rfl) #[.agg #[.int .i8 ((rd_T48 l3 x29_1).f0), .int .i8 ((rd_T48 l3 x29_1).f1), .int .i8 ((rd_T48 l3 x29_1).f2), .int .i8 ((rd_T48 l3 x29_1).f3)], .agg #[.int .i64 ((rd_T49 t252 x29_1).f0), .int .i64 ((rd_T49 t252 x29_1).f1)]] (by rfl) rfl rfl (by (try simp only [List.map_toArray, List.map_cons, List.map_nil]); first | done | rfl | (simp only [List.length_drop, List.length_take]; rfl)) ?_
  with_reducible refine (hm ((rd_T48 l3 x29_1).f0) ((rd_T48 l3 x29_1).f1) ((rd_T48 l3 x29_1).f2) ((rd_T48 l3 x29_1).f3) ((rd_T49 t252 x29_1).f0) ((rd_T49 t252 x29_1).f1) t259 _ HB.out A13.out).mono ?_
  rintro e w19 ⟨rfl, hb⟩
  have HS4_ := (hb.cell (World.block_lt_of_cell? _ _ (hHeld.2.2.2.2.1))).trans (hHeld.2.2.2.2.1)
  have HS5_ := (hb.cell (World.block_lt_of_cell? _ _ (hHeld.2.2.2.2.2))).trans (hHeld.2.2.2.2.2)
  refine ⟨_, rfl, ?_⟩
  have n0_ := Aside0.mk (Kd.R_below (kp_ HO_12) hb)
  have n1_ := bd_ BK257 hb
  have n2_ := Aside0.mk (below_step (k1_ HB GE257) hb)
  clear HO_12
  clear BK257
  clear HB
  have HO_12 := n0_
  have BK257 := n1_
  have HB := n2_
  clear n0_ n1_ n2_
  refine hK.out _ _ ⟨(blk_cell BK257.out 0).trans rfl, (blk_cell BK257.out 1).trans rfl, (blk_cell BK257.out 2).trans rfl, (blk_cell BK257.out 3).trans rfl, HS4_, HS5_⟩ (fun hHeld => ?_)
  clear hK K
  refine norm_ (a' := ?_) ?_ ?_
  rotate_left
  ·
   show Act.put _ (some 41) _ = _
   simp only [Act.put, List.setIfInBounds_toArray, List.set_cons_zero, List.set_cons_succ, i64_w, i32_w]
   rfl
  refine pu_ 8 42 (lA 10 511) ?_ ?_ HT_ ?_
  refine pu_ 9 14 (lA 10 1023) ?_ ?_ HT_ ?_
  refine done_ (done_of HT_.out (by kernel_rfl)) ?_
  try go_wp2
  go_roundg k1
  case measure => have := HK1.out; omega
  case rel => exact ⟨(wrap64 (x14_1 + t259)), (wrap64 (x29_1 + 1)), (by first | rfl | (simp; done) | (simp [*]; done)), (by first | rfl | (simp; done) | (simp [*]; done)), H', ⟨by have := HK1.out; omega⟩, ⟨kp_ HO_12⟩, ⟨k1_ HB GE257⟩⟩
end Go.Proofs.Ytnkihjabmbeicaa.PA
