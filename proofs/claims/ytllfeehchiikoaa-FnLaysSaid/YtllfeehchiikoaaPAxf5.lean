/- Pure functions, and that Go's functions come to them. -/
import Derived.Test.YtllfeehchiikoaaPAx0
import Derived.Test.YtllfeehchiikoaaPAxmA
import Derived.Test.YtllfeehchiikoaaPAxf22
import Derived.Test.YtllfeehchiikoaaPAxmC
import Derived.Test.YtllfeehchiikoaaPAxf24
namespace Go.Proofs.Ytllfeehchiikoaa.PA
open Go.RowKit Go.Proofs.YtllfeehchiikoaaW.PrintWords Go.Proofs.YtllfeehchiikoaaW.PrintLast Go.Proofs.YtllfeehchiikoaaW.PrintMore
set_option linter.unusedVariables false
set_option linter.unusedSimpArgs false

/-! ### spec_P6Lay: function 5 -/
mutual
def spec_P6Lay.l0 : Nat → List (List (S43)) → Int → Int → List Int → Int → Int → Option (Int × Int × (List (List (S43))))
 | 0, _, _, _, _, _, _ => none
 | k + 1, x5, x6, x7, x269000, x269001, x269002 => if x7 > 0 then ((spec_l03Drawn.f k x269000 x269001 x269002 x6 0).bind fun bt275 => (if (bt275.1.length : Int) > 3 then ((spec_l00Src_one.f x269000 bt275.2.1 bt275.2.2 2).bind fun bt280 => (spec_P6Lay.j1 k x5 x6 x7 bt275.1 bt280.1 x269000 bt280.2.1 bt280.2.2)) else (spec_P6Lay.j1 k x5 x6 x7 bt275.1 false x269000 bt275.2.1 bt275.2.2))) else (some (IntKind.i16.wrap ((IntKind.i16.wrap (x6)) + 9), 12, x5))
def spec_P6Lay.j1 : Nat → List (List (S43)) → Int → Int → List (S43) → Bool → List Int → Int → Int → Option (Int × Int × (List (List (S43))))
 | 0, _, _, _, _, _, _, _, _ => none
 | k + 1, x5, x6, x7, x8, x30, x269000, x269001, x269002 => if x30 = true then ((spec_SplitStone.f k x8 0 2).bind fun bt283 => (if bt283.2.2 = 0 then (if x5.length < 5864062014805 then ((some (x5 ++ [bt283.1] : List (List (S43)))).bind fun y290 => (if y290.length < 5864062014805 then (spec_P6Lay.l0 k (y290 ++ [bt283.2.1]) (wrap64 (x6 + 8)) (wrap64 (x7 - 1)) x269000 x269001 x269002) else (none))) else (none)) else (if x5.length < 5864062014805 then (spec_P6Lay.l0 k (x5 ++ [x8]) (wrap64 (x6 + 8)) (wrap64 (x7 - 1)) x269000 x269001 x269002) else (none)))) else (if x5.length < 5864062014805 then (spec_P6Lay.l0 k (x5 ++ [x8]) (wrap64 (x6 + 8)) (wrap64 (x7 - 1)) x269000 x269001 x269002) else (none))
end
def spec_P6Lay.f (k : Nat) (l0 : List Int) : Option (Int × Int × (List (List (S43)))) := (spec_l00From.f l0).bind fun bt265 => ((spec_l00Src_pick.f bt265.1 bt265.2.1 bt265.2.2 4).bind fun bt272 => (spec_P6Lay.l0 k (([] : List (List (S43)))) 0 bt272.1 bt265.1 bt272.2.1 bt272.2.2))
theorem spec_P6Lay.mono_l : ∀ k, (∀ y0 y1 y2 y3 y4 y5, LeO (spec_P6Lay.l0 k y0 y1 y2 y3 y4 y5) (spec_P6Lay.l0 (k + 1) y0 y1 y2 y3 y4 y5)) ∧ (∀ y0 y1 y2 y3 y4 y5 y6 y7, LeO (spec_P6Lay.j1 k y0 y1 y2 y3 y4 y5 y6 y7) (spec_P6Lay.j1 (k + 1) y0 y1 y2 y3 y4 y5 y6 y7))
 | 0 => ⟨fun _ _ _ _ _ _ r h => by simp [spec_P6Lay.l0] at h, fun _ _ _ _ _ _ _ _ r h => by simp [spec_P6Lay.j1] at h⟩
 | k + 1 => by
  obtain ⟨ih0, ih1⟩ := spec_P6Lay.mono_l k
  refine ⟨?_, ?_⟩ <;> intros
  all_goals first | unfold spec_P6Lay.l0 | unfold spec_P6Lay.j1
  all_goals repeat' first
  | (with_reducible exact ih0 _ _ _ _ _ _)
  | (with_reducible exact ih1 _ _ _ _ _ _ _ _)
  | (with_reducible exact spec_SplitStone.mono _ _ _ _)
  | (with_reducible exact spec_l03Drawn.mono _ _ _ _ _ _)
  | (with_reducible exact LeO.refl _)
  | (with_reducible exact LeO.none _)
  | (with_reducible refine LeO.ite ?_ ?_)
  | (with_reducible refine LeO.bind ?_ (fun _ => ?_))
theorem spec_P6Lay.mono : ∀ a0 k, LeO (spec_P6Lay.f k a0) (spec_P6Lay.f (k + 1) a0) := by
 intro a0 k
 obtain ⟨ih0, ih1⟩ := spec_P6Lay.mono_l k
 unfold spec_P6Lay.f
 repeat' first
   | (with_reducible exact ih0 _ _ _ _ _ _)
   | (with_reducible exact ih1 _ _ _ _ _ _ _ _)
   | (with_reducible exact spec_SplitStone.mono _ _ _ _)
   | (with_reducible exact spec_l03Drawn.mono _ _ _ _ _ _)
   | (with_reducible exact LeO.refl _)
   | (with_reducible exact LeO.none _)
   | (with_reducible refine LeO.ite ?_ ?_)
   | (with_reducible refine LeO.bind ?_ (fun _ => ?_))
set_option maxHeartbeats 8000000 in
set_option maxRecDepth 100000 in
theorem spec_P6Lay.calls (k : Nat) (A0 : Option Addr) (c0 : Nat) (l0 : List Int) (r1 : Int) (r2 : Int) (r3 : List (List (S43))) (w : World) (hr0 : Kd.C (Kd.int .u8) w A0 l0.length l0) (hc0 : l0.length ≤ c0) (h : spec_P6Lay.f k l0 = some (r1, r2, r3)) :
  Calls Try.prog 5 #[.slice A0 l0.length c0] w fun e w' => ∃ v2_ : Value, e = .returned (.tuple #[.agg #[.int .i16 r1, .int .i16 r2], v2_]) ∧ Kd.S (Kd.slice 43 k43) 36 w' w.heap.size (fun _ => True) v2_ r3 ∧ Below w.heap.size w w' := by
 have hu26 := Try.underlying26
 have HR0 := Aside0.mk hr0
 have HC0 := Aside0.mk hc0
 clear hr0 hc0
 have HB := Aside0.mk (Below.refl w.heap.size w)
 have H : ((spec_l00From.f l0).bind fun bt265 => ((spec_l00Src_pick.f bt265.1 bt265.2.1 bt265.2.2 4).bind fun bt272 => (spec_P6Lay.l0 k (([] : List (List (S43)))) 0 bt272.1 bt265.1 bt272.2.1 bt272.2.2))) = some (r1, r2, r3) := h
 clear h
 replace H := Option.bind_eq_some_iff.mp H
 obtain ⟨⟨t265, t266, t267⟩, A20, H⟩ := H
 (try dsimp only at H)
 have A2 := Aside0.mk A20
 clear A20
 obtain ⟨y269, hy269⟩ : ∃ y_ : List (List (S43)), y_ = (([] : List (List (S43)))) := ⟨_, rfl⟩
 replace H : ((spec_l00Src_pick.f t265 t266 t267 4).bind fun bt272 => (spec_P6Lay.l0 k y269 0 bt272.1 t265 bt272.2.1 bt272.2.2)) = some (r1, r2, r3) := by first | (rw [hy269]; with_reducible exact H) | (have H2_ := (Option.bind_some _ _).symm.trans H; rw [hy269]; with_reducible exact H2_) | (have H2_ := (Option.bind_some _ _).symm.trans H; with_reducible exact H2_) | with_reducible exact H | (rw [hy269]; exact H) | exact H
 have Ny269 := Aside0.mk hy269
 clear hy269
 replace H := Option.bind_eq_some_iff.mp H
 obtain ⟨⟨t272, t273, t274⟩, A30, H⟩ := H
 (try dsimp only at H)
 have A3 := Aside0.mk A30
 clear A30
 have H' := Aside0.mk H
 clear H
 go_enter Try.func5, Try.ntmps5
 go_wp2_with (first | ((with_reducible refine gate_dst (N := 2) rfl ?_); refine boxM_ 2 #[.int .i16 0, .int .i16 0] 26 ?_; intro gb264 hg w4 hbox hb; have BK264 := Aside0.mk (hbox); have GW264 := Aside0.mk ((by rw [hg]; exact (below_size (kB_ HB)) : w.heap.size ≤ gb264)); have GE264 := Aside0.mk ((by rw [hg]; exact (below_size (kB_ HB)) : w.heap.size ≤ gb264)); replace HB := Aside0.mk (below_step (kB_ HB) hb); clear hb hbox hg) | ((with_reducible refine gate_callee (f := 20) rfl ?_); refine goM_ (some 13) Try.func20 #[.slice A0 l0.length c0] ?_; (with_reducible refine (spec_l00From.calls _ _ l0 t265 t266 t267 w _ ?side1 ?side2 ?side3 A2.out).mono ?_); (case side1 => repeat (first | (with_reducible first | exact HB.out | apply below_alloc | apply pw_below_drewN | apply below_drew1 | refine below_set ?_ GE264.out) | exact HB.out)); (case side2 => exact HR0.out); (case side3 => exact HC0.out); rintro e w5 ⟨g268, rfl, hi, hb, hb2⟩; refine ⟨_, rfl, ?_⟩; replace HB := Aside0.mk (hb); have HI268 := Aside0.mk (hi); have NB268_264 := Aside0.mk (IsS74.ne_blk hi (blk_below (g := gb264) (o := .cells #[.int .i16 0, .int .i16 0] 26 (0, 0)) (kb_ BK264) hb2) (by decide)); have NB264_268 := Aside0.mk (Ne.symm (IsS74.ne_blk hi (blk_below (g := gb264) (o := .cells #[.int .i16 0, .int .i16 0] 26 (0, 0)) (kb_ BK264) hb2) (by decide))); replace BK264 := Aside0.mk (blk_below (g := gb264) (o := .cells #[.int .i16 0, .int .i16 0] 26 (0, 0)) (kb_ BK264) hb2); clear hb; clear hb2; clear hi) | ((with_reducible refine gate_dst (N := 14) rfl ?_); refine Kd.S_lit (Kd.slice 43 k43) _ 36 ?hg (N := 14) ?hd (xs := ([] : List (List (S43)))) (inner := []) (ok := fun _ => True) (okp := fun _ => True) ?hr ?hp (fun _ hk => hk) trivial (Below.refl _ _) (Nat.le_refl _) (by simp) ?_; (case hd => rfl); (case hg => rfl); (case hr => first | (go_simp; done) | (go_simp; rfl)); (case hp => exact (Reps.none _ _)); intro v270 w6 ho7 hb hg_ hnew_; clear hg_ hnew_; (first | rw [← Ny269.out] at ho7 | (simp only [Int.reduceToNat] at ho7; rw [← Ny269.out] at ho7)); have HO271 := Aside0.mk (Kd.S_lower ho7 (below_size (by repeat (first | (with_reducible first | exact HB.out | apply below_alloc | apply pw_below_drewN | apply below_drew1 | refine below_set ?_ (IsS74.ge HI268.out) | refine below_set ?_ GE264.out) | exact HB.out)))); replace BK264 := bd_ BK264 hb; replace HB := Aside0.mk (below_step (by repeat (first | (with_reducible first | exact HB.out | apply below_alloc | apply pw_below_drewN | apply below_drew1 | refine below_set ?_ (IsS74.ge HI268.out) | refine below_set ?_ GE264.out) | exact HB.out)) hb); replace HI268 := Aside0.mk (IsS74.below (by repeat (first | (with_reducible first | exact HI268.out | apply IsS74.alloc | apply IsS74.drewN | apply IsS74.drew | apply IsS74.set_1 | apply IsS74.set_2 | refine IsS74.far ?_ NB268_264.out _) | exact HI268.out)) hb); clear hb ho7) | ((with_reducible refine gate_callee (f := 21) rfl ?_); refine goM_ (some 16) Try.func21 #[.pointer (some ⟨g268, 0, none⟩), .int .i64 4] ?_; (with_reducible refine (spec_l00Src_pick.calls g268 t265 t266 t267 4 t272 t273 t274 w _ ?side1 ?side2 A3.out).mono ?_); (case side1 => repeat (first | (with_reducible first | exact HI268.out | apply IsS74.alloc | apply IsS74.drewN | apply IsS74.drew | apply IsS74.set_1 | apply IsS74.set_2 | refine IsS74.far ?_ NB268_264.out _) | exact HI268.out)); (case side2 => repeat (first | (with_reducible first | exact HB.out | apply below_alloc | apply pw_below_drewN | apply below_drew1 | refine below_set ?_ (IsS74.ge HI268.out) | refine below_set ?_ GE264.out) | exact HB.out)); rintro e w8 ⟨rfl, hi, hb, hk⟩; refine ⟨_, rfl, ?_⟩; replace BK264 := Aside0.mk (KeepBut.blk hk (g' := gb264) (o := .cells #[.int .i16 0, .int .i16 0] 26 (0, 0)) (kb_ BK264) NB264_268.out (by simp)); replace HO271 := Aside0.mk (Kd.S_mono (Kd.S_keep (IsS74.apartS (show IsS74 w _ g268 t265 t266 t267 from by repeat (first | (with_reducible first | exact HI268.out | apply IsS74.alloc | apply IsS74.drewN | apply IsS74.drew | apply IsS74.set_1 | apply IsS74.set_2 | refine IsS74.far ?_ NB268_264.out _) | exact HI268.out)) (ks_ HO271) (by decide)) hk (fun _ h => h.2)) (fun _ h => h.1)); replace HB := Aside0.mk (hb); replace HI268 := Aside0.mk (hi); clear hb; clear hk; clear hi))
 go_loopg [5, 6, 7] k (fun kq v5 v6 v7 w' => ∃ (x5_1 : List (List (S43))) (x6_1 : Int) (x7_1 : Int) (x269001_1 : Int) (x269002_1 : Int), v6 = .int .i64 x6_1 ∧ v7 = .int .i64 x7_1 ∧ Aside0 (spec_P6Lay.l0 kq x5_1 x6_1 x7_1 t265 x269001_1 x269002_1 = some (r1, r2, r3)) ∧ Aside0 (kq ≤ k) ∧ Aside0 (Kd.S (Kd.slice 43 k43) 36 w' w.heap.size (fun _ => True) v5 x5_1) ∧ Aside0 (w'.heap[gb264]? = some (.cells #[.int .i16 0, .int .i16 0] 26 (0, 0))) ∧ Aside0 (IsS74 w w' g268 t265 x269001_1 x269002_1) ∧ Aside0 (Below w.heap.size w w'))
 case atStart => exact ⟨(y269), (0), (t272), (t273), (t274), (by first | rfl | (simp; done) | (simp [*]; done)), (by first | rfl | (simp; done) | (simp [*]; done)), H', ⟨Nat.le_refl _⟩, ⟨ks_ HO271⟩, ⟨bk_ BK264⟩, ⟨by repeat (first | (with_reducible first | exact HI268.out | apply IsS74.alloc | apply IsS74.drewN | apply IsS74.drew | apply IsS74.set_1 | apply IsS74.set_2 | refine IsS74.far ?_ NB268_264.out _) | exact HI268.out)⟩, ⟨by repeat (first | (with_reducible first | exact HB.out | apply below_alloc | apply pw_below_drewN | apply below_drew1 | refine below_set ?_ (IsS74.ge HI268.out) | refine below_set ?_ GE264.out) | exact HB.out)⟩⟩
 case round =>
  clear H'
  obtain ⟨x5_1, x6_1, x7_1, x269001_1, x269002_1, rfl, rfl, HA, HK1, HO_5, BK264, HI268, HB⟩ := hrel
  rcases gk with _ | k1
  · exact absurd HA.out (by simp [spec_P6Lay.l0])
  have H := HA.out
  clear HA
  simp only [spec_P6Lay.l0] at H
  rcases (Decidable.em (x7_1 > 0)).symm with c9 | c9
  ·
   rw [if_neg c9] at H
   have c9b0 : decide (0 < x7_1) = false := decide_eq_false c9
   clear c9
   simp only [Option.some.injEq, Prod.mk.injEq] at H
   obtain ⟨rfl, rfl, rfl⟩ := H
   have hnb36 := NB264_268.out
   have hnc36 := NB268_264.out
   obtain ⟨⟨hcz37_0, hcz37_1⟩, hfz37_0, hfz37_1⟩ := bq_ BK264
   go_wp2
   refine bodyPost_ret (results_ct rfl _ _ gb264 26 #[.int .i16 (IntKind.i16.wrap ((IntKind.i16.wrap (x6_1)) + 9)), .int .i16 12] (0, 0) _ rfl (by (with_reducible repeat (first | refine blk_drewN ?_ _ | refine blk_drew ?_ | refine blk_alloc ?_ _)); refine blk_put (cs := #[.int .i16 (IntKind.i16.wrap ((IntKind.i16.wrap (x6_1)) + 9)), .int .i16 0]) ?_ 1 _ rfl; (with_reducible repeat (first | refine blk_drewN ?_ _ | refine blk_drew ?_ | refine blk_alloc ?_ _)); refine blk_put (cs := #[.int .i16 0, .int .i16 0]) ?_ 0 _ rfl; (with_reducible repeat (first | refine blk_drewN ?_ _ | refine blk_drew ?_ | refine blk_alloc ?_ _)); exact BK264.out) Try.underlying26 rfl (by kernel_rfl)) rfl ?_
   exact ⟨_, by first | rfl | (simp [errW_none, errW_some] <;> rfl) | (simp [*, errW_none, errW_some] <;> rfl), by (with_reducible repeat (first | apply Kd.S_alloc | apply Kd.S_drewN | apply Kd.S_drew)); exact Kd.S_mono (Kd.S_far (p := ⟨gb264, 1, none⟩) (Kd.S_far (p := ⟨gb264, 0, none⟩) (Kd.S_types HO_5.out BK264.out (by decide)) (fun _ hk => hk.2) (.int .i16 (IntKind.i16.wrap ((IntKind.i16.wrap (x6_1)) + 9)))) (fun _ hk => hk.2) (.int .i16 12)) (fun _ hk => trivial), by repeat (first | (with_reducible first | exact HB.out | apply below_alloc | apply pw_below_drewN | apply below_drew1 | refine below_set ?_ (IsS74.ge HI268.out) | refine below_set ?_ GE264.out) | exact HB.out)⟩

  rw [if_pos c9] at H
  have c9b0 : decide (0 < x7_1) = true := decide_eq_true c9
  clear c9
  replace H := Option.bind_eq_some_iff.mp H
  obtain ⟨⟨t275, t278, t279⟩, A100, H⟩ := H
  (try dsimp only at H)
  have A10 := Aside0.mk A100
  clear A100
  have HC11 := Aside0.mk H
  clear H
  go_upto_region 8 with (first | ((with_reducible refine gate_callee (f := 22) rfl ?_); refine goM_ (some 23) Try.func22 #[.pointer (some ⟨g268, 0, none⟩), .int .i64 x6_1, .int .i64 0] ?_; (with_reducible refine (spec_l03Drawn.calls k1 g268 t265 x269001_1 x269002_1 x6_1 0 t275 t278 t279 w _ ?side1 ?side2 A10.out).mono ?_); (case side1 => repeat (first | (with_reducible first | exact HI268.out | apply IsS74.alloc | apply IsS74.drewN | apply IsS74.drew | apply IsS74.set_1 | apply IsS74.set_2 | refine IsS74.far ?_ NB268_264.out _) | exact HI268.out)); (case side2 => repeat (first | (with_reducible first | exact HB.out | apply below_alloc | apply pw_below_drewN | apply below_drew1 | refine below_set ?_ (IsS74.ge HI268.out) | refine below_set ?_ GE264.out) | exact HB.out)); rintro e w12 ⟨v276, rfl, ho0, hi, hb, hk⟩; refine ⟨_, rfl, ?_⟩; replace HO_5 := Aside0.mk (Kd.S_mono (Kd.S_told (Kd.S_oldK (IsS74.apartS (show IsS74 w _ g268 t265 x269001_1 x269002_1 from by repeat (first | (with_reducible first | exact HI268.out | apply IsS74.alloc | apply IsS74.drewN | apply IsS74.drew | apply IsS74.set_1 | apply IsS74.set_2 | refine IsS74.far ?_ NB268_264.out _) | exact HI268.out)) (ks_ HO_5) (by decide)) hk) (Kd.R_base ho0)) (fun _ h_ => h_.1)); replace BK264 := Aside0.mk (KeepBut.blk hk (g' := gb264) (o := .cells #[.int .i16 0, .int .i16 0] 26 (0, 0)) (kb_ BK264) NB264_268.out (by simp)); have HO277 := Aside0.mk (Kd.R_lower ho0 (below_size (by repeat (first | (with_reducible first | exact HB.out | apply below_alloc | apply pw_below_drewN | apply below_drew1 | refine below_set ?_ (IsS74.ge HI268.out) | refine below_set ?_ GE264.out) | exact HB.out)))); replace HB := Aside0.mk (hb); replace HI268 := Aside0.mk (hi); clear hb; clear hk; clear hi; (try clear ho0)))
  (try simp only [Act.put, List.setIfInBounds_toArray, List.set_cons_zero, List.set_cons_succ])
  go_cut [30] (fun v30 wc => ∃ (kq : Nat) (x30_10 : Bool) (x269001_10 : Int) (x269002_10 : Int), v30 = .bool x30_10 ∧ Aside0 (spec_P6Lay.j1 kq x5_1 x6_1 x7_1 t275 x30_10 t265 x269001_10 x269002_10 = some (r1, r2, r3)) ∧ Aside0 (kq ≤ k1) ∧ Aside0 (Kd.S (Kd.slice 43 k43) 36 wc w.heap.size (fun k_ => some k_ ≠ (v276 : Value).ownBlock) u5 x5_1) ∧ Aside0 (Kd.R k43 43 wc w.heap.size (fun _ => True) v276 t275) ∧ Aside0 (wc.heap[gb264]? = some (.cells #[.int .i16 0, .int .i16 0] 26 (0, 0))) ∧ Aside0 (IsS74 w wc g268 t265 x269001_10 x269002_10) ∧ Aside0 (Below w.heap.size w wc))
  case first =>
   have H := HC11.out
   clear HC11
   rcases (Decidable.em ((t275.length : Int) > 3)).symm with c13 | c13
   ·
    rw [if_neg c13] at H
    have c13b0 : decide (3 < (t275.length : Int)) = false := decide_eq_false c13
    have c13b1 : decide (3 < t275.length) = false := decide_eq_false (by omega)
    clear c13
    (first | rw [c13b0] | (simp only [i64_w, i32_w]; rw [c13b0]) | skip)
    have H' := Aside0.mk H
    clear H
    obtain ⟨Ao17, co17, eo17⟩ := Kd.R_slice HO277.out
    subst eo17
    go_wp2
    go_meet
    case rel => exact ⟨_, (false), (t278), (t279), (by first | rfl | (simp; done) | (simp [*]; done)), H', ⟨by have := HK1.out; first | omega | exact Nat.le_refl _⟩, ⟨by (with_reducible repeat (first | apply Kd.S_alloc | apply Kd.S_drewN | apply Kd.S_drew)); exact Kd.S_mono HO_5.out (fun _ hk => hk.2)⟩, ⟨kp_ HO277⟩, ⟨bk_ BK264⟩, ⟨by repeat (first | (with_reducible first | exact HI268.out | apply IsS74.alloc | apply IsS74.drewN | apply IsS74.drew | apply IsS74.set_1 | apply IsS74.set_2 | refine IsS74.far ?_ NB268_264.out _) | exact HI268.out)⟩, ⟨by repeat (first | (with_reducible first | exact HB.out | apply below_alloc | apply pw_below_drewN | apply below_drew1 | refine below_set ?_ (IsS74.ge HI268.out) | refine below_set ?_ GE264.out) | exact HB.out)⟩⟩
   rw [if_pos c13] at H
   have c13b0 : decide (3 < (t275.length : Int)) = true := decide_eq_true c13
   have c13b1 : decide (3 < t275.length) = true := decide_eq_true (by omega)
   clear c13
   (first | rw [c13b0] | (simp only [i64_w, i32_w]; rw [c13b0]) | skip)
   replace H := Option.bind_eq_some_iff.mp H
   obtain ⟨⟨t280, t281, t282⟩, A140, H⟩ := H
   (try dsimp only at H)
   have A14 := Aside0.mk A140
   clear A140
   have H' := Aside0.mk H
   clear H
   obtain ⟨Ao15, co15, eo15⟩ := Kd.R_slice HO277.out
   subst eo15
   go_wp2_with (first | (go_at_call 23; (with_reducible refine (spec_l00Src_one.calls g268 t265 t278 t279 2 t280 t281 t282 w _ ?side1 ?side2 A14.out).mono ?_); (case side1 => repeat (first | (with_reducible first | exact HI268.out | apply IsS74.alloc | apply IsS74.drewN | apply IsS74.drew | apply IsS74.set_1 | apply IsS74.set_2 | refine IsS74.far ?_ NB268_264.out _) | exact HI268.out)); (case side2 => repeat (first | (with_reducible first | exact HB.out | apply below_alloc | apply pw_below_drewN | apply below_drew1 | refine below_set ?_ (IsS74.ge HI268.out) | refine below_set ?_ GE264.out) | exact HB.out)); rintro e w16 ⟨rfl, hi, hb, hk⟩; replace HO_5 := Aside0.mk (Kd.S_mono (Kd.S_keep (IsS74.apartS (show IsS74 w _ g268 t265 t278 t279 from by repeat (first | (with_reducible first | exact HI268.out | apply IsS74.alloc | apply IsS74.drewN | apply IsS74.drew | apply IsS74.set_1 | apply IsS74.set_2 | refine IsS74.far ?_ NB268_264.out _) | exact HI268.out)) (ks_ HO_5) (by decide)) hk (fun _ h => h.2)) (fun _ h => h.1)); replace BK264 := Aside0.mk (KeepBut.blk hk (g' := gb264) (o := .cells #[.int .i16 0, .int .i16 0] 26 (0, 0)) (kb_ BK264) NB264_268.out (by simp)); replace HO277 := Aside0.mk (Kd.R_mono (Kd.R_keep (IsS74.apart (show IsS74 w _ g268 t265 t278 t279 from by repeat (first | (with_reducible first | exact HI268.out | apply IsS74.alloc | apply IsS74.drewN | apply IsS74.drew | apply IsS74.set_1 | apply IsS74.set_2 | refine IsS74.far ?_ NB268_264.out _) | exact HI268.out)) (kp_ HO277) (by decide)) hk (fun _ h => h.2)) (fun _ h => h.1)); replace HB := Aside0.mk (hb); replace HI268 := Aside0.mk (hi); clear hb; clear hk; clear hi))
   go_meet
   case rel => exact ⟨_, (t280), (t281), (t282), (by first | rfl | (simp; done) | (simp [*]; done)), H', ⟨by have := HK1.out; first | omega | exact Nat.le_refl _⟩, ⟨by (with_reducible repeat (first | apply Kd.S_alloc | apply Kd.S_drewN | apply Kd.S_drew)); exact Kd.S_mono HO_5.out (fun _ hk => hk.2)⟩, ⟨kp_ HO277⟩, ⟨bk_ BK264⟩, ⟨by repeat (first | (with_reducible first | exact HI268.out | apply IsS74.alloc | apply IsS74.drewN | apply IsS74.drew | apply IsS74.set_1 | apply IsS74.set_2 | refine IsS74.far ?_ NB268_264.out _) | exact HI268.out)⟩, ⟨by repeat (first | (with_reducible first | exact HB.out | apply below_alloc | apply pw_below_drewN | apply below_drew1 | refine below_set ?_ (IsS74.ge HI268.out) | refine below_set ?_ GE264.out) | exact HB.out)⟩⟩
  case rest =>
   clear HC11
   obtain ⟨kq, x30_10, x269001_10, x269002_10, rfl, HA, HJ10, HO_5, HO_8, BK264, HI268, HB⟩ := hcut
   rcases kq with _ | kj10
   · exact absurd HA.out (by simp [spec_P6Lay.j1])
   have H := HA.out
   clear HA
   simp only [spec_P6Lay.j1] at H
   rcases (Decidable.em (x30_10 = true)).symm with c18 | c18
   ·
    replace c18 := Bool.eq_false_iff.mpr c18
    subst c18
    replace H := gf_ H
    obtain ⟨(c33 : x5_1.length < 5864062014805), H⟩ := gd_ H
    have LMc33 := Aside0.mk c33
    clear c33
    obtain ⟨y299, hy299⟩ : ∃ y_ : List (List (S43)), y_ = (x5_1 ++ [t275]) := ⟨_, rfl⟩
    replace H : (spec_P6Lay.l0 kj10 y299 (wrap64 (x6_1 + 8)) (wrap64 (x7_1 - 1)) t265 x269001_10 x269002_10) = some (r1, r2, r3) := by first | (rw [hy299]; with_reducible exact H) | (have H2_ := (Option.bind_some _ _).symm.trans H; rw [hy299]; with_reducible exact H2_) | (have H2_ := (Option.bind_some _ _).symm.trans H; with_reducible exact H2_) | with_reducible exact H | (rw [hy299]; exact H) | exact H
    have Ny299 := Aside0.mk hy299
    clear hy299
    have H' := Aside0.mk H
    clear H
    obtain ⟨Ao35, co35, eo35⟩ := Kd.R_slice HO_8.out
    subst eo35
    go_wp2_with (first | ((with_reducible refine gate_builtin (b := .append) (xs := #[.tmp 44, .tmp 46]) rfl ?_); at_builtin; refine Kd.S_append (Kd.slice 43 k43) (w0 := w) w.heap.size rfl (.tmp 44) (.tmp 46) 27 36 (.slice none 0 0) 24 rfl Try.underlying27 info36 rfl (by decide) (by omega) u5 x5_1 t275 [.slice Ao35 t275.length co35] (fun _ => True) (fun k_ => some k_ = (.slice Ao35 t275.length co35 : Value).ownBlock) rfl rfl ?aP (fun k_ hk_ => ((Kd.R_mono (ok' := fun k_ => ((fun _ => True)) k_ ∧ some k_ ≠ (u5 : Value).ownBlock) (Kd.R_apart' (HO_8.out) (Kd.S_typed HO_5.out) (by decide)) (fun k_ hk => ⟨trivial, hk.2⟩))).1 k_ hk_.symm) ?aF ?aO ?aB ?aS ?aL ?_; (case aP => exact Kd.M_row (Kd.R_mono (Kd.R_tight rfl (Kd.R_mono (ok' := fun k_ => ((fun _ => True)) k_ ∧ some k_ ≠ (u5 : Value).ownBlock) (Kd.R_apart' (HO_8.out) (Kd.S_typed HO_5.out) (by decide)) (fun k_ hk => ⟨trivial, hk.2⟩))) (fun _ h_ => h_))); (case aB => exact (by repeat (first | (with_reducible first | exact HB.out | apply below_alloc | apply pw_below_drewN | apply below_drew1 | refine below_set ?_ (IsS74.ge HI268.out) | refine below_set ?_ GE264.out) | exact HB.out))); (case aF => exact (fun _ _ => trivial)); (case aO => exact (by (with_reducible repeat (first | apply Kd.S_alloc | apply Kd.S_drewN | apply Kd.S_drew)); exact Kd.S_mono HO_5.out (fun k_ hk => ⟨trivial, fun e_ => hk e_⟩))); (case aS => exact (below_size (by repeat (first | (with_reducible first | exact HB.out | apply below_alloc | apply pw_below_drewN | apply below_drew1 | refine below_set ?_ (IsS74.ge HI268.out) | refine below_set ?_ GE264.out) | exact HB.out)))); (case aL => have := LMc33.out; omega); intro v300 w34 ho hb hg hat; rw [← Ny299.out] at ho; have n0_ := Aside0.mk (blk_grown (g := gb264) (o := .cells #[.int .i16 0, .int .i16 0] 26 (0, 0)) (kb_ BK264) hg (Kd.S_ne HO_5.out BK264.out (by decide))); have n1_ := Aside0.mk (IsS74.grown (by repeat (first | (with_reducible first | exact HI268.out | apply IsS74.alloc | apply IsS74.drewN | apply IsS74.drew | apply IsS74.set_1 | apply IsS74.set_2 | refine IsS74.far ?_ NB268_264.out _) | exact HI268.out)) hg (IsS74.own_neS HI268.out HO_5.out (by decide))); have n2_ := Aside0.mk (hb); have n3_ := Aside0.mk (ho); clear BK264; clear HI268; clear HB; clear HO_5; clear HO_8; have BK264 := n0_; have HI268 := n1_; have HB := n2_; have HO301 := n3_; clear n0_ n1_ n2_ n3_; clear ho hb hg hat))
    go_roundg kj10
    case measure => have := HK1.out; have := HJ10.out; omega
    case rel => exact ⟨(y299), (wrap64 (x6_1 + 8)), (wrap64 (x7_1 - 1)), (x269001_10), (x269002_10), (by first | rfl | (simp; done) | (simp [*]; done)), (by first | rfl | (simp; done) | (simp [*]; done)), H', ⟨by have := HK1.out; have := HJ10.out; omega⟩, ⟨ks_ HO301⟩, ⟨bk_ BK264⟩, ⟨by repeat (first | (with_reducible first | exact HI268.out | apply IsS74.alloc | apply IsS74.drewN | apply IsS74.drew | apply IsS74.set_1 | apply IsS74.set_2 | refine IsS74.far ?_ NB268_264.out _) | exact HI268.out)⟩, ⟨by repeat (first | (with_reducible first | exact HB.out | apply below_alloc | apply pw_below_drewN | apply below_drew1 | refine below_set ?_ (IsS74.ge HI268.out) | refine below_set ?_ GE264.out) | exact HB.out)⟩⟩
   subst c18
   replace H := gt_ H
   replace H := Option.bind_eq_some_iff.mp H
   obtain ⟨⟨t283, t284, t285⟩, A190, H⟩ := H
   (try dsimp only at H)
   have A19 := Aside0.mk A190
   clear A190
   rcases (Decidable.em (t285 = 0)).symm with c20 | c20
   ·
    rw [if_neg c20] at H
    have c20b0 : (t285 == 0) = false := beq_eq_false_iff_ne.mpr c20
    have c20b1 : (t285 != 0) = true := bne_iff_ne.mpr c20
    obtain ⟨(c29 : x5_1.length < 5864062014805), H⟩ := gd_ H
    have LMc29 := Aside0.mk c29
    clear c29
    obtain ⟨y296, hy296⟩ : ∃ y_ : List (List (S43)), y_ = (x5_1 ++ [t275]) := ⟨_, rfl⟩
    replace H : (spec_P6Lay.l0 kj10 y296 (wrap64 (x6_1 + 8)) (wrap64 (x7_1 - 1)) t265 x269001_10 x269002_10) = some (r1, r2, r3) := by first | (rw [hy296]; with_reducible exact H) | (have H2_ := (Option.bind_some _ _).symm.trans H; rw [hy296]; with_reducible exact H2_) | (have H2_ := (Option.bind_some _ _).symm.trans H; with_reducible exact H2_) | with_reducible exact H | (rw [hy296]; exact H) | exact H
    have Ny296 := Aside0.mk hy296
    clear hy296
    have H' := Aside0.mk H
    clear H
    obtain ⟨Ao30, co30, eo30⟩ := Kd.R_slice HO_8.out
    subst eo30
    go_wp2_with (first | ((with_reducible refine gate_callee (f := 24) rfl ?_); refine goM_ (some 33) Try.func24 #[.slice Ao30 t275.length co30, .int .i64 0, .int .i64 2] ?_; (with_reducible refine (spec_SplitStone.calls kj10 _ _ t275 0 2 t283 t284 t285 _ ?side1 ?side2 A19.out).mono ?_); (case side1 => exact kc_ ((Kd.R_reads' HO_8.out).2.2)); (case side2 => exact (Kd.R_reads' HO_8.out).2.1); rintro e w31 ⟨v286, v288, rfl, ho0, ho1, hb⟩; refine ⟨_, rfl, ?_⟩; replace HO_5 := Aside0.mk (Kd.S_mono (Kd.S_told (Kd.S_told (Kd.S_old (ks_ HO_5) hb) (Kd.R_base ho0)) (Kd.R_base ho1)) (fun _ h_ => h_.1)); have HO287 := Aside0.mk (Kd.R_lower (Kd.R_new' ho0 (Kd.R_lt (kp_ HO_8))) (below_size (by repeat (first | (with_reducible first | exact HB.out | apply below_alloc | apply pw_below_drewN | apply below_drew1 | refine below_set ?_ (IsS74.ge HI268.out) | refine below_set ?_ GE264.out) | exact HB.out)))); have HO289 := Aside0.mk (Kd.R_lower (Kd.R_new' ho1 (Kd.R_lt (kp_ HO_8))) (below_size (by repeat (first | (with_reducible first | exact HB.out | apply below_alloc | apply pw_below_drewN | apply below_drew1 | refine below_set ?_ (IsS74.ge HI268.out) | refine below_set ?_ GE264.out) | exact HB.out)))); replace HO_8 := Aside0.mk (Kd.R_mono (Kd.R_told (Kd.R_told (Kd.R_old (kp_ HO_8) hb) (Kd.R_base ho0)) (Kd.R_base ho1)) (fun _ h_ => h_.1)); replace BK264 := bd_ BK264 hb; replace HB := Aside0.mk (below_step (by repeat (first | (with_reducible first | exact HB.out | apply below_alloc | apply pw_below_drewN | apply below_drew1 | refine below_set ?_ (IsS74.ge HI268.out) | refine below_set ?_ GE264.out) | exact HB.out)) hb); replace HI268 := Aside0.mk (IsS74.below (by repeat (first | (with_reducible first | exact HI268.out | apply IsS74.alloc | apply IsS74.drewN | apply IsS74.drew | apply IsS74.set_1 | apply IsS74.set_2 | refine IsS74.far ?_ NB268_264.out _) | exact HI268.out)) hb); clear hb; (try clear ho0); (try clear ho1)) | ((with_reducible refine gate_builtin (b := .append) (xs := #[.tmp 44, .tmp 46]) rfl ?_); at_builtin; refine Kd.S_append (Kd.slice 43 k43) (w0 := w) w.heap.size rfl (.tmp 44) (.tmp 46) 27 36 (.slice none 0 0) 24 rfl Try.underlying27 info36 rfl (by decide) (by omega) u5 x5_1 t275 [.slice Ao30 t275.length co30] (fun k_ => some k_ ≠ (v286 : Value).ownBlock ∧ some k_ ≠ (v288 : Value).ownBlock) (fun k_ => some k_ = (.slice Ao30 t275.length co30 : Value).ownBlock) rfl rfl ?aP (fun k_ hk_ => ((Kd.R_mono (ok' := fun k_ => ((fun k_ => some k_ ≠ (v286 : Value).ownBlock ∧ some k_ ≠ (v288 : Value).ownBlock)) k_ ∧ some k_ ≠ (u5 : Value).ownBlock) (Kd.R_apart' (HO_8.out) (Kd.S_typed HO_5.out) (by decide)) (fun k_ hk => ⟨⟨hk.1.1.2, hk.1.2⟩, hk.2⟩))).1 k_ hk_.symm) ?aF ?aO ?aB ?aS ?aL ?_; (case aP => exact Kd.M_row (Kd.R_mono (Kd.R_tight rfl (Kd.R_mono (ok' := fun k_ => ((fun k_ => some k_ ≠ (v286 : Value).ownBlock ∧ some k_ ≠ (v288 : Value).ownBlock)) k_ ∧ some k_ ≠ (u5 : Value).ownBlock) (Kd.R_apart' (HO_8.out) (Kd.S_typed HO_5.out) (by decide)) (fun k_ hk => ⟨⟨hk.1.1.2, hk.1.2⟩, hk.2⟩))) (fun _ h_ => h_))); (case aB => exact (by repeat (first | (with_reducible first | exact HB.out | apply below_alloc | apply pw_below_drewN | apply below_drew1 | refine below_set ?_ (IsS74.ge HI268.out) | refine below_set ?_ GE264.out) | exact HB.out))); (case aF => exact (fun k_ hk => ⟨Kd.fresh' (Kd.R_lt (kp_ HO287)) k_ hk, Kd.fresh' (Kd.R_lt (kp_ HO289)) k_ hk⟩)); (case aO => exact (by (with_reducible repeat (first | apply Kd.S_alloc | apply Kd.S_drewN | apply Kd.S_drew)); exact Kd.S_mono HO_5.out (fun k_ hk => ⟨⟨hk.1.2, hk.2⟩, fun e_ => hk.1.1 e_⟩))); (case aS => exact (below_size (by repeat (first | (with_reducible first | exact HB.out | apply below_alloc | apply pw_below_drewN | apply below_drew1 | refine below_set ?_ (IsS74.ge HI268.out) | refine below_set ?_ GE264.out) | exact HB.out)))); (case aL => have := LMc29.out; omega); intro v297 w32 ho hb hg hat; rw [← Ny296.out] at ho; have n0_ := Aside0.mk (blk_grown (g := gb264) (o := .cells #[.int .i16 0, .int .i16 0] 26 (0, 0)) (kb_ BK264) hg (Kd.S_ne HO_5.out BK264.out (by decide))); have n1_ := Aside0.mk (IsS74.grown (by repeat (first | (with_reducible first | exact HI268.out | apply IsS74.alloc | apply IsS74.drewN | apply IsS74.drew | apply IsS74.set_1 | apply IsS74.set_2 | refine IsS74.far ?_ NB268_264.out _) | exact HI268.out)) hg (IsS74.own_neS HI268.out HO_5.out (by decide))); have n2_ := Aside0.mk (Kd.R_over' (kp_ HO287) (Kd.S_typed (ks_ HO_5)) (by decide) hg); have n3_ := Aside0.mk (Kd.R_over' (kp_ HO289) (Kd.S_typed (ks_ HO_5)) (by decide) hg); have n4_ := Aside0.mk (hb); have n5_ := Aside0.mk (ho); clear BK264; clear HI268; clear HO287; clear HO289; clear HB; clear HO_5; clear HO_8; have BK264 := n0_; have HI268 := n1_; have HO287 := n2_; have HO289 := n3_; have HB := n4_; have HO298 := n5_; clear n0_ n1_ n2_ n3_ n4_ n5_; clear ho hb hg hat))
    go_roundg kj10
    case measure => have := HK1.out; have := HJ10.out; omega
    case rel => exact ⟨(y296), (wrap64 (x6_1 + 8)), (wrap64 (x7_1 - 1)), (x269001_10), (x269002_10), (by first | rfl | (simp; done) | (simp [*]; done)), (by first | rfl | (simp; done) | (simp [*]; done)), H', ⟨by have := HK1.out; have := HJ10.out; omega⟩, ⟨by (with_reducible repeat (first | apply Kd.S_alloc | apply Kd.S_drewN | apply Kd.S_drew)); exact Kd.S_mono HO298.out (fun _ hk => trivial)⟩, ⟨bk_ BK264⟩, ⟨by repeat (first | (with_reducible first | exact HI268.out | apply IsS74.alloc | apply IsS74.drewN | apply IsS74.drew | apply IsS74.set_1 | apply IsS74.set_2 | refine IsS74.far ?_ NB268_264.out _) | exact HI268.out)⟩, ⟨by repeat (first | (with_reducible first | exact HB.out | apply below_alloc | apply pw_below_drewN | apply below_drew1 | refine below_set ?_ (IsS74.ge HI268.out) | refine below_set ?_ GE264.out) | exact HB.out)⟩⟩
   rw [if_pos c20] at H
   have c20b0 : (t285 == 0) = true := beq_iff_eq.mpr c20
   have c20b1 : (t285 != 0) = false := bne_eq_false_iff_eq.mpr c20
   clear c20
   obtain ⟨(c21 : x5_1.length < 5864062014805), H⟩ := gd_ H
   have LMc21 := Aside0.mk c21
   clear c21
   obtain ⟨y290, hy290⟩ : ∃ y_ : List (List (S43)), y_ = (x5_1 ++ [t283]) := ⟨_, rfl⟩
   replace H : (if y290.length < 5864062014805 then (spec_P6Lay.l0 kj10 (y290 ++ [t284]) (wrap64 (x6_1 + 8)) (wrap64 (x7_1 - 1)) t265 x269001_10 x269002_10) else (none)) = some (r1, r2, r3) := by first | (rw [hy290]; with_reducible exact H) | (have H2_ := (Option.bind_some _ _).symm.trans H; rw [hy290]; with_reducible exact H2_) | (have H2_ := (Option.bind_some _ _).symm.trans H; with_reducible exact H2_) | with_reducible exact H | (rw [hy290]; exact H) | exact H
   have Ny290 := Aside0.mk hy290
   clear hy290
   obtain ⟨(c22 : y290.length < 5864062014805), H⟩ := gd_ H
   have LMc22 := Aside0.mk c22
   clear c22
   obtain ⟨y293, hy293⟩ : ∃ y_ : List (List (S43)), y_ = (y290 ++ [t284]) := ⟨_, rfl⟩
   replace H : (spec_P6Lay.l0 kj10 y293 (wrap64 (x6_1 + 8)) (wrap64 (x7_1 - 1)) t265 x269001_10 x269002_10) = some (r1, r2, r3) := by first | (rw [hy293]; with_reducible exact H) | (have H2_ := (Option.bind_some _ _).symm.trans H; rw [hy293]; with_reducible exact H2_) | (have H2_ := (Option.bind_some _ _).symm.trans H; with_reducible exact H2_) | with_reducible exact H | (rw [hy293]; exact H) | exact H
   have Ny293 := Aside0.mk hy293
   clear hy293
   have H' := Aside0.mk H
   clear H
   obtain ⟨Ao23, co23, eo23⟩ := Kd.R_slice HO_8.out
   subst eo23
   go_wp2_with (first | ((with_reducible refine gate_callee (f := 24) rfl ?_); refine goM_ (some 33) Try.func24 #[.slice Ao23 t275.length co23, .int .i64 0, .int .i64 2] ?_; (with_reducible refine (spec_SplitStone.calls kj10 _ _ t275 0 2 t283 t284 t285 _ ?side1 ?side2 A19.out).mono ?_); (case side1 => exact kc_ ((Kd.R_reads' HO_8.out).2.2)); (case side2 => exact (Kd.R_reads' HO_8.out).2.1); rintro e w24 ⟨v286, v288, rfl, ho0, ho1, hb⟩; refine ⟨_, rfl, ?_⟩; replace HO_5 := Aside0.mk (Kd.S_mono (Kd.S_told (Kd.S_told (Kd.S_old (ks_ HO_5) hb) (Kd.R_base ho0)) (Kd.R_base ho1)) (fun _ h_ => h_.1)); have HO287 := Aside0.mk (Kd.R_lower (Kd.R_new' ho0 (Kd.R_lt (kp_ HO_8))) (below_size (by repeat (first | (with_reducible first | exact HB.out | apply below_alloc | apply pw_below_drewN | apply below_drew1 | refine below_set ?_ (IsS74.ge HI268.out) | refine below_set ?_ GE264.out) | exact HB.out)))); have HO289 := Aside0.mk (Kd.R_lower (Kd.R_new' ho1 (Kd.R_lt (kp_ HO_8))) (below_size (by repeat (first | (with_reducible first | exact HB.out | apply below_alloc | apply pw_below_drewN | apply below_drew1 | refine below_set ?_ (IsS74.ge HI268.out) | refine below_set ?_ GE264.out) | exact HB.out)))); replace HO_8 := Aside0.mk (Kd.R_mono (Kd.R_told (Kd.R_told (Kd.R_old (kp_ HO_8) hb) (Kd.R_base ho0)) (Kd.R_base ho1)) (fun _ h_ => h_.1)); replace BK264 := bd_ BK264 hb; replace HB := Aside0.mk (below_step (by repeat (first | (with_reducible first | exact HB.out | apply below_alloc | apply pw_below_drewN | apply below_drew1 | refine below_set ?_ (IsS74.ge HI268.out) | refine below_set ?_ GE264.out) | exact HB.out)) hb); replace HI268 := Aside0.mk (IsS74.below (by repeat (first | (with_reducible first | exact HI268.out | apply IsS74.alloc | apply IsS74.drewN | apply IsS74.drew | apply IsS74.set_1 | apply IsS74.set_2 | refine IsS74.far ?_ NB268_264.out _) | exact HI268.out)) hb); clear hb; (try clear ho0); (try clear ho1); obtain ⟨Ao26, co26, eo26⟩ := Kd.R_slice HO287.out; subst eo26) | ((with_reducible refine gate_builtin (b := .append) (xs := #[.tmp 39, .tmp 41]) rfl ?_); at_builtin; refine Kd.S_append (Kd.slice 43 k43) (w0 := w) w.heap.size rfl (.tmp 39) (.tmp 41) 27 36 (.slice none 0 0) 24 rfl Try.underlying27 info36 rfl (by decide) (by omega) u5 x5_1 t283 [.slice Ao26 t283.length co26] (fun k_ => some k_ ≠ (.slice Ao23 t275.length co23 : Value).ownBlock ∧ some k_ ≠ (v288 : Value).ownBlock) (fun k_ => some k_ = (.slice Ao26 t283.length co26 : Value).ownBlock) rfl rfl ?aP (fun k_ hk_ => ((Kd.R_mono (ok' := fun k_ => ((fun k_ => some k_ ≠ (.slice Ao23 t275.length co23 : Value).ownBlock ∧ some k_ ≠ (v288 : Value).ownBlock)) k_ ∧ some k_ ≠ (u5 : Value).ownBlock) (Kd.R_apart' (HO287.out) (Kd.S_typed HO_5.out) (by decide)) (fun k_ hk => ⟨⟨hk.1.2, hk.1.1⟩, hk.2⟩))).1 k_ hk_.symm) ?aF ?aO ?aB ?aS ?aL ?_; (case aP => exact Kd.M_row (Kd.R_mono (Kd.R_tight rfl (Kd.R_mono (ok' := fun k_ => ((fun k_ => some k_ ≠ (.slice Ao23 t275.length co23 : Value).ownBlock ∧ some k_ ≠ (v288 : Value).ownBlock)) k_ ∧ some k_ ≠ (u5 : Value).ownBlock) (Kd.R_apart' (HO287.out) (Kd.S_typed HO_5.out) (by decide)) (fun k_ hk => ⟨⟨hk.1.2, hk.1.1⟩, hk.2⟩))) (fun _ h_ => h_))); (case aB => exact (by repeat (first | (with_reducible first | exact HB.out | apply below_alloc | apply pw_below_drewN | apply below_drew1 | refine below_set ?_ (IsS74.ge HI268.out) | refine below_set ?_ GE264.out) | exact HB.out))); (case aF => exact (fun k_ hk => ⟨Kd.fresh' (Kd.R_lt (kp_ HO_8)) k_ hk, Kd.fresh' (Kd.R_lt (kp_ HO289)) k_ hk⟩)); (case aO => exact (by (with_reducible repeat (first | apply Kd.S_alloc | apply Kd.S_drewN | apply Kd.S_drew)); exact Kd.S_mono HO_5.out (fun k_ hk => ⟨⟨hk.1.1, hk.2⟩, fun e_ => hk.1.2 e_⟩))); (case aS => exact (below_size (by repeat (first | (with_reducible first | exact HB.out | apply below_alloc | apply pw_below_drewN | apply below_drew1 | refine below_set ?_ (IsS74.ge HI268.out) | refine below_set ?_ GE264.out) | exact HB.out)))); (case aL => have := LMc21.out; omega); intro v291 w25 ho hb hg hat; rw [← Ny290.out] at ho; have n0_ := Aside0.mk (Kd.R_over' (kp_ HO_8) (Kd.S_typed (ks_ HO_5)) (by decide) hg); have n1_ := Aside0.mk (blk_grown (g := gb264) (o := .cells #[.int .i16 0, .int .i16 0] 26 (0, 0)) (kb_ BK264) hg (Kd.S_ne HO_5.out BK264.out (by decide))); have n2_ := Aside0.mk (IsS74.grown (by repeat (first | (with_reducible first | exact HI268.out | apply IsS74.alloc | apply IsS74.drewN | apply IsS74.drew | apply IsS74.set_1 | apply IsS74.set_2 | refine IsS74.far ?_ NB268_264.out _) | exact HI268.out)) hg (IsS74.own_neS HI268.out HO_5.out (by decide))); have n3_ := Aside0.mk (Kd.R_over' (kp_ HO289) (Kd.S_typed (ks_ HO_5)) (by decide) hg); have n4_ := Aside0.mk (hb); have n5_ := Aside0.mk (ho); clear HO_8; clear BK264; clear HI268; clear HO289; clear HB; clear HO_5; clear HO287; have HO_8 := n0_; have BK264 := n1_; have HI268 := n2_; have HO289 := n3_; have HB := n4_; have HO292 := n5_; clear n0_ n1_ n2_ n3_ n4_ n5_; clear ho hb hg hat; obtain ⟨Ao28, co28, eo28⟩ := Kd.R_slice HO289.out; subst eo28) | ((with_reducible refine gate_builtin (b := .append) (xs := #[.tmp 44, .tmp 46]) rfl ?_); at_builtin; refine Kd.S_append (Kd.slice 43 k43) (w0 := w) w.heap.size rfl (.tmp 44) (.tmp 46) 27 36 (.slice none 0 0) 24 rfl Try.underlying27 info36 rfl (by decide) (by omega) v291 y290 t284 [.slice Ao28 t284.length co28] (fun k_ => some k_ ≠ (.slice Ao23 t275.length co23 : Value).ownBlock) (fun k_ => some k_ = (.slice Ao28 t284.length co28 : Value).ownBlock) rfl rfl ?aP (fun k_ hk_ => ((Kd.R_mono (ok' := fun k_ => ((fun k_ => some k_ ≠ (.slice Ao23 t275.length co23 : Value).ownBlock)) k_ ∧ some k_ ≠ (v291 : Value).ownBlock) (Kd.R_apart' (HO289.out) (Kd.S_typed HO292.out) (by decide)) (fun k_ hk => ⟨hk.1.2, hk.2⟩))).1 k_ hk_.symm) ?aF ?aO ?aB ?aS ?aL ?_; (case aP => exact Kd.M_row (Kd.R_mono (Kd.R_tight rfl (Kd.R_mono (ok' := fun k_ => ((fun k_ => some k_ ≠ (.slice Ao23 t275.length co23 : Value).ownBlock)) k_ ∧ some k_ ≠ (v291 : Value).ownBlock) (Kd.R_apart' (HO289.out) (Kd.S_typed HO292.out) (by decide)) (fun k_ hk => ⟨hk.1.2, hk.2⟩))) (fun _ h_ => h_))); (case aB => exact (by repeat (first | (with_reducible first | exact HB.out | apply below_alloc | apply pw_below_drewN | apply below_drew1 | refine below_set ?_ (IsS74.ge HI268.out) | refine below_set ?_ GE264.out) | exact HB.out))); (case aF => exact (fun k_ hk => Kd.fresh' (Kd.R_lt (kp_ HO_8)) k_ hk)); (case aO => exact (by (with_reducible repeat (first | apply Kd.S_alloc | apply Kd.S_drewN | apply Kd.S_drew)); exact Kd.S_mono HO292.out (fun k_ hk => ⟨hk.1, fun e_ => hk.2 e_⟩))); (case aS => exact (below_size (by repeat (first | (with_reducible first | exact HB.out | apply below_alloc | apply pw_below_drewN | apply below_drew1 | refine below_set ?_ (IsS74.ge HI268.out) | refine below_set ?_ GE264.out) | exact HB.out)))); (case aL => have := LMc22.out; omega); intro v294 w27 ho hb hg hat; rw [← Ny293.out] at ho; have n0_ := Aside0.mk (Kd.R_over' (kp_ HO_8) (Kd.S_typed (ks_ HO292)) (by decide) hg); have n1_ := Aside0.mk (blk_grown (g := gb264) (o := .cells #[.int .i16 0, .int .i16 0] 26 (0, 0)) (kb_ BK264) hg (Kd.S_ne HO292.out BK264.out (by decide))); have n2_ := Aside0.mk (IsS74.grown (by repeat (first | (with_reducible first | exact HI268.out | apply IsS74.alloc | apply IsS74.drewN | apply IsS74.drew | apply IsS74.set_1 | apply IsS74.set_2 | refine IsS74.far ?_ NB268_264.out _) | exact HI268.out)) hg (IsS74.own_neS HI268.out HO292.out (by decide))); have n3_ := Aside0.mk (hb); have n4_ := Aside0.mk (ho); clear HO_8; clear BK264; clear HI268; clear HB; clear HO292; clear HO289; have HO_8 := n0_; have BK264 := n1_; have HI268 := n2_; have HB := n3_; have HO295 := n4_; clear n0_ n1_ n2_ n3_ n4_; clear ho hb hg hat))
   go_roundg kj10
   case measure => have := HK1.out; have := HJ10.out; omega
   case rel => exact ⟨(y293), (wrap64 (x6_1 + 8)), (wrap64 (x7_1 - 1)), (x269001_10), (x269002_10), (by first | rfl | (simp; done) | (simp [*]; done)), (by first | rfl | (simp; done) | (simp [*]; done)), H', ⟨by have := HK1.out; have := HJ10.out; omega⟩, ⟨by (with_reducible repeat (first | apply Kd.S_alloc | apply Kd.S_drewN | apply Kd.S_drew)); exact Kd.S_mono HO295.out (fun _ hk => trivial)⟩, ⟨bk_ BK264⟩, ⟨by repeat (first | (with_reducible first | exact HI268.out | apply IsS74.alloc | apply IsS74.drewN | apply IsS74.drew | apply IsS74.set_1 | apply IsS74.set_2 | refine IsS74.far ?_ NB268_264.out _) | exact HI268.out)⟩, ⟨by repeat (first | (with_reducible first | exact HB.out | apply below_alloc | apply pw_below_drewN | apply below_drew1 | refine below_set ?_ (IsS74.ge HI268.out) | refine below_set ?_ GE264.out) | exact HB.out)⟩⟩
end Go.Proofs.Ytllfeehchiikoaa.PA
