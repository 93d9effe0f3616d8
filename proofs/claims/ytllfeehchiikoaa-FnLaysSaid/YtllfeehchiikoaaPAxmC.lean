/- Pure functions, and that Go's functions come to them. -/
import Derived.Test.YtllfeehchiikoaaPAx0
import Derived.Test.YtllfeehchiikoaaPAxmA
namespace Go.Proofs.Ytllfeehchiikoaa.PA
open Go.RowKit Go.Proofs.YtllfeehchiikoaaW.PrintWords Go.Proofs.YtllfeehchiikoaaW.PrintLast Go.Proofs.YtllfeehchiikoaaW.PrintMore
set_option linter.unusedVariables false
set_option linter.unusedSimpArgs false

/-! ### spec_l00Src_one: function 23 -/
def spec_l00Src_one.f (s0_0 : List Int) (s0_1 : Int) (s0_2 : Int) (a1 : Int) : Option (Bool × Int × Int) := (spec_l00Src_pick.f s0_0 s0_1 s0_2 a1).bind fun bt218 => (some ((bt218.1 == 0), bt218.2.1, bt218.2.2))
set_option maxHeartbeats 8000000 in
set_option maxRecDepth 100000 in
theorem spec_l00Src_one.calls (g : Nat) (s0_0 : List Int) (s0_1 : Int) (s0_2 : Int) (a1 : Int) (r1 : Bool) (r2 : Int) (r3 : Int) (w0 w : World) (hI : IsS74 w0 w g s0_0 s0_1 s0_2) (hB : Below w0.heap.size w0 w) (h : spec_l00Src_one.f s0_0 s0_1 s0_2 a1 = some (r1, r2, r3)) :
  Calls Try.prog 23 #[.pointer (some ⟨g, 0, none⟩), .int .i64 a1] w fun e w' => e = .returned (.bool r1) ∧ IsS74 w0 w' g s0_0 r2 r3 ∧ Below w0.heap.size w0 w' ∧ KeepBut w w' g none := by
 have HI0 := Aside0.mk hI
 have HK := Aside0.mk (KeepBut.refl w g none)
 have HL := Aside0.mk hB.size
 clear hI
 have HW0 := Aside0.mk hB.size
 have HB := Aside0.mk hB
 clear hB
 have H : ((spec_l00Src_pick.f s0_0 s0_1 s0_2 a1).bind fun bt218 => (some ((bt218.1 == 0), bt218.2.1, bt218.2.2))) = some (r1, r2, r3) := h
 clear h
 replace H := Option.bind_eq_some_iff.mp H
 obtain ⟨⟨t218, t219, t220⟩, A30, H⟩ := H
 (try dsimp only at H)
 have A3 := Aside0.mk A30
 clear A30
 simp only [Option.some.injEq, Prod.mk.injEq] at H
 obtain ⟨rfl, rfl, rfl⟩ := H
 go_enter Try.func23, Try.ntmps23
 go_wp2_with (first | ((with_reducible refine gate_callee (f := 21) rfl ?_); refine goM_ (some 7) Try.func21 #[.pointer (some ⟨g, 0, none⟩), .int .i64 a1] ?_; (with_reducible refine (spec_l00Src_pick.calls g s0_0 s0_1 s0_2 a1 t218 t219 t220 w0 _ ?side1 ?side2 A3.out).mono ?_); (case side1 => exact ki_ HI0); (case side2 => repeat (first | (with_reducible first | exact HB.out | apply below_alloc | apply pw_below_drewN | apply below_drew1 | refine below_set ?_ (IsS74.ge HI0.out)) | exact HB.out)); rintro e w4 ⟨rfl, hi, hb, hk⟩; refine ⟨_, rfl, ?_⟩; replace HK := Aside0.mk (KeepBut.trans (kk_ HK) hk (.inl rfl)); replace HB := Aside0.mk (hb); replace HI0 := Aside0.mk (hi); clear hb; clear hk; clear hi))
 go_ret
 exact ⟨rt_, ki_ HI0, by repeat (first | (with_reducible first | exact HB.out | apply below_alloc | apply pw_below_drewN | apply below_drew1 | refine below_set ?_ (IsS74.ge HI0.out)) | exact HB.out), kk_ HK⟩

end Go.Proofs.Ytllfeehchiikoaa.PA
namespace Go.Proofs.Ytllfeehchiikoaa.PA
open Go.RowKit Go.Proofs.YtllfeehchiikoaaW.PrintWords Go.Proofs.YtllfeehchiikoaaW.PrintLast Go.Proofs.YtllfeehchiikoaaW.PrintMore
set_option linter.unusedVariables false
set_option linter.unusedSimpArgs false

/-! ### spec_l03Part: function 48 -/
def spec_l03Part.l0 : Nat → List (S43) → Int → List (S43) → Int → Int → Option ((List (S43)))
 | 0, _, _, _, _, _ => none
 | k + 1, x0, x2, x7, x8, x9 => if 0 ≤ x9 then (if x9 < (x0.length : Int) then (if x7.length < 35184372088832 then ((some (x7 ++ [(⟨(rd_T43 x0 x9).f0, (rd_T43 x0 x9).f1⟩ : S43)] : List (S43))).bind fun y234 => (if x9 = x2 then (some y234) else (if x8 = 0 then (none) else (spec_l03Part.l0 k x0 x2 y234 x8 (Int.tmod (wrap64 (x9 + 1)) x8))))) else (none)) else (none)) else (none)
def spec_l03Part.f (k : Nat) (l0 : List (S43)) (a1 : Int) (a2 : Int) : Option ((List (S43))) := spec_l03Part.l0 k l0 a2 (([] : List (S43))) (l0.length : Int) a1
theorem spec_l03Part.mono_l : ∀ k, (∀ y0 y1 y2 y3 y4, LeO (spec_l03Part.l0 k y0 y1 y2 y3 y4) (spec_l03Part.l0 (k + 1) y0 y1 y2 y3 y4))
 | 0 => fun _ _ _ _ _ r h => by simp [spec_l03Part.l0] at h
 | k + 1 => by
  have ih0 := spec_l03Part.mono_l k
  ·
   intro y0 y1 y2 y3 y4
   unfold spec_l03Part.l0
   repeat' first
   | (with_reducible exact ih0 _ _ _ _ _)
   | (with_reducible exact LeO.refl _)
   | (with_reducible exact LeO.none _)
   | (with_reducible refine LeO.ite ?_ ?_)
   | (with_reducible refine LeO.bind ?_ (fun _ => ?_))
theorem spec_l03Part.mono : ∀ a0 a1 a2 k, LeO (spec_l03Part.f k a0 a1 a2) (spec_l03Part.f (k + 1) a0 a1 a2) := by
 intro a0 a1 a2 k
 have ih0 := spec_l03Part.mono_l k
 unfold spec_l03Part.f
 repeat' first
   | (with_reducible exact ih0 _ _ _ _ _)
   | (with_reducible exact LeO.refl _)
   | (with_reducible exact LeO.none _)
   | (with_reducible refine LeO.ite ?_ ?_)
   | (with_reducible refine LeO.bind ?_ (fun _ => ?_))
set_option maxHeartbeats 8000000 in
set_option maxRecDepth 100000 in
theorem spec_l03Part.calls (k : Nat) (A0 : Option Addr) (c0 : Nat) (l0 : List (S43)) (a1 : Int) (a2 : Int) (r : List (S43)) (w : World) (hr0 : Kd.C k43 w A0 l0.length l0) (hc0 : l0.length ≤ c0) (h : spec_l03Part.f k l0 a1 a2 = some r) :
  Calls Try.prog 48 #[.slice A0 l0.length c0, .int .i64 a1, .int .i64 a2] w fun e w' => ∃ v0_ : Value, e = .returned (v0_) ∧ Kd.R k43 43 w' w.heap.size (fun _ => True) v0_ r ∧ Below w.heap.size w w' := by
 have hu43 := Try.underlying43
 have HR0 := Aside0.mk hr0
 have HC0 := Aside0.mk hc0
 clear hr0 hc0
 have HB := Aside0.mk (Below.refl w.heap.size w)
 have H : (spec_l03Part.l0 k l0 a2 (([] : List (S43))) (l0.length : Int) a1) = some r := h
 clear h
 obtain ⟨y230, hy230⟩ : ∃ y_ : List (S43), y_ = (([] : List (S43))) := ⟨_, rfl⟩
 replace H : (spec_l03Part.l0 k l0 a2 y230 (l0.length : Int) a1) = some r := by first | (rw [hy230]; with_reducible exact H) | (have H2_ := (Option.bind_some _ _).symm.trans H; rw [hy230]; with_reducible exact H2_) | (have H2_ := (Option.bind_some _ _).symm.trans H; with_reducible exact H2_) | with_reducible exact H | (rw [hy230]; exact H) | exact H
 have Ny230 := Aside0.mk hy230
 clear hy230
 have H' := Aside0.mk H
 clear H
 go_enter Try.func48, Try.ntmps48
 go_wp2_with (first | ((with_reducible refine gate_dst (N := 10) rfl ?_); refine Kd.R_lit k43 _ 43 ?hg (N := 10) ?hd (xs := ([] : List (S43))) (inner := []) (ok := fun _ => True) (okp := fun _ => True) ?hr ?hp (fun _ hk => hk) trivial (Below.refl _ _) (Nat.le_refl _) (by simp) ?_; (case hd => rfl); (case hg => rfl); (case hr => first | (go_simp; done) | (go_simp; rfl)); (case hp => exact (Reps.none _ _)); intro v231 w4 ho5 hb hg_ hnew_; clear hg_ hnew_; (first | rw [← Ny230.out] at ho5 | (simp only [Int.reduceToNat] at ho5; rw [← Ny230.out] at ho5)); have HO232 := Aside0.mk (Kd.R_lower ho5 (below_size (kB_ HB))); replace HB := bs_ HB hb; clear hb ho5))
 go_loopg [7, 9] k (fun kq v7 v9 w' => ∃ (x7_1 : List (S43)) (x9_1 : Int), v9 = .int .i64 x9_1 ∧ Aside0 (spec_l03Part.l0 kq l0 a2 x7_1 (l0.length : Int) x9_1 = some r) ∧ Aside0 (kq ≤ k) ∧ Aside0 (Kd.R k43 43 w' w.heap.size (fun _ => True) v7 x7_1) ∧ Aside0 (Below w.heap.size w w'))
 case atStart => exact ⟨(y230), (a1), (by first | rfl | (simp; done) | (simp [*]; done)), H', ⟨Nat.le_refl _⟩, ⟨kp_ HO232⟩, ⟨bl_ HB⟩⟩
 case round =>
  clear H'
  obtain ⟨x7_1, x9_1, rfl, HA, HK1, HO_7, HB⟩ := hrel
  rcases gk with _ | k1
  · exact absurd HA.out (by simp [spec_l03Part.l0])
  have H := HA.out
  clear HA
  simp only [spec_l03Part.l0] at H
  obtain ⟨(c6 : 0 ≤ x9_1), H⟩ := gd_ H
  have c6b0 : decide (0 ≤ x9_1) = true := decide_eq_true c6
  clear c6
  obtain ⟨(c7 : x9_1 < (l0.length : Int)), H⟩ := gd_ H
  have c7b0 : decide (x9_1 < (l0.length : Int)) = true := decide_eq_true c7
  clear c7
  obtain ⟨(c8 : x7_1.length < 35184372088832), H⟩ := gd_ H
  have LMc8 := Aside0.mk c8
  clear c8
  obtain ⟨y234, hy234⟩ : ∃ y_ : List (S43), y_ = (x7_1 ++ [(⟨(rd_T43 l0 x9_1).f0, (rd_T43 l0 x9_1).f1⟩ : S43)]) := ⟨_, rfl⟩
  replace H : (if x9_1 = a2 then (some y234) else (if (l0.length : Int) = 0 then (none) else (spec_l03Part.l0 k1 l0 a2 y234 (l0.length : Int) (Int.tmod (wrap64 (x9_1 + 1)) (l0.length : Int))))) = some r := by first | (rw [hy234]; with_reducible exact H) | (have H2_ := (Option.bind_some _ _).symm.trans H; rw [hy234]; with_reducible exact H2_) | (have H2_ := (Option.bind_some _ _).symm.trans H; with_reducible exact H2_) | with_reducible exact H | (rw [hy234]; exact H) | exact H
  have Ny234 := Aside0.mk hy234
  clear hy234
  by_cases c9 : x9_1 = a2
  ·
   rw [if_pos c9] at H
   have c9b0 : (x9_1 == a2) = true := beq_iff_eq.mpr c9
   have c9b1 : (x9_1 != a2) = false := bne_eq_false_iff_eq.mpr c9
   clear c9
   obtain rfl := Option.some.inj H
   have p233 : 0 ≤ (x9_1 : Int) := od_
   have q233 : x9_1 < (l0.length : Int) := od_
   obtain ⟨ad233, e233, hx233_0, hx233_1⟩ := at_T43 HR0.out x9_1 p233 q233
   cases e233
   replace hx233_0 := (hw_ HB hx233_0 :)
   replace hx233_1 := (hw_ HB hx233_1 :)
   replace p233 := eq_true p233
   replace q233 := eq_true q233
   go_wp2_with (first | ((with_reducible refine gate_builtin (b := .append) (xs := #[.tmp 18, .tmp 23]) rfl ?_); at_builtin; refine Kd.R_append k43 (w0 := w) w.heap.size rfl (.tmp 18) (.tmp 23) 36 43 (.agg #[(.int .i16 0), (.int .i16 0)]) 4 rfl Try.underlying36 info43 rfl (by decide) (by omega) u7 x7_1 (⟨(rd_T43 l0 x9_1).f0, (rd_T43 l0 x9_1).f1⟩ : S43) [.int .i16 ((rd_T43 l0 x9_1).f0), .int .i16 ((rd_T43 l0 x9_1).f1)] (fun _ => True) (fun _ => False) rfl rfl ?aP (fun _ hk => hk.elim) ?aF ?aO ?aB ?aS ?aL ?_; (case aP => exact k43_mkM _ _ _ (⟨(rd_T43 l0 x9_1).f0, (rd_T43 l0 x9_1).f1⟩ : S43)); (case aB => exact (kB_ HB)); (case aF => exact (fun _ _ => trivial)); (case aO => exact (kp_ HO_7)); (case aS => exact (below_size (kB_ HB))); (case aL => have := LMc8.out; omega); intro v235 w10 ho hb hg hat; rw [← Ny234.out] at ho; have n0_ := Aside0.mk (hb); have n1_ := Aside0.mk (ho); clear HB; clear HO_7; have HB := n0_; have HO236 := n1_; clear n0_ n1_; clear ho hb hg hat))
   go_ret
   exact ⟨_, by first | rfl | (simp [errW_none, errW_some] <;> rfl) | (simp [*, errW_none, errW_some] <;> rfl), by (with_reducible repeat (first | apply Kd.R_alloc | apply Kd.R_drewN | apply Kd.R_drew)); exact HO236.out, bl_ HB⟩
  rw [if_neg c9] at H
  have c9b0 : (x9_1 == a2) = false := beq_eq_false_iff_ne.mpr c9
  have c9b1 : (x9_1 != a2) = true := bne_iff_ne.mpr c9
  by_cases c11 : (l0.length : Int) = 0
  ·
   rw [if_pos c11] at H
   exact absurd H (by simp)
  rw [if_neg c11] at H
  have c11b0 : ((l0.length : Int) == 0) = false := beq_eq_false_iff_ne.mpr c11
  have c11b1 : ((l0.length : Int) != 0) = true := bne_iff_ne.mpr c11
  have c11b2 : ¬ (l0 = []) := fun h_ => c11 (by rw [h_]; rfl)
  have H' := Aside0.mk H
  clear H
  have p233 : 0 ≤ (x9_1 : Int) := od_
  have q233 : x9_1 < (l0.length : Int) := od_
  obtain ⟨ad233, e233, hx233_0, hx233_1⟩ := at_T43 HR0.out x9_1 p233 q233
  cases e233
  replace hx233_0 := (hw_ HB hx233_0 :)
  replace hx233_1 := (hw_ HB hx233_1 :)
  replace p233 := eq_true p233
  replace q233 := eq_true q233
  go_wp2_with (first | ((with_reducible refine gate_builtin (b := .append) (xs := #[.tmp 18, .tmp 23]) rfl ?_); at_builtin; refine Kd.R_append k43 (w0 := w) w.heap.size rfl (.tmp 18) (.tmp 23) 36 43 (.agg #[(.int .i16 0), (.int .i16 0)]) 4 rfl Try.underlying36 info43 rfl (by decide) (by omega) u7 x7_1 (⟨(rd_T43 l0 x9_1).f0, (rd_T43 l0 x9_1).f1⟩ : S43) [.int .i16 ((rd_T43 l0 x9_1).f0), .int .i16 ((rd_T43 l0 x9_1).f1)] (fun _ => True) (fun _ => False) rfl rfl ?aP (fun _ hk => hk.elim) ?aF ?aO ?aB ?aS ?aL ?_; (case aP => exact k43_mkM _ _ _ (⟨(rd_T43 l0 x9_1).f0, (rd_T43 l0 x9_1).f1⟩ : S43)); (case aB => exact (kB_ HB)); (case aF => exact (fun _ _ => trivial)); (case aO => exact (kp_ HO_7)); (case aS => exact (below_size (kB_ HB))); (case aL => have := LMc8.out; omega); intro v235 w12 ho hb hg hat; rw [← Ny234.out] at ho; have n0_ := Aside0.mk (hb); have n1_ := Aside0.mk (ho); clear HB; clear HO_7; have HB := n0_; have HO236 := n1_; clear n0_ n1_; clear ho hb hg hat))
  go_roundg k1
  case measure => have := HK1.out; omega
  case rel => exact ⟨(y234), (Int.tmod (wrap64 (x9_1 + 1)) (l0.length : Int)), (by first | rfl | (simp; done) | (simp [*]; done)), H', ⟨by have := HK1.out; omega⟩, ⟨kp_ HO236⟩, ⟨bl_ HB⟩⟩
end Go.Proofs.Ytllfeehchiikoaa.PA
