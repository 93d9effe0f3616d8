/- Written by a program of this session out of the translation: pure functions, and that Go's functions come to them. -/
import Derived.Test.YtohhcomokcdbfaaPAx0
import Derived.Test.YtohhcomokcdbfaaPAxf56
import Derived.Test.YtohhcomokcdbfaaPAxgMM
import Derived.Test.YtohhcomokcdbfaaPAxgSpec
namespace Go.Proofs.Ytohhcomokcdbfaa.PA
open Go.RowKit Go.Proofs.YtohhcomokcdbfaaW.PrintWords Go.Proofs.YtohhcomokcdbfaaW.PrintLast Go.Proofs.YtohhcomokcdbfaaW.PrintMore
attribute [local go_sem] max2_int min2_int max_two min_two max_three min_three max_four min_four   -- for this text's walks alone
set_option linter.unusedVariables false
set_option linter.unusedSimpArgs false

/-! ### spec_l03Seam: function 42 -/
mutual
def spec_l03Seam.j0 : Nat → Bool → Int → Int → Int → Int → Int → Int → Int → Int → Option (Int)
 | 0, _, _, _, _, _, _, _, _, _ => none
 | k + 1, x26, x123000, x123001, x124000, x124001, x125000, x125001, x126000, x126001 => if x26 = true then (some 0) else ((some (([] : List (S55)) : List (S55))).bind fun y128 => ((spec_l03Between.f x123000 x123001 x125000 x125001 x126000 x126001).bind fun t131 => (if t131 = true then (if y128.length < 35184372088832 then (spec_l03Seam.j1 k (y128 ++ [(⟨x123000, x123001⟩ : S55)]) x123000 x123001 x124000 x124001 x125000 x125001 x126000 x126001) else (none)) else (spec_l03Seam.j1 k y128 x123000 x123001 x124000 x124001 x125000 x125001 x126000 x126001))))
def spec_l03Seam.j1 : Nat → List (S55) → Int → Int → Int → Int → Int → Int → Int → Int → Option (Int)
 | 0, _, _, _, _, _, _, _, _, _ => none
 | k + 1, x9, x123000, x123001, x124000, x124001, x125000, x125001, x126000, x126001 => (spec_l03Between.f x124000 x124001 x125000 x125001 x126000 x126001).bind fun t135 => (if t135 = true then (if x9.length < 35184372088832 then (spec_l03Seam.j2 k (x9 ++ [(⟨x124000, x124001⟩ : S55)]) x123000 x123001 x124000 x124001 x125000 x125001 x126000 x126001) else (none)) else (spec_l03Seam.j2 k x9 x123000 x123001 x124000 x124001 x125000 x125001 x126000 x126001))
def spec_l03Seam.j2 : Nat → List (S55) → Int → Int → Int → Int → Int → Int → Int → Int → Option (Int)
 | 0, _, _, _, _, _, _, _, _, _ => none
 | k + 1, x9, x123000, x123001, x124000, x124001, x125000, x125001, x126000, x126001 => (spec_l03Between.f x125000 x125001 x123000 x123001 x124000 x124001).bind fun t139 => (if t139 = true then (if x9.length < 35184372088832 then (spec_l03Seam.j3 k (x9 ++ [(⟨x125000, x125001⟩ : S55)]) x123000 x123001 x124000 x124001 x126000 x126001) else (none)) else (spec_l03Seam.j3 k x9 x123000 x123001 x124000 x124001 x126000 x126001))
def spec_l03Seam.j3 : Nat → List (S55) → Int → Int → Int → Int → Int → Int → Option (Int)
 | 0, _, _, _, _, _, _, _ => none
 | k + 1, x9, x123000, x123001, x124000, x124001, x126000, x126001 => (spec_l03Between.f x126000 x126001 x123000 x123001 x124000 x124001).bind fun t143 => (if t143 = true then (if x9.length < 35184372088832 then (spec_l03Seam.j4 k (x9 ++ [(⟨x126000, x126001⟩ : S55)])) else (none)) else (spec_l03Seam.j4 k x9))
def spec_l03Seam.j4 : Nat → List (S55) → Option (Int)
 | 0, _ => none
 | k + 1, x9 => spec_l03Seam.l0 k x9 0 0
def spec_l03Seam.l0 : Nat → List (S55) → Int → Int → Option (Int)
 | 0, _, _, _ => none
 | k + 1, x9, x10, x11 => if x11 < (x9.length : Int) then (spec_l03Seam.l1 k x9 x10 x11 0) else (some x10)
def spec_l03Seam.l1 : Nat → List (S55) → Int → Int → Int → Option (Int)
 | 0, _, _, _, _ => none
 | k + 1, x9, x10, x11, x12 => if x12 < x11 then (if 0 ≤ x11 then (if x11 < (x9.length : Int) then (if 0 ≤ x12 then (if x12 < (x9.length : Int) then ((spec_l00Max.f x10 (wrap64 ((wrap64 ((wrap64 ((wrap64 ((rd_T55 x9 x11).f0)) - (wrap64 ((rd_T55 x9 x12).f0)))) * (wrap64 ((wrap64 ((rd_T55 x9 x11).f0)) - (wrap64 ((rd_T55 x9 x12).f0)))))) + (wrap64 ((wrap64 ((wrap64 ((rd_T55 x9 x11).f1)) - (wrap64 ((rd_T55 x9 x12).f1)))) * (wrap64 ((wrap64 ((rd_T55 x9 x11).f1)) - (wrap64 ((rd_T55 x9 x12).f1))))))))).bind fun t151 => (spec_l03Seam.l1 k x9 t151 x11 (wrap64 (x12 + 1)))) else (none)) else (none)) else (none)) else (none)) else (spec_l03Seam.l0 k x9 x10 (wrap64 (x11 + 1)))
end
def spec_l03Seam.f (k : Nat) (a0_0 : Int) (a0_1 : Int) (a1_0 : Int) (a1_1 : Int) (a2_0 : Int) (a2_1 : Int) (a3_0 : Int) (a3_1 : Int) : Option (Int) := (spec_l03Side.f a0_0 a0_1 a1_0 a1_1 a2_0 a2_1).bind fun t126 => (if t126 = 0 then ((spec_l03Side.f a0_0 a0_1 a1_0 a1_1 a3_0 a3_1).bind fun t127 => (spec_l03Seam.j0 k (t127 != 0) a0_0 a0_1 a1_0 a1_1 a2_0 a2_1 a3_0 a3_1)) else (spec_l03Seam.j0 k true a0_0 a0_1 a1_0 a1_1 a2_0 a2_1 a3_0 a3_1))
theorem spec_l03Seam.mono_l : ∀ k, (∀ y0 y1 y2 y3 y4 y5 y6 y7 y8, LeO (spec_l03Seam.j0 k y0 y1 y2 y3 y4 y5 y6 y7 y8) (spec_l03Seam.j0 (k + 1) y0 y1 y2 y3 y4 y5 y6 y7 y8)) ∧ (∀ y0 y1 y2 y3 y4 y5 y6 y7 y8, LeO (spec_l03Seam.j1 k y0 y1 y2 y3 y4 y5 y6 y7 y8) (spec_l03Seam.j1 (k + 1) y0 y1 y2 y3 y4 y5 y6 y7 y8)) ∧ (∀ y0 y1 y2 y3 y4 y5 y6 y7 y8, LeO (spec_l03Seam.j2 k y0 y1 y2 y3 y4 y5 y6 y7 y8) (spec_l03Seam.j2 (k + 1) y0 y1 y2 y3 y4 y5 y6 y7 y8)) ∧ (∀ y0 y1 y2 y3 y4 y5 y6, LeO (spec_l03Seam.j3 k y0 y1 y2 y3 y4 y5 y6) (spec_l03Seam.j3 (k + 1) y0 y1 y2 y3 y4 y5 y6)) ∧ (∀ y0, LeO (spec_l03Seam.j4 k y0) (spec_l03Seam.j4 (k + 1) y0)) ∧ (∀ y0 y1 y2, LeO (spec_l03Seam.l0 k y0 y1 y2) (spec_l03Seam.l0 (k + 1) y0 y1 y2)) ∧ (∀ y0 y1 y2 y3, LeO (spec_l03Seam.l1 k y0 y1 y2 y3) (spec_l03Seam.l1 (k + 1) y0 y1 y2 y3))
 | 0 => ⟨fun _ _ _ _ _ _ _ _ _ r h => by simp [spec_l03Seam.j0] at h, fun _ _ _ _ _ _ _ _ _ r h => by simp [spec_l03Seam.j1] at h, fun _ _ _ _ _ _ _ _ _ r h => by simp [spec_l03Seam.j2] at h, fun _ _ _ _ _ _ _ r h => by simp [spec_l03Seam.j3] at h, fun _ r h => by simp [spec_l03Seam.j4] at h, fun _ _ _ r h => by simp [spec_l03Seam.l0] at h, fun _ _ _ _ r h => by simp [spec_l03Seam.l1] at h⟩
 | k + 1 => by
  obtain ⟨ih0, ih1, ih2, ih3, ih4, ih5, ih6⟩ := spec_l03Seam.mono_l k
  refine ⟨?_, ?_, ?_, ?_, ?_, ?_, ?_⟩
  ·
   intro y0 y1 y2 y3 y4 y5 y6 y7 y8
   unfold spec_l03Seam.j0
   repeat' first
   | (with_reducible exact ih0 _ _ _ _ _ _ _ _ _)
   | (with_reducible exact ih1 _ _ _ _ _ _ _ _ _)
   | (with_reducible exact ih2 _ _ _ _ _ _ _ _ _)
   | (with_reducible exact ih3 _ _ _ _ _ _ _)
   | (with_reducible exact ih4 _)
   | (with_reducible exact ih5 _ _ _)
   | (with_reducible exact ih6 _ _ _ _)
   | (with_reducible exact LeO.refl _)
   | (with_reducible exact LeO.none _)
   | (with_reducible refine LeO.ite ?_ ?_)
   | (with_reducible refine LeO.bind ?_ (fun _ => ?_))
   | exact ih0 _ _ _ _ _ _ _ _ _
   | exact ih1 _ _ _ _ _ _ _ _ _
   | exact ih2 _ _ _ _ _ _ _ _ _
   | exact ih3 _ _ _ _ _ _ _
   | exact ih4 _
   | exact ih5 _ _ _
   | exact ih6 _ _ _ _
   | exact LeO.none _
   | refine LeO.ite ?_ ?_
   | refine LeO.bind ?_ (fun _ => ?_)
  ·
   intro y0 y1 y2 y3 y4 y5 y6 y7 y8
   unfold spec_l03Seam.j1
   repeat' first
   | (with_reducible exact ih0 _ _ _ _ _ _ _ _ _)
   | (with_reducible exact ih1 _ _ _ _ _ _ _ _ _)
   | (with_reducible exact ih2 _ _ _ _ _ _ _ _ _)
   | (with_reducible exact ih3 _ _ _ _ _ _ _)
   | (with_reducible exact ih4 _)
   | (with_reducible exact ih5 _ _ _)
   | (with_reducible exact ih6 _ _ _ _)
   | (with_reducible exact LeO.refl _)
   | (with_reducible exact LeO.none _)
   | (with_reducible refine LeO.ite ?_ ?_)
   | (with_reducible refine LeO.bind ?_ (fun _ => ?_))
   | exact ih0 _ _ _ _ _ _ _ _ _
   | exact ih1 _ _ _ _ _ _ _ _ _
   | exact ih2 _ _ _ _ _ _ _ _ _
   | exact ih3 _ _ _ _ _ _ _
   | exact ih4 _
   | exact ih5 _ _ _
   | exact ih6 _ _ _ _
   | exact LeO.none _
   | refine LeO.ite ?_ ?_
   | refine LeO.bind ?_ (fun _ => ?_)
  ·
   intro y0 y1 y2 y3 y4 y5 y6 y7 y8
   unfold spec_l03Seam.j2
   repeat' first
   | (with_reducible exact ih0 _ _ _ _ _ _ _ _ _)
   | (with_reducible exact ih1 _ _ _ _ _ _ _ _ _)
   | (with_reducible exact ih2 _ _ _ _ _ _ _ _ _)
   | (with_reducible exact ih3 _ _ _ _ _ _ _)
   | (with_reducible exact ih4 _)
   | (with_reducible exact ih5 _ _ _)
   | (with_reducible exact ih6 _ _ _ _)
   | (with_reducible exact LeO.refl _)
   | (with_reducible exact LeO.none _)
   | (with_reducible refine LeO.ite ?_ ?_)
   | (with_reducible refine LeO.bind ?_ (fun _ => ?_))
   | exact ih0 _ _ _ _ _ _ _ _ _
   | exact ih1 _ _ _ _ _ _ _ _ _
   | exact ih2 _ _ _ _ _ _ _ _ _
   | exact ih3 _ _ _ _ _ _ _
   | exact ih4 _
   | exact ih5 _ _ _
   | exact ih6 _ _ _ _
   | exact LeO.none _
   | refine LeO.ite ?_ ?_
   | refine LeO.bind ?_ (fun _ => ?_)
  ·
   intro y0 y1 y2 y3 y4 y5 y6
   unfold spec_l03Seam.j3
   repeat' first
   | (with_reducible exact ih0 _ _ _ _ _ _ _ _ _)
   | (with_reducible exact ih1 _ _ _ _ _ _ _ _ _)
   | (with_reducible exact ih2 _ _ _ _ _ _ _ _ _)
   | (with_reducible exact ih3 _ _ _ _ _ _ _)
   | (with_reducible exact ih4 _)
   | (with_reducible exact ih5 _ _ _)
   | (with_reducible exact ih6 _ _ _ _)
   | (with_reducible exact LeO.refl _)
   | (with_reducible exact LeO.none _)
   | (with_reducible refine LeO.ite ?_ ?_)
   | (with_reducible refine LeO.bind ?_ (fun _ => ?_))
   | exact ih0 _ _ _ _ _ _ _ _ _
   | exact ih1 _ _ _ _ _ _ _ _ _
   | exact ih2 _ _ _ _ _ _ _ _ _
   | exact ih3 _ _ _ _ _ _ _
   | exact ih4 _
   | exact ih5 _ _ _
   | exact ih6 _ _ _ _
   | exact LeO.none _
   | refine LeO.ite ?_ ?_
   | refine LeO.bind ?_ (fun _ => ?_)
  ·
   intro y0
   unfold spec_l03Seam.j4
   repeat' first
   | (with_reducible exact ih0 _ _ _ _ _ _ _ _ _)
   | (with_reducible exact ih1 _ _ _ _ _ _ _ _ _)
   | (with_reducible exact ih2 _ _ _ _ _ _ _ _ _)
   | (with_reducible exact ih3 _ _ _ _ _ _ _)
   | (with_reducible exact ih4 _)
   | (with_reducible exact ih5 _ _ _)
   | (with_reducible exact ih6 _ _ _ _)
   | (with_reducible exact LeO.refl _)
   | (with_reducible exact LeO.none _)
   | (with_reducible refine LeO.ite ?_ ?_)
   | (with_reducible refine LeO.bind ?_ (fun _ => ?_))
   | exact ih0 _ _ _ _ _ _ _ _ _
   | exact ih1 _ _ _ _ _ _ _ _ _
   | exact ih2 _ _ _ _ _ _ _ _ _
   | exact ih3 _ _ _ _ _ _ _
   | exact ih4 _
   | exact ih5 _ _ _
   | exact ih6 _ _ _ _
   | exact LeO.none _
   | refine LeO.ite ?_ ?_
   | refine LeO.bind ?_ (fun _ => ?_)
  ·
   intro y0 y1 y2
   unfold spec_l03Seam.l0
   repeat' first
   | (with_reducible exact ih0 _ _ _ _ _ _ _ _ _)
   | (with_reducible exact ih1 _ _ _ _ _ _ _ _ _)
   | (with_reducible exact ih2 _ _ _ _ _ _ _ _ _)
   | (with_reducible exact ih3 _ _ _ _ _ _ _)
   | (with_reducible exact ih4 _)
   | (with_reducible exact ih5 _ _ _)
   | (with_reducible exact ih6 _ _ _ _)
   | (with_reducible exact LeO.refl _)
   | (with_reducible exact LeO.none _)
   | (with_reducible refine LeO.ite ?_ ?_)
   | (with_reducible refine LeO.bind ?_ (fun _ => ?_))
   | exact ih0 _ _ _ _ _ _ _ _ _
   | exact ih1 _ _ _ _ _ _ _ _ _
   | exact ih2 _ _ _ _ _ _ _ _ _
   | exact ih3 _ _ _ _ _ _ _
   | exact ih4 _
   | exact ih5 _ _ _
   | exact ih6 _ _ _ _
   | exact LeO.none _
   | refine LeO.ite ?_ ?_
   | refine LeO.bind ?_ (fun _ => ?_)
  ·
   intro y0 y1 y2 y3
   unfold spec_l03Seam.l1
   repeat' first
   | (with_reducible exact ih0 _ _ _ _ _ _ _ _ _)
   | (with_reducible exact ih1 _ _ _ _ _ _ _ _ _)
   | (with_reducible exact ih2 _ _ _ _ _ _ _ _ _)
   | (with_reducible exact ih3 _ _ _ _ _ _ _)
   | (with_reducible exact ih4 _)
   | (with_reducible exact ih5 _ _ _)
   | (with_reducible exact ih6 _ _ _ _)
   | (with_reducible exact LeO.refl _)
   | (with_reducible exact LeO.none _)
   | (with_reducible refine LeO.ite ?_ ?_)
   | (with_reducible refine LeO.bind ?_ (fun _ => ?_))
   | exact ih0 _ _ _ _ _ _ _ _ _
   | exact ih1 _ _ _ _ _ _ _ _ _
   | exact ih2 _ _ _ _ _ _ _ _ _
   | exact ih3 _ _ _ _ _ _ _
   | exact ih4 _
   | exact ih5 _ _ _
   | exact ih6 _ _ _ _
   | exact LeO.none _
   | refine LeO.ite ?_ ?_
   | refine LeO.bind ?_ (fun _ => ?_)
theorem spec_l03Seam.mono : ∀ a0 a1 a2 a3 a4 a5 a6 a7 k, LeO (spec_l03Seam.f k a0 a1 a2 a3 a4 a5 a6 a7) (spec_l03Seam.f (k + 1) a0 a1 a2 a3 a4 a5 a6 a7) := by
 intro a0 a1 a2 a3 a4 a5 a6 a7 k
 obtain ⟨ih0, ih1, ih2, ih3, ih4, ih5, ih6⟩ := spec_l03Seam.mono_l k
 unfold spec_l03Seam.f
 repeat' first
   | (with_reducible exact ih0 _ _ _ _ _ _ _ _ _)
   | (with_reducible exact ih1 _ _ _ _ _ _ _ _ _)
   | (with_reducible exact ih2 _ _ _ _ _ _ _ _ _)
   | (with_reducible exact ih3 _ _ _ _ _ _ _)
   | (with_reducible exact ih4 _)
   | (with_reducible exact ih5 _ _ _)
   | (with_reducible exact ih6 _ _ _ _)
   | (with_reducible exact LeO.refl _)
   | (with_reducible exact LeO.none _)
   | (with_reducible refine LeO.ite ?_ ?_)
   | (with_reducible refine LeO.bind ?_ (fun _ => ?_))
   | exact ih0 _ _ _ _ _ _ _ _ _
   | exact ih1 _ _ _ _ _ _ _ _ _
   | exact ih2 _ _ _ _ _ _ _ _ _
   | exact ih3 _ _ _ _ _ _ _
   | exact ih4 _
   | exact ih5 _ _ _
   | exact ih6 _ _ _ _
   | exact LeO.none _
   | refine LeO.ite ?_ ?_
   | refine LeO.bind ?_ (fun _ => ?_)
set_option maxHeartbeats 8000000 in
set_option maxRecDepth 100000 in
theorem spec_l03Seam.calls (k : Nat) (a0_0 : Int) (a0_1 : Int) (a1_0 : Int) (a1_1 : Int) (a2_0 : Int) (a2_1 : Int) (a3_0 : Int) (a3_1 : Int) (r : Int) (w : World) (h : spec_l03Seam.f k a0_0 a0_1 a1_0 a1_1 a2_0 a2_1 a3_0 a3_1 = some r) :
  Calls Try.prog 42 #[.agg #[.int .i16 a0_0, .int .i16 a0_1], .agg #[.int .i16 a1_0, .int .i16 a1_1], .agg #[.int .i16 a2_0, .int .i16 a2_1], .agg #[.int .i16 a3_0, .int .i16 a3_1]] w fun e w' => e = .returned (.int .i64 r) ∧ Below w.heap.size w w' := by
 have hu55 := Try.underlying55
 have HB := Aside0.mk (Below.refl w.heap.size w)
 have H : ((spec_l03Side.f a0_0 a0_1 a1_0 a1_1 a2_0 a2_1).bind fun t126 => (if t126 = 0 then ((spec_l03Side.f a0_0 a0_1 a1_0 a1_1 a3_0 a3_1).bind fun t127 => (spec_l03Seam.j0 k (t127 != 0) a0_0 a0_1 a1_0 a1_1 a2_0 a2_1 a3_0 a3_1)) else (spec_l03Seam.j0 k true a0_0 a0_1 a1_0 a1_1 a2_0 a2_1 a3_0 a3_1))) = some r := h
 clear h
 have HC5 := Aside0.mk H
 clear H
 go_enter Try.func42, Try.ntmps42
 go_upto_region 1 with (first | ((with_reducible refine gate_dst (N := 4) rfl ?_); refine box_event ?hg (N := 4) ?hd (cs := #[.int .i16 a0_0, .int .i16 a0_1]) (t := 55) ?hr ?_; (case hd => rfl); (case hg => rfl); (case hr => first | (go_simp; done) | (go_simp; rfl)); intro gb122 hg w6 hbox hb; have n0_ := bs_ HB hb; have n1_ := Aside0.mk (hbox); have n2_ := ge_ HB hg; have n3_ := ge_ HB hg; clear HB; have HB := n0_; have BK122 := n1_; have GW122 := n2_; have GE122 := n3_; clear n0_ n1_ n2_ n3_; clear hb hbox hg) | ((with_reducible refine gate_dst (N := 5) rfl ?_); refine box_event ?hg (N := 5) ?hd (cs := #[.int .i16 a1_0, .int .i16 a1_1]) (t := 55) ?hr ?_; (case hd => rfl); (case hg => rfl); (case hr => first | (go_simp; done) | (go_simp; rfl)); intro gb123 hg w7 hbox hb; have n0_ := bd_ BK122 hb; have n1_ := bs_ HB hb; have n2_ := Aside0.mk (hbox); have n3_ := ge_ HB hg; have n4_ := ge_ HB hg; have n5_ := nl_ BK122 hg; have n6_ := ng_ BK122 hg; clear BK122; clear HB; have BK122 := n0_; have HB := n1_; have BK123 := n2_; have GW123 := n3_; have GE123 := n4_; have NB122_123 := n5_; have NB123_122 := n6_; clear n0_ n1_ n2_ n3_ n4_ n5_ n6_; clear hb hbox hg) | ((with_reducible refine gate_dst (N := 6) rfl ?_); refine box_event ?hg (N := 6) ?hd (cs := #[.int .i16 a2_0, .int .i16 a2_1]) (t := 55) ?hr ?_; (case hd => rfl); (case hg => rfl); (case hr => first | (go_simp; done) | (go_simp; rfl)); intro gb124 hg w8 hbox hb; have n0_ := bd_ BK122 hb; have n1_ := bd_ BK123 hb; have n2_ := bs_ HB hb; have n3_ := Aside0.mk (hbox); have n4_ := ge_ HB hg; have n5_ := ge_ HB hg; have n6_ := nl_ BK122 hg; have n7_ := ng_ BK122 hg; have n8_ := nl_ BK123 hg; have n9_ := ng_ BK123 hg; clear BK122; clear BK123; clear HB; have BK122 := n0_; have BK123 := n1_; have HB := n2_; have BK124 := n3_; have GW124 := n4_; have GE124 := n5_; have NB122_124 := n6_; have NB124_122 := n7_; have NB123_124 := n8_; have NB124_123 := n9_; clear n0_ n1_ n2_ n3_ n4_ n5_ n6_ n7_ n8_ n9_; clear hb hbox hg) | ((with_reducible refine gate_dst (N := 7) rfl ?_); refine box_event ?hg (N := 7) ?hd (cs := #[.int .i16 a3_0, .int .i16 a3_1]) (t := 55) ?hr ?_; (case hd => rfl); (case hg => rfl); (case hr => first | (go_simp; done) | (go_simp; rfl)); intro gb125 hg w9 hbox hb; have n0_ := bd_ BK122 hb; have n1_ := bd_ BK123 hb; have n2_ := bd_ BK124 hb; have n3_ := bs_ HB hb; have n4_ := Aside0.mk (hbox); have n5_ := ge_ HB hg; have n6_ := ge_ HB hg; have n7_ := nl_ BK122 hg; have n8_ := ng_ BK122 hg; have n9_ := nl_ BK123 hg; have n10_ := ng_ BK123 hg; have n11_ := nl_ BK124 hg; have n12_ := ng_ BK124 hg; clear BK122; clear BK123; clear BK124; clear HB; have BK122 := n0_; have BK123 := n1_; have BK124 := n2_; have HB := n3_; have BK125 := n4_; have GW125 := n5_; have GE125 := n6_; have NB122_125 := n7_; have NB125_122 := n8_; have NB123_125 := n9_; have NB125_123 := n10_; have NB124_125 := n11_; have NB125_124 := n12_; clear n0_ n1_ n2_ n3_ n4_ n5_ n6_ n7_ n8_ n9_ n10_ n11_ n12_; clear hb hbox hg))
 repeat (go_quiet (fail); try go_wp2)
 (try simp only [Act.put, List.setIfInBounds_toArray, List.set_cons_zero, List.set_cons_succ])
 go_cut [26] (fun v26 wc => ∃ (kq : Nat) (x26_4 : Bool), v26 = .bool x26_4 ∧ Aside0 (spec_l03Seam.j0 kq x26_4 a0_0 a0_1 a1_0 a1_1 a2_0 a2_1 a3_0 a3_1 = some r) ∧ Aside0 (kq ≤ k) ∧ Aside0 (wc.heap[gb122]? = some (.cells #[.int .i16 a0_0, .int .i16 a0_1] 55 (0, 0))) ∧ Aside0 (wc.heap[gb123]? = some (.cells #[.int .i16 a1_0, .int .i16 a1_1] 55 (0, 0))) ∧ Aside0 (wc.heap[gb124]? = some (.cells #[.int .i16 a2_0, .int .i16 a2_1] 55 (0, 0))) ∧ Aside0 (wc.heap[gb125]? = some (.cells #[.int .i16 a3_0, .int .i16 a3_1] 55 (0, 0))) ∧ Aside0 (Below w.heap.size w wc))
 case first =>
  have H := HC5.out
  clear HC5
  replace H := Option.bind_eq_some_iff.mp H
  obtain ⟨t126, A100, H⟩ := H
  replace H : (if t126 = 0 then ((spec_l03Side.f a0_0 a0_1 a1_0 a1_1 a3_0 a3_1).bind fun t127 => (spec_l03Seam.j0 k (t127 != 0) a0_0 a0_1 a1_0 a1_1 a2_0 a2_1 a3_0 a3_1)) else (spec_l03Seam.j0 k true a0_0 a0_1 a1_0 a1_1 a2_0 a2_1 a3_0 a3_1)) = some r := H
  have A10 := Aside0.mk A100
  clear A100
  by_cases c11 : t126 = 0
  ·
   rw [if_pos c11] at H
   have c11b0 : (t126 == 0) = true := beq_iff_eq.mpr c11
   have c11b1 : (t126 != 0) = false := bne_eq_false_iff_eq.mpr c11
   clear c11
   (first | rw [c11b0] | (simp only [i64_w, i32_w]; rw [c11b0]) | skip)
   replace H := Option.bind_eq_some_iff.mp H
   obtain ⟨t127, A120, H⟩ := H
   replace H : (spec_l03Seam.j0 k (t127 != 0) a0_0 a0_1 a1_0 a1_1 a2_0 a2_1 a3_0 a3_1) = some r := H
   have A12 := Aside0.mk A120
   clear A120
   have H' := Aside0.mk H
   clear H
   have hnb13 := NB122_123.out
   have hnc13 := NB123_122.out
   have hnb14 := NB122_124.out
   have hnc14 := NB124_122.out
   have hnb15 := NB122_125.out
   have hnc15 := NB125_122.out
   have hcz16_0 : w9.cell? ⟨gb122, 0, none⟩ = some (.int .i16 a0_0) := (blk_cell BK122.out 0).trans rfl
   have hcz16_1 : w9.cell? ⟨gb122, 1, none⟩ = some (.int .i16 a0_1) := (blk_cell BK122.out 1).trans rfl
   have hfz16_0 := blk_frozen BK122.out 0
   have hfz16_1 := blk_frozen BK122.out 1
   have hnb17 := NB123_124.out
   have hnc17 := NB124_123.out
   have hnb18 := NB123_125.out
   have hnc18 := NB125_123.out
   have hcz19_0 : w9.cell? ⟨gb123, 0, none⟩ = some (.int .i16 a1_0) := (blk_cell BK123.out 0).trans rfl
   have hcz19_1 : w9.cell? ⟨gb123, 1, none⟩ = some (.int .i16 a1_1) := (blk_cell BK123.out 1).trans rfl
   have hfz19_0 := blk_frozen BK123.out 0
   have hfz19_1 := blk_frozen BK123.out 1
   have hnb20 := NB124_125.out
   have hnc20 := NB125_124.out
   have hcz21_0 : w9.cell? ⟨gb124, 0, none⟩ = some (.int .i16 a2_0) := (blk_cell BK124.out 0).trans rfl
   have hcz21_1 : w9.cell? ⟨gb124, 1, none⟩ = some (.int .i16 a2_1) := (blk_cell BK124.out 1).trans rfl
   have hfz21_0 := blk_frozen BK124.out 0
   have hfz21_1 := blk_frozen BK124.out 1
   go_wp2_with (first | (go_at_call 54; (with_reducible refine (spec_l03Side.calls a0_0 a0_1 a1_0 a1_1 a2_0 a2_1 t126 _ A10.out).mono ?_); rintro e w22 ⟨rfl, hb⟩; have n0_ := bd_ BK122 hb; have n1_ := bd_ BK123 hb; have n2_ := bd_ BK124 hb; have n3_ := bd_ BK125 hb; have n4_ := bs_ HB hb; clear BK122; clear BK123; clear BK124; clear BK125; clear HB; have BK122 := n0_; have BK123 := n1_; have BK124 := n2_; have BK125 := n3_; have HB := n4_; clear n0_ n1_ n2_ n3_ n4_; (try clear hb); (try clear hb2); (try clear hk); (try clear hi); have hcz23_0 : w22.cell? ⟨gb122, 0, none⟩ = some (.int .i16 a0_0) := (blk_cell BK122.out 0).trans rfl; have hcz23_1 : w22.cell? ⟨gb122, 1, none⟩ = some (.int .i16 a0_1) := (blk_cell BK122.out 1).trans rfl; have hfz23_0 := blk_frozen BK122.out 0; have hfz23_1 := blk_frozen BK122.out 1; have hcz24_0 : w22.cell? ⟨gb123, 0, none⟩ = some (.int .i16 a1_0) := (blk_cell BK123.out 0).trans rfl; have hcz24_1 : w22.cell? ⟨gb123, 1, none⟩ = some (.int .i16 a1_1) := (blk_cell BK123.out 1).trans rfl; have hfz24_0 := blk_frozen BK123.out 0; have hfz24_1 := blk_frozen BK123.out 1; have hcz25_0 : w22.cell? ⟨gb125, 0, none⟩ = some (.int .i16 a3_0) := (blk_cell BK125.out 0).trans rfl; have hcz25_1 : w22.cell? ⟨gb125, 1, none⟩ = some (.int .i16 a3_1) := (blk_cell BK125.out 1).trans rfl; have hfz25_0 := blk_frozen BK125.out 0; have hfz25_1 := blk_frozen BK125.out 1) | (go_at_call 54; (with_reducible refine (spec_l03Side.calls a0_0 a0_1 a1_0 a1_1 a3_0 a3_1 t127 _ A12.out).mono ?_); rintro e w26 ⟨rfl, hb⟩; have n0_ := bd_ BK122 hb; have n1_ := bd_ BK123 hb; have n2_ := bd_ BK124 hb; have n3_ := bd_ BK125 hb; have n4_ := bs_ HB hb; clear BK122; clear BK123; clear BK124; clear BK125; clear HB; have BK122 := n0_; have BK123 := n1_; have BK124 := n2_; have BK125 := n3_; have HB := n4_; clear n0_ n1_ n2_ n3_ n4_; (try clear hb); (try clear hb2); (try clear hk); (try clear hi)))
   repeat (go_quiet (fail); try go_wp2)
   go_meet
   case rel => exact ⟨_, ((t127 != 0)), (by first | rfl | (simp; done) | (simp [*]; done)), H', ⟨by first | omega | exact Nat.le_refl _⟩, ⟨bk_ BK122⟩, ⟨bk_ BK123⟩, ⟨bk_ BK124⟩, ⟨bk_ BK125⟩, ⟨bl_ HB⟩⟩
  ·
   rw [if_neg c11] at H
   have c11b0 : (t126 == 0) = false := beq_eq_false_iff_ne.mpr c11
   have c11b1 : (t126 != 0) = true := bne_iff_ne.mpr c11
   (first | rw [c11b0] | (simp only [i64_w, i32_w]; rw [c11b0]) | skip)
   have H' := Aside0.mk H
   clear H
   have hnb27 := NB122_123.out
   have hnc27 := NB123_122.out
   have hnb28 := NB122_124.out
   have hnc28 := NB124_122.out
   have hnb29 := NB122_125.out
   have hnc29 := NB125_122.out
   have hcz30_0 : w9.cell? ⟨gb122, 0, none⟩ = some (.int .i16 a0_0) := (blk_cell BK122.out 0).trans rfl
   have hcz30_1 : w9.cell? ⟨gb122, 1, none⟩ = some (.int .i16 a0_1) := (blk_cell BK122.out 1).trans rfl
   have hfz30_0 := blk_frozen BK122.out 0
   have hfz30_1 := blk_frozen BK122.out 1
   have hnb31 := NB123_124.out
   have hnc31 := NB124_123.out
   have hnb32 := NB123_125.out
   have hnc32 := NB125_123.out
   have hcz33_0 : w9.cell? ⟨gb123, 0, none⟩ = some (.int .i16 a1_0) := (blk_cell BK123.out 0).trans rfl
   have hcz33_1 : w9.cell? ⟨gb123, 1, none⟩ = some (.int .i16 a1_1) := (blk_cell BK123.out 1).trans rfl
   have hfz33_0 := blk_frozen BK123.out 0
   have hfz33_1 := blk_frozen BK123.out 1
   have hnb34 := NB124_125.out
   have hnc34 := NB125_124.out
   have hcz35_0 : w9.cell? ⟨gb124, 0, none⟩ = some (.int .i16 a2_0) := (blk_cell BK124.out 0).trans rfl
   have hcz35_1 : w9.cell? ⟨gb124, 1, none⟩ = some (.int .i16 a2_1) := (blk_cell BK124.out 1).trans rfl
   have hfz35_0 := blk_frozen BK124.out 0
   have hfz35_1 := blk_frozen BK124.out 1
   go_wp2_with (first | (go_at_call 54; (with_reducible refine (spec_l03Side.calls a0_0 a0_1 a1_0 a1_1 a2_0 a2_1 t126 _ A10.out).mono ?_); rintro e w36 ⟨rfl, hb⟩; have n0_ := bd_ BK122 hb; have n1_ := bd_ BK123 hb; have n2_ := bd_ BK124 hb; have n3_ := bd_ BK125 hb; have n4_ := bs_ HB hb; clear BK122; clear BK123; clear BK124; clear BK125; clear HB; have BK122 := n0_; have BK123 := n1_; have BK124 := n2_; have BK125 := n3_; have HB := n4_; clear n0_ n1_ n2_ n3_ n4_; (try clear hb); (try clear hb2); (try clear hk); (try clear hi)))
   repeat (go_quiet (fail); try go_wp2)
   go_meet
   case rel => exact ⟨_, (true), (by first | rfl | (simp; done) | (simp [*]; done)), H', ⟨by first | omega | exact Nat.le_refl _⟩, ⟨bk_ BK122⟩, ⟨bk_ BK123⟩, ⟨bk_ BK124⟩, ⟨bk_ BK125⟩, ⟨bl_ HB⟩⟩
 case rest =>
  clear HC5
  try clear c1
  try clear c2
  try clear p2
  try clear c3
  try clear c4
  try clear c11
  try clear c11b0
  try clear c11b1
  try clear c13
  try clear c14
  try clear c15
  try clear c17
  try clear c18
  try clear c20
  try clear c27
  try clear c28
  try clear c29
  try clear c31
  try clear c32
  try clear c34
  try clear hcz16_0
  try clear hcz16_1
  try clear hcz19_0
  try clear hcz19_1
  try clear hcz21_0
  try clear hcz21_1
  try clear hcz23_0
  try clear hcz23_1
  try clear hcz24_0
  try clear hcz24_1
  try clear hcz25_0
  try clear hcz25_1
  try clear hcz30_0
  try clear hcz30_1
  try clear hcz33_0
  try clear hcz33_1
  try clear hcz35_0
  try clear hcz35_1
  try clear hfz16_0
  try clear hfz16_1
  try clear hfz19_0
  try clear hfz19_1
  try clear hfz21_0
  try clear hfz21_1
  try clear hfz23_0
  try clear hfz23_1
  try clear hfz24_0
  try clear hfz24_1
  try clear hfz25_0
  try clear hfz25_1
  try clear hfz30_0
  try clear hfz30_1
  try clear hfz33_0
  try clear hfz33_1
  try clear hfz35_0
  try clear hfz35_1
  obtain ⟨kq, x26_4, rfl, HA, HJ4, BK122, BK123, BK124, BK125, HB⟩ := hcut
  cases kq with
  | zero => exact absurd HA.out (by simp [spec_l03Seam.j0])
  | succ kj4 =>
   have H := HA.out
   clear HA
   simp only [spec_l03Seam.j0] at H
   by_cases c37 : x26_4 = true
   ·
    subst c37
    have H1 : (some 0) = some r := by rw [if_pos rfl] at H; exact H
    clear H
    have H := H1
    clear H1
    obtain rfl := Option.some.inj H
    go_wp2
    repeat (go_quiet (fail); try go_wp2)
    go_ret
    exact ⟨by first | rfl | (simp [errW_none, errW_some] <;> rfl) | (simp [*, errW_none, errW_some] <;> rfl), bl_ HB⟩
   ·
    replace c37 := Bool.eq_false_iff.mpr c37
    subst c37
    have H1 : ((some (([] : List (S55)) : List (S55))).bind fun y128 => ((spec_l03Between.f a0_0 a0_1 a2_0 a2_1 a3_0 a3_1).bind fun t131 => (if t131 = true then (if y128.length < 35184372088832 then (spec_l03Seam.j1 kj4 (y128 ++ [(⟨a0_0, a0_1⟩ : S55)]) a0_0 a0_1 a1_0 a1_1 a2_0 a2_1 a3_0 a3_1) else (none)) else (spec_l03Seam.j1 kj4 y128 a0_0 a0_1 a1_0 a1_1 a2_0 a2_1 a3_0 a3_1)))) = some r := by rw [if_neg (show ¬ (false = true) by decide)] at H; exact H
    clear H
    have H := H1
    clear H1
    obtain ⟨y128, hy128⟩ : ∃ y_ : List (S55), y_ = (([] : List (S55))) := ⟨_, rfl⟩
    replace H : ((spec_l03Between.f a0_0 a0_1 a2_0 a2_1 a3_0 a3_1).bind fun t131 => (if t131 = true then (if y128.length < 35184372088832 then (spec_l03Seam.j1 kj4 (y128 ++ [(⟨a0_0, a0_1⟩ : S55)]) a0_0 a0_1 a1_0 a1_1 a2_0 a2_1 a3_0 a3_1) else (none)) else (spec_l03Seam.j1 kj4 y128 a0_0 a0_1 a1_0 a1_1 a2_0 a2_1 a3_0 a3_1))) = some r := by first | (rw [hy128]; with_reducible exact H) | (have H2_ := (Option.bind_some _ _).symm.trans H; rw [hy128]; with_reducible exact H2_) | (have H2_ := (Option.bind_some _ _).symm.trans H; with_reducible exact H2_) | with_reducible exact H | (rw [hy128]; exact H) | exact H
    have Ny128 := Aside0.mk hy128
    clear hy128
    replace H := Option.bind_eq_some_iff.mp H
    obtain ⟨t131, A380, H⟩ := H
    replace H : (if t131 = true then (if y128.length < 35184372088832 then (spec_l03Seam.j1 kj4 (y128 ++ [(⟨a0_0, a0_1⟩ : S55)]) a0_0 a0_1 a1_0 a1_1 a2_0 a2_1 a3_0 a3_1) else (none)) else (spec_l03Seam.j1 kj4 y128 a0_0 a0_1 a1_0 a1_1 a2_0 a2_1 a3_0 a3_1)) = some r := H
    have A38 := Aside0.mk A380
    clear A380
    have HC39 := Aside0.mk H
    clear H
    go_upto_if 31 with (first | ((with_reducible refine gate_dst (N := 27) rfl ?_); refine Kd.R_lit k55 _ 55 ?hg (N := 27) ?hd (xs := ([] : List (S55))) (inner := []) (ok := fun _ => True) (okp := fun _ => True) ?hr ?hp (fun _ hk => hk) trivial (Below.refl _ _) (Nat.le_refl _) (by simp) ?_; (case hd => rfl); (case hg => rfl); (case hr => first | (go_simp; done) | (go_simp; rfl)); (case hp => exact (Reps.none _ _)); intro v129 w40 ho41 hb hg_ hnew_; clear hg_ hnew_; (first | rw [← Ny128.out] at ho41 | (simp only [Int.reduceToNat] at ho41; rw [← Ny128.out] at ho41)); have n0_ := Aside0.mk (Kd.R_lower (Kd.R_newB (Kd.R_newB (Kd.R_newB (Kd.R_newB ho41 (g := gb122) (o := .cells #[.int .i16 a0_0, .int .i16 a0_1] 55 (0, 0)) (by (with_reducible repeat (first | refine blk_drewN ?_ _ | refine blk_drew ?_ | refine blk_alloc ?_ _)); exact BK122.out)) (g := gb123) (o := .cells #[.int .i16 a1_0, .int .i16 a1_1] 55 (0, 0)) (by (with_reducible repeat (first | refine blk_drewN ?_ _ | refine blk_drew ?_ | refine blk_alloc ?_ _)); exact BK123.out)) (g := gb124) (o := .cells #[.int .i16 a2_0, .int .i16 a2_1] 55 (0, 0)) (by (with_reducible repeat (first | refine blk_drewN ?_ _ | refine blk_drew ?_ | refine blk_alloc ?_ _)); exact BK124.out)) (g := gb125) (o := .cells #[.int .i16 a3_0, .int .i16 a3_1] 55 (0, 0)) (by (with_reducible repeat (first | refine blk_drewN ?_ _ | refine blk_drew ?_ | refine blk_alloc ?_ _)); exact BK125.out)) (below_size (by repeat (first | (with_reducible first | exact HB.out | apply below_alloc | apply pw_below_drewN | apply below_drew1 | refine below_set ?_ GE122.out | refine below_set ?_ GE123.out | refine below_set ?_ GE124.out | refine below_set ?_ GE125.out) | exact HB.out)))); have n1_ := bd_ BK122 hb; have n2_ := bd_ BK123 hb; have n3_ := bd_ BK124 hb; have n4_ := bd_ BK125 hb; have n5_ := bs_ HB hb; clear BK122; clear BK123; clear BK124; clear BK125; clear HB; have HO130 := n0_; have BK122 := n1_; have BK123 := n2_; have BK124 := n3_; have BK125 := n4_; have HB := n5_; clear n0_ n1_ n2_ n3_ n4_ n5_; clear hb ho41; have hnb42 := NB122_123.out; have hnc42 := NB123_122.out; have hnb43 := NB122_124.out; have hnc43 := NB124_122.out; have hnb44 := NB122_125.out; have hnc44 := NB125_122.out; have hcz45_0 : w40.cell? ⟨gb122, 0, none⟩ = some (.int .i16 a0_0) := (blk_cell BK122.out 0).trans rfl; have hcz45_1 : w40.cell? ⟨gb122, 1, none⟩ = some (.int .i16 a0_1) := (blk_cell BK122.out 1).trans rfl; have hfz45_0 := blk_frozen BK122.out 0; have hfz45_1 := blk_frozen BK122.out 1; have hnb46 := NB124_123.out; have hnc46 := NB123_124.out; have hnb47 := NB124_125.out; have hnc47 := NB125_124.out; have hcz48_0 : w40.cell? ⟨gb124, 0, none⟩ = some (.int .i16 a2_0) := (blk_cell BK124.out 0).trans rfl; have hcz48_1 : w40.cell? ⟨gb124, 1, none⟩ = some (.int .i16 a2_1) := (blk_cell BK124.out 1).trans rfl; have hfz48_0 := blk_frozen BK124.out 0; have hfz48_1 := blk_frozen BK124.out 1; have hnb49 := NB125_123.out; have hnc49 := NB123_125.out; have hcz50_0 : w40.cell? ⟨gb125, 0, none⟩ = some (.int .i16 a3_0) := (blk_cell BK125.out 0).trans rfl; have hcz50_1 : w40.cell? ⟨gb125, 1, none⟩ = some (.int .i16 a3_1) := (blk_cell BK125.out 1).trans rfl; have hfz50_0 := blk_frozen BK125.out 0; have hfz50_1 := blk_frozen BK125.out 1) | (go_at_call 56; (with_reducible refine (spec_l03Between.calls a0_0 a0_1 a2_0 a2_1 a3_0 a3_1 t131 _ A38.out).mono ?_); rintro e w51 ⟨rfl, hb⟩; have n0_ := Aside0.mk (Kd.R_below (by (with_reducible repeat (first | apply Kd.R_alloc | apply Kd.R_drewN | apply Kd.R_drew)); exact HO130.out) hb); have n1_ := bd_ BK122 hb; have n2_ := bd_ BK123 hb; have n3_ := bd_ BK124 hb; have n4_ := bd_ BK125 hb; have n5_ := bs_ HB hb; clear HO130; clear BK122; clear BK123; clear BK124; clear BK125; clear HB; have HO130 := n0_; have BK122 := n1_; have BK123 := n2_; have BK124 := n3_; have BK125 := n4_; have HB := n5_; clear n0_ n1_ n2_ n3_ n4_ n5_; (try clear hb); (try clear hb2); (try clear hk); (try clear hi)))
    repeat (go_quiet (fail); try go_wp2)
    (try simp only [Act.put, List.setIfInBounds_toArray, List.set_cons_zero, List.set_cons_succ])
    go_cut [9] (fun v9 wc => ∃ (kq : Nat) (x9_38 : List (S55)), Aside0 (spec_l03Seam.j1 kq x9_38 a0_0 a0_1 a1_0 a1_1 a2_0 a2_1 a3_0 a3_1 = some r) ∧ Aside0 (kq ≤ kj4) ∧ Aside0 (Kd.R k55 55 wc w.heap.size (fun k_ => k_ ≠ gb122 ∧ k_ ≠ gb123 ∧ k_ ≠ gb124 ∧ k_ ≠ gb125) v9 x9_38) ∧ Aside0 (wc.heap[gb122]? = some (.cells #[.int .i16 a0_0, .int .i16 a0_1] 55 (0, 0))) ∧ Aside0 (wc.heap[gb123]? = some (.cells #[.int .i16 a1_0, .int .i16 a1_1] 55 (0, 0))) ∧ Aside0 (wc.heap[gb124]? = some (.cells #[.int .i16 a2_0, .int .i16 a2_1] 55 (0, 0))) ∧ Aside0 (wc.heap[gb125]? = some (.cells #[.int .i16 a3_0, .int .i16 a3_1] 55 (0, 0))) ∧ Aside0 (Below w.heap.size w wc))
    case first =>
     have H := HC39.out
     clear HC39
     by_cases c52 : t131 = true
     ·
      subst c52
      have H1 : (if y128.length < 35184372088832 then (spec_l03Seam.j1 kj4 (y128 ++ [(⟨a0_0, a0_1⟩ : S55)]) a0_0 a0_1 a1_0 a1_1 a2_0 a2_1 a3_0 a3_1) else (none)) = some r := by rw [if_pos rfl] at H; exact H
      clear H
      have H := H1
      clear H1
      by_cases c53 : y128.length < 35184372088832
      ·
       rw [if_pos c53] at H
       have LMc53 := Aside0.mk c53
       clear c53
       obtain ⟨y132, hy132⟩ : ∃ y_ : List (S55), y_ = (y128 ++ [(⟨a0_0, a0_1⟩ : S55)]) := ⟨_, rfl⟩
       replace H : (spec_l03Seam.j1 kj4 y132 a0_0 a0_1 a1_0 a1_1 a2_0 a2_1 a3_0 a3_1) = some r := by first | (rw [hy132]; with_reducible exact H) | (have H2_ := (Option.bind_some _ _).symm.trans H; rw [hy132]; with_reducible exact H2_) | (have H2_ := (Option.bind_some _ _).symm.trans H; with_reducible exact H2_) | with_reducible exact H | (rw [hy132]; exact H) | exact H
       have Ny132 := Aside0.mk hy132
       clear hy132
       have H' := Aside0.mk H
       clear H
       have hnb54 := NB122_123.out
       have hnc54 := NB123_122.out
       have hnb55 := NB122_124.out
       have hnc55 := NB124_122.out
       have hnb56 := NB122_125.out
       have hnc56 := NB125_122.out
       have hcz57_0 : w51.cell? ⟨gb122, 0, none⟩ = some (.int .i16 a0_0) := (blk_cell BK122.out 0).trans rfl
       have hcz57_1 : w51.cell? ⟨gb122, 1, none⟩ = some (.int .i16 a0_1) := (blk_cell BK122.out 1).trans rfl
       have hfz57_0 := blk_frozen BK122.out 0
       have hfz57_1 := blk_frozen BK122.out 1
       go_wp2_with (first | ((with_reducible refine gate_builtin (b := .append) (xs := #[.tmp 32, .tmp 34]) rfl ?_); at_builtin; refine Kd.R_append k55 (w0 := w) w.heap.size rfl (.tmp 32) (.tmp 34) 26 55 (.agg #[(.int .i16 0), (.int .i16 0)]) 4 rfl Try.underlying26 info55 rfl (by decide) (by omega) v129 y128 (⟨a0_0, a0_1⟩ : S55) [.int .i16 a0_0, .int .i16 a0_1] (fun k_ => k_ ≠ gb122 ∧ k_ ≠ gb123 ∧ k_ ≠ gb124 ∧ k_ ≠ gb125) (fun _ => False) rfl rfl ?aP (fun _ hk => hk.elim) ?aF ?aO ?aB ?aS ?aL ?_; (case aP => exact k55_mkM _ _ _ (⟨a0_0, a0_1⟩ : S55)); (case aB => exact (by repeat (first | (with_reducible first | exact HB.out | apply below_alloc | apply pw_below_drewN | apply below_drew1 | refine below_set ?_ GE122.out | refine below_set ?_ GE123.out | refine below_set ?_ GE124.out | refine below_set ?_ GE125.out) | exact HB.out))); (case aF => exact (fun k_ hk => ⟨Kd.freshB (g := gb122) (o := .cells #[.int .i16 a0_0, .int .i16 a0_1] 55 (0, 0)) (by (with_reducible repeat (first | refine blk_drewN ?_ _ | refine blk_drew ?_ | refine blk_alloc ?_ _)); exact BK122.out) k_ hk, Kd.freshB (g := gb123) (o := .cells #[.int .i16 a1_0, .int .i16 a1_1] 55 (0, 0)) (by (with_reducible repeat (first | refine blk_drewN ?_ _ | refine blk_drew ?_ | refine blk_alloc ?_ _)); exact BK123.out) k_ hk, Kd.freshB (g := gb124) (o := .cells #[.int .i16 a2_0, .int .i16 a2_1] 55 (0, 0)) (by (with_reducible repeat (first | refine blk_drewN ?_ _ | refine blk_drew ?_ | refine blk_alloc ?_ _)); exact BK124.out) k_ hk, Kd.freshB (g := gb125) (o := .cells #[.int .i16 a3_0, .int .i16 a3_1] 55 (0, 0)) (by (with_reducible repeat (first | refine blk_drewN ?_ _ | refine blk_drew ?_ | refine blk_alloc ?_ _)); exact BK125.out) k_ hk⟩)); (case aO => exact (by (with_reducible repeat (first | apply Kd.R_alloc | apply Kd.R_drewN | apply Kd.R_drew)); exact Kd.R_mono HO130.out (fun _ hk => ⟨hk.1.1.1.2, ⟨hk.1.1.2, ⟨hk.1.2, hk.2⟩⟩⟩))); (case aS => exact (below_size (by repeat (first | (with_reducible first | exact HB.out | apply below_alloc | apply pw_below_drewN | apply below_drew1 | refine below_set ?_ GE122.out | refine below_set ?_ GE123.out | refine below_set ?_ GE124.out | refine below_set ?_ GE125.out) | exact HB.out)))); (case aL => have := LMc53.out; omega); intro v133 w58 ho hb hg hat; rw [← Ny132.out] at ho; have n0_ := Aside0.mk (blk_grown (g := gb122) (o := .cells #[.int .i16 a0_0, .int .i16 a0_1] 55 (0, 0)) (by (with_reducible repeat (first | refine blk_drewN ?_ _ | refine blk_drew ?_ | refine blk_alloc ?_ _)); exact BK122.out) hg (Kd.R_away HO130.out (fun _ hk => hk.1.1.1.2))); have n1_ := Aside0.mk (blk_grown (g := gb123) (o := .cells #[.int .i16 a1_0, .int .i16 a1_1] 55 (0, 0)) (by (with_reducible repeat (first | refine blk_drewN ?_ _ | refine blk_drew ?_ | refine blk_alloc ?_ _)); exact BK123.out) hg (Kd.R_away HO130.out (fun _ hk => hk.1.1.2))); have n2_ := Aside0.mk (blk_grown (g := gb124) (o := .cells #[.int .i16 a2_0, .int .i16 a2_1] 55 (0, 0)) (by (with_reducible repeat (first | refine blk_drewN ?_ _ | refine blk_drew ?_ | refine blk_alloc ?_ _)); exact BK124.out) hg (Kd.R_away HO130.out (fun _ hk => hk.1.2))); have n3_ := Aside0.mk (blk_grown (g := gb125) (o := .cells #[.int .i16 a3_0, .int .i16 a3_1] 55 (0, 0)) (by (with_reducible repeat (first | refine blk_drewN ?_ _ | refine blk_drew ?_ | refine blk_alloc ?_ _)); exact BK125.out) hg (Kd.R_away HO130.out (fun _ hk => hk.2))); have n4_ := Aside0.mk (hb); have n5_ := Aside0.mk (ho); clear BK122; clear BK123; clear BK124; clear BK125; clear HB; clear HO130; have BK122 := n0_; have BK123 := n1_; have BK124 := n2_; have BK125 := n3_; have HB := n4_; have HO134 := n5_; clear n0_ n1_ n2_ n3_ n4_ n5_; clear ho hb hg hat))
       repeat (go_quiet (fail); try go_wp2)
       go_meet
       case rel => exact ⟨_, (y132), H', ⟨by have := HJ4.out; first | omega | exact Nat.le_refl _⟩, ⟨by (with_reducible repeat (first | apply Kd.R_alloc | apply Kd.R_drewN | apply Kd.R_drew)); exact HO134.out⟩, ⟨bk_ BK122⟩, ⟨bk_ BK123⟩, ⟨bk_ BK124⟩, ⟨bk_ BK125⟩, ⟨bl_ HB⟩⟩
      ·
       rw [if_neg c53] at H
       exact absurd H (by simp)
     ·
      replace c52 := Bool.eq_false_iff.mpr c52
      subst c52
      have H1 : (spec_l03Seam.j1 kj4 y128 a0_0 a0_1 a1_0 a1_1 a2_0 a2_1 a3_0 a3_1) = some r := by rw [if_neg (show ¬ (false = true) by decide)] at H; exact H
      clear H
      have H := H1
      clear H1
      have H' := Aside0.mk H
      clear H
      go_wp2
      repeat (go_quiet (fail); try go_wp2)
      go_meet
      case rel => exact ⟨_, (y128), H', ⟨by have := HJ4.out; first | omega | exact Nat.le_refl _⟩, ⟨by (with_reducible repeat (first | apply Kd.R_alloc | apply Kd.R_drewN | apply Kd.R_drew)); exact Kd.R_mono HO130.out (fun _ hk => ⟨hk.1.1.1.2, ⟨hk.1.1.2, ⟨hk.1.2, hk.2⟩⟩⟩)⟩, ⟨bk_ BK122⟩, ⟨bk_ BK123⟩, ⟨bk_ BK124⟩, ⟨bk_ BK125⟩, ⟨bl_ HB⟩⟩
    case rest =>
     clear HC39
     try clear c1
     try clear c2
     try clear p2
     try clear c3
     try clear c4
     try clear c5
     try clear c11
     try clear c11b0
     try clear c11b1
     try clear c13
     try clear c14
     try clear c15
     try clear c17
     try clear c18
     try clear c20
     try clear c27
     try clear c28
     try clear c29
     try clear c31
     try clear c32
     try clear c34
     try clear c37
     try clear c42
     try clear c43
     try clear c44
     try clear c46
     try clear c47
     try clear c49
     try clear c52
     try clear c53
     try clear c54
     try clear c55
     try clear c56
     try clear hcz16_0
     try clear hcz16_1
     try clear hcz19_0
     try clear hcz19_1
     try clear hcz21_0
     try clear hcz21_1
     try clear hcz23_0
     try clear hcz23_1
     try clear hcz24_0
     try clear hcz24_1
     try clear hcz25_0
     try clear hcz25_1
     try clear hcz30_0
     try clear hcz30_1
     try clear hcz33_0
     try clear hcz33_1
     try clear hcz35_0
     try clear hcz35_1
     try clear hcz45_0
     try clear hcz45_1
     try clear hcz48_0
     try clear hcz48_1
     try clear hcz50_0
     try clear hcz50_1
     try clear hcz57_0
     try clear hcz57_1
     try clear hfz16_0
     try clear hfz16_1
     try clear hfz19_0
     try clear hfz19_1
     try clear hfz21_0
     try clear hfz21_1
     try clear hfz23_0
     try clear hfz23_1
     try clear hfz24_0
     try clear hfz24_1
     try clear hfz25_0
     try clear hfz25_1
     try clear hfz30_0
     try clear hfz30_1
     try clear hfz33_0
     try clear hfz33_1
     try clear hfz35_0
     try clear hfz35_1
     try clear hfz45_0
     try clear hfz45_1
     try clear hfz48_0
     try clear hfz48_1
     try clear hfz50_0
     try clear hfz50_1
     try clear hfz57_0
     try clear hfz57_1
     try clear p2
     obtain ⟨kq, x9_38, HA, HJ38, HO_9, BK122, BK123, BK124, BK125, HB⟩ := hcut
     cases kq with
     | zero => exact absurd HA.out (by simp [spec_l03Seam.j1])
     | succ kj38 =>
      have H := HA.out
      clear HA
      simp only [spec_l03Seam.j1] at H
      replace H := Option.bind_eq_some_iff.mp H
      obtain ⟨t135, A590, H⟩ := H
      replace H : (if t135 = true then (if x9_38.length < 35184372088832 then (spec_l03Seam.j2 kj38 (x9_38 ++ [(⟨a1_0, a1_1⟩ : S55)]) a0_0 a0_1 a1_0 a1_1 a2_0 a2_1 a3_0 a3_1) else (none)) else (spec_l03Seam.j2 kj38 x9_38 a0_0 a0_1 a1_0 a1_1 a2_0 a2_1 a3_0 a3_1)) = some r := H
      have A59 := Aside0.mk A590
      clear A590
      have HC60 := Aside0.mk H
      clear H
      have hnb61 := NB123_122.out
      have hnc61 := NB122_123.out
      have hnb62 := NB123_124.out
      have hnc62 := NB124_123.out
      have hnb63 := NB123_125.out
      have hnc63 := NB125_123.out
      have hcz64_0 : wc.cell? ⟨gb123, 0, none⟩ = some (.int .i16 a1_0) := (blk_cell BK123.out 0).trans rfl
      have hcz64_1 : wc.cell? ⟨gb123, 1, none⟩ = some (.int .i16 a1_1) := (blk_cell BK123.out 1).trans rfl
      have hfz64_0 := blk_frozen BK123.out 0
      have hfz64_1 := blk_frozen BK123.out 1
      have hnb65 := NB124_122.out
      have hnc65 := NB122_124.out
      have hnb66 := NB124_125.out
      have hnc66 := NB125_124.out
      have hcz67_0 : wc.cell? ⟨gb124, 0, none⟩ = some (.int .i16 a2_0) := (blk_cell BK124.out 0).trans rfl
      have hcz67_1 : wc.cell? ⟨gb124, 1, none⟩ = some (.int .i16 a2_1) := (blk_cell BK124.out 1).trans rfl
      have hfz67_0 := blk_frozen BK124.out 0
      have hfz67_1 := blk_frozen BK124.out 1
      have hnb68 := NB125_122.out
      have hnc68 := NB122_125.out
      have hcz69_0 : wc.cell? ⟨gb125, 0, none⟩ = some (.int .i16 a3_0) := (blk_cell BK125.out 0).trans rfl
      have hcz69_1 : wc.cell? ⟨gb125, 1, none⟩ = some (.int .i16 a3_1) := (blk_cell BK125.out 1).trans rfl
      have hfz69_0 := blk_frozen BK125.out 0
      have hfz69_1 := blk_frozen BK125.out 1
      go_upto_if 39 with (first | (go_at_call 56; (with_reducible refine (spec_l03Between.calls a1_0 a1_1 a2_0 a2_1 a3_0 a3_1 t135 _ A59.out).mono ?_); rintro e w70 ⟨rfl, hb⟩; have n0_ := Aside0.mk (Kd.R_below (by (with_reducible repeat (first | apply Kd.R_alloc | apply Kd.R_drewN | apply Kd.R_drew)); exact HO_9.out) hb); have n1_ := bd_ BK122 hb; have n2_ := bd_ BK123 hb; have n3_ := bd_ BK124 hb; have n4_ := bd_ BK125 hb; have n5_ := bs_ HB hb; clear HO_9; clear BK122; clear BK123; clear BK124; clear BK125; clear HB; have HO_9 := n0_; have BK122 := n1_; have BK123 := n2_; have BK124 := n3_; have BK125 := n4_; have HB := n5_; clear n0_ n1_ n2_ n3_ n4_ n5_; (try clear hb); (try clear hb2); (try clear hk); (try clear hi)))
      repeat (go_quiet (fail); try go_wp2)
      (try simp only [Act.put, List.setIfInBounds_toArray, List.set_cons_zero, List.set_cons_succ])
      go_cut [9] (fun v9 wc => ∃ (kq : Nat) (x9_59 : List (S55)), Aside0 (spec_l03Seam.j2 kq x9_59 a0_0 a0_1 a1_0 a1_1 a2_0 a2_1 a3_0 a3_1 = some r) ∧ Aside0 (kq ≤ kj38) ∧ Aside0 (Kd.R k55 55 wc w.heap.size (fun k_ => k_ ≠ gb122 ∧ k_ ≠ gb123 ∧ k_ ≠ gb124 ∧ k_ ≠ gb125) v9 x9_59) ∧ Aside0 (wc.heap[gb122]? = some (.cells #[.int .i16 a0_0, .int .i16 a0_1] 55 (0, 0))) ∧ Aside0 (wc.heap[gb123]? = some (.cells #[.int .i16 a1_0, .int .i16 a1_1] 55 (0, 0))) ∧ Aside0 (wc.heap[gb124]? = some (.cells #[.int .i16 a2_0, .int .i16 a2_1] 55 (0, 0))) ∧ Aside0 (wc.heap[gb125]? = some (.cells #[.int .i16 a3_0, .int .i16 a3_1] 55 (0, 0))) ∧ Aside0 (Below w.heap.size w wc))
      case first =>
       have H := HC60.out
       clear HC60
       by_cases c71 : t135 = true
       ·
        subst c71
        have H1 : (if x9_38.length < 35184372088832 then (spec_l03Seam.j2 kj38 (x9_38 ++ [(⟨a1_0, a1_1⟩ : S55)]) a0_0 a0_1 a1_0 a1_1 a2_0 a2_1 a3_0 a3_1) else (none)) = some r := by rw [if_pos rfl] at H; exact H
        clear H
        have H := H1
        clear H1
        by_cases c72 : x9_38.length < 35184372088832
        ·
         rw [if_pos c72] at H
         have LMc72 := Aside0.mk c72
         clear c72
         obtain ⟨y136, hy136⟩ : ∃ y_ : List (S55), y_ = (x9_38 ++ [(⟨a1_0, a1_1⟩ : S55)]) := ⟨_, rfl⟩
         replace H : (spec_l03Seam.j2 kj38 y136 a0_0 a0_1 a1_0 a1_1 a2_0 a2_1 a3_0 a3_1) = some r := by first | (rw [hy136]; with_reducible exact H) | (have H2_ := (Option.bind_some _ _).symm.trans H; rw [hy136]; with_reducible exact H2_) | (have H2_ := (Option.bind_some _ _).symm.trans H; with_reducible exact H2_) | with_reducible exact H | (rw [hy136]; exact H) | exact H
         have Ny136 := Aside0.mk hy136
         clear hy136
         have H' := Aside0.mk H
         clear H
         have hnb73 := NB123_122.out
         have hnc73 := NB122_123.out
         have hnb74 := NB123_124.out
         have hnc74 := NB124_123.out
         have hnb75 := NB123_125.out
         have hnc75 := NB125_123.out
         have hcz76_0 : w70.cell? ⟨gb123, 0, none⟩ = some (.int .i16 a1_0) := (blk_cell BK123.out 0).trans rfl
         have hcz76_1 : w70.cell? ⟨gb123, 1, none⟩ = some (.int .i16 a1_1) := (blk_cell BK123.out 1).trans rfl
         have hfz76_0 := blk_frozen BK123.out 0
         have hfz76_1 := blk_frozen BK123.out 1
         go_wp2_with (first | ((with_reducible refine gate_builtin (b := .append) (xs := #[.tmp 40, .tmp 42]) rfl ?_); at_builtin; refine Kd.R_append k55 (w0 := w) w.heap.size rfl (.tmp 40) (.tmp 42) 26 55 (.agg #[(.int .i16 0), (.int .i16 0)]) 4 rfl Try.underlying26 info55 rfl (by decide) (by omega) u9 x9_38 (⟨a1_0, a1_1⟩ : S55) [.int .i16 a1_0, .int .i16 a1_1] (fun k_ => k_ ≠ gb122 ∧ k_ ≠ gb123 ∧ k_ ≠ gb124 ∧ k_ ≠ gb125) (fun _ => False) rfl rfl ?aP (fun _ hk => hk.elim) ?aF ?aO ?aB ?aS ?aL ?_; (case aP => exact k55_mkM _ _ _ (⟨a1_0, a1_1⟩ : S55)); (case aB => exact (by repeat (first | (with_reducible first | exact HB.out | apply below_alloc | apply pw_below_drewN | apply below_drew1 | refine below_set ?_ GE122.out | refine below_set ?_ GE123.out | refine below_set ?_ GE124.out | refine below_set ?_ GE125.out) | exact HB.out))); (case aF => exact (fun k_ hk => ⟨Kd.freshB (g := gb122) (o := .cells #[.int .i16 a0_0, .int .i16 a0_1] 55 (0, 0)) (by (with_reducible repeat (first | refine blk_drewN ?_ _ | refine blk_drew ?_ | refine blk_alloc ?_ _)); exact BK122.out) k_ hk, Kd.freshB (g := gb123) (o := .cells #[.int .i16 a1_0, .int .i16 a1_1] 55 (0, 0)) (by (with_reducible repeat (first | refine blk_drewN ?_ _ | refine blk_drew ?_ | refine blk_alloc ?_ _)); exact BK123.out) k_ hk, Kd.freshB (g := gb124) (o := .cells #[.int .i16 a2_0, .int .i16 a2_1] 55 (0, 0)) (by (with_reducible repeat (first | refine blk_drewN ?_ _ | refine blk_drew ?_ | refine blk_alloc ?_ _)); exact BK124.out) k_ hk, Kd.freshB (g := gb125) (o := .cells #[.int .i16 a3_0, .int .i16 a3_1] 55 (0, 0)) (by (with_reducible repeat (first | refine blk_drewN ?_ _ | refine blk_drew ?_ | refine blk_alloc ?_ _)); exact BK125.out) k_ hk⟩)); (case aO => exact (by (with_reducible repeat (first | apply Kd.R_alloc | apply Kd.R_drewN | apply Kd.R_drew)); exact HO_9.out)); (case aS => exact (below_size (by repeat (first | (with_reducible first | exact HB.out | apply below_alloc | apply pw_below_drewN | apply below_drew1 | refine below_set ?_ GE122.out | refine below_set ?_ GE123.out | refine below_set ?_ GE124.out | refine below_set ?_ GE125.out) | exact HB.out)))); (case aL => have := LMc72.out; omega); intro v137 w77 ho hb hg hat; rw [← Ny136.out] at ho; have n0_ := Aside0.mk (blk_grown (g := gb122) (o := .cells #[.int .i16 a0_0, .int .i16 a0_1] 55 (0, 0)) (by (with_reducible repeat (first | refine blk_drewN ?_ _ | refine blk_drew ?_ | refine blk_alloc ?_ _)); exact BK122.out) hg (Kd.R_away HO_9.out (fun _ hk => hk.1))); have n1_ := Aside0.mk (blk_grown (g := gb123) (o := .cells #[.int .i16 a1_0, .int .i16 a1_1] 55 (0, 0)) (by (with_reducible repeat (first | refine blk_drewN ?_ _ | refine blk_drew ?_ | refine blk_alloc ?_ _)); exact BK123.out) hg (Kd.R_away HO_9.out (fun _ hk => hk.2.1))); have n2_ := Aside0.mk (blk_grown (g := gb124) (o := .cells #[.int .i16 a2_0, .int .i16 a2_1] 55 (0, 0)) (by (with_reducible repeat (first | refine blk_drewN ?_ _ | refine blk_drew ?_ | refine blk_alloc ?_ _)); exact BK124.out) hg (Kd.R_away HO_9.out (fun _ hk => hk.2.2.1))); have n3_ := Aside0.mk (blk_grown (g := gb125) (o := .cells #[.int .i16 a3_0, .int .i16 a3_1] 55 (0, 0)) (by (with_reducible repeat (first | refine blk_drewN ?_ _ | refine blk_drew ?_ | refine blk_alloc ?_ _)); exact BK125.out) hg (Kd.R_away HO_9.out (fun _ hk => hk.2.2.2))); have n4_ := Aside0.mk (hb); have n5_ := Aside0.mk (ho); clear BK122; clear BK123; clear BK124; clear BK125; clear HB; clear HO_9; have BK122 := n0_; have BK123 := n1_; have BK124 := n2_; have BK125 := n3_; have HB := n4_; have HO138 := n5_; clear n0_ n1_ n2_ n3_ n4_ n5_; clear ho hb hg hat))
         repeat (go_quiet (fail); try go_wp2)
         go_meet
         case rel => exact ⟨_, (y136), H', ⟨by have := HJ4.out; have := HJ38.out; first | omega | exact Nat.le_refl _⟩, ⟨by (with_reducible repeat (first | apply Kd.R_alloc | apply Kd.R_drewN | apply Kd.R_drew)); exact HO138.out⟩, ⟨bk_ BK122⟩, ⟨bk_ BK123⟩, ⟨bk_ BK124⟩, ⟨bk_ BK125⟩, ⟨bl_ HB⟩⟩
        ·
         rw [if_neg c72] at H
         exact absurd H (by simp)
       ·
        replace c71 := Bool.eq_false_iff.mpr c71
        subst c71
        have H1 : (spec_l03Seam.j2 kj38 x9_38 a0_0 a0_1 a1_0 a1_1 a2_0 a2_1 a3_0 a3_1) = some r := by rw [if_neg (show ¬ (false = true) by decide)] at H; exact H
        clear H
        have H := H1
        clear H1
        have H' := Aside0.mk H
        clear H
        go_wp2
        repeat (go_quiet (fail); try go_wp2)
        go_meet
        case rel => exact ⟨_, (x9_38), H', ⟨by have := HJ4.out; have := HJ38.out; first | omega | exact Nat.le_refl _⟩, ⟨by (with_reducible repeat (first | apply Kd.R_alloc | apply Kd.R_drewN | apply Kd.R_drew)); exact HO_9.out⟩, ⟨bk_ BK122⟩, ⟨bk_ BK123⟩, ⟨bk_ BK124⟩, ⟨bk_ BK125⟩, ⟨bl_ HB⟩⟩
      case rest =>
       clear HC60
       try clear c1
       try clear c2
       try clear p2
       try clear c3
       try clear c4
       try clear c5
       try clear c6
       try clear c7
       try clear c11
       try clear c11b0
       try clear c11b1
       try clear c13
       try clear c14
       try clear c15
       try clear c17
       try clear c18
       try clear c20
       try clear c27
       try clear c28
       try clear c29
       try clear c31
       try clear c32
       try clear c34
       try clear c37
       try clear c42
       try clear c43
       try clear c44
       try clear c46
       try clear c47
       try clear c49
       try clear c52
       try clear c53
       try clear c54
       try clear c55
       try clear c56
       try clear c61
       try clear c62
       try clear c63
       try clear c65
       try clear c66
       try clear c68
       try clear c71
       try clear c72
       try clear c73
       try clear c74
       try clear c75
       try clear hcz16_0
       try clear hcz16_1
       try clear hcz19_0
       try clear hcz19_1
       try clear hcz21_0
       try clear hcz21_1
       try clear hcz23_0
       try clear hcz23_1
       try clear hcz24_0
       try clear hcz24_1
       try clear hcz25_0
       try clear hcz25_1
       try clear hcz30_0
       try clear hcz30_1
       try clear hcz33_0
       try clear hcz33_1
       try clear hcz35_0
       try clear hcz35_1
       try clear hcz45_0
       try clear hcz45_1
       try clear hcz48_0
       try clear hcz48_1
       try clear hcz50_0
       try clear hcz50_1
       try clear hcz57_0
       try clear hcz57_1
       try clear hcz64_0
       try clear hcz64_1
       try clear hcz67_0
       try clear hcz67_1
       try clear hcz69_0
       try clear hcz69_1
       try clear hcz76_0
       try clear hcz76_1
       try clear hfz16_0
       try clear hfz16_1
       try clear hfz19_0
       try clear hfz19_1
       try clear hfz21_0
       try clear hfz21_1
       try clear hfz23_0
       try clear hfz23_1
       try clear hfz24_0
       try clear hfz24_1
       try clear hfz25_0
       try clear hfz25_1
       try clear hfz30_0
       try clear hfz30_1
       try clear hfz33_0
       try clear hfz33_1
       try clear hfz35_0
       try clear hfz35_1
       try clear hfz45_0
       try clear hfz45_1
       try clear hfz48_0
       try clear hfz48_1
       try clear hfz50_0
       try clear hfz50_1
       try clear hfz57_0
       try clear hfz57_1
       try clear hfz64_0
       try clear hfz64_1
       try clear hfz67_0
       try clear hfz67_1
       try clear hfz69_0
       try clear hfz69_1
       try clear hfz76_0
       try clear hfz76_1
       try clear p2
       obtain ⟨kq, x9_59, HA, HJ59, HO_9, BK122, BK123, BK124, BK125, HB⟩ := hcut
       cases kq with
       | zero => exact absurd HA.out (by simp [spec_l03Seam.j2])
       | succ kj59 =>
        have H := HA.out
        clear HA
        simp only [spec_l03Seam.j2] at H
        replace H := Option.bind_eq_some_iff.mp H
        obtain ⟨t139, A780, H⟩ := H
        replace H : (if t139 = true then (if x9_59.length < 35184372088832 then (spec_l03Seam.j3 kj59 (x9_59 ++ [(⟨a2_0, a2_1⟩ : S55)]) a0_0 a0_1 a1_0 a1_1 a3_0 a3_1) else (none)) else (spec_l03Seam.j3 kj59 x9_59 a0_0 a0_1 a1_0 a1_1 a3_0 a3_1)) = some r := H
        have A78 := Aside0.mk A780
        clear A780
        have HC79 := Aside0.mk H
        clear H
        have hnb80 := NB124_122.out
        have hnc80 := NB122_124.out
        have hnb81 := NB124_123.out
        have hnc81 := NB123_124.out
        have hnb82 := NB124_125.out
        have hnc82 := NB125_124.out
        have hcz83_0 : wc.cell? ⟨gb124, 0, none⟩ = some (.int .i16 a2_0) := (blk_cell BK124.out 0).trans rfl
        have hcz83_1 : wc.cell? ⟨gb124, 1, none⟩ = some (.int .i16 a2_1) := (blk_cell BK124.out 1).trans rfl
        have hfz83_0 := blk_frozen BK124.out 0
        have hfz83_1 := blk_frozen BK124.out 1
        have hnb84 := NB122_123.out
        have hnc84 := NB123_122.out
        have hnb85 := NB122_125.out
        have hnc85 := NB125_122.out
        have hcz86_0 : wc.cell? ⟨gb122, 0, none⟩ = some (.int .i16 a0_0) := (blk_cell BK122.out 0).trans rfl
        have hcz86_1 : wc.cell? ⟨gb122, 1, none⟩ = some (.int .i16 a0_1) := (blk_cell BK122.out 1).trans rfl
        have hfz86_0 := blk_frozen BK122.out 0
        have hfz86_1 := blk_frozen BK122.out 1
        have hnb87 := NB123_125.out
        have hnc87 := NB125_123.out
        have hcz88_0 : wc.cell? ⟨gb123, 0, none⟩ = some (.int .i16 a1_0) := (blk_cell BK123.out 0).trans rfl
        have hcz88_1 : wc.cell? ⟨gb123, 1, none⟩ = some (.int .i16 a1_1) := (blk_cell BK123.out 1).trans rfl
        have hfz88_0 := blk_frozen BK123.out 0
        have hfz88_1 := blk_frozen BK123.out 1
        go_upto_if 47 with (first | (go_at_call 56; (with_reducible refine (spec_l03Between.calls a2_0 a2_1 a0_0 a0_1 a1_0 a1_1 t139 _ A78.out).mono ?_); rintro e w89 ⟨rfl, hb⟩; have n0_ := Aside0.mk (Kd.R_below (by (with_reducible repeat (first | apply Kd.R_alloc | apply Kd.R_drewN | apply Kd.R_drew)); exact HO_9.out) hb); have n1_ := bd_ BK122 hb; have n2_ := bd_ BK123 hb; have n3_ := bd_ BK124 hb; have n4_ := bd_ BK125 hb; have n5_ := bs_ HB hb; clear HO_9; clear BK122; clear BK123; clear BK124; clear BK125; clear HB; have HO_9 := n0_; have BK122 := n1_; have BK123 := n2_; have BK124 := n3_; have BK125 := n4_; have HB := n5_; clear n0_ n1_ n2_ n3_ n4_ n5_; (try clear hb); (try clear hb2); (try clear hk); (try clear hi)))
        repeat (go_quiet (fail); try go_wp2)
        (try simp only [Act.put, List.setIfInBounds_toArray, List.set_cons_zero, List.set_cons_succ])
        go_cut [9] (fun v9 wc => ∃ (kq : Nat) (x9_78 : List (S55)), Aside0 (spec_l03Seam.j3 kq x9_78 a0_0 a0_1 a1_0 a1_1 a3_0 a3_1 = some r) ∧ Aside0 (kq ≤ kj59) ∧ Aside0 (Kd.R k55 55 wc w.heap.size (fun k_ => k_ ≠ gb122 ∧ k_ ≠ gb123 ∧ k_ ≠ gb124 ∧ k_ ≠ gb125) v9 x9_78) ∧ Aside0 (wc.heap[gb122]? = some (.cells #[.int .i16 a0_0, .int .i16 a0_1] 55 (0, 0))) ∧ Aside0 (wc.heap[gb123]? = some (.cells #[.int .i16 a1_0, .int .i16 a1_1] 55 (0, 0))) ∧ Aside0 (wc.heap[gb124]? = some (.cells #[.int .i16 a2_0, .int .i16 a2_1] 55 (0, 0))) ∧ Aside0 (wc.heap[gb125]? = some (.cells #[.int .i16 a3_0, .int .i16 a3_1] 55 (0, 0))) ∧ Aside0 (Below w.heap.size w wc))
        case first =>
         have H := HC79.out
         clear HC79
         by_cases c90 : t139 = true
         ·
          subst c90
          have H1 : (if x9_59.length < 35184372088832 then (spec_l03Seam.j3 kj59 (x9_59 ++ [(⟨a2_0, a2_1⟩ : S55)]) a0_0 a0_1 a1_0 a1_1 a3_0 a3_1) else (none)) = some r := by rw [if_pos rfl] at H; exact H
          clear H
          have H := H1
          clear H1
          by_cases c91 : x9_59.length < 35184372088832
          ·
           rw [if_pos c91] at H
           have LMc91 := Aside0.mk c91
           clear c91
           obtain ⟨y140, hy140⟩ : ∃ y_ : List (S55), y_ = (x9_59 ++ [(⟨a2_0, a2_1⟩ : S55)]) := ⟨_, rfl⟩
           replace H : (spec_l03Seam.j3 kj59 y140 a0_0 a0_1 a1_0 a1_1 a3_0 a3_1) = some r := by first | (rw [hy140]; with_reducible exact H) | (have H2_ := (Option.bind_some _ _).symm.trans H; rw [hy140]; with_reducible exact H2_) | (have H2_ := (Option.bind_some _ _).symm.trans H; with_reducible exact H2_) | with_reducible exact H | (rw [hy140]; exact H) | exact H
           have Ny140 := Aside0.mk hy140
           clear hy140
           have H' := Aside0.mk H
           clear H
           have hnb92 := NB124_122.out
           have hnc92 := NB122_124.out
           have hnb93 := NB124_123.out
           have hnc93 := NB123_124.out
           have hnb94 := NB124_125.out
           have hnc94 := NB125_124.out
           have hcz95_0 : w89.cell? ⟨gb124, 0, none⟩ = some (.int .i16 a2_0) := (blk_cell BK124.out 0).trans rfl
           have hcz95_1 : w89.cell? ⟨gb124, 1, none⟩ = some (.int .i16 a2_1) := (blk_cell BK124.out 1).trans rfl
           have hfz95_0 := blk_frozen BK124.out 0
           have hfz95_1 := blk_frozen BK124.out 1
           go_wp2_with (first | ((with_reducible refine gate_builtin (b := .append) (xs := #[.tmp 48, .tmp 50]) rfl ?_); at_builtin; refine Kd.R_append k55 (w0 := w) w.heap.size rfl (.tmp 48) (.tmp 50) 26 55 (.agg #[(.int .i16 0), (.int .i16 0)]) 4 rfl Try.underlying26 info55 rfl (by decide) (by omega) u9 x9_59 (⟨a2_0, a2_1⟩ : S55) [.int .i16 a2_0, .int .i16 a2_1] (fun k_ => k_ ≠ gb122 ∧ k_ ≠ gb123 ∧ k_ ≠ gb124 ∧ k_ ≠ gb125) (fun _ => False) rfl rfl ?aP (fun _ hk => hk.elim) ?aF ?aO ?aB ?aS ?aL ?_; (case aP => exact k55_mkM _ _ _ (⟨a2_0, a2_1⟩ : S55)); (case aB => exact (by repeat (first | (with_reducible first | exact HB.out | apply below_alloc | apply pw_below_drewN | apply below_drew1 | refine below_set ?_ GE122.out | refine below_set ?_ GE123.out | refine below_set ?_ GE124.out | refine below_set ?_ GE125.out) | exact HB.out))); (case aF => exact (fun k_ hk => ⟨Kd.freshB (g := gb122) (o := .cells #[.int .i16 a0_0, .int .i16 a0_1] 55 (0, 0)) (by (with_reducible repeat (first | refine blk_drewN ?_ _ | refine blk_drew ?_ | refine blk_alloc ?_ _)); exact BK122.out) k_ hk, Kd.freshB (g := gb123) (o := .cells #[.int .i16 a1_0, .int .i16 a1_1] 55 (0, 0)) (by (with_reducible repeat (first | refine blk_drewN ?_ _ | refine blk_drew ?_ | refine blk_alloc ?_ _)); exact BK123.out) k_ hk, Kd.freshB (g := gb124) (o := .cells #[.int .i16 a2_0, .int .i16 a2_1] 55 (0, 0)) (by (with_reducible repeat (first | refine blk_drewN ?_ _ | refine blk_drew ?_ | refine blk_alloc ?_ _)); exact BK124.out) k_ hk, Kd.freshB (g := gb125) (o := .cells #[.int .i16 a3_0, .int .i16 a3_1] 55 (0, 0)) (by (with_reducible repeat (first | refine blk_drewN ?_ _ | refine blk_drew ?_ | refine blk_alloc ?_ _)); exact BK125.out) k_ hk⟩)); (case aO => exact (by (with_reducible repeat (first | apply Kd.R_alloc | apply Kd.R_drewN | apply Kd.R_drew)); exact HO_9.out)); (case aS => exact (below_size (by repeat (first | (with_reducible first | exact HB.out | apply below_alloc | apply pw_below_drewN | apply below_drew1 | refine below_set ?_ GE122.out | refine below_set ?_ GE123.out | refine below_set ?_ GE124.out | refine below_set ?_ GE125.out) | exact HB.out)))); (case aL => have := LMc91.out; omega); intro v141 w96 ho hb hg hat; rw [← Ny140.out] at ho; have n0_ := Aside0.mk (blk_grown (g := gb122) (o := .cells #[.int .i16 a0_0, .int .i16 a0_1] 55 (0, 0)) (by (with_reducible repeat (first | refine blk_drewN ?_ _ | refine blk_drew ?_ | refine blk_alloc ?_ _)); exact BK122.out) hg (Kd.R_away HO_9.out (fun _ hk => hk.1))); have n1_ := Aside0.mk (blk_grown (g := gb123) (o := .cells #[.int .i16 a1_0, .int .i16 a1_1] 55 (0, 0)) (by (with_reducible repeat (first | refine blk_drewN ?_ _ | refine blk_drew ?_ | refine blk_alloc ?_ _)); exact BK123.out) hg (Kd.R_away HO_9.out (fun _ hk => hk.2.1))); have n2_ := Aside0.mk (blk_grown (g := gb124) (o := .cells #[.int .i16 a2_0, .int .i16 a2_1] 55 (0, 0)) (by (with_reducible repeat (first | refine blk_drewN ?_ _ | refine blk_drew ?_ | refine blk_alloc ?_ _)); exact BK124.out) hg (Kd.R_away HO_9.out (fun _ hk => hk.2.2.1))); have n3_ := Aside0.mk (blk_grown (g := gb125) (o := .cells #[.int .i16 a3_0, .int .i16 a3_1] 55 (0, 0)) (by (with_reducible repeat (first | refine blk_drewN ?_ _ | refine blk_drew ?_ | refine blk_alloc ?_ _)); exact BK125.out) hg (Kd.R_away HO_9.out (fun _ hk => hk.2.2.2))); have n4_ := Aside0.mk (hb); have n5_ := Aside0.mk (ho); clear BK122; clear BK123; clear BK124; clear BK125; clear HB; clear HO_9; have BK122 := n0_; have BK123 := n1_; have BK124 := n2_; have BK125 := n3_; have HB := n4_; have HO142 := n5_; clear n0_ n1_ n2_ n3_ n4_ n5_; clear ho hb hg hat))
           repeat (go_quiet (fail); try go_wp2)
           go_meet
           case rel => exact ⟨_, (y140), H', ⟨by have := HJ4.out; have := HJ38.out; have := HJ59.out; first | omega | exact Nat.le_refl _⟩, ⟨by (with_reducible repeat (first | apply Kd.R_alloc | apply Kd.R_drewN | apply Kd.R_drew)); exact HO142.out⟩, ⟨bk_ BK122⟩, ⟨bk_ BK123⟩, ⟨bk_ BK124⟩, ⟨bk_ BK125⟩, ⟨bl_ HB⟩⟩
          ·
           rw [if_neg c91] at H
           exact absurd H (by simp)
         ·
          replace c90 := Bool.eq_false_iff.mpr c90
          subst c90
          have H1 : (spec_l03Seam.j3 kj59 x9_59 a0_0 a0_1 a1_0 a1_1 a3_0 a3_1) = some r := by rw [if_neg (show ¬ (false = true) by decide)] at H; exact H
          clear H
          have H := H1
          clear H1
          have H' := Aside0.mk H
          clear H
          go_wp2
          repeat (go_quiet (fail); try go_wp2)
          go_meet
          case rel => exact ⟨_, (x9_59), H', ⟨by have := HJ4.out; have := HJ38.out; have := HJ59.out; first | omega | exact Nat.le_refl _⟩, ⟨by (with_reducible repeat (first | apply Kd.R_alloc | apply Kd.R_drewN | apply Kd.R_drew)); exact HO_9.out⟩, ⟨bk_ BK122⟩, ⟨bk_ BK123⟩, ⟨bk_ BK124⟩, ⟨bk_ BK125⟩, ⟨bl_ HB⟩⟩
        case rest =>
         clear HC79
         try clear c1
         try clear c2
         try clear p2
         try clear c3
         try clear c4
         try clear c5
         try clear c6
         try clear c7
         try clear c8
         try clear c9
         try clear c11
         try clear c11b0
         try clear c11b1
         try clear c13
         try clear c14
         try clear c15
         try clear c17
         try clear c18
         try clear c20
         try clear c27
         try clear c28
         try clear c29
         try clear c31
         try clear c32
         try clear c34
         try clear c37
         try clear c42
         try clear c43
         try clear c44
         try clear c46
         try clear c47
         try clear c49
         try clear c52
         try clear c53
         try clear c54
         try clear c55
         try clear c56
         try clear c61
         try clear c62
         try clear c63
         try clear c65
         try clear c66
         try clear c68
         try clear c71
         try clear c72
         try clear c73
         try clear c74
         try clear c75
         try clear c80
         try clear c81
         try clear c82
         try clear c84
         try clear c85
         try clear c87
         try clear c90
         try clear c91
         try clear c92
         try clear c93
         try clear c94
         try clear hcz16_0
         try clear hcz16_1
         try clear hcz19_0
         try clear hcz19_1
         try clear hcz21_0
         try clear hcz21_1
         try clear hcz23_0
         try clear hcz23_1
         try clear hcz24_0
         try clear hcz24_1
         try clear hcz25_0
         try clear hcz25_1
         try clear hcz30_0
         try clear hcz30_1
         try clear hcz33_0
         try clear hcz33_1
         try clear hcz35_0
         try clear hcz35_1
         try clear hcz45_0
         try clear hcz45_1
         try clear hcz48_0
         try clear hcz48_1
         try clear hcz50_0
         try clear hcz50_1
         try clear hcz57_0
         try clear hcz57_1
         try clear hcz64_0
         try clear hcz64_1
         try clear hcz67_0
         try clear hcz67_1
         try clear hcz69_0
         try clear hcz69_1
         try clear hcz76_0
         try clear hcz76_1
         try clear hcz83_0
         try clear hcz83_1
         try clear hcz86_0
         try clear hcz86_1
         try clear hcz88_0
         try clear hcz88_1
         try clear hcz95_0
         try clear hcz95_1
         try clear hfz16_0
         try clear hfz16_1
         try clear hfz19_0
         try clear hfz19_1
         try clear hfz21_0
         try clear hfz21_1
         try clear hfz23_0
         try clear hfz23_1
         try clear hfz24_0
         try clear hfz24_1
         try clear hfz25_0
         try clear hfz25_1
         try clear hfz30_0
         try clear hfz30_1
         try clear hfz33_0
         try clear hfz33_1
         try clear hfz35_0
         try clear hfz35_1
         try clear hfz45_0
         try clear hfz45_1
         try clear hfz48_0
         try clear hfz48_1
         try clear hfz50_0
         try clear hfz50_1
         try clear hfz57_0
         try clear hfz57_1
         try clear hfz64_0
         try clear hfz64_1
         try clear hfz67_0
         try clear hfz67_1
         try clear hfz69_0
         try clear hfz69_1
         try clear hfz76_0
         try clear hfz76_1
         try clear hfz83_0
         try clear hfz83_1
         try clear hfz86_0
         try clear hfz86_1
         try clear hfz88_0
         try clear hfz88_1
         try clear hfz95_0
         try clear hfz95_1
         try clear p2
         obtain ⟨kq, x9_78, HA, HJ78, HO_9, BK122, BK123, BK124, BK125, HB⟩ := hcut
         cases kq with
         | zero => exact absurd HA.out (by simp [spec_l03Seam.j3])
         | succ kj78 =>
          have H := HA.out
          clear HA
          simp only [spec_l03Seam.j3] at H
          replace H := Option.bind_eq_some_iff.mp H
          obtain ⟨t143, A970, H⟩ := H
          replace H : (if t143 = true then (if x9_78.length < 35184372088832 then (spec_l03Seam.j4 kj78 (x9_78 ++ [(⟨a3_0, a3_1⟩ : S55)])) else (none)) else (spec_l03Seam.j4 kj78 x9_78)) = some r := H
          have A97 := Aside0.mk A970
          clear A970
          have HC98 := Aside0.mk H
          clear H
          have hnb99 := NB125_122.out
          have hnc99 := NB122_125.out
          have hnb100 := NB125_123.out
          have hnc100 := NB123_125.out
          have hnb101 := NB125_124.out
          have hnc101 := NB124_125.out
          have hcz102_0 : wc.cell? ⟨gb125, 0, none⟩ = some (.int .i16 a3_0) := (blk_cell BK125.out 0).trans rfl
          have hcz102_1 : wc.cell? ⟨gb125, 1, none⟩ = some (.int .i16 a3_1) := (blk_cell BK125.out 1).trans rfl
          have hfz102_0 := blk_frozen BK125.out 0
          have hfz102_1 := blk_frozen BK125.out 1
          have hnb103 := NB122_123.out
          have hnc103 := NB123_122.out
          have hnb104 := NB122_124.out
          have hnc104 := NB124_122.out
          have hcz105_0 : wc.cell? ⟨gb122, 0, none⟩ = some (.int .i16 a0_0) := (blk_cell BK122.out 0).trans rfl
          have hcz105_1 : wc.cell? ⟨gb122, 1, none⟩ = some (.int .i16 a0_1) := (blk_cell BK122.out 1).trans rfl
          have hfz105_0 := blk_frozen BK122.out 0
          have hfz105_1 := blk_frozen BK122.out 1
          have hnb106 := NB123_124.out
          have hnc106 := NB124_123.out
          have hcz107_0 : wc.cell? ⟨gb123, 0, none⟩ = some (.int .i16 a1_0) := (blk_cell BK123.out 0).trans rfl
          have hcz107_1 : wc.cell? ⟨gb123, 1, none⟩ = some (.int .i16 a1_1) := (blk_cell BK123.out 1).trans rfl
          have hfz107_0 := blk_frozen BK123.out 0
          have hfz107_1 := blk_frozen BK123.out 1
          go_upto_if 55 with (first | (go_at_call 56; (with_reducible refine (spec_l03Between.calls a3_0 a3_1 a0_0 a0_1 a1_0 a1_1 t143 _ A97.out).mono ?_); rintro e w108 ⟨rfl, hb⟩; have n0_ := Aside0.mk (Kd.R_below (by (with_reducible repeat (first | apply Kd.R_alloc | apply Kd.R_drewN | apply Kd.R_drew)); exact HO_9.out) hb); have n1_ := bd_ BK122 hb; have n2_ := bd_ BK123 hb; have n3_ := bd_ BK124 hb; have n4_ := bd_ BK125 hb; have n5_ := bs_ HB hb; clear HO_9; clear BK122; clear BK123; clear BK124; clear BK125; clear HB; have HO_9 := n0_; have BK122 := n1_; have BK123 := n2_; have BK124 := n3_; have BK125 := n4_; have HB := n5_; clear n0_ n1_ n2_ n3_ n4_ n5_; (try clear hb); (try clear hb2); (try clear hk); (try clear hi)))
          repeat (go_quiet (fail); try go_wp2)
          (try simp only [Act.put, List.setIfInBounds_toArray, List.set_cons_zero, List.set_cons_succ])
          go_cut [9] (fun v9 wc => ∃ (kq : Nat) (x9_97 : List (S55)), Aside0 (spec_l03Seam.j4 kq x9_97 = some r) ∧ Aside0 (kq ≤ kj78) ∧ Aside0 (Kd.R k55 55 wc w.heap.size (fun k_ => k_ ≠ gb122 ∧ k_ ≠ gb123 ∧ k_ ≠ gb124 ∧ k_ ≠ gb125) v9 x9_97) ∧ Aside0 (wc.heap[gb122]? = some (.cells #[.int .i16 a0_0, .int .i16 a0_1] 55 (0, 0))) ∧ Aside0 (wc.heap[gb123]? = some (.cells #[.int .i16 a1_0, .int .i16 a1_1] 55 (0, 0))) ∧ Aside0 (wc.heap[gb124]? = some (.cells #[.int .i16 a2_0, .int .i16 a2_1] 55 (0, 0))) ∧ Aside0 (wc.heap[gb125]? = some (.cells #[.int .i16 a3_0, .int .i16 a3_1] 55 (0, 0))) ∧ Aside0 (Below w.heap.size w wc))
          case first =>
           have H := HC98.out
           clear HC98
           by_cases c109 : t143 = true
           ·
            subst c109
            have H1 : (if x9_78.length < 35184372088832 then (spec_l03Seam.j4 kj78 (x9_78 ++ [(⟨a3_0, a3_1⟩ : S55)])) else (none)) = some r := by rw [if_pos rfl] at H; exact H
            clear H
            have H := H1
            clear H1
            by_cases c110 : x9_78.length < 35184372088832
            ·
             rw [if_pos c110] at H
             have LMc110 := Aside0.mk c110
             clear c110
             obtain ⟨y144, hy144⟩ : ∃ y_ : List (S55), y_ = (x9_78 ++ [(⟨a3_0, a3_1⟩ : S55)]) := ⟨_, rfl⟩
             replace H : (spec_l03Seam.j4 kj78 y144) = some r := by first | (rw [hy144]; with_reducible exact H) | (have H2_ := (Option.bind_some _ _).symm.trans H; rw [hy144]; with_reducible exact H2_) | (have H2_ := (Option.bind_some _ _).symm.trans H; with_reducible exact H2_) | with_reducible exact H | (rw [hy144]; exact H) | exact H
             have Ny144 := Aside0.mk hy144
             clear hy144
             have H' := Aside0.mk H
             clear H
             have hnb111 := NB125_122.out
             have hnc111 := NB122_125.out
             have hnb112 := NB125_123.out
             have hnc112 := NB123_125.out
             have hnb113 := NB125_124.out
             have hnc113 := NB124_125.out
             have hcz114_0 : w108.cell? ⟨gb125, 0, none⟩ = some (.int .i16 a3_0) := (blk_cell BK125.out 0).trans rfl
             have hcz114_1 : w108.cell? ⟨gb125, 1, none⟩ = some (.int .i16 a3_1) := (blk_cell BK125.out 1).trans rfl
             have hfz114_0 := blk_frozen BK125.out 0
             have hfz114_1 := blk_frozen BK125.out 1
             go_wp2_with (first | ((with_reducible refine gate_builtin (b := .append) (xs := #[.tmp 56, .tmp 58]) rfl ?_); at_builtin; refine Kd.R_append k55 (w0 := w) w.heap.size rfl (.tmp 56) (.tmp 58) 26 55 (.agg #[(.int .i16 0), (.int .i16 0)]) 4 rfl Try.underlying26 info55 rfl (by decide) (by omega) u9 x9_78 (⟨a3_0, a3_1⟩ : S55) [.int .i16 a3_0, .int .i16 a3_1] (fun k_ => k_ ≠ gb122 ∧ k_ ≠ gb123 ∧ k_ ≠ gb124 ∧ k_ ≠ gb125) (fun _ => False) rfl rfl ?aP (fun _ hk => hk.elim) ?aF ?aO ?aB ?aS ?aL ?_; (case aP => exact k55_mkM _ _ _ (⟨a3_0, a3_1⟩ : S55)); (case aB => exact (by repeat (first | (with_reducible first | exact HB.out | apply below_alloc | apply pw_below_drewN | apply below_drew1 | refine below_set ?_ GE122.out | refine below_set ?_ GE123.out | refine below_set ?_ GE124.out | refine below_set ?_ GE125.out) | exact HB.out))); (case aF => exact (fun k_ hk => ⟨Kd.freshB (g := gb122) (o := .cells #[.int .i16 a0_0, .int .i16 a0_1] 55 (0, 0)) (by (with_reducible repeat (first | refine blk_drewN ?_ _ | refine blk_drew ?_ | refine blk_alloc ?_ _)); exact BK122.out) k_ hk, Kd.freshB (g := gb123) (o := .cells #[.int .i16 a1_0, .int .i16 a1_1] 55 (0, 0)) (by (with_reducible repeat (first | refine blk_drewN ?_ _ | refine blk_drew ?_ | refine blk_alloc ?_ _)); exact BK123.out) k_ hk, Kd.freshB (g := gb124) (o := .cells #[.int .i16 a2_0, .int .i16 a2_1] 55 (0, 0)) (by (with_reducible repeat (first | refine blk_drewN ?_ _ | refine blk_drew ?_ | refine blk_alloc ?_ _)); exact BK124.out) k_ hk, Kd.freshB (g := gb125) (o := .cells #[.int .i16 a3_0, .int .i16 a3_1] 55 (0, 0)) (by (with_reducible repeat (first | refine blk_drewN ?_ _ | refine blk_drew ?_ | refine blk_alloc ?_ _)); exact BK125.out) k_ hk⟩)); (case aO => exact (by (with_reducible repeat (first | apply Kd.R_alloc | apply Kd.R_drewN | apply Kd.R_drew)); exact HO_9.out)); (case aS => exact (below_size (by repeat (first | (with_reducible first | exact HB.out | apply below_alloc | apply pw_below_drewN | apply below_drew1 | refine below_set ?_ GE122.out | refine below_set ?_ GE123.out | refine below_set ?_ GE124.out | refine below_set ?_ GE125.out) | exact HB.out)))); (case aL => have := LMc110.out; omega); intro v145 w115 ho hb hg hat; rw [← Ny144.out] at ho; have n0_ := Aside0.mk (blk_grown (g := gb122) (o := .cells #[.int .i16 a0_0, .int .i16 a0_1] 55 (0, 0)) (by (with_reducible repeat (first | refine blk_drewN ?_ _ | refine blk_drew ?_ | refine blk_alloc ?_ _)); exact BK122.out) hg (Kd.R_away HO_9.out (fun _ hk => hk.1))); have n1_ := Aside0.mk (blk_grown (g := gb123) (o := .cells #[.int .i16 a1_0, .int .i16 a1_1] 55 (0, 0)) (by (with_reducible repeat (first | refine blk_drewN ?_ _ | refine blk_drew ?_ | refine blk_alloc ?_ _)); exact BK123.out) hg (Kd.R_away HO_9.out (fun _ hk => hk.2.1))); have n2_ := Aside0.mk (blk_grown (g := gb124) (o := .cells #[.int .i16 a2_0, .int .i16 a2_1] 55 (0, 0)) (by (with_reducible repeat (first | refine blk_drewN ?_ _ | refine blk_drew ?_ | refine blk_alloc ?_ _)); exact BK124.out) hg (Kd.R_away HO_9.out (fun _ hk => hk.2.2.1))); have n3_ := Aside0.mk (blk_grown (g := gb125) (o := .cells #[.int .i16 a3_0, .int .i16 a3_1] 55 (0, 0)) (by (with_reducible repeat (first | refine blk_drewN ?_ _ | refine blk_drew ?_ | refine blk_alloc ?_ _)); exact BK125.out) hg (Kd.R_away HO_9.out (fun _ hk => hk.2.2.2))); have n4_ := Aside0.mk (hb); have n5_ := Aside0.mk (ho); clear BK122; clear BK123; clear BK124; clear BK125; clear HB; clear HO_9; have BK122 := n0_; have BK123 := n1_; have BK124 := n2_; have BK125 := n3_; have HB := n4_; have HO146 := n5_; clear n0_ n1_ n2_ n3_ n4_ n5_; clear ho hb hg hat))
             repeat (go_quiet (fail); try go_wp2)
             go_meet
             case rel => exact ⟨_, (y144), H', ⟨by have := HJ4.out; have := HJ38.out; have := HJ59.out; have := HJ78.out; first | omega | exact Nat.le_refl _⟩, ⟨by (with_reducible repeat (first | apply Kd.R_alloc | apply Kd.R_drewN | apply Kd.R_drew)); exact HO146.out⟩, ⟨bk_ BK122⟩, ⟨bk_ BK123⟩, ⟨bk_ BK124⟩, ⟨bk_ BK125⟩, ⟨bl_ HB⟩⟩
            ·
             rw [if_neg c110] at H
             exact absurd H (by simp)
           ·
            replace c109 := Bool.eq_false_iff.mpr c109
            subst c109
            have H1 : (spec_l03Seam.j4 kj78 x9_78) = some r := by rw [if_neg (show ¬ (false = true) by decide)] at H; exact H
            clear H
            have H := H1
            clear H1
            have H' := Aside0.mk H
            clear H
            go_wp2
            repeat (go_quiet (fail); try go_wp2)
            go_meet
            case rel => exact ⟨_, (x9_78), H', ⟨by have := HJ4.out; have := HJ38.out; have := HJ59.out; have := HJ78.out; first | omega | exact Nat.le_refl _⟩, ⟨by (with_reducible repeat (first | apply Kd.R_alloc | apply Kd.R_drewN | apply Kd.R_drew)); exact HO_9.out⟩, ⟨bk_ BK122⟩, ⟨bk_ BK123⟩, ⟨bk_ BK124⟩, ⟨bk_ BK125⟩, ⟨bl_ HB⟩⟩
          case rest =>
           clear HC98
           try clear c1
           try clear c2
           try clear p2
           try clear c3
           try clear c4
           try clear c5
           try clear c6
           try clear c7
           try clear c8
           try clear c9
           try clear c10
           try clear c11
           try clear c11b0
           try clear c11b1
           try clear c13
           try clear c14
           try clear c15
           try clear c17
           try clear c18
           try clear c20
           try clear c27
           try clear c28
           try clear c29
           try clear c31
           try clear c32
           try clear c34
           try clear c37
           try clear c42
           try clear c43
           try clear c44
           try clear c46
           try clear c47
           try clear c49
           try clear c52
           try clear c53
           try clear c54
           try clear c55
           try clear c56
           try clear c61
           try clear c62
           try clear c63
           try clear c65
           try clear c66
           try clear c68
           try clear c71
           try clear c72
           try clear c73
           try clear c74
           try clear c75
           try clear c80
           try clear c81
           try clear c82
           try clear c84
           try clear c85
           try clear c87
           try clear c90
           try clear c91
           try clear c92
           try clear c93
           try clear c94
           try clear c99
           try clear c100
           try clear c101
           try clear c103
           try clear c104
           try clear c106
           try clear c109
           try clear c110
           try clear c111
           try clear c112
           try clear c113
           try clear hcz102_0
           try clear hcz102_1
           try clear hcz105_0
           try clear hcz105_1
           try clear hcz107_0
           try clear hcz107_1
           try clear hcz114_0
           try clear hcz114_1
           try clear hcz16_0
           try clear hcz16_1
           try clear hcz19_0
           try clear hcz19_1
           try clear hcz21_0
           try clear hcz21_1
           try clear hcz23_0
           try clear hcz23_1
           try clear hcz24_0
           try clear hcz24_1
           try clear hcz25_0
           try clear hcz25_1
           try clear hcz30_0
           try clear hcz30_1
           try clear hcz33_0
           try clear hcz33_1
           try clear hcz35_0
           try clear hcz35_1
           try clear hcz45_0
           try clear hcz45_1
           try clear hcz48_0
           try clear hcz48_1
           try clear hcz50_0
           try clear hcz50_1
           try clear hcz57_0
           try clear hcz57_1
           try clear hcz64_0
           try clear hcz64_1
           try clear hcz67_0
           try clear hcz67_1
           try clear hcz69_0
           try clear hcz69_1
           try clear hcz76_0
           try clear hcz76_1
           try clear hcz83_0
           try clear hcz83_1
           try clear hcz86_0
           try clear hcz86_1
           try clear hcz88_0
           try clear hcz88_1
           try clear hcz95_0
           try clear hcz95_1
           try clear hfz102_0
           try clear hfz102_1
           try clear hfz105_0
           try clear hfz105_1
           try clear hfz107_0
           try clear hfz107_1
           try clear hfz114_0
           try clear hfz114_1
           try clear hfz16_0
           try clear hfz16_1
           try clear hfz19_0
           try clear hfz19_1
           try clear hfz21_0
           try clear hfz21_1
           try clear hfz23_0
           try clear hfz23_1
           try clear hfz24_0
           try clear hfz24_1
           try clear hfz25_0
           try clear hfz25_1
           try clear hfz30_0
           try clear hfz30_1
           try clear hfz33_0
           try clear hfz33_1
           try clear hfz35_0
           try clear hfz35_1
           try clear hfz45_0
           try clear hfz45_1
           try clear hfz48_0
           try clear hfz48_1
           try clear hfz50_0
           try clear hfz50_1
           try clear hfz57_0
           try clear hfz57_1
           try clear hfz64_0
           try clear hfz64_1
           try clear hfz67_0
           try clear hfz67_1
           try clear hfz69_0
           try clear hfz69_1
           try clear hfz76_0
           try clear hfz76_1
           try clear hfz83_0
           try clear hfz83_1
           try clear hfz86_0
           try clear hfz86_1
           try clear hfz88_0
           try clear hfz88_1
           try clear hfz95_0
           try clear hfz95_1
           try clear p2
           obtain ⟨kq, x9_97, HA, HJ97, HO_9, BK122, BK123, BK124, BK125, HB⟩ := hcut
           cases kq with
           | zero => exact absurd HA.out (by simp [spec_l03Seam.j4])
           | succ kj97 =>
            have H := HA.out
            clear HA
            simp only [spec_l03Seam.j4] at H
            have H' := Aside0.mk H
            clear H
            go_wp2
            repeat (go_quiet (fail); try go_wp2)
            go_loopg [10, 11] kj97 (fun kq v10 v11 w' => ∃ (x10_6 : Int) (x11_6 : Int), v10 = .int .i64 x10_6 ∧ v11 = .int .i64 x11_6 ∧ Aside0 (spec_l03Seam.l0 kq x9_97 x10_6 x11_6 = some r) ∧ Aside0 (kq ≤ kj97) ∧ Aside0 (Kd.R k55 55 w' w.heap.size (fun k_ => k_ ≠ gb122 ∧ k_ ≠ gb123 ∧ k_ ≠ gb124 ∧ k_ ≠ gb125) u9 x9_97) ∧ Aside0 (w'.heap[gb122]? = some (.cells #[.int .i16 a0_0, .int .i16 a0_1] 55 (0, 0))) ∧ Aside0 (w'.heap[gb123]? = some (.cells #[.int .i16 a1_0, .int .i16 a1_1] 55 (0, 0))) ∧ Aside0 (w'.heap[gb124]? = some (.cells #[.int .i16 a2_0, .int .i16 a2_1] 55 (0, 0))) ∧ Aside0 (w'.heap[gb125]? = some (.cells #[.int .i16 a3_0, .int .i16 a3_1] 55 (0, 0))) ∧ Aside0 (Below w.heap.size w w'))
            case atStart => exact ⟨(0), (0), (by first | rfl | (simp; done) | (simp [*]; done)), (by first | rfl | (simp; done) | (simp [*]; done)), H', ⟨Nat.le_refl _⟩, ⟨by (with_reducible repeat (first | apply Kd.R_alloc | apply Kd.R_drewN | apply Kd.R_drew)); exact HO_9.out⟩, ⟨bk_ BK122⟩, ⟨bk_ BK123⟩, ⟨bk_ BK124⟩, ⟨bk_ BK125⟩, ⟨bl_ HB⟩⟩
            case round =>
             clear H'
             try clear c1
             try clear c2
             try clear p2
             try clear c3
             try clear c4
             try clear c5
             try clear c6
             try clear c7
             try clear c8
             try clear c9
             try clear c10
             try clear c11
             try clear c11b0
             try clear c11b1
             try clear c13
             try clear c14
             try clear c15
             try clear c17
             try clear c18
             try clear c20
             try clear c27
             try clear c28
             try clear c29
             try clear c31
             try clear c32
             try clear c34
             try clear c37
             try clear c42
             try clear c43
             try clear c44
             try clear c46
             try clear c47
             try clear c49
             try clear c52
             try clear c53
             try clear c54
             try clear c55
             try clear c56
             try clear c61
             try clear c62
             try clear c63
             try clear c65
             try clear c66
             try clear c68
             try clear c71
             try clear c72
             try clear c73
             try clear c74
             try clear c75
             try clear c80
             try clear c81
             try clear c82
             try clear c84
             try clear c85
             try clear c87
             try clear c90
             try clear c91
             try clear c92
             try clear c93
             try clear c94
             try clear c99
             try clear c100
             try clear c101
             try clear c103
             try clear c104
             try clear c106
             try clear c109
             try clear c110
             try clear c111
             try clear c112
             try clear c113
             try clear hcz102_0
             try clear hcz102_1
             try clear hcz105_0
             try clear hcz105_1
             try clear hcz107_0
             try clear hcz107_1
             try clear hcz114_0
             try clear hcz114_1
             try clear hcz16_0
             try clear hcz16_1
             try clear hcz19_0
             try clear hcz19_1
             try clear hcz21_0
             try clear hcz21_1
             try clear hcz23_0
             try clear hcz23_1
             try clear hcz24_0
             try clear hcz24_1
             try clear hcz25_0
             try clear hcz25_1
             try clear hcz30_0
             try clear hcz30_1
             try clear hcz33_0
             try clear hcz33_1
             try clear hcz35_0
             try clear hcz35_1
             try clear hcz45_0
             try clear hcz45_1
             try clear hcz48_0
             try clear hcz48_1
             try clear hcz50_0
             try clear hcz50_1
             try clear hcz57_0
             try clear hcz57_1
             try clear hcz64_0
             try clear hcz64_1
             try clear hcz67_0
             try clear hcz67_1
             try clear hcz69_0
             try clear hcz69_1
             try clear hcz76_0
             try clear hcz76_1
             try clear hcz83_0
             try clear hcz83_1
             try clear hcz86_0
             try clear hcz86_1
             try clear hcz88_0
             try clear hcz88_1
             try clear hcz95_0
             try clear hcz95_1
             try clear hfz102_0
             try clear hfz102_1
             try clear hfz105_0
             try clear hfz105_1
             try clear hfz107_0
             try clear hfz107_1
             try clear hfz114_0
             try clear hfz114_1
             try clear hfz16_0
             try clear hfz16_1
             try clear hfz19_0
             try clear hfz19_1
             try clear hfz21_0
             try clear hfz21_1
             try clear hfz23_0
             try clear hfz23_1
             try clear hfz24_0
             try clear hfz24_1
             try clear hfz25_0
             try clear hfz25_1
             try clear hfz30_0
             try clear hfz30_1
             try clear hfz33_0
             try clear hfz33_1
             try clear hfz35_0
             try clear hfz35_1
             try clear hfz45_0
             try clear hfz45_1
             try clear hfz48_0
             try clear hfz48_1
             try clear hfz50_0
             try clear hfz50_1
             try clear hfz57_0
             try clear hfz57_1
             try clear hfz64_0
             try clear hfz64_1
             try clear hfz67_0
             try clear hfz67_1
             try clear hfz69_0
             try clear hfz69_1
             try clear hfz76_0
             try clear hfz76_1
             try clear hfz83_0
             try clear hfz83_1
             try clear hfz86_0
             try clear hfz86_1
             try clear hfz88_0
             try clear hfz88_1
             try clear hfz95_0
             try clear hfz95_1
             try clear p2
             obtain ⟨x10_6, x11_6, rfl, rfl, HA, HK6, HO_9, BK122, BK123, BK124, BK125, HB⟩ := hrel
             cases gk with
             | zero => exact absurd HA.out (by simp [spec_l03Seam.l0])
             | succ k6 =>
              have H := HA.out
              clear HA
              simp only [spec_l03Seam.l0] at H
              by_cases c116 : x11_6 < (x9_97.length : Int)
              ·
               rw [if_pos c116] at H
               have c116b0 : decide (x11_6 < (x9_97.length : Int)) = true := decide_eq_true c116
               clear c116
               have H' := Aside0.mk H
               clear H
               obtain ⟨Ao117, co117, eo117⟩ := Kd.R_slice HO_9.out
               subst eo117
               go_wp2
               repeat (go_quiet (fail); try go_wp2)
               go_loopg [10, 12] k6 (fun kq v10 v12 w' => ∃ (x10_7 : Int) (x12_7 : Int), v10 = .int .i64 x10_7 ∧ v12 = .int .i64 x12_7 ∧ Aside0 (spec_l03Seam.l1 kq x9_97 x10_7 x11_6 x12_7 = some r) ∧ Aside0 (kq ≤ k6) ∧ Aside0 (Kd.R k55 55 w' w.heap.size (fun k_ => k_ ≠ gb122 ∧ k_ ≠ gb123 ∧ k_ ≠ gb124 ∧ k_ ≠ gb125) (.slice Ao117 x9_97.length co117) x9_97) ∧ Aside0 (w'.heap[gb122]? = some (.cells #[.int .i16 a0_0, .int .i16 a0_1] 55 (0, 0))) ∧ Aside0 (w'.heap[gb123]? = some (.cells #[.int .i16 a1_0, .int .i16 a1_1] 55 (0, 0))) ∧ Aside0 (w'.heap[gb124]? = some (.cells #[.int .i16 a2_0, .int .i16 a2_1] 55 (0, 0))) ∧ Aside0 (w'.heap[gb125]? = some (.cells #[.int .i16 a3_0, .int .i16 a3_1] 55 (0, 0))) ∧ Aside0 (Below w.heap.size w w'))
               case atStart => exact ⟨(x10_6), (0), (by first | rfl | (simp; done) | (simp [*]; done)), (by first | rfl | (simp; done) | (simp [*]; done)), H', ⟨Nat.le_refl _⟩, ⟨by (with_reducible repeat (first | apply Kd.R_alloc | apply Kd.R_drewN | apply Kd.R_drew)); exact HO_9.out⟩, ⟨bk_ BK122⟩, ⟨bk_ BK123⟩, ⟨bk_ BK124⟩, ⟨bk_ BK125⟩, ⟨bl_ HB⟩⟩
               case round =>
                clear H'
                try clear c1
                try clear c2
                try clear p2
                try clear c3
                try clear c4
                try clear c5
                try clear c6
                try clear c7
                try clear c8
                try clear c9
                try clear c10
                try clear c11
                try clear c11b0
                try clear c11b1
                try clear c13
                try clear c14
                try clear c15
                try clear c17
                try clear c18
                try clear c20
                try clear c27
                try clear c28
                try clear c29
                try clear c31
                try clear c32
                try clear c34
                try clear c37
                try clear c42
                try clear c43
                try clear c44
                try clear c46
                try clear c47
                try clear c49
                try clear c52
                try clear c53
                try clear c54
                try clear c55
                try clear c56
                try clear c61
                try clear c62
                try clear c63
                try clear c65
                try clear c66
                try clear c68
                try clear c71
                try clear c72
                try clear c73
                try clear c74
                try clear c75
                try clear c80
                try clear c81
                try clear c82
                try clear c84
                try clear c85
                try clear c87
                try clear c90
                try clear c91
                try clear c92
                try clear c93
                try clear c94
                try clear c99
                try clear c100
                try clear c101
                try clear c103
                try clear c104
                try clear c106
                try clear c109
                try clear c110
                try clear c111
                try clear c112
                try clear c113
                try clear c116
                try clear c116b0
                try clear hcz102_0
                try clear hcz102_1
                try clear hcz105_0
                try clear hcz105_1
                try clear hcz107_0
                try clear hcz107_1
                try clear hcz114_0
                try clear hcz114_1
                try clear hcz16_0
                try clear hcz16_1
                try clear hcz19_0
                try clear hcz19_1
                try clear hcz21_0
                try clear hcz21_1
                try clear hcz23_0
                try clear hcz23_1
                try clear hcz24_0
                try clear hcz24_1
                try clear hcz25_0
                try clear hcz25_1
                try clear hcz30_0
                try clear hcz30_1
                try clear hcz33_0
                try clear hcz33_1
                try clear hcz35_0
                try clear hcz35_1
                try clear hcz45_0
                try clear hcz45_1
                try clear hcz48_0
                try clear hcz48_1
                try clear hcz50_0
                try clear hcz50_1
                try clear hcz57_0
                try clear hcz57_1
                try clear hcz64_0
                try clear hcz64_1
                try clear hcz67_0
                try clear hcz67_1
                try clear hcz69_0
                try clear hcz69_1
                try clear hcz76_0
                try clear hcz76_1
                try clear hcz83_0
                try clear hcz83_1
                try clear hcz86_0
                try clear hcz86_1
                try clear hcz88_0
                try clear hcz88_1
                try clear hcz95_0
                try clear hcz95_1
                try clear hfz102_0
                try clear hfz102_1
                try clear hfz105_0
                try clear hfz105_1
                try clear hfz107_0
                try clear hfz107_1
                try clear hfz114_0
                try clear hfz114_1
                try clear hfz16_0
                try clear hfz16_1
                try clear hfz19_0
                try clear hfz19_1
                try clear hfz21_0
                try clear hfz21_1
                try clear hfz23_0
                try clear hfz23_1
                try clear hfz24_0
                try clear hfz24_1
                try clear hfz25_0
                try clear hfz25_1
                try clear hfz30_0
                try clear hfz30_1
                try clear hfz33_0
                try clear hfz33_1
                try clear hfz35_0
                try clear hfz35_1
                try clear hfz45_0
                try clear hfz45_1
                try clear hfz48_0
                try clear hfz48_1
                try clear hfz50_0
                try clear hfz50_1
                try clear hfz57_0
                try clear hfz57_1
                try clear hfz64_0
                try clear hfz64_1
                try clear hfz67_0
                try clear hfz67_1
                try clear hfz69_0
                try clear hfz69_1
                try clear hfz76_0
                try clear hfz76_1
                try clear hfz83_0
                try clear hfz83_1
                try clear hfz86_0
                try clear hfz86_1
                try clear hfz88_0
                try clear hfz88_1
                try clear hfz95_0
                try clear hfz95_1
                try clear p2
                obtain ⟨x10_7, x12_7, rfl, rfl, HA, HK7, HO_9, BK122, BK123, BK124, BK125, HB⟩ := hrel
                cases gk with
                | zero => exact absurd HA.out (by simp [spec_l03Seam.l1])
                | succ k7 =>
                 have H := HA.out
                 clear HA
                 simp only [spec_l03Seam.l1] at H
                 by_cases c118 : x12_7 < x11_6
                 ·
                  rw [if_pos c118] at H
                  have c118b0 : decide (x12_7 < x11_6) = true := decide_eq_true c118
                  clear c118
                  by_cases c119 : 0 ≤ x11_6
                  ·
                   rw [if_pos c119] at H
                   have c119b0 : decide (0 ≤ x11_6) = true := decide_eq_true c119
                   clear c119
                   by_cases c120 : x11_6 < (x9_97.length : Int)
                   ·
                    rw [if_pos c120] at H
                    have c120b0 : decide (x11_6 < (x9_97.length : Int)) = true := decide_eq_true c120
                    clear c120
                    by_cases c121 : 0 ≤ x12_7
                    ·
                     rw [if_pos c121] at H
                     have c121b0 : decide (0 ≤ x12_7) = true := decide_eq_true c121
                     clear c121
                     by_cases c122 : x12_7 < (x9_97.length : Int)
                     ·
                      rw [if_pos c122] at H
                      have c122b0 : decide (x12_7 < (x9_97.length : Int)) = true := decide_eq_true c122
                      clear c122
                      replace H := Option.bind_eq_some_iff.mp H
                      obtain ⟨t151, A1230, H⟩ := H
                      replace H : (spec_l03Seam.l1 k7 x9_97 t151 x11_6 (wrap64 (x12_7 + 1))) = some r := H
                      have A123 := Aside0.mk A1230
                      clear A1230
                      have H' := Aside0.mk H
                      clear H
                      have p147 : 0 ≤ (x11_6 : Int) := of_decide_eq_true (by first | (with_reducible assumption) | assumption)
                      have q147 : x11_6 < (x9_97.length : Int) := of_decide_eq_true (by first | (with_reducible assumption) | assumption)
                      obtain ⟨ad147, e147, hx147_0, hx147_1⟩ := at_T55 (Kd.R_reads' HO_9.out).2.2 x11_6 p147 q147
                      cases e147
                      replace p147 := eq_true p147
                      replace q147 := eq_true q147
                      have p148 : 0 ≤ (x12_7 : Int) := of_decide_eq_true (by first | (with_reducible assumption) | assumption)
                      have q148 : x12_7 < (x9_97.length : Int) := of_decide_eq_true (by first | (with_reducible assumption) | assumption)
                      obtain ⟨ad148, e148, hx148_0, hx148_1⟩ := at_T55 (Kd.R_reads' HO_9.out).2.2 x12_7 p148 q148
                      obtain rfl : ad147 = ad148 := (by injection e148)
                      replace p148 := eq_true p148
                      replace q148 := eq_true q148
                      have p149 : 0 ≤ (x11_6 : Int) := of_decide_eq_true (by first | (with_reducible assumption) | assumption)
                      have q149 : x11_6 < (x9_97.length : Int) := of_decide_eq_true (by first | (with_reducible assumption) | assumption)
                      obtain ⟨ad149, e149, hx149_0, hx149_1⟩ := at_T55 (Kd.R_reads' HO_9.out).2.2 x11_6 p149 q149
                      obtain rfl : ad147 = ad149 := (by injection e149)
                      replace p149 := eq_true p149
                      replace q149 := eq_true q149
                      have p150 : 0 ≤ (x12_7 : Int) := of_decide_eq_true (by first | (with_reducible assumption) | assumption)
                      have q150 : x12_7 < (x9_97.length : Int) := of_decide_eq_true (by first | (with_reducible assumption) | assumption)
                      obtain ⟨ad150, e150, hx150_0, hx150_1⟩ := at_T55 (Kd.R_reads' HO_9.out).2.2 x12_7 p150 q150
                      obtain rfl : ad147 = ad150 := (by injection e150)
                      replace p150 := eq_true p150
                      replace q150 := eq_true q150
                      go_wp2_with (first | (go_at_call 41; (with_reducible refine (spec_l00Max.calls x10_7 (wrap64 ((wrap64 ((wrap64 ((wrap64 ((rd_T55 x9_97 x11_6).f0)) - (wrap64 ((rd_T55 x9_97 x12_7).f0)))) * (wrap64 ((wrap64 ((rd_T55 x9_97 x11_6).f0)) - (wrap64 ((rd_T55 x9_97 x12_7).f0)))))) + (wrap64 ((wrap64 ((wrap64 ((rd_T55 x9_97 x11_6).f1)) - (wrap64 ((rd_T55 x9_97 x12_7).f1)))) * (wrap64 ((wrap64 ((rd_T55 x9_97 x11_6).f1)) - (wrap64 ((rd_T55 x9_97 x12_7).f1)))))))) t151 _ A123.out).mono ?_); rintro e w' ⟨rfl, ⟨nd, rfl⟩⟩; (try first | exact ⟨rfl, _, World.drewN_drewN _ _ _⟩ | exact ⟨rfl, _, Eq.trans (World.drewN_drewN _ _ _) (congrArg (World.drewN _) (Nat.add_assoc _ _ _))⟩)))
                      repeat (go_quiet (first | (go_at_call 41; (with_reducible refine (spec_l00Max.calls x10_7 (wrap64 ((wrap64 ((wrap64 ((wrap64 ((rd_T55 x9_97 x11_6).f0)) - (wrap64 ((rd_T55 x9_97 x12_7).f0)))) * (wrap64 ((wrap64 ((rd_T55 x9_97 x11_6).f0)) - (wrap64 ((rd_T55 x9_97 x12_7).f0)))))) + (wrap64 ((wrap64 ((wrap64 ((rd_T55 x9_97 x11_6).f1)) - (wrap64 ((rd_T55 x9_97 x12_7).f1)))) * (wrap64 ((wrap64 ((rd_T55 x9_97 x11_6).f1)) - (wrap64 ((rd_T55 x9_97 x12_7).f1)))))))) t151 _ A123.out).mono ?_); rintro e w' ⟨rfl, ⟨nd, rfl⟩⟩; (try first | exact ⟨rfl, _, World.drewN_drewN _ _ _⟩ | exact ⟨rfl, _, Eq.trans (World.drewN_drewN _ _ _) (congrArg (World.drewN _) (Nat.add_assoc _ _ _))⟩))); try go_wp2_with (first | (go_at_call 41; (with_reducible refine (spec_l00Max.calls x10_7 (wrap64 ((wrap64 ((wrap64 ((wrap64 ((rd_T55 x9_97 x11_6).f0)) - (wrap64 ((rd_T55 x9_97 x12_7).f0)))) * (wrap64 ((wrap64 ((rd_T55 x9_97 x11_6).f0)) - (wrap64 ((rd_T55 x9_97 x12_7).f0)))))) + (wrap64 ((wrap64 ((wrap64 ((rd_T55 x9_97 x11_6).f1)) - (wrap64 ((rd_T55 x9_97 x12_7).f1)))) * (wrap64 ((wrap64 ((rd_T55 x9_97 x11_6).f1)) - (wrap64 ((rd_T55 x9_97 x12_7).f1)))))))) t151 _ A123.out).mono ?_); rintro e w' ⟨rfl, ⟨nd, rfl⟩⟩; (try first | exact ⟨rfl, _, World.drewN_drewN _ _ _⟩ | exact ⟨rfl, _, Eq.trans (World.drewN_drewN _ _ _) (congrArg (World.drewN _) (Nat.add_assoc _ _ _))⟩))))
                      go_roundg k7
                      case measure => have := HJ4.out; have := HJ38.out; have := HJ59.out; have := HJ78.out; have := HJ97.out; have := HK6.out; have := HK7.out; omega
                      case rel => exact ⟨(t151), (wrap64 (x12_7 + 1)), (by first | rfl | (simp; done) | (simp [*]; done)), (by first | rfl | (simp; done) | (simp [*]; done)), H', ⟨by have := HJ4.out; have := HJ38.out; have := HJ59.out; have := HJ78.out; have := HJ97.out; have := HK6.out; have := HK7.out; omega⟩, ⟨by (with_reducible repeat (first | apply Kd.R_alloc | apply Kd.R_drewN | apply Kd.R_drew)); exact HO_9.out⟩, ⟨bk_ BK122⟩, ⟨bk_ BK123⟩, ⟨bk_ BK124⟩, ⟨bk_ BK125⟩, ⟨bl_ HB⟩⟩
                     ·
                      rw [if_neg c122] at H
                      exact absurd H (by simp)
                    ·
                     rw [if_neg c121] at H
                     exact absurd H (by simp)
                   ·
                    rw [if_neg c120] at H
                    exact absurd H (by simp)
                  ·
                   rw [if_neg c119] at H
                   exact absurd H (by simp)
                 ·
                  rw [if_neg c118] at H
                  have c118b0 : decide (x12_7 < x11_6) = false := decide_eq_false c118
                  clear c118
                  have H' := Aside0.mk H
                  clear H
                  go_wp2
                  repeat (go_quiet (fail); try go_wp2)
                  go_roundg k7
                  case measure => have := HJ4.out; have := HJ38.out; have := HJ59.out; have := HJ78.out; have := HJ97.out; have := HK6.out; have := HK7.out; omega
                  case rel => exact ⟨(x10_7), (wrap64 (x11_6 + 1)), (by first | rfl | (simp; done) | (simp [*]; done)), (by first | rfl | (simp; done) | (simp [*]; done)), H', ⟨by have := HJ4.out; have := HJ38.out; have := HJ59.out; have := HJ78.out; have := HJ97.out; have := HK6.out; have := HK7.out; omega⟩, ⟨by (with_reducible repeat (first | apply Kd.R_alloc | apply Kd.R_drewN | apply Kd.R_drew)); exact HO_9.out⟩, ⟨bk_ BK122⟩, ⟨bk_ BK123⟩, ⟨bk_ BK124⟩, ⟨bk_ BK125⟩, ⟨bl_ HB⟩⟩
              ·
               rw [if_neg c116] at H
               have c116b0 : decide (x11_6 < (x9_97.length : Int)) = false := decide_eq_false c116
               clear c116
               obtain rfl := Option.some.inj H
               obtain ⟨Ao124, co124, eo124⟩ := Kd.R_slice HO_9.out
               subst eo124
               go_wp2
               repeat (go_quiet (fail); try go_wp2)
               go_ret
               exact ⟨by first | rfl | (simp [errW_none, errW_some] <;> rfl) | (simp [*, errW_none, errW_some] <;> rfl), bl_ HB⟩

end Go.Proofs.Ytohhcomokcdbfaa.PA
