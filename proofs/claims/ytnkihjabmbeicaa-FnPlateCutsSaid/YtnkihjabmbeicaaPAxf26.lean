/- Pure functions, and that Go's functions come to them. -/
import Derived.Test.YtnkihjabmbeicaaPAx0
import Derived.Test.YtnkihjabmbeicaaPAxf28
import Derived.Test.YtnkihjabmbeicaaPAxf29
import Derived.Test.YtnkihjabmbeicaaPAxgKinds
namespace Go.Proofs.Ytnkihjabmbeicaa.PA
open Go.RowKit Go.Proofs.YtnkihjabmbeicaaW.PrintWords Go.Proofs.YtnkihjabmbeicaaW.PrintLast Go.Proofs.YtnkihjabmbeicaaW.PrintMore
set_option linter.unusedVariables false
set_option linter.unusedSimpArgs false

/-! ### impl_cutter_add: function 26 -/
theorem impl_cutter_add.bd_ {w W w' : World} {g : Nat} {o : Obj} (H : Aside0 (w.heap[g]? = some o)) (hb : Below W.heap.size W w') (h : w.heap[g]? = some o → W.heap[g]? = some o := by intro h_; (with_reducible repeat (first | refine blk_drewN ?_ _ | refine blk_drew ?_ | refine blk_alloc ?_ _)); exact h_) : Aside0 (w'.heap[g]? = some o) := ⟨blk_below (h H.out) hb⟩
theorem impl_cutter_add.bg_ {w W w' : World} {g : Nat} {o : Obj} {row : Option Nat} (H : Aside0 (w.heap[g]? = some o)) (hg : W.grownBy w' row) (hne : some g ≠ row) (h : w.heap[g]? = some o → W.heap[g]? = some o) : Aside0 (w'.heap[g]? = some o) := ⟨blk_grown (h H.out) hg hne⟩
def impl_cutter_add.isK (v a b : Int) (x : S46) : Option Bool := if wrap64 x.f0 = a then (if wrap64 x.f1 = b then some (decide (wrap64 x.f2 = v)) else some false) else some false
def impl_cutter_add.find (v a b : Int) (l : List (S46)) : Option Int := Base.idxO (impl_cutter_add.isK v a b) l 0
set_option maxHeartbeats 4000000 in
set_option maxRecDepth 100000 in
theorem impl_cutter_add.cl_calls (x : S46) (gw gh gv : Nat) (v a b : Int) (q : Bool) (W : World) (h1 : W.heap[gw]? = some (.cells #[.int .i64 a] 2 (0, 0))) (h2 : W.heap[gh]? = some (.cells #[.int .i64 b] 2 (0, 0))) (h3 : W.heap[gv]? = some (.cells #[.int .i64 v] 2 (0, 0))) (h : impl_cutter_add.isK v a b x = some q) :
  Calls Try.prog 41 #[.agg #[.int .i8 x.f0, .int .i8 x.f1, .int .i16 x.f2], .pointer (some ⟨gw, 0, none⟩), .pointer (some ⟨gh, 0, none⟩), .pointer (some ⟨gv, 0, none⟩)] W fun e w' => e = .returned (.bool q) ∧ Below W.heap.size W w' := by
 have H1 := Aside0.mk h1
 have H2 := Aside0.mk h2
 have H3 := Aside0.mk h3
 clear h1 h2 h3
 unfold impl_cutter_add.isK at h
 rcases (Decidable.em (wrap64 x.f0 = a)).symm with c0 | c0
 ·
  rw [if_neg c0] at h
  have b0 : (wrap64 x.f0 == a) = false := beq_eq_false_iff_ne.mpr c0
  clear c0
  obtain rfl := Option.some.inj h
  clear h
  go_enter Try.func41, Try.ntmps41
  go_wp2_with (first | ((with_reducible refine gate_dst (N := 4) rfl ?_); refine boxM_ 4 #[.int .i8 x.f0, .int .i8 x.f1, .int .i16 x.f2] 46 ?_; intro gb hg w1 hbox hb; have hx0 : w1.cell? ⟨gb, 0, none⟩ = some (.int .i8 x.f0) := (blk_cell hbox 0).trans rfl; have hx1 : w1.cell? ⟨gb, 1, none⟩ = some (.int .i8 x.f1) := (blk_cell hbox 1).trans rfl; have hx2 : w1.cell? ⟨gb, 2, none⟩ = some (.int .i16 x.f2) := (blk_cell hbox 2).trans rfl; have hw1 : w1.cell? ⟨gw, 0, none⟩ = some (.int .i64 a) := (blk_cell (blk_below H1.out hb) 0).trans rfl; have hw2 : w1.cell? ⟨gh, 0, none⟩ = some (.int .i64 b) := (blk_cell (blk_below H2.out hb) 0).trans rfl; have hw3 : w1.cell? ⟨gv, 0, none⟩ = some (.int .i64 v) := (blk_cell (blk_below H3.out hb) 0).trans rfl; have HB := Aside0.mk hb; clear hb hbox hg))
  go_ret
  exact ⟨by first | rfl | (simp; done) | (simp [*]; done), HB.out⟩
 rw [if_pos c0] at h
 have b0 : (wrap64 x.f0 == a) = true := beq_iff_eq.mpr c0
 clear c0
 rcases (Decidable.em (wrap64 x.f1 = b)).symm with c1 | c1
 ·
  rw [if_neg c1] at h
  have b1 : (wrap64 x.f1 == b) = false := beq_eq_false_iff_ne.mpr c1
  clear c1
  obtain rfl := Option.some.inj h
  clear h
  go_enter Try.func41, Try.ntmps41
  go_wp2_with (first | ((with_reducible refine gate_dst (N := 4) rfl ?_); refine boxM_ 4 #[.int .i8 x.f0, .int .i8 x.f1, .int .i16 x.f2] 46 ?_; intro gb hg w1 hbox hb; have hx0 : w1.cell? ⟨gb, 0, none⟩ = some (.int .i8 x.f0) := (blk_cell hbox 0).trans rfl; have hx1 : w1.cell? ⟨gb, 1, none⟩ = some (.int .i8 x.f1) := (blk_cell hbox 1).trans rfl; have hx2 : w1.cell? ⟨gb, 2, none⟩ = some (.int .i16 x.f2) := (blk_cell hbox 2).trans rfl; have hw1 : w1.cell? ⟨gw, 0, none⟩ = some (.int .i64 a) := (blk_cell (blk_below H1.out hb) 0).trans rfl; have hw2 : w1.cell? ⟨gh, 0, none⟩ = some (.int .i64 b) := (blk_cell (blk_below H2.out hb) 0).trans rfl; have hw3 : w1.cell? ⟨gv, 0, none⟩ = some (.int .i64 v) := (blk_cell (blk_below H3.out hb) 0).trans rfl; have HB := Aside0.mk hb; clear hb hbox hg))
  go_ret
  exact ⟨by first | rfl | (simp; done) | (simp [*]; done), HB.out⟩
 rw [if_pos c1] at h
 have b1 : (wrap64 x.f1 == b) = true := beq_iff_eq.mpr c1
 clear c1
 by_cases c2 : wrap64 x.f2 = v
 ·
  rw [decide_eq_true c2] at h
  have b2 : (wrap64 x.f2 == v) = true := beq_iff_eq.mpr c2
  clear c2
  obtain rfl := Option.some.inj h
  clear h
  go_enter Try.func41, Try.ntmps41
  go_wp2_with (first | ((with_reducible refine gate_dst (N := 4) rfl ?_); refine boxM_ 4 #[.int .i8 x.f0, .int .i8 x.f1, .int .i16 x.f2] 46 ?_; intro gb hg w1 hbox hb; have hx0 : w1.cell? ⟨gb, 0, none⟩ = some (.int .i8 x.f0) := (blk_cell hbox 0).trans rfl; have hx1 : w1.cell? ⟨gb, 1, none⟩ = some (.int .i8 x.f1) := (blk_cell hbox 1).trans rfl; have hx2 : w1.cell? ⟨gb, 2, none⟩ = some (.int .i16 x.f2) := (blk_cell hbox 2).trans rfl; have hw1 : w1.cell? ⟨gw, 0, none⟩ = some (.int .i64 a) := (blk_cell (blk_below H1.out hb) 0).trans rfl; have hw2 : w1.cell? ⟨gh, 0, none⟩ = some (.int .i64 b) := (blk_cell (blk_below H2.out hb) 0).trans rfl; have hw3 : w1.cell? ⟨gv, 0, none⟩ = some (.int .i64 v) := (blk_cell (blk_below H3.out hb) 0).trans rfl; have HB := Aside0.mk hb; clear hb hbox hg))
  go_ret
  exact ⟨by first | rfl | (simp; done) | (simp [*]; done), HB.out⟩
 ·
  rw [decide_eq_false c2] at h
  have b2 : (wrap64 x.f2 == v) = false := beq_eq_false_iff_ne.mpr c2
  clear c2
  obtain rfl := Option.some.inj h
  clear h
  go_enter Try.func41, Try.ntmps41
  go_wp2_with (first | ((with_reducible refine gate_dst (N := 4) rfl ?_); refine boxM_ 4 #[.int .i8 x.f0, .int .i8 x.f1, .int .i16 x.f2] 46 ?_; intro gb hg w1 hbox hb; have hx0 : w1.cell? ⟨gb, 0, none⟩ = some (.int .i8 x.f0) := (blk_cell hbox 0).trans rfl; have hx1 : w1.cell? ⟨gb, 1, none⟩ = some (.int .i8 x.f1) := (blk_cell hbox 1).trans rfl; have hx2 : w1.cell? ⟨gb, 2, none⟩ = some (.int .i16 x.f2) := (blk_cell hbox 2).trans rfl; have hw1 : w1.cell? ⟨gw, 0, none⟩ = some (.int .i64 a) := (blk_cell (blk_below H1.out hb) 0).trans rfl; have hw2 : w1.cell? ⟨gh, 0, none⟩ = some (.int .i64 b) := (blk_cell (blk_below H2.out hb) 0).trans rfl; have hw3 : w1.cell? ⟨gv, 0, none⟩ = some (.int .i64 v) := (blk_cell (blk_below H3.out hb) 0).trans rfl; have HB := Aside0.mk hb; clear hb hbox hg))
  go_ret
  exact ⟨by first | rfl | (simp; done) | (simp [*]; done), HB.out⟩
theorem impl_cutter_add.find_calls (gw gh gv : Nat) (v a b : Int) (A : Option Addr) (c : Nat) (l : List (S46)) (r : Int) (w : World) (hr : Kd.C k46 w A l.length l) (hc : l.length ≤ c) (h1 : w.heap[gw]? = some (.cells #[.int .i64 a] 2 (0, 0))) (h2 : w.heap[gh]? = some (.cells #[.int .i64 b] 2 (0, 0))) (h3 : w.heap[gv]? = some (.cells #[.int .i64 v] 2 (0, 0))) (h : impl_cutter_add.find v a b l = some r) :
  Calls Try.prog 40 #[.slice A l.length c, .func (.func 41) #[] #[.pointer (some ⟨gw, 0, none⟩), .pointer (some ⟨gh, 0, none⟩), .pointer (some ⟨gv, 0, none⟩)]] w fun e w' => e = .returned (.int .i64 r) ∧ Below w.heap.size w w' :=
 impl_Kind_40.anyB 41 #[.pointer (some ⟨gw, 0, none⟩), .pointer (some ⟨gh, 0, none⟩), .pointer (some ⟨gv, 0, none⟩)] (enters_of Try.func41 (by kernel_rfl) rfl) (impl_cutter_add.isK v a b) A c l r w hr hc h
  (fun W x q hb _ hx => (impl_cutter_add.cl_calls x gw gh gv v a b q W (blk_below h1 hb) (blk_below h2 hb) (blk_below h3 hb) hx).mono fun e w' h => ⟨h.1, below_then hb hb.size h.2⟩)
mutual
def impl_cutter_add.j1 : Nat → List (S48) → List Int → List (S46) → Int → Int → Int → Int → Int → Int → Option ((List (S48)) × Int × Bool)
 | 0, _, _, _, _, _, _, _, _, _ => none
 | k + 1, x0, x3, x4, x8, x11, x12, x133000, x134000, x136000 => if x12 ≥ x133000 then (impl_cutter_add.l1 k x0 x3 x4 x8 3 1 x133000 x134000 x136000) else (impl_cutter_add.j3 k x0 x3 x4 x8 x11 x12 x12 x134000 (wrap64 (x133000 - x12)) x134000)
def impl_cutter_add.j3 : Nat → List (S48) → List Int → List (S46) → Int → Int → Int → Int → Int → Int → Int → Option ((List (S48)) × Int × Bool)
 | 0, _, _, _, _, _, _, _, _, _, _ => none
 | k + 1, x0, x3, x4, x8, x11, x12, x144000, x144001, x145000, x145001 => (impl_cutter_add.f k x0 x144000 x144001 x3 x4).bind fun bt147 => (if bt147.2.2 = true then ((impl_cutter_add.f k bt147.1 x145000 x145001 x3 x4).bind fun bt152 => (if 0 ≤ x8 then (if x8 < (bt152.1.length : Int) then (some ((bt152.1.set (x8 : Int).toNat (⟨x11, IntKind.i8.wrap (x12), bt147.2.1, bt152.2.1⟩ : S48)), IntKind.i8.wrap (x8), bt152.2.2)) else (none)) else (none))) else (some (bt147.1, 0, false)))
def impl_cutter_add.l1 : Nat → List (S48) → List Int → List (S46) → Int → Int → Int → Int → Int → Int → Option ((List (S48)) × Int × Bool)
 | 0, _, _, _, _, _, _, _, _, _ => none
 | k + 1, x0, x3, x4, x8, x11, x12, x133000, x134000, x136000 => if 0 ≤ x133000 then (if x133000 < 25 then (if 0 ≤ x12 then (if x12 < 25 then (if 0 ≤ (wrap64 (x134000 - x12)) then (if (wrap64 (x134000 - x12)) < 25 then (if (wrap64 ((rd x3 (x133000 * 25 + x12)) + (rd x3 (x133000 * 25 + (wrap64 (x134000 - x12)))))) = x136000 then (impl_cutter_add.j3 k x0 x3 x4 x8 x11 x12 x133000 x12 x133000 (wrap64 (x134000 - x12))) else (impl_cutter_add.l1 k x0 x3 x4 x8 x11 (wrap64 (x12 + 1)) x133000 x134000 x136000)) else (none)) else (none)) else (none)) else (none)) else (none)) else (none)
def impl_cutter_add.l0 : Nat → List (S48) → List Int → List (S46) → Int → Int → Int → Int → Int → Int → Option ((List (S48)) × Int × Bool)
 | 0, _, _, _, _, _, _, _, _, _ => none
 | k + 1, x0, x3, x4, x8, x11, x12, x133000, x134000, x136000 => if x12 < x133000 then (if 0 ≤ x12 then (if x12 < 25 then (if 0 ≤ x134000 then (if x134000 < 25 then (if 0 ≤ (wrap64 (x133000 - x12)) then (if (wrap64 (x133000 - x12)) < 25 then (if (wrap64 ((rd x3 (x12 * 25 + x134000)) + (rd x3 ((wrap64 (x133000 - x12)) * 25 + x134000)))) = x136000 then (impl_cutter_add.j1 k x0 x3 x4 x8 x11 x12 x133000 x134000 x136000) else (impl_cutter_add.l0 k x0 x3 x4 x8 x11 (wrap64 (x12 + 1)) x133000 x134000 x136000)) else (none)) else (none)) else (none)) else (none)) else (none)) else (none)) else (impl_cutter_add.j1 k x0 x3 x4 x8 x11 x12 x133000 x134000 x136000)
def impl_cutter_add.f : Nat → List (S48) → Int → Int → List Int → List (S46) → Option ((List (S48)) × Int × Bool)
 | 0, _, _, _, _, _ => none
 | k + 1, l0, a1, a2, l3, l4 => if 0 ≤ a1 then (if a1 < 25 then (if 0 ≤ a2 then (if a2 < 25 then (if (l0.length : Int) = 60 then (some (l0, 0, false)) else (if l0.length < 35184372088832 then ((some (l0 ++ [(⟨0, 0, 0, 0⟩ : S48)] : List (S48))).bind fun y136 => (if (rd l3 (a1 * 25 + a2)) = 0 then (some (y136, IntKind.i8.wrap ((l0.length : Int)), true)) else ((impl_cutter_add.find (rd l3 (a1 * 25 + a2)) a1 a2 l4).bind fun t139 => (if t139 ≥ 0 then (if 0 ≤ (l0.length : Int) then (if (l0.length : Int) < (y136.length : Int) then (some ((y136.set ((l0.length : Int) : Int).toNat (⟨1, 0, IntKind.i8.wrap (t139), 0⟩ : S48)), IntKind.i8.wrap ((l0.length : Int)), true)) else (none)) else (none)) else (impl_cutter_add.l0 k y136 l3 l4 (l0.length : Int) 2 1 a1 a2 (rd l3 (a1 * 25 + a2))))))) else (none))) else (none)) else (none)) else (none)) else (none)
end
theorem impl_cutter_add.mono_l : ∀ k, (∀ y0 y1 y2 y3 y4, LeO (impl_cutter_add.f k y0 y1 y2 y3 y4) (impl_cutter_add.f (k + 1) y0 y1 y2 y3 y4)) ∧ (∀ y0 y1 y2 y3 y4 y5 y6 y7 y8, LeO (impl_cutter_add.j1 k y0 y1 y2 y3 y4 y5 y6 y7 y8) (impl_cutter_add.j1 (k + 1) y0 y1 y2 y3 y4 y5 y6 y7 y8)) ∧ (∀ y0 y1 y2 y3 y4 y5 y6 y7 y8 y9, LeO (impl_cutter_add.j3 k y0 y1 y2 y3 y4 y5 y6 y7 y8 y9) (impl_cutter_add.j3 (k + 1) y0 y1 y2 y3 y4 y5 y6 y7 y8 y9)) ∧ (∀ y0 y1 y2 y3 y4 y5 y6 y7 y8, LeO (impl_cutter_add.l1 k y0 y1 y2 y3 y4 y5 y6 y7 y8) (impl_cutter_add.l1 (k + 1) y0 y1 y2 y3 y4 y5 y6 y7 y8)) ∧ (∀ y0 y1 y2 y3 y4 y5 y6 y7 y8, LeO (impl_cutter_add.l0 k y0 y1 y2 y3 y4 y5 y6 y7 y8) (impl_cutter_add.l0 (k + 1) y0 y1 y2 y3 y4 y5 y6 y7 y8))
 | 0 => ⟨fun _ _ _ _ _ r h => by simp [impl_cutter_add.f] at h, fun _ _ _ _ _ _ _ _ _ r h => by simp [impl_cutter_add.j1] at h, fun _ _ _ _ _ _ _ _ _ _ r h => by simp [impl_cutter_add.j3] at h, fun _ _ _ _ _ _ _ _ _ r h => by simp [impl_cutter_add.l1] at h, fun _ _ _ _ _ _ _ _ _ r h => by simp [impl_cutter_add.l0] at h⟩
 | k + 1 => by
  obtain ⟨ih0, ih1, ih2, ih3, ih4⟩ := impl_cutter_add.mono_l k
  refine ⟨?_, ?_, ?_, ?_, ?_⟩ <;> intros
  all_goals first | unfold impl_cutter_add.f | unfold impl_cutter_add.j1 | unfold impl_cutter_add.j3 | unfold impl_cutter_add.l1 | unfold impl_cutter_add.l0
  all_goals repeat' first | (with_reducible first | exact ih0 _ _ _ _ _ | exact ih1 _ _ _ _ _ _ _ _ _ | exact ih2 _ _ _ _ _ _ _ _ _ _ | exact ih3 _ _ _ _ _ _ _ _ _ | exact ih4 _ _ _ _ _ _ _ _ _ | exact LeO.refl _ | exact LeO.none _ | refine LeO.ite ?_ ?_ | refine LeO.bind ?_ (fun _ => ?_))
theorem impl_cutter_add.mono : ∀ a0 a1 a2 a3 a4 k, LeO (impl_cutter_add.f k a0 a1 a2 a3 a4) (impl_cutter_add.f (k + 1) a0 a1 a2 a3 a4) := by
 intro a0 a1 a2 a3 a4 k
 obtain ⟨ih0, ih1, ih2, ih3, ih4⟩ := impl_cutter_add.mono_l k
 exact ih0 a0 a1 a2 a3 a4
def impl_cutter_add.T1 : Bool × List (List Nat × List Nat) := (true, [([], []), ([0], [0]), ([1], [1]), ([2], [2]), ([3], [3]), ([], []), ([5], [5]), ([6], [6]), ([7], [7]), ([], []), ([], []), ([8], [8]), ([11, 9], [9, 11]), ([12, 10], [10, 12]), ([13], [13]), ([], []), ([4, 0, 1, 2, 3, 4, 15], [4]), ([15, 14, 16, 0, 1, 2, 3, 4, 5, 6, 7, 8, 9, 10, 11, 12, 13, 14, 15, 16], [14, 15])])
def impl_cutter_add.B1 : List Nat := [0, 1, 3, 7, 15, 0, 32, 96, 224, 0, 0, 480, 3040, 8160, 16352, 0, 32799, 131071]
theorem impl_cutter_add.tab1 : rtab .any (opsOf Try.f26 1) = impl_cutter_add.T1 := by kernel_rfl
theorem impl_cutter_add.bits1 : waitsOk impl_cutter_add.T1.2 impl_cutter_add.B1 = true := by kernel_rfl
def impl_cutter_add.T12 : Bool × List (List Nat × List Nat) := (true, [([], []), ([], []), ([0, 1], [0, 1]), ([2], [2]), ([3], [3]), ([4, 3], [3, 4]), ([5, 3], [3, 5]), ([6, 3], [3, 6]), ([3], [3]), ([3], [3]), ([7, 3], [3, 7]), ([10, 8, 3], [3, 8, 10]), ([11, 9, 3], [3, 9, 11]), ([12, 3], [3, 12]), ([3], [3]), ([14, 3], [3, 14]), ([15, 3], [3, 15]), ([16, 3], [3, 16]), ([3], [3]), ([3], [3]), ([18, 19, 3], [3, 18, 19]), ([3], [3]), ([17, 3], [3, 17]), ([22, 20, 3], [3, 20, 22]), ([23, 21, 3], [3, 21, 23]), ([24, 3], [3, 24]), ([13, 25, 3], [3, 13, 25]), ([3], [3]), ([26, 27, 3], [3, 26, 27]), ([3, 28], [3, 28])])
def impl_cutter_add.B12 : List Nat := [0, 0, 3, 7, 15, 31, 63, 127, 15, 15, 255, 1535, 4095, 8191, 15, 16399, 49167, 114703, 15, 15, 786447, 15, 245775, 6275087, 16760847, 33538063, 67108863, 15, 268435455, 536870911]
theorem impl_cutter_add.tab12 : rtab .any (opsOf Try.f26 12) = impl_cutter_add.T12 := by kernel_rfl
theorem impl_cutter_add.bits12 : waitsOk impl_cutter_add.T12.2 impl_cutter_add.B12 = true := by kernel_rfl
def impl_cutter_add.T14 : Bool × List (List Nat × List Nat) := (true, [([], []), ([], []), ([0, 1], [0, 1]), ([], []), ([], []), ([3, 4], [3, 4]), ([], []), ([5, 6], [5, 6]), ([], []), ([], []), ([8, 2, 0, 1, 2, 8, 9], [2, 8]), ([9, 7, 10, 0, 1, 2, 3, 4, 5, 6, 7, 8, 9, 10], [7, 9])])
def impl_cutter_add.B14 : List Nat := [0, 0, 3, 0, 0, 24, 0, 120, 0, 0, 775, 2047]
theorem impl_cutter_add.tab14 : rtab .any (opsOf Try.f26 14) = impl_cutter_add.T14 := by kernel_rfl
theorem impl_cutter_add.bits14 : waitsOk impl_cutter_add.T14.2 impl_cutter_add.B14 = true := by kernel_rfl
def impl_cutter_add.T17 : Bool × List (List Nat × List Nat) := (true, [([], []), ([0], [0]), ([1], [1]), ([2], [2]), ([], []), ([], []), ([3], [3]), ([6, 4], [4, 6]), ([7, 5], [5, 7]), ([8], [8]), ([], []), ([10], [10]), ([11], [11]), ([12], [12]), ([], []), ([], []), ([], []), ([15, 16], [15, 16]), ([13], [13]), ([18, 14], [14, 18]), ([19, 17], [17, 19]), ([20], [20]), ([9, 21], [9, 21]), ([], []), ([22, 23], [22, 23])])
def impl_cutter_add.B17 : List Nat := [0, 1, 3, 7, 0, 0, 15, 95, 255, 511, 0, 1024, 3072, 7168, 0, 0, 0, 98304, 15360, 293888, 1047552, 2096128, 4194303, 0, 16777215]
theorem impl_cutter_add.tab17 : rtab .any (opsOf Try.f26 17) = impl_cutter_add.T17 := by kernel_rfl
theorem impl_cutter_add.bits17 : waitsOk impl_cutter_add.T17.2 impl_cutter_add.B17 = true := by kernel_rfl
def impl_cutter_add.T19 : Bool × List (List Nat × List Nat) := (true, [([], []), ([], []), ([0, 1], [0, 1]), ([], []), ([], []), ([], []), ([4, 5], [4, 5]), ([3, 6], [3, 6]), ([2, 0, 1, 2], [2]), ([7, 8, 0, 1, 2, 3, 4, 5, 6, 7, 8], [7])])
def impl_cutter_add.B19 : List Nat := [0, 0, 3, 0, 0, 0, 48, 120, 7, 511]
theorem impl_cutter_add.tab19 : rtab .any (opsOf Try.f26 19) = impl_cutter_add.T19 := by kernel_rfl
theorem impl_cutter_add.bits19 : waitsOk impl_cutter_add.T19.2 impl_cutter_add.B19 = true := by kernel_rfl
set_option maxHeartbeats 40000000 in
set_option maxRecDepth 100000 in
theorem impl_cutter_add.calls (k : Nat) : ∀ (P0_ : Nat → Prop) (gx : Nat) (u9000_ : Value) (l0 : List (S48)) (a1 : Int) (a2 : Int) (gt : Nat) (l3 : List Int) (A4 : Option Addr) (c4 : Nat) (l4 : List (S46)) (r1 : List (S48)) (r2 : Int) (r3 : Bool) (w0 w : World) (hPg : P0_ gx) (hgx : w0.heap.size ≤ gx) (hx_ : w.heap[gx]? = some (.cells #[.slice A4 l4.length c4, .pointer (some ⟨gt, 0, none⟩), u9000_] 60 (0, 0))) (hB : Below w0.heap.size w0 w) (ho0 : Kd.R k48 48 w w0.heap.size P0_ u9000_ l0) (hr3 : ∀ W_, Kept w W_ (fun k_ => P0_ k_) → W_.heap[gt]? = some (.cells (spec_l04Worth.cs l3) 80 (0, 0))) (hc3 : l3.length = 625) (hr4 : ∀ W_, Kept w W_ (fun k_ => P0_ k_) → Kd.C k46 W_ A4 l4.length l4) (hc4 : l4.length ≤ c4) (h : impl_cutter_add.f k l0 a1 a2 l3 l4 = some (r1, r2, r3)),
  Calls Try.prog 26 #[.pointer (some ⟨gx, 0, none⟩), .int .i64 a1, .int .i64 a2] w fun e w' => ∃ v0_ : Value, e = .returned (.tuple #[.int .i8 r2, .bool r3]) ∧ w'.heap[gx]? = some (.cells #[.slice A4 l4.length c4, .pointer (some ⟨gt, 0, none⟩), v0_] 60 (0, 0)) ∧ Kd.R k48 48 w' w0.heap.size (fun k_ => (P0_ k_ ∨ w.heap.size ≤ k_)) v0_ r1 ∧ Below w0.heap.size w0 w' ∧ Kept w w' (fun k_ => P0_ k_) := by
 induction k using Nat.strongRecOn with
 | _ k ih =>
 intro P0_ gx u9000_ l0 a1 a2 gt l3 A4 c4 l4 r1 r2 r3 w0 w hPg hgx hx_ hB ho0 hr3 hc3 hr4 hc4 h
 cases k with
 | zero => exact absurd h (by simp [impl_cutter_add.f])
 | succ k =>
 simp only [impl_cutter_add.f] at h
 have hu48 := Try.underlying48
 have hu49 := Try.underlying49
 have HO0 := Aside0.mk (show Kd.R k48 48 w w0.heap.size (fun k_ => (P0_ k_ ∨ w.heap.size ≤ k_)) u9000_ l0 from Kd.R_mono ho0 (fun k_ hk => (.inl hk)))
 have BKX := Aside0.mk hx_
 have HPG := Aside0.mk hPg
 have GEX := Aside0.mk hgx
 clear hx_ hPg hgx
 have HR3 := Aside0.mk hr3
 have HC3 := Aside0.mk hc3
 clear hr3 hc3
 have HR4 := Aside0.mk hr4
 have HC4 := Aside0.mk hc4
 clear hr4 hc4
 have HK := Aside0.mk (Kept.refl w (fun k_ => P0_ k_))
 have HW0 := Aside0.mk hB.size
 have HB := Aside0.mk hB
 clear hB
 have H : (if 0 ≤ a1 then (if a1 < 25 then (if 0 ≤ a2 then (if a2 < 25 then (if (l0.length : Int) = 60 then (some (l0, 0, false)) else (if l0.length < 35184372088832 then ((some (l0 ++ [(⟨0, 0, 0, 0⟩ : S48)] : List (S48))).bind fun y136 => (if (rd l3 (a1 * 25 + a2)) = 0 then (some (y136, IntKind.i8.wrap ((l0.length : Int)), true)) else ((impl_cutter_add.find (rd l3 (a1 * 25 + a2)) a1 a2 l4).bind fun t139 => (if t139 ≥ 0 then (if 0 ≤ (l0.length : Int) then (if (l0.length : Int) < (y136.length : Int) then (some ((y136.set ((l0.length : Int) : Int).toNat (⟨1, 0, IntKind.i8.wrap (t139), 0⟩ : S48)), IntKind.i8.wrap ((l0.length : Int)), true)) else (none)) else (none)) else (impl_cutter_add.l0 k y136 l3 l4 (l0.length : Int) 2 1 a1 a2 (rd l3 (a1 * 25 + a2))))))) else (none))) else (none)) else (none)) else (none)) else (none)) = some (r1, r2, r3) := h
 clear h
 obtain ⟨c6b0, H⟩ := gx_ H
 obtain ⟨c7b0, H⟩ := gx_ H
 obtain ⟨c8b0, H⟩ := gx_ H
 obtain ⟨c9b0, H⟩ := gx_ H
 by_cases c10 : (l0.length : Int) = 60
 ·
  rw [if_pos c10] at H
  have c10b0 : ((l0.length : Int) == 60) = true := beq_iff_eq.mpr c10
  have c10b1 : ((l0.length : Int) != 60) = false := bne_eq_false_iff_eq.mpr c10
  clear c10
  simp only [Option.some.injEq, Prod.mk.injEq] at H
  obtain ⟨rfl, rfl, rfl⟩ := H
  go_enter Try.func26, Try.ntmps26
  try go_wp2_with (first | ((with_reducible refine gate_dst (N := 4) rfl ?_); refine boxM_ 4 #[.int .i64 a1] 2 ?_; intro gb132 hg w11 hbox hb; replace BKX := impl_cutter_add.bd_ BKX hb; replace HO0 := Aside0.mk (Kd.R_below (kp_ HO0) hb); have BK132 := Aside0.mk (hbox); have GW132 := Aside0.mk ((by rw [hg]; exact (by first | exact HK.out.1 | exact (show Kept w _ (fun k_ => P0_ k_) from by repeat (first | (with_reducible first | exact HK.out | apply Kept.alloc | apply Kept.drewN | apply Kept.drew) | exact HK.out)).1) : w.heap.size ≤ gb132)); replace HK := Aside0.mk (Kept.below (S := (fun k_ => P0_ k_)) (by repeat (first | (with_reducible first | exact HK.out | apply Kept.alloc | apply Kept.drewN | apply Kept.drew) | exact HK.out)) hb); have GE132 := Aside0.mk ((by rw [hg]; exact (below_size (kB_ HB)) : w0.heap.size ≤ gb132)); replace HB := Aside0.mk (below_step (kB_ HB) hb); clear hb hbox hg) | ((with_reducible refine gate_dst (N := 5) rfl ?_); refine boxM_ 5 #[.int .i64 a2] 2 ?_; intro gb133 hg w12 hbox hb; have n0_ := Aside0.mk (Kd.R_below (kp_ HO0) hb); have n1_ := bd_ BK132 hb; replace BKX := impl_cutter_add.bd_ BKX hb; have n2_ := Aside0.mk (Kept.below (S := (fun k_ => P0_ k_)) (by repeat (first | (with_reducible first | exact HK.out | apply Kept.alloc | apply Kept.drewN | apply Kept.drew | refine Kept.setCell ?_ (.inr GW132.out) _) | exact HK.out)) hb); have n3_ := Aside0.mk (below_step (k1_ HB GE132) hb); have n4_ := Aside0.mk (hbox); have n5_ := Aside0.mk ((by rw [hg]; exact (by first | exact HK.out.1 | exact (show Kept w _ (fun k_ => P0_ k_) from by repeat (first | (with_reducible first | exact HK.out | apply Kept.alloc | apply Kept.drewN | apply Kept.drew | refine Kept.setCell ?_ (.inr GW132.out) _) | exact HK.out)).1) : w.heap.size ≤ gb133)); have n6_ := Aside0.mk ((by rw [hg]; exact (below_size (k1_ HB GE132)) : w0.heap.size ≤ gb133)); have n7_ := nl_ BK132 hg; have n8_ := ng_ BK132 hg; clear HO0; clear BK132; clear HK; clear HB; have HO0 := n0_; have BK132 := n1_; have HK := n2_; have HB := n3_; have BK133 := n4_; have GW133 := n5_; have GE133 := n6_; have NB132_133 := n7_; have NB133_132 := n8_; clear n0_ n1_ n2_ n3_ n4_ n5_ n6_ n7_ n8_; clear hb hbox hg))
  have n0_ := Aside0.mk (Kd.R_drew HO0.out)
  have n1_ := Aside0.mk (blk_drew BK132.out)
  replace BKX := Aside0.mk (blk_drew BKX.out)
  have n2_ := Aside0.mk (blk_drew BK133.out)
  have n3_ := Aside0.mk (Kept.drew HK.out)
  have n4_ := Aside0.mk (below_drew1 HB.out)
  clear HO0
  clear BK132
  clear BK133
  clear HK
  clear HB
  have HO0 := n0_
  have BK132 := n1_
  have BK133 := n2_
  have HK := n3_
  have HB := n4_
  clear n0_ n1_ n2_ n3_ n4_
  obtain ⟨Ao14, co14, eo14⟩ := Kd.R_slice HO0.out
  (first | subst eo14 | (injection eo14 with f1_ f2_ f3_; have f4_ := f1_.symm; have f5_ := f3_.symm; clear f1_ f2_ f3_; subst f4_; subst f5_))
  have pi134 : 0 ≤ a1 := od_
  have qi134 : a1 < 25 := od_
  have pj134 : 0 ≤ a2 := od_
  have qj134 : a2 < 25 := od_
  have hx134_0 := spec_l04Cut.tcell (HR3.out _ HK.out) HC3.out (a1) (a2) pi134 qi134 pj134 qj134
  have hw134_0 := hx134_0
  replace pi134 := eq_true pi134
  replace qi134 := eq_true qi134
  replace pj134 := eq_true pj134
  replace qj134 := eq_true qj134
  refine start_ (n := 18) (S := fun w' => w'.cell? ⟨gb132, 0, none⟩ = some (.int .i64 a1) ∧ w'.cell? ⟨gb133, 0, none⟩ = some (.int .i64 a2) ∧ w'.cell? ⟨gt, (a1).toNat * 25 + (a2).toNat, none⟩ = some (.int .i64 (rd l3 (a1 * 25 + a2))) ∧ w'.cell? ⟨gx, 2, none⟩ = some (.slice Ao14 l0.length co14) ∧ w'.cell? ⟨gx, 1, none⟩ = some (.pointer (some ⟨gt, 0, none⟩))) (ds := []) #[false, false, false, false, false, false, false, false, false, false, false, false, false, false, false, false, false, false] (by kernel_rfl) rfl rfl ⟨(blk_cell BK132.out 0).trans rfl, (blk_cell BK133.out 0).trans rfl, (spec_l04Cut.tcell (HR3.out _ (by repeat (first | exact HK.out | apply Kept.alloc | apply Kept.drewN | apply Kept.drew | refine Kept.setCell ?_ (.inr GW135.out) _))) HC3.out (a1) (a2) (of_eq_true pi134) (of_eq_true qi134) (of_eq_true pj134) (of_eq_true qj134)), (blk_cell BKX.out 2).trans rfl, (blk_cell BKX.out 1).trans rfl⟩ (fun hHeld => ?_); refine with_tabW impl_cutter_add.tab1 impl_cutter_add.bits1 (fun HT_ HW_ => ?_)
  generalize w12.drew = w13 at HO0 BK132 BKX BK133 HK HB hx134_0 hHeld ⊢
  refine pu_ 0 19 (lA 18 1) ?_ ?_ HT_ ?_
  refine pu_ 1 20 (lA 18 3) ?_ ?_ HT_ ?_
  refine pu_ 2 21 (lA 18 7) ?_ ?_ HT_ ?_
  refine tk_ 3 22 (lA 18 15) ?_ ?_ HT_ HW_ hHeld ?_
  refine pu_ 4 23 (lA 18 31) ?_ ?_ HT_ ?_
  refine pu_ 5 24 (lA 18 63) ?_ ?_ HT_ ?_
  refine pu_ 6 25 (lA 18 127) ?_ ?_ HT_ ?_
  refine pu_ 7 26 (lA 18 255) ?_ ?_ HT_ ?_
  refine tk_ 8 27 (lA 18 511) ?_ ?_ HT_ HW_ hHeld ?_
  refine pu_ 11 30 (lA 18 2559) ?_ ?_ HT_ ?_
  refine tk_ 9 28 (lA 18 3071) ?_ ?_ HT_ HW_ hHeld ?_
  refine pu_ 12 31 (lA 18 7167) ?_ ?_ HT_ ?_
  refine tk_ 10 29 (lA 18 8191) ?_ ?_ HT_ HW_ hHeld ?_
  refine pu_ 13 32 (lA 18 16383) ?_ ?_ HT_ ?_
  refine tk_ 14 33 (lA 18 32767) ?_ ?_ HT_ HW_ hHeld ?_
  refine one_ (i := 15) (N := some 9) #[true, true, true, true, true, true, true, true, true, true, true, true, true, true, true, true, false, false] rfl rfl (one_of HT_.out (by kernel_rfl)) (by decide) (fun K hK => ?_)
  refine box_step ?hg (N := 9) ?hd (cs := #[.int .i64 0]) (t := 2) ?hr ?_; (case hd => rfl); (case hg => rfl); (case hr => first | (go_simp; done) | (go_simp; rfl))
  intro gb135 hg w15 hbox hb
  have n0_ := Aside0.mk (Kd.R_below (kp_ HO0) hb)
  have n1_ := bd_ BK132 hb
  replace BKX := impl_cutter_add.bd_ BKX hb
  have n2_ := bd_ BK133 hb
  have n3_ := Aside0.mk (Kept.below (S := (fun k_ => P0_ k_)) (by repeat (first | (with_reducible first | exact HK.out | apply Kept.alloc | apply Kept.drewN | apply Kept.drew | refine Kept.setCell ?_ (.inr GW132.out) _ | refine Kept.setCell ?_ (.inr GW133.out) _) | exact HK.out)) hb)
  have n4_ := Aside0.mk (below_step (k2_ HB GE132 GE133) hb)
  have n5_ := Aside0.mk (hbox)
  have n6_ := Aside0.mk ((by rw [hg]; exact (by first | exact HK.out.1 | exact (show Kept w _ (fun k_ => P0_ k_) from by repeat (first | (with_reducible first | exact HK.out | apply Kept.alloc | apply Kept.drewN | apply Kept.drew | refine Kept.setCell ?_ (.inr GW132.out) _ | refine Kept.setCell ?_ (.inr GW133.out) _) | exact HK.out)).1) : w.heap.size ≤ gb135))
  have n7_ := Aside0.mk ((by rw [hg]; exact (below_size (k2_ HB GE132 GE133)) : w0.heap.size ≤ gb135))
  have n8_ := nl_ BK132 hg
  have n9_ := ng_ BK132 hg
  have n10_ := nl_ BK133 hg
  have n11_ := ng_ BK133 hg
  clear HO0
  clear BK132
  clear BK133
  clear HK
  clear HB
  have HO0 := n0_
  have BK132 := n1_
  have BK133 := n2_
  have HK := n3_
  have HB := n4_
  have BK135 := n5_
  have GW135 := n6_
  have GE135 := n7_
  have NB132_135 := n8_
  have NB135_132 := n9_
  have NB133_135 := n10_
  have NB135_133 := n11_
  clear n0_ n1_ n2_ n3_ n4_ n5_ n6_ n7_ n8_ n9_ n10_ n11_
  clear hb hbox hg
  refine hK.out _ _ ⟨(blk_cell BK132.out 0).trans rfl, (blk_cell BK133.out 0).trans rfl, (spec_l04Cut.tcell (HR3.out _ (by repeat (first | exact HK.out | apply Kept.alloc | apply Kept.drewN | apply Kept.drew | refine Kept.setCell ?_ (.inr GW135.out) _))) HC3.out (a1) (a2) (of_eq_true pi134) (of_eq_true qi134) (of_eq_true pj134) (of_eq_true qj134)), ((blk_cell BKX.out 2).trans rfl), ((blk_cell BKX.out 1).trans rfl)⟩ (fun hHeld => ?_)
  clear hK K
  refine norm_ (a' := ?_) ?_ ?_
  rotate_left
  ·
   show Act.put _ (some 9) _ = _
   simp only [Act.put, List.setIfInBounds_toArray, List.set_cons_zero, List.set_cons_succ, i64_w, i32_w]
   rfl
  refine pu_ 16 8 (lA 18 131071) ?_ ?_ HT_ ?_
  refine one_ (i := 17) (N := none) #[true, true, true, true, true, true, true, true, true, true, true, true, true, true, true, true, true, true] rfl rfl (one_of HT_.out (by kernel_rfl)) (by decide) (fun K hK => ?_)
  have hs16 : w15.cell? ⟨gb135, 0, none⟩ = some (.int .i64 0) := (blk_cell BK135.out 0).trans rfl
  have hfs16 := blk_frozen BK135.out 0
  have hns16_0 := NB132_135.out
  have hns16_1 := NB133_135.out
  have hms16_0 := NB135_132.out
  have hms16_1 := NB135_133.out
  refine skip_ (w1 := ?_) (by rfl) rfl ?_ ?_
  rotate_left
  ·
   go_simp
   rfl
  refine hK.out _ _ ⟨((cell_far (p := ⟨gb135, _, none⟩) NB132_135.out _).trans (hHeld.1)), ((cell_far (p := ⟨gb135, _, none⟩) NB133_135.out _).trans (hHeld.2.1)), (spec_l04Cut.tcell (HR3.out _ (by repeat (first | exact HK.out | apply Kept.alloc | apply Kept.drewN | apply Kept.drew | refine Kept.setCell ?_ (.inr GW135.out) _))) HC3.out (a1) (a2) (of_eq_true pi134) (of_eq_true qi134) (of_eq_true pj134) (of_eq_true qj134)), ((cell_far (p := ⟨gb135, _, none⟩) (blk_ne BKX.out BK135.out (by decide)) _).trans ((blk_cell BKX.out 2).trans rfl)), ((cell_far (p := ⟨gb135, _, none⟩) (blk_ne BKX.out BK135.out (by decide)) _).trans ((blk_cell BKX.out 1).trans rfl))⟩ (fun hHeld => ?_)
  clear hK K
  refine done_ (done_of HT_.out (by kernel_rfl)) ?_
  have hcx4 : (w15.setCell ⟨gb135, 0, none⟩ (.int .i64 (rd l3 (a1 * 25 + a2)))).cell? ⟨gx, 2, none⟩ = some (.slice Ao14 l0.length co14) := (cell_far (p := ⟨gb135, 0, none⟩) (blk_ne BKX.out BK135.out (by decide)) _).trans ((blk_cell BKX.out 2).trans rfl)
  try go_wp2
  go_ret2
  exact ⟨_, by first | rfl | (simp [errW_none, errW_some] <;> rfl) | (simp [*, errW_none, errW_some] <;> rfl), by (with_reducible repeat (first | refine blk_drewN ?_ _ | refine blk_drew ?_ | refine blk_alloc ?_ _)); (first | exact BKX.out | (refine blk_far ?_ (blk_ne BKX.out BK135.out (by decide)) _; (with_reducible repeat (first | refine blk_drewN ?_ _ | refine blk_drew ?_ | refine blk_alloc ?_ _)); exact BKX.out)), by (with_reducible repeat (first | apply Kd.R_alloc | apply Kd.R_drewN | apply Kd.R_drew)); exact Kd.R_mono (Kd.R_far (p := ⟨gb135, 0, none⟩) (Kd.R_types HO0.out BK135.out (by decide)) (fun _ hk => hk.2) (.int .i64 (rd l3 (a1 * 25 + a2)))) (fun _ hk => hk.1), k3_ HB GE132 GE133 GE135, by repeat (first | (with_reducible first | exact HK.out | apply Kept.alloc | apply Kept.drewN | apply Kept.drew | refine Kept.setCell ?_ (.inr GW132.out) _ | refine Kept.setCell ?_ (.inr GW133.out) _ | refine Kept.setCell ?_ (.inr GW135.out) _) | exact HK.out)⟩
 rw [if_neg c10] at H
 have c10b0 : ((l0.length : Int) == 60) = false := beq_eq_false_iff_ne.mpr c10
 have c10b1 : ((l0.length : Int) != 60) = true := bne_iff_ne.mpr c10
 obtain ⟨(c17 : l0.length < 35184372088832), H⟩ := gd_ H
 have LMc17 := Aside0.mk c17
 clear c17
 obtain ⟨y136, hy136⟩ : ∃ y_ : List (S48), y_ = (l0 ++ [(⟨0, 0, 0, 0⟩ : S48)]) := ⟨_, rfl⟩
 replace H : (if (rd l3 (a1 * 25 + a2)) = 0 then (some (y136, IntKind.i8.wrap ((l0.length : Int)), true)) else ((impl_cutter_add.find (rd l3 (a1 * 25 + a2)) a1 a2 l4).bind fun t139 => (if t139 ≥ 0 then (if 0 ≤ (l0.length : Int) then (if (l0.length : Int) < (y136.length : Int) then (some ((y136.set ((l0.length : Int) : Int).toNat (⟨1, 0, IntKind.i8.wrap (t139), 0⟩ : S48)), IntKind.i8.wrap ((l0.length : Int)), true)) else (none)) else (none)) else (impl_cutter_add.l0 k y136 l3 l4 (l0.length : Int) 2 1 a1 a2 (rd l3 (a1 * 25 + a2)))))) = some (r1, r2, r3) := by first | (rw [hy136]; with_reducible exact H) | (have H2_ := (Option.bind_some _ _).symm.trans H; rw [hy136]; with_reducible exact H2_) | (have H2_ := (Option.bind_some _ _).symm.trans H; with_reducible exact H2_) | with_reducible exact H | (rw [hy136]; exact H) | exact H
 have Ny136 := Aside0.mk hy136
 clear hy136
 by_cases c18 : (rd l3 (a1 * 25 + a2)) = 0
 ·
  rw [if_pos c18] at H
  have c18b0 : ((rd l3 (a1 * 25 + a2)) == 0) = true := beq_iff_eq.mpr c18
  have c18b1 : ((rd l3 (a1 * 25 + a2)) != 0) = false := bne_eq_false_iff_eq.mpr c18
  clear c18
  simp only [Option.some.injEq, Prod.mk.injEq] at H
  obtain ⟨rfl, rfl, rfl⟩ := H
  go_enter Try.func26, Try.ntmps26
  try go_wp2_with (first | ((with_reducible refine gate_dst (N := 4) rfl ?_); refine boxM_ 4 #[.int .i64 a1] 2 ?_; intro gb132 hg w19 hbox hb; replace BKX := impl_cutter_add.bd_ BKX hb; replace HO0 := Aside0.mk (Kd.R_below (kp_ HO0) hb); have BK132 := Aside0.mk (hbox); have GW132 := Aside0.mk ((by rw [hg]; exact (by first | exact HK.out.1 | exact (show Kept w _ (fun k_ => P0_ k_) from by repeat (first | (with_reducible first | exact HK.out | apply Kept.alloc | apply Kept.drewN | apply Kept.drew) | exact HK.out)).1) : w.heap.size ≤ gb132)); replace HK := Aside0.mk (Kept.below (S := (fun k_ => P0_ k_)) (by repeat (first | (with_reducible first | exact HK.out | apply Kept.alloc | apply Kept.drewN | apply Kept.drew) | exact HK.out)) hb); have GE132 := Aside0.mk ((by rw [hg]; exact (below_size (kB_ HB)) : w0.heap.size ≤ gb132)); replace HB := Aside0.mk (below_step (kB_ HB) hb); clear hb hbox hg) | ((with_reducible refine gate_dst (N := 5) rfl ?_); refine boxM_ 5 #[.int .i64 a2] 2 ?_; intro gb133 hg w20 hbox hb; have n0_ := Aside0.mk (Kd.R_below (kp_ HO0) hb); have n1_ := bd_ BK132 hb; replace BKX := impl_cutter_add.bd_ BKX hb; have n2_ := Aside0.mk (Kept.below (S := (fun k_ => P0_ k_)) (by repeat (first | (with_reducible first | exact HK.out | apply Kept.alloc | apply Kept.drewN | apply Kept.drew | refine Kept.setCell ?_ (.inr GW132.out) _) | exact HK.out)) hb); have n3_ := Aside0.mk (below_step (k1_ HB GE132) hb); have n4_ := Aside0.mk (hbox); have n5_ := Aside0.mk ((by rw [hg]; exact (by first | exact HK.out.1 | exact (show Kept w _ (fun k_ => P0_ k_) from by repeat (first | (with_reducible first | exact HK.out | apply Kept.alloc | apply Kept.drewN | apply Kept.drew | refine Kept.setCell ?_ (.inr GW132.out) _) | exact HK.out)).1) : w.heap.size ≤ gb133)); have n6_ := Aside0.mk ((by rw [hg]; exact (below_size (k1_ HB GE132)) : w0.heap.size ≤ gb133)); have n7_ := nl_ BK132 hg; have n8_ := ng_ BK132 hg; clear HO0; clear BK132; clear HK; clear HB; have HO0 := n0_; have BK132 := n1_; have HK := n2_; have HB := n3_; have BK133 := n4_; have GW133 := n5_; have GE133 := n6_; have NB132_133 := n7_; have NB133_132 := n8_; clear n0_ n1_ n2_ n3_ n4_ n5_ n6_ n7_ n8_; clear hb hbox hg))
  have n0_ := Aside0.mk (Kd.R_drew HO0.out)
  have n1_ := Aside0.mk (blk_drew BK132.out)
  replace BKX := Aside0.mk (blk_drew BKX.out)
  have n2_ := Aside0.mk (blk_drew BK133.out)
  have n3_ := Aside0.mk (Kept.drew HK.out)
  have n4_ := Aside0.mk (below_drew1 HB.out)
  clear HO0
  clear BK132
  clear BK133
  clear HK
  clear HB
  have HO0 := n0_
  have BK132 := n1_
  have BK133 := n2_
  have HK := n3_
  have HB := n4_
  clear n0_ n1_ n2_ n3_ n4_
  obtain ⟨Ao22, co22, eo22⟩ := Kd.R_slice HO0.out
  (first | subst eo22 | (injection eo22 with f1_ f2_ f3_; have f4_ := f1_.symm; have f5_ := f3_.symm; clear f1_ f2_ f3_; subst f4_; subst f5_))
  have pi134 : 0 ≤ a1 := od_
  have qi134 : a1 < 25 := od_
  have pj134 : 0 ≤ a2 := od_
  have qj134 : a2 < 25 := od_
  have hx134_0 := spec_l04Cut.tcell (HR3.out _ HK.out) HC3.out (a1) (a2) pi134 qi134 pj134 qj134
  have hw134_0 := hx134_0
  replace pi134 := eq_true pi134
  replace qi134 := eq_true qi134
  replace pj134 := eq_true pj134
  replace qj134 := eq_true qj134
  refine start_ (n := 18) (S := fun w' => w'.cell? ⟨gb132, 0, none⟩ = some (.int .i64 a1) ∧ w'.cell? ⟨gb133, 0, none⟩ = some (.int .i64 a2) ∧ w'.cell? ⟨gt, (a1).toNat * 25 + (a2).toNat, none⟩ = some (.int .i64 (rd l3 (a1 * 25 + a2))) ∧ w'.cell? ⟨gx, 2, none⟩ = some (.slice Ao22 l0.length co22) ∧ w'.cell? ⟨gx, 1, none⟩ = some (.pointer (some ⟨gt, 0, none⟩))) (ds := []) #[false, false, false, false, false, false, false, false, false, false, false, false, false, false, false, false, false, false] (by kernel_rfl) rfl rfl ⟨(blk_cell BK132.out 0).trans rfl, (blk_cell BK133.out 0).trans rfl, (spec_l04Cut.tcell (HR3.out _ (by repeat (first | exact HK.out | apply Kept.alloc | apply Kept.drewN | apply Kept.drew | refine Kept.setCell ?_ (.inr GW135.out) _))) HC3.out (a1) (a2) (of_eq_true pi134) (of_eq_true qi134) (of_eq_true pj134) (of_eq_true qj134)), (blk_cell BKX.out 2).trans rfl, (blk_cell BKX.out 1).trans rfl⟩ (fun hHeld => ?_); refine with_tabW impl_cutter_add.tab1 impl_cutter_add.bits1 (fun HT_ HW_ => ?_)
  generalize w20.drew = w21 at HO0 BK132 BKX BK133 HK HB hx134_0 hHeld ⊢
  refine pu_ 0 19 (lA 18 1) ?_ ?_ HT_ ?_
  refine pu_ 1 20 (lA 18 3) ?_ ?_ HT_ ?_
  refine pu_ 2 21 (lA 18 7) ?_ ?_ HT_ ?_
  refine tk_ 3 22 (lA 18 15) ?_ ?_ HT_ HW_ hHeld ?_
  refine pu_ 4 23 (lA 18 31) ?_ ?_ HT_ ?_
  refine pu_ 5 24 (lA 18 63) ?_ ?_ HT_ ?_
  refine pu_ 6 25 (lA 18 127) ?_ ?_ HT_ ?_
  refine pu_ 7 26 (lA 18 255) ?_ ?_ HT_ ?_
  refine tk_ 8 27 (lA 18 511) ?_ ?_ HT_ HW_ hHeld ?_
  refine pu_ 11 30 (lA 18 2559) ?_ ?_ HT_ ?_
  refine tk_ 9 28 (lA 18 3071) ?_ ?_ HT_ HW_ hHeld ?_
  refine pu_ 12 31 (lA 18 7167) ?_ ?_ HT_ ?_
  refine tk_ 10 29 (lA 18 8191) ?_ ?_ HT_ HW_ hHeld ?_
  refine pu_ 13 32 (lA 18 16383) ?_ ?_ HT_ ?_
  refine tk_ 14 33 (lA 18 32767) ?_ ?_ HT_ HW_ hHeld ?_
  refine one_ (i := 15) (N := some 9) #[true, true, true, true, true, true, true, true, true, true, true, true, true, true, true, true, false, false] rfl rfl (one_of HT_.out (by kernel_rfl)) (by decide) (fun K hK => ?_)
  refine box_step ?hg (N := 9) ?hd (cs := #[.int .i64 0]) (t := 2) ?hr ?_; (case hd => rfl); (case hg => rfl); (case hr => first | (go_simp; done) | (go_simp; rfl))
  intro gb135 hg w23 hbox hb
  have n0_ := Aside0.mk (Kd.R_below (kp_ HO0) hb)
  have n1_ := bd_ BK132 hb
  replace BKX := impl_cutter_add.bd_ BKX hb
  have n2_ := bd_ BK133 hb
  have n3_ := Aside0.mk (Kept.below (S := (fun k_ => P0_ k_)) (by repeat (first | (with_reducible first | exact HK.out | apply Kept.alloc | apply Kept.drewN | apply Kept.drew | refine Kept.setCell ?_ (.inr GW132.out) _ | refine Kept.setCell ?_ (.inr GW133.out) _) | exact HK.out)) hb)
  have n4_ := Aside0.mk (below_step (k2_ HB GE132 GE133) hb)
  have n5_ := Aside0.mk (hbox)
  have n6_ := Aside0.mk ((by rw [hg]; exact (by first | exact HK.out.1 | exact (show Kept w _ (fun k_ => P0_ k_) from by repeat (first | (with_reducible first | exact HK.out | apply Kept.alloc | apply Kept.drewN | apply Kept.drew | refine Kept.setCell ?_ (.inr GW132.out) _ | refine Kept.setCell ?_ (.inr GW133.out) _) | exact HK.out)).1) : w.heap.size ≤ gb135))
  have n7_ := Aside0.mk ((by rw [hg]; exact (below_size (k2_ HB GE132 GE133)) : w0.heap.size ≤ gb135))
  have n8_ := nl_ BK132 hg
  have n9_ := ng_ BK132 hg
  have n10_ := nl_ BK133 hg
  have n11_ := ng_ BK133 hg
  clear HO0
  clear BK132
  clear BK133
  clear HK
  clear HB
  have HO0 := n0_
  have BK132 := n1_
  have BK133 := n2_
  have HK := n3_
  have HB := n4_
  have BK135 := n5_
  have GW135 := n6_
  have GE135 := n7_
  have NB132_135 := n8_
  have NB135_132 := n9_
  have NB133_135 := n10_
  have NB135_133 := n11_
  clear n0_ n1_ n2_ n3_ n4_ n5_ n6_ n7_ n8_ n9_ n10_ n11_
  clear hb hbox hg
  refine hK.out _ _ ⟨(blk_cell BK132.out 0).trans rfl, (blk_cell BK133.out 0).trans rfl, (spec_l04Cut.tcell (HR3.out _ (by repeat (first | exact HK.out | apply Kept.alloc | apply Kept.drewN | apply Kept.drew | refine Kept.setCell ?_ (.inr GW135.out) _))) HC3.out (a1) (a2) (of_eq_true pi134) (of_eq_true qi134) (of_eq_true pj134) (of_eq_true qj134)), ((blk_cell BKX.out 2).trans rfl), ((blk_cell BKX.out 1).trans rfl)⟩ (fun hHeld => ?_)
  clear hK K
  refine norm_ (a' := ?_) ?_ ?_
  rotate_left
  ·
   show Act.put _ (some 9) _ = _
   simp only [Act.put, List.setIfInBounds_toArray, List.set_cons_zero, List.set_cons_succ, i64_w, i32_w]
   rfl
  refine pu_ 16 8 (lA 18 131071) ?_ ?_ HT_ ?_
  refine one_ (i := 17) (N := none) #[true, true, true, true, true, true, true, true, true, true, true, true, true, true, true, true, true, true] rfl rfl (one_of HT_.out (by kernel_rfl)) (by decide) (fun K hK => ?_)
  have hs24 : w23.cell? ⟨gb135, 0, none⟩ = some (.int .i64 0) := (blk_cell BK135.out 0).trans rfl
  have hfs24 := blk_frozen BK135.out 0
  have hns24_0 := NB132_135.out
  have hns24_1 := NB133_135.out
  have hms24_0 := NB135_132.out
  have hms24_1 := NB135_133.out
  refine skip_ (w1 := ?_) (by rfl) rfl ?_ ?_
  rotate_left
  ·
   go_simp
   rfl
  refine hK.out _ _ ⟨((cell_far (p := ⟨gb135, _, none⟩) NB132_135.out _).trans (hHeld.1)), ((cell_far (p := ⟨gb135, _, none⟩) NB133_135.out _).trans (hHeld.2.1)), (spec_l04Cut.tcell (HR3.out _ (by repeat (first | exact HK.out | apply Kept.alloc | apply Kept.drewN | apply Kept.drew | refine Kept.setCell ?_ (.inr GW135.out) _))) HC3.out (a1) (a2) (of_eq_true pi134) (of_eq_true qi134) (of_eq_true pj134) (of_eq_true qj134)), ((cell_far (p := ⟨gb135, _, none⟩) (blk_ne BKX.out BK135.out (by decide)) _).trans ((blk_cell BKX.out 2).trans rfl)), ((cell_far (p := ⟨gb135, _, none⟩) (blk_ne BKX.out BK135.out (by decide)) _).trans ((blk_cell BKX.out 1).trans rfl))⟩ (fun hHeld => ?_)
  clear hK K
  refine done_ (done_of HT_.out (by kernel_rfl)) ?_
  have hcx4 : (w23.setCell ⟨gb135, 0, none⟩ (.int .i64 (rd l3 (a1 * 25 + a2)))).cell? ⟨gx, 2, none⟩ = some (.slice Ao22 l0.length co22) := (cell_far (p := ⟨gb135, 0, none⟩) (blk_ne BKX.out BK135.out (by decide)) _).trans ((blk_cell BKX.out 2).trans rfl)
  try go_wp2_with (first | ((with_reducible refine gate_builtin (b := .append) (xs := #[.tmp 40, .tmp 42]) rfl ?_); at_builtin; refine Kd.R_append k48 (w0 := w0) w0.heap.size rfl (.tmp 40) (.tmp 42) 27 48 (.agg #[(.int .i8 0), (.int .i8 0), (.int .i8 0), (.int .i8 0)]) 4 rfl Try.underlying27 info48 rfl (by decide) (by omega) (.slice Ao22 l0.length co22) l0 (⟨0, 0, 0, 0⟩ : S48) [.int .i8 0, .int .i8 0, .int .i8 0, .int .i8 0] (fun k_ => (P0_ k_ ∨ w.heap.size ≤ k_)) (fun _ => False) rfl (by first | (go_simp; done) | (go_simp; rfl)) ?aP (fun _ hk => hk.elim) ?aF ?aO ?aB ?aS ?aL ?_; (case aP => exact k48_mkM _ _ _ (⟨0, 0, 0, 0⟩ : S48)); (case aB => exact (k3_ HB GE132 GE133 GE135)); (case aF => exact (fun k_ hk => (.inr (Nat.le_trans (show Kept w _ (fun k_ => P0_ k_) from by repeat (first | (with_reducible first | exact HK.out | apply Kept.alloc | apply Kept.drewN | apply Kept.drew | refine Kept.setCell ?_ (.inr GW132.out) _ | refine Kept.setCell ?_ (.inr GW133.out) _ | refine Kept.setCell ?_ (.inr GW135.out) _) | exact HK.out)).1 hk)))); (case aO => exact (by (with_reducible repeat (first | apply Kd.R_alloc | apply Kd.R_drewN | apply Kd.R_drew)); exact Kd.R_mono (Kd.R_far (p := ⟨gb135, 0, none⟩) (Kd.R_types HO0.out BK135.out (by decide)) (fun _ hk => hk.2) (.int .i64 (rd l3 (a1 * 25 + a2)))) (fun _ hk => hk.1))); (case aS => exact (below_size (k3_ HB GE132 GE133 GE135))); (case aL => have := LMc17.out; omega); intro v137 w25 ho hb hg hat; rw [← Ny136.out] at ho; have n0_ := Aside0.mk (blk_grown (g := gb132) (o := .cells #[.int .i64 a1] 2 (0, 0)) (by (with_reducible repeat (first | refine blk_drewN ?_ _ | refine blk_drew ?_ | refine blk_alloc ?_ _)); refine blk_far ?_ NB132_135.out _; (with_reducible repeat (first | refine blk_drewN ?_ _ | refine blk_drew ?_ | refine blk_alloc ?_ _)); exact BK132.out) hg (Kd.R_ne HO0.out BK132.out (by decide))); replace BKX := impl_cutter_add.bg_ BKX hg (Kd.R_ne HO0.out BKX.out (by decide)) (fun h_ => by (with_reducible repeat (first | refine blk_drewN ?_ _ | refine blk_drew ?_ | refine blk_alloc ?_ _)); refine blk_far ?_ (blk_ne BKX.out BK135.out (by decide)) _; (with_reducible repeat (first | refine blk_drewN ?_ _ | refine blk_drew ?_ | refine blk_alloc ?_ _)); exact h_); have n1_ := Aside0.mk (blk_grown (g := gb133) (o := .cells #[.int .i64 a2] 2 (0, 0)) (by (with_reducible repeat (first | refine blk_drewN ?_ _ | refine blk_drew ?_ | refine blk_alloc ?_ _)); refine blk_far ?_ NB133_135.out _; (with_reducible repeat (first | refine blk_drewN ?_ _ | refine blk_drew ?_ | refine blk_alloc ?_ _)); exact BK133.out) hg (Kd.R_ne HO0.out BK133.out (by decide))); have n2_ := Aside0.mk (blk_grown (g := gb135) (o := .cells #[.int .i64 (rd l3 (a1 * 25 + a2))] 2 (0, 0)) (by (with_reducible repeat (first | refine blk_drewN ?_ _ | refine blk_drew ?_ | refine blk_alloc ?_ _)); refine blk_put (cs := #[.int .i64 0]) ?_ 0 _ rfl; (with_reducible repeat (first | refine blk_drewN ?_ _ | refine blk_drew ?_ | refine blk_alloc ?_ _)); exact BK135.out) hg (Kd.R_ne HO0.out BK135.out (by decide))); have n3_ := Aside0.mk (hb); have n4_ := Aside0.mk (Kept.of_grown (S := (fun k_ => P0_ k_)) hg (by repeat (first | (with_reducible first | exact HK.out | apply Kept.alloc | apply Kept.drewN | apply Kept.drew | refine Kept.setCell ?_ (.inr GW132.out) _ | refine Kept.setCell ?_ (.inr GW133.out) _ | refine Kept.setCell ?_ (.inr GW135.out) _) | exact HK.out)) (fun k_ e_ => (HO0.out.1 k_ e_))); have n5_ := Aside0.mk (ho); clear BK132; clear BK133; clear BK135; clear HB; clear HK; clear HO0; have BK132 := n0_; have BK133 := n1_; have BK135 := n2_; have HB := n3_; have HK := n4_; have HO138 := n5_; clear n0_ n1_ n2_ n3_ n4_ n5_; clear ho hb hg hat; obtain ⟨Ao5, co5, eo5⟩ := Kd.R_slice HO138.out; subst eo5; have hcx5 : w25.cell? ⟨gx, 2, none⟩ = some (.slice Ao22 l0.length co22) := (blk_cell BKX.out 2).trans rfl; have hfx5 := blk_frozen BKX.out 2) | ((with_reducible refine gate_store (t := 27) (p := 45) rfl ?_); refine store_event (t := 27) (p := 45) (v := ?vo_x) (w1 := (w25.setCell ⟨gx, 2, none⟩ (.slice Ao5 y136.length co5))) ?hg ?ho ?hn ?hr ?_; (case ho => rfl); (case hg => rfl); (case hn => rfl); (case hr => first | (go_simp; done) | (go_simp; rfl)); intro w25x hw; have n0_ := Aside0.mk ((by rw [hw]; exact blk_far BK132.out (blk_ne BK132.out BKX.out (by decide)) _ : w25x.heap[gb132]? = some (.cells #[.int .i64 a1] 2 (0, 0)))); have n1_ := Aside0.mk ((by rw [hw]; exact blk_far BK133.out (blk_ne BK133.out BKX.out (by decide)) _ : w25x.heap[gb133]? = some (.cells #[.int .i64 a2] 2 (0, 0)))); have n2_ := Aside0.mk ((by rw [hw]; exact blk_far BK135.out (blk_ne BK135.out BKX.out (by decide)) _ : w25x.heap[gb135]? = some (.cells #[.int .i64 (rd l3 (a1 * 25 + a2))] 2 (0, 0)))); have n3_ := Aside0.mk ((by rw [hw]; exact below_set HB.out GEX.out : Below w0.heap.size w0 w25x)); have n4_ := Aside0.mk ((by rw [hw]; exact Kept.setCell HK.out (.inl HPG.out) _ : Kept w w25x (fun k_ => P0_ k_))); have n5_ := Aside0.mk ((by rw [hw]; exact Kd.R_mono (Kd.R_far (p := ⟨gx, 2, none⟩) (Kd.R_types HO138.out BKX.out (by decide)) (fun _ hk => hk.2) (.slice Ao5 y136.length co5)) (fun _ hk => hk.1) : Kd.R k48 48 w25x w0.heap.size (fun k_ => (P0_ k_ ∨ w.heap.size ≤ k_)) (.slice Ao5 y136.length co5) y136)); have n6_ := Aside0.mk ((by rw [hw]; exact blk_put (cs := #[.slice A4 l4.length c4, .pointer (some ⟨gt, 0, none⟩), .slice Ao22 l0.length co22]) BKX.out 2 _ rfl : w25x.heap[gx]? = some (.cells #[.slice A4 l4.length c4, .pointer (some ⟨gt, 0, none⟩), (.slice Ao5 y136.length co5)] 60 (0, 0)))); clear BK132 BK133 BK135 HB HK HO138 BKX hw; have BK132 := n0_; have BK133 := n1_; have BK135 := n2_; have HB := n3_; have HK := n4_; have HO138 := n5_; have BKX := n6_; clear n0_ n1_ n2_ n3_ n4_ n5_ n6_; obtain ⟨v137, hv137⟩ : ∃ v_ : Value, (.slice Ao5 y136.length co5 : Value) = v_ := ⟨_, rfl⟩; rw [hv137] at HO138 BKX; rw [hv137]; clear hv137 hcx5; have hcx6 : w25x.cell? ⟨gx, 0, none⟩ = some (.slice A4 l4.length c4) := (blk_cell BKX.out 0).trans rfl; have hnb26 := NB135_132.out; have hnc26 := NB132_135.out; have hnb27 := NB135_133.out; have hnc27 := NB133_135.out; have hcz28_0 : w25x.cell? ⟨gb135, 0, none⟩ = some (.int .i64 (rd l3 (a1 * 25 + a2))) := (blk_cell BK135.out 0).trans rfl; have hfz28_0 := blk_frozen BK135.out 0))
  go_ret2
  exact ⟨_, by first | rfl | (simp [errW_none, errW_some] <;> rfl) | (simp [*, errW_none, errW_some] <;> rfl), by (with_reducible repeat (first | refine blk_drewN ?_ _ | refine blk_drew ?_ | refine blk_alloc ?_ _)); (first | exact BKX.out | (refine blk_far ?_ (blk_ne BKX.out BK135.out (by decide)) _; (with_reducible repeat (first | refine blk_drewN ?_ _ | refine blk_drew ?_ | refine blk_alloc ?_ _)); exact BKX.out)), by (with_reducible repeat (first | apply Kd.R_alloc | apply Kd.R_drewN | apply Kd.R_drew)); exact HO138.out, k3_ HB GE132 GE133 GE135, by repeat (first | (with_reducible first | exact HK.out | apply Kept.alloc | apply Kept.drewN | apply Kept.drew | refine Kept.setCell ?_ (.inr GW132.out) _ | refine Kept.setCell ?_ (.inr GW133.out) _ | refine Kept.setCell ?_ (.inr GW135.out) _) | exact HK.out)⟩
 rw [if_neg c18] at H
 have c18b0 : ((rd l3 (a1 * 25 + a2)) == 0) = false := beq_eq_false_iff_ne.mpr c18
 have c18b1 : ((rd l3 (a1 * 25 + a2)) != 0) = true := bne_iff_ne.mpr c18
 obtain ⟨t139, A29, H⟩ := be_ H
 (try dsimp only at H)
 by_cases c30 : t139 ≥ 0
 ·
  rw [if_pos c30] at H
  have c30b0 : decide (0 ≤ t139) = true := decide_eq_true c30
  clear c30
  obtain ⟨(c31 : 0 ≤ (l0.length : Int)), H⟩ := gd_ H
  have c31b0 : decide (0 ≤ (l0.length : Int)) = true := decide_eq_true c31
  have c31b1 : decide (0 ≤ l0.length) = true := decide_eq_true (by omega)
  clear c31
  obtain ⟨(c32 : (l0.length : Int) < (y136.length : Int)), H⟩ := gd_ H
  have c32b0 : decide ((l0.length : Int) < (y136.length : Int)) = true := decide_eq_true c32
  have c32b1 : decide (l0.length < y136.length) = true := decide_eq_true (Int.ofNat_lt.mp c32)
  clear c32
  obtain ⟨y140, hy140⟩ : ∃ y_ : List (S48), y_ = (y136.set ((l0.length : Int) : Int).toNat (⟨1, 0, IntKind.i8.wrap (t139), 0⟩ : S48)) := ⟨_, rfl⟩
  replace H : (some (y140, IntKind.i8.wrap ((l0.length : Int)), true)) = some (r1, r2, r3) := by first | (rw [hy140]; with_reducible exact H) | (have H2_ := (Option.bind_some _ _).symm.trans H; rw [hy140]; with_reducible exact H2_) | (have H2_ := (Option.bind_some _ _).symm.trans H; with_reducible exact H2_) | with_reducible exact H | (rw [hy140]; exact H) | exact H
  have Ny140 := Aside0.mk hy140
  clear hy140
  simp only [Option.some.injEq, Prod.mk.injEq] at H
  obtain ⟨rfl, rfl, rfl⟩ := H
  go_enter Try.func26, Try.ntmps26
  try go_wp2_with (first | ((with_reducible refine gate_dst (N := 4) rfl ?_); refine boxM_ 4 #[.int .i64 a1] 2 ?_; intro gb132 hg w34 hbox hb; replace BKX := impl_cutter_add.bd_ BKX hb; replace HO0 := Aside0.mk (Kd.R_below (kp_ HO0) hb); have BK132 := Aside0.mk (hbox); have GW132 := Aside0.mk ((by rw [hg]; exact (by first | exact HK.out.1 | exact (show Kept w _ (fun k_ => P0_ k_) from by repeat (first | (with_reducible first | exact HK.out | apply Kept.alloc | apply Kept.drewN | apply Kept.drew) | exact HK.out)).1) : w.heap.size ≤ gb132)); replace HK := Aside0.mk (Kept.below (S := (fun k_ => P0_ k_)) (by repeat (first | (with_reducible first | exact HK.out | apply Kept.alloc | apply Kept.drewN | apply Kept.drew) | exact HK.out)) hb); have GE132 := Aside0.mk ((by rw [hg]; exact (below_size (kB_ HB)) : w0.heap.size ≤ gb132)); replace HB := Aside0.mk (below_step (kB_ HB) hb); clear hb hbox hg) | ((with_reducible refine gate_dst (N := 5) rfl ?_); refine boxM_ 5 #[.int .i64 a2] 2 ?_; intro gb133 hg w35 hbox hb; have n0_ := Aside0.mk (Kd.R_below (kp_ HO0) hb); have n1_ := bd_ BK132 hb; replace BKX := impl_cutter_add.bd_ BKX hb; have n2_ := Aside0.mk (Kept.below (S := (fun k_ => P0_ k_)) (by repeat (first | (with_reducible first | exact HK.out | apply Kept.alloc | apply Kept.drewN | apply Kept.drew | refine Kept.setCell ?_ (.inr GW132.out) _) | exact HK.out)) hb); have n3_ := Aside0.mk (below_step (k1_ HB GE132) hb); have n4_ := Aside0.mk (hbox); have n5_ := Aside0.mk ((by rw [hg]; exact (by first | exact HK.out.1 | exact (show Kept w _ (fun k_ => P0_ k_) from by repeat (first | (with_reducible first | exact HK.out | apply Kept.alloc | apply Kept.drewN | apply Kept.drew | refine Kept.setCell ?_ (.inr GW132.out) _) | exact HK.out)).1) : w.heap.size ≤ gb133)); have n6_ := Aside0.mk ((by rw [hg]; exact (below_size (k1_ HB GE132)) : w0.heap.size ≤ gb133)); have n7_ := nl_ BK132 hg; have n8_ := ng_ BK132 hg; clear HO0; clear BK132; clear HK; clear HB; have HO0 := n0_; have BK132 := n1_; have HK := n2_; have HB := n3_; have BK133 := n4_; have GW133 := n5_; have GE133 := n6_; have NB132_133 := n7_; have NB133_132 := n8_; clear n0_ n1_ n2_ n3_ n4_ n5_ n6_ n7_ n8_; clear hb hbox hg))
  have n0_ := Aside0.mk (Kd.R_drew HO0.out)
  have n1_ := Aside0.mk (blk_drew BK132.out)
  replace BKX := Aside0.mk (blk_drew BKX.out)
  have n2_ := Aside0.mk (blk_drew BK133.out)
  have n3_ := Aside0.mk (Kept.drew HK.out)
  have n4_ := Aside0.mk (below_drew1 HB.out)
  clear HO0
  clear BK132
  clear BK133
  clear HK
  clear HB
  have HO0 := n0_
  have BK132 := n1_
  have BK133 := n2_
  have HK := n3_
  have HB := n4_
  clear n0_ n1_ n2_ n3_ n4_
  obtain ⟨Ao37, co37, eo37⟩ := Kd.R_slice HO0.out
  (first | subst eo37 | (injection eo37 with f1_ f2_ f3_; have f4_ := f1_.symm; have f5_ := f3_.symm; clear f1_ f2_ f3_; subst f4_; subst f5_))
  have pi134 : 0 ≤ a1 := od_
  have qi134 : a1 < 25 := od_
  have pj134 : 0 ≤ a2 := od_
  have qj134 : a2 < 25 := od_
  have hx134_0 := spec_l04Cut.tcell (HR3.out _ HK.out) HC3.out (a1) (a2) pi134 qi134 pj134 qj134
  have hw134_0 := hx134_0
  replace pi134 := eq_true pi134
  replace qi134 := eq_true qi134
  replace pj134 := eq_true pj134
  replace qj134 := eq_true qj134
  refine start_ (n := 18) (S := fun w' => w'.cell? ⟨gb132, 0, none⟩ = some (.int .i64 a1) ∧ w'.cell? ⟨gb133, 0, none⟩ = some (.int .i64 a2) ∧ w'.cell? ⟨gt, (a1).toNat * 25 + (a2).toNat, none⟩ = some (.int .i64 (rd l3 (a1 * 25 + a2))) ∧ w'.cell? ⟨gx, 2, none⟩ = some (.slice Ao37 l0.length co37) ∧ w'.cell? ⟨gx, 1, none⟩ = some (.pointer (some ⟨gt, 0, none⟩))) (ds := []) #[false, false, false, false, false, false, false, false, false, false, false, false, false, false, false, false, false, false] (by kernel_rfl) rfl rfl ⟨(blk_cell BK132.out 0).trans rfl, (blk_cell BK133.out 0).trans rfl, (spec_l04Cut.tcell (HR3.out _ (by repeat (first | exact HK.out | apply Kept.alloc | apply Kept.drewN | apply Kept.drew | refine Kept.setCell ?_ (.inr GW135.out) _))) HC3.out (a1) (a2) (of_eq_true pi134) (of_eq_true qi134) (of_eq_true pj134) (of_eq_true qj134)), (blk_cell BKX.out 2).trans rfl, (blk_cell BKX.out 1).trans rfl⟩ (fun hHeld => ?_); refine with_tabW impl_cutter_add.tab1 impl_cutter_add.bits1 (fun HT_ HW_ => ?_)
  generalize w35.drew = w36 at HO0 BK132 BKX BK133 HK HB hx134_0 hHeld ⊢
  refine pu_ 0 19 (lA 18 1) ?_ ?_ HT_ ?_
  refine pu_ 1 20 (lA 18 3) ?_ ?_ HT_ ?_
  refine pu_ 2 21 (lA 18 7) ?_ ?_ HT_ ?_
  refine tk_ 3 22 (lA 18 15) ?_ ?_ HT_ HW_ hHeld ?_
  refine pu_ 4 23 (lA 18 31) ?_ ?_ HT_ ?_
  refine pu_ 5 24 (lA 18 63) ?_ ?_ HT_ ?_
  refine pu_ 6 25 (lA 18 127) ?_ ?_ HT_ ?_
  refine pu_ 7 26 (lA 18 255) ?_ ?_ HT_ ?_
  refine tk_ 8 27 (lA 18 511) ?_ ?_ HT_ HW_ hHeld ?_
  refine pu_ 11 30 (lA 18 2559) ?_ ?_ HT_ ?_
  refine tk_ 9 28 (lA 18 3071) ?_ ?_ HT_ HW_ hHeld ?_
  refine pu_ 12 31 (lA 18 7167) ?_ ?_ HT_ ?_
  refine tk_ 10 29 (lA 18 8191) ?_ ?_ HT_ HW_ hHeld ?_
  refine pu_ 13 32 (lA 18 16383) ?_ ?_ HT_ ?_
  refine tk_ 14 33 (lA 18 32767) ?_ ?_ HT_ HW_ hHeld ?_
  refine one_ (i := 15) (N := some 9) #[true, true, true, true, true, true, true, true, true, true, true, true, true, true, true, true, false, false] rfl rfl (one_of HT_.out (by kernel_rfl)) (by decide) (fun K hK => ?_)
  refine box_step ?hg (N := 9) ?hd (cs := #[.int .i64 0]) (t := 2) ?hr ?_; (case hd => rfl); (case hg => rfl); (case hr => first | (go_simp; done) | (go_simp; rfl))
  intro gb135 hg w38 hbox hb
  have n0_ := Aside0.mk (Kd.R_below (kp_ HO0) hb)
  have n1_ := bd_ BK132 hb
  replace BKX := impl_cutter_add.bd_ BKX hb
  have n2_ := bd_ BK133 hb
  have n3_ := Aside0.mk (Kept.below (S := (fun k_ => P0_ k_)) (by repeat (first | (with_reducible first | exact HK.out | apply Kept.alloc | apply Kept.drewN | apply Kept.drew | refine Kept.setCell ?_ (.inr GW132.out) _ | refine Kept.setCell ?_ (.inr GW133.out) _) | exact HK.out)) hb)
  have n4_ := Aside0.mk (below_step (k2_ HB GE132 GE133) hb)
  have n5_ := Aside0.mk (hbox)
  have n6_ := Aside0.mk ((by rw [hg]; exact (by first | exact HK.out.1 | exact (show Kept w _ (fun k_ => P0_ k_) from by repeat (first | (with_reducible first | exact HK.out | apply Kept.alloc | apply Kept.drewN | apply Kept.drew | refine Kept.setCell ?_ (.inr GW132.out) _ | refine Kept.setCell ?_ (.inr GW133.out) _) | exact HK.out)).1) : w.heap.size ≤ gb135))
  have n7_ := Aside0.mk ((by rw [hg]; exact (below_size (k2_ HB GE132 GE133)) : w0.heap.size ≤ gb135))
  have n8_ := nl_ BK132 hg
  have n9_ := ng_ BK132 hg
  have n10_ := nl_ BK133 hg
  have n11_ := ng_ BK133 hg
  clear HO0
  clear BK132
  clear BK133
  clear HK
  clear HB
  have HO0 := n0_
  have BK132 := n1_
  have BK133 := n2_
  have HK := n3_
  have HB := n4_
  have BK135 := n5_
  have GW135 := n6_
  have GE135 := n7_
  have NB132_135 := n8_
  have NB135_132 := n9_
  have NB133_135 := n10_
  have NB135_133 := n11_
  clear n0_ n1_ n2_ n3_ n4_ n5_ n6_ n7_ n8_ n9_ n10_ n11_
  clear hb hbox hg
  refine hK.out _ _ ⟨(blk_cell BK132.out 0).trans rfl, (blk_cell BK133.out 0).trans rfl, (spec_l04Cut.tcell (HR3.out _ (by repeat (first | exact HK.out | apply Kept.alloc | apply Kept.drewN | apply Kept.drew | refine Kept.setCell ?_ (.inr GW135.out) _))) HC3.out (a1) (a2) (of_eq_true pi134) (of_eq_true qi134) (of_eq_true pj134) (of_eq_true qj134)), ((blk_cell BKX.out 2).trans rfl), ((blk_cell BKX.out 1).trans rfl)⟩ (fun hHeld => ?_)
  clear hK K
  refine norm_ (a' := ?_) ?_ ?_
  rotate_left
  ·
   show Act.put _ (some 9) _ = _
   simp only [Act.put, List.setIfInBounds_toArray, List.set_cons_zero, List.set_cons_succ, i64_w, i32_w]
   rfl
  refine pu_ 16 8 (lA 18 131071) ?_ ?_ HT_ ?_
  refine one_ (i := 17) (N := none) #[true, true, true, true, true, true, true, true, true, true, true, true, true, true, true, true, true, true] rfl rfl (one_of HT_.out (by kernel_rfl)) (by decide) (fun K hK => ?_)
  have hs39 : w38.cell? ⟨gb135, 0, none⟩ = some (.int .i64 0) := (blk_cell BK135.out 0).trans rfl
  have hfs39 := blk_frozen BK135.out 0
  have hns39_0 := NB132_135.out
  have hns39_1 := NB133_135.out
  have hms39_0 := NB135_132.out
  have hms39_1 := NB135_133.out
  refine skip_ (w1 := ?_) (by rfl) rfl ?_ ?_
  rotate_left
  ·
   go_simp
   rfl
  refine hK.out _ _ ⟨((cell_far (p := ⟨gb135, _, none⟩) NB132_135.out _).trans (hHeld.1)), ((cell_far (p := ⟨gb135, _, none⟩) NB133_135.out _).trans (hHeld.2.1)), (spec_l04Cut.tcell (HR3.out _ (by repeat (first | exact HK.out | apply Kept.alloc | apply Kept.drewN | apply Kept.drew | refine Kept.setCell ?_ (.inr GW135.out) _))) HC3.out (a1) (a2) (of_eq_true pi134) (of_eq_true qi134) (of_eq_true pj134) (of_eq_true qj134)), ((cell_far (p := ⟨gb135, _, none⟩) (blk_ne BKX.out BK135.out (by decide)) _).trans ((blk_cell BKX.out 2).trans rfl)), ((cell_far (p := ⟨gb135, _, none⟩) (blk_ne BKX.out BK135.out (by decide)) _).trans ((blk_cell BKX.out 1).trans rfl))⟩ (fun hHeld => ?_)
  clear hK K
  refine done_ (done_of HT_.out (by kernel_rfl)) ?_
  have hcx4 : (w38.setCell ⟨gb135, 0, none⟩ (.int .i64 (rd l3 (a1 * 25 + a2)))).cell? ⟨gx, 2, none⟩ = some (.slice Ao37 l0.length co37) := (cell_far (p := ⟨gb135, 0, none⟩) (blk_ne BKX.out BK135.out (by decide)) _).trans ((blk_cell BKX.out 2).trans rfl)
  try go_wp2_with (first | ((with_reducible refine gate_builtin (b := .append) (xs := #[.tmp 40, .tmp 42]) rfl ?_); at_builtin; refine Kd.R_append k48 (w0 := w0) w0.heap.size rfl (.tmp 40) (.tmp 42) 27 48 (.agg #[(.int .i8 0), (.int .i8 0), (.int .i8 0), (.int .i8 0)]) 4 rfl Try.underlying27 info48 rfl (by decide) (by omega) (.slice Ao37 l0.length co37) l0 (⟨0, 0, 0, 0⟩ : S48) [.int .i8 0, .int .i8 0, .int .i8 0, .int .i8 0] (fun k_ => (P0_ k_ ∨ w.heap.size ≤ k_)) (fun _ => False) rfl (by first | (go_simp; done) | (go_simp; rfl)) ?aP (fun _ hk => hk.elim) ?aF ?aO ?aB ?aS ?aL ?_; (case aP => exact k48_mkM _ _ _ (⟨0, 0, 0, 0⟩ : S48)); (case aB => exact (k3_ HB GE132 GE133 GE135)); (case aF => exact (fun k_ hk => (.inr (Nat.le_trans (show Kept w _ (fun k_ => P0_ k_) from by repeat (first | (with_reducible first | exact HK.out | apply Kept.alloc | apply Kept.drewN | apply Kept.drew | refine Kept.setCell ?_ (.inr GW132.out) _ | refine Kept.setCell ?_ (.inr GW133.out) _ | refine Kept.setCell ?_ (.inr GW135.out) _) | exact HK.out)).1 hk)))); (case aO => exact (by (with_reducible repeat (first | apply Kd.R_alloc | apply Kd.R_drewN | apply Kd.R_drew)); exact Kd.R_mono (Kd.R_far (p := ⟨gb135, 0, none⟩) (Kd.R_types HO0.out BK135.out (by decide)) (fun _ hk => hk.2) (.int .i64 (rd l3 (a1 * 25 + a2)))) (fun _ hk => hk.1))); (case aS => exact (below_size (k3_ HB GE132 GE133 GE135))); (case aL => have := LMc17.out; omega); intro v137 w40 ho hb hg hat; rw [← Ny136.out] at ho; have n0_ := Aside0.mk (blk_grown (g := gb132) (o := .cells #[.int .i64 a1] 2 (0, 0)) (by (with_reducible repeat (first | refine blk_drewN ?_ _ | refine blk_drew ?_ | refine blk_alloc ?_ _)); refine blk_far ?_ NB132_135.out _; (with_reducible repeat (first | refine blk_drewN ?_ _ | refine blk_drew ?_ | refine blk_alloc ?_ _)); exact BK132.out) hg (Kd.R_ne HO0.out BK132.out (by decide))); replace BKX := impl_cutter_add.bg_ BKX hg (Kd.R_ne HO0.out BKX.out (by decide)) (fun h_ => by (with_reducible repeat (first | refine blk_drewN ?_ _ | refine blk_drew ?_ | refine blk_alloc ?_ _)); refine blk_far ?_ (blk_ne BKX.out BK135.out (by decide)) _; (with_reducible repeat (first | refine blk_drewN ?_ _ | refine blk_drew ?_ | refine blk_alloc ?_ _)); exact h_); have n1_ := Aside0.mk (blk_grown (g := gb133) (o := .cells #[.int .i64 a2] 2 (0, 0)) (by (with_reducible repeat (first | refine blk_drewN ?_ _ | refine blk_drew ?_ | refine blk_alloc ?_ _)); refine blk_far ?_ NB133_135.out _; (with_reducible repeat (first | refine blk_drewN ?_ _ | refine blk_drew ?_ | refine blk_alloc ?_ _)); exact BK133.out) hg (Kd.R_ne HO0.out BK133.out (by decide))); have n2_ := Aside0.mk (blk_grown (g := gb135) (o := .cells #[.int .i64 (rd l3 (a1 * 25 + a2))] 2 (0, 0)) (by (with_reducible repeat (first | refine blk_drewN ?_ _ | refine blk_drew ?_ | refine blk_alloc ?_ _)); refine blk_put (cs := #[.int .i64 0]) ?_ 0 _ rfl; (with_reducible repeat (first | refine blk_drewN ?_ _ | refine blk_drew ?_ | refine blk_alloc ?_ _)); exact BK135.out) hg (Kd.R_ne HO0.out BK135.out (by decide))); have n3_ := Aside0.mk (hb); have n4_ := Aside0.mk (Kept.of_grown (S := (fun k_ => P0_ k_)) hg (by repeat (first | (with_reducible first | exact HK.out | apply Kept.alloc | apply Kept.drewN | apply Kept.drew | refine Kept.setCell ?_ (.inr GW132.out) _ | refine Kept.setCell ?_ (.inr GW133.out) _ | refine Kept.setCell ?_ (.inr GW135.out) _) | exact HK.out)) (fun k_ e_ => (HO0.out.1 k_ e_))); have n5_ := Aside0.mk (ho); clear BK132; clear BK133; clear BK135; clear HB; clear HK; clear HO0; have BK132 := n0_; have BK133 := n1_; have BK135 := n2_; have HB := n3_; have HK := n4_; have HO138 := n5_; clear n0_ n1_ n2_ n3_ n4_ n5_; clear ho hb hg hat; obtain ⟨Ao5, co5, eo5⟩ := Kd.R_slice HO138.out; subst eo5; have hcx5 : w40.cell? ⟨gx, 2, none⟩ = some (.slice Ao37 l0.length co37) := (blk_cell BKX.out 2).trans rfl; have hfx5 := blk_frozen BKX.out 2) | ((with_reducible refine gate_store (t := 27) (p := 45) rfl ?_); refine store_event (t := 27) (p := 45) (v := ?vo_x) (w1 := (w40.setCell ⟨gx, 2, none⟩ (.slice Ao5 y136.length co5))) ?hg ?ho ?hn ?hr ?_; (case ho => rfl); (case hg => rfl); (case hn => rfl); (case hr => first | (go_simp; done) | (go_simp; rfl)); intro w40x hw; have n0_ := Aside0.mk ((by rw [hw]; exact blk_far BK132.out (blk_ne BK132.out BKX.out (by decide)) _ : w40x.heap[gb132]? = some (.cells #[.int .i64 a1] 2 (0, 0)))); have n1_ := Aside0.mk ((by rw [hw]; exact blk_far BK133.out (blk_ne BK133.out BKX.out (by decide)) _ : w40x.heap[gb133]? = some (.cells #[.int .i64 a2] 2 (0, 0)))); have n2_ := Aside0.mk ((by rw [hw]; exact blk_far BK135.out (blk_ne BK135.out BKX.out (by decide)) _ : w40x.heap[gb135]? = some (.cells #[.int .i64 (rd l3 (a1 * 25 + a2))] 2 (0, 0)))); have n3_ := Aside0.mk ((by rw [hw]; exact below_set HB.out GEX.out : Below w0.heap.size w0 w40x)); have n4_ := Aside0.mk ((by rw [hw]; exact Kept.setCell HK.out (.inl HPG.out) _ : Kept w w40x (fun k_ => P0_ k_))); have n5_ := Aside0.mk ((by rw [hw]; exact Kd.R_mono (Kd.R_far (p := ⟨gx, 2, none⟩) (Kd.R_types HO138.out BKX.out (by decide)) (fun _ hk => hk.2) (.slice Ao5 y136.length co5)) (fun _ hk => hk.1) : Kd.R k48 48 w40x w0.heap.size (fun k_ => (P0_ k_ ∨ w.heap.size ≤ k_)) (.slice Ao5 y136.length co5) y136)); have n6_ := Aside0.mk ((by rw [hw]; exact blk_put (cs := #[.slice A4 l4.length c4, .pointer (some ⟨gt, 0, none⟩), .slice Ao37 l0.length co37]) BKX.out 2 _ rfl : w40x.heap[gx]? = some (.cells #[.slice A4 l4.length c4, .pointer (some ⟨gt, 0, none⟩), (.slice Ao5 y136.length co5)] 60 (0, 0)))); clear BK132 BK133 BK135 HB HK HO138 BKX hw; have BK132 := n0_; have BK133 := n1_; have BK135 := n2_; have HB := n3_; have HK := n4_; have HO138 := n5_; have BKX := n6_; clear n0_ n1_ n2_ n3_ n4_ n5_ n6_; obtain ⟨v137, hv137⟩ : ∃ v_ : Value, (.slice Ao5 y136.length co5 : Value) = v_ := ⟨_, rfl⟩; rw [hv137] at HO138 BKX; rw [hv137]; clear hv137 hcx5; have hcx6 : w40x.cell? ⟨gx, 0, none⟩ = some (.slice A4 l4.length c4) := (blk_cell BKX.out 0).trans rfl; have hnb41 := NB135_132.out; have hnc41 := NB132_135.out; have hnb42 := NB135_133.out; have hnc42 := NB133_135.out; have hcz43_0 : w40x.cell? ⟨gb135, 0, none⟩ = some (.int .i64 (rd l3 (a1 * 25 + a2))) := (blk_cell BK135.out 0).trans rfl; have hfz43_0 := blk_frozen BK135.out 0) | ((with_reducible refine gate_callee (f := 40) rfl ?_); refine goM_ (some 55) Try.func40 #[.slice A4 l4.length c4, .func (.func 41) #[] #[.pointer (some ⟨gb132, 0, none⟩), .pointer (some ⟨gb133, 0, none⟩), .pointer (some ⟨gb135, 0, none⟩)]] ?_; (with_reducible refine (impl_cutter_add.find_calls gb132 gb133 gb135 (rd l3 (a1 * 25 + a2)) a1 a2 _ _ l4 t139 _ ?side1 ?side2 ?side7 ?side8 ?side9 A29.out).mono ?_); (case side7 => exact BK132.out); (case side8 => exact BK133.out); (case side9 => exact BK135.out); (case side1 => exact Kd.C_kept_now HR4.out (by repeat (first | (with_reducible first | exact HK.out | apply Kept.alloc | apply Kept.drewN | apply Kept.drew | refine Kept.setCell ?_ (.inr GW132.out) _ | refine Kept.setCell ?_ (.inr GW133.out) _ | refine Kept.setCell ?_ (.inr GW135.out) _) | exact HK.out))); (case side2 => exact HC4.out); rintro e w44 ⟨rfl, hb⟩; refine ⟨_, rfl, ?_⟩; have n0_ := Aside0.mk (Kd.R_below (kp_ HO138) hb); have n1_ := bd_ BK132 hb; replace BKX := impl_cutter_add.bd_ BKX hb; have n2_ := bd_ BK133 hb; have n3_ := bd_ BK135 hb; have n4_ := Aside0.mk (Kept.below (S := (fun k_ => P0_ k_)) (by repeat (first | (with_reducible first | exact HK.out | apply Kept.alloc | apply Kept.drewN | apply Kept.drew | refine Kept.setCell ?_ (.inr GW132.out) _ | refine Kept.setCell ?_ (.inr GW133.out) _ | refine Kept.setCell ?_ (.inr GW135.out) _) | exact HK.out)) hb); have n5_ := Aside0.mk (below_step (k3_ HB GE132 GE133 GE135) hb); clear HO138; clear BK132; clear BK133; clear BK135; clear HK; clear HB; have HO138 := n0_; have BK132 := n1_; have BK133 := n2_; have BK135 := n3_; have HK := n4_; have HB := n5_; clear n0_ n1_ n2_ n3_ n4_ n5_; clear hb; have hcx7 : w44.cell? ⟨gx, 2, none⟩ = some v137 := (blk_cell BKX.out 2).trans rfl; have p33 : 0 ≤ ((l0.length : Int) : Int) := od_; have q33 : ((l0.length : Int) : Int) < ((y136.length : Int) : Int) := od_; obtain ⟨go33, co33, eo33, gb33, gl33, cl33, HG33⟩ := Kd.R_form HO138.out (by omega); (first | cases eo33 | (injection eo33 with ea_ en_ ec_; (first | subst ea_ | (injection ea_ with ea_; subst ea_)); subst ec_; clear en_)); have GB33 := Aside0.mk gb33; have GG33 := Aside0.mk HG33; clear gb33 gl33 HG33; have HMgo33 := Aside0.mk (show (P0_ go33 ∨ w.heap.size ≤ go33) from (HO138.out.1 _ rfl)); obtain ⟨ce33, hcl33, hM33, hcc33, hfr33⟩ := Kd.R_elem HO138.out z48 ((l0.length : Int) : Int) p33 q33; obtain rfl := k48_openM hM33; have hx33_0 : w44.cell? ⟨go33, l0.length * 4, none⟩ = some (.int .i8 ((rd_T48 y136 (l0.length : Int)).f0)) := hcc33 0 _ rfl; have hx33_1 : w44.cell? ⟨go33, l0.length * 4 + 1, none⟩ = some (.int .i8 ((rd_T48 y136 (l0.length : Int)).f1)) := hcc33 1 _ rfl; have hx33_2 : w44.cell? ⟨go33, l0.length * 4 + 2, none⟩ = some (.int .i8 ((rd_T48 y136 (l0.length : Int)).f2)) := hcc33 2 _ rfl; have hx33_3 : w44.cell? ⟨go33, l0.length * 4 + 3, none⟩ = some (.int .i8 ((rd_T48 y136 (l0.length : Int)).f3)) := hcc33 3 _ rfl; have hf33_0 : w44.frozen? ⟨go33, l0.length * 4, none⟩ = false := hfr33 0; have hf33_1 : w44.frozen? ⟨go33, l0.length * 4 + 1, none⟩ = false := hfr33 1; have hf33_2 : w44.frozen? ⟨go33, l0.length * 4 + 2, none⟩ = false := hfr33 2; have hf33_3 : w44.frozen? ⟨go33, l0.length * 4 + 3, none⟩ = false := hfr33 3; clear hcl33 hcc33 hfr33; (try clear hM33); replace p33 := eq_true p33; replace q33 := eq_true q33; have HX45 := Aside0.mk (show Kd.R k48 48 w44 w0.heap.size (fun k_ => (P0_ k_ ∨ w.heap.size ≤ k_)) (.slice (some ⟨go33, 0, none⟩) y136.length co33) y136 from (kp_ HO138)); obtain ⟨ce45, hcl45, hM45, hcc45, hfr45⟩ := Kd.R_elem HX45.out z48 ((l0.length : Int) : Int) od_ (by have h_ : ((l0.length : Int) : Int) < ((y136.length : Int) : Int) := od_; first | exact h_ | (have e_ := (Kd.R_reads' HO138.out).1; omega) | simpa using h_); obtain rfl := k48_openM hM45; have HP45 := Kd.R_seg HX45.out ((l0.length : Int) : Int) od_ (by have h_ : ((l0.length : Int) : Int) < ((y136.length : Int) : Int) := od_; first | exact h_ | (have e_ := (Kd.R_reads' HO138.out).1; omega) | simpa using h_) (seg := [.int .i8 1, .int .i8 0, .int .i8 (IntKind.i8.wrap (t139)), .int .i8 0]) (j := 0) hcl45 hcc45 (show 4 ≤ 4 from by decide) (x' := (⟨1, 0, IntKind.i8.wrap (t139), 0⟩ : S48)) (k48_mkM _ _ _ (⟨1, 0, IntKind.i8.wrap (t139), 0⟩ : S48) ) (fun _ hk => hk); have hx45_0 := hcc45 0 _ rfl; (try simp only [show (k48).sz = 4 from rfl, Nat.mul_one, Nat.add_zero, Int.toNat_natCast] at hx45_0); have hf45_0 := hfr45 0; (try simp only [show (k48).sz = 4 from rfl, Nat.mul_one, Nat.add_zero, Int.toNat_natCast] at hf45_0); have hx45_1 := hcc45 1 _ rfl; (try simp only [show (k48).sz = 4 from rfl, Nat.mul_one, Nat.add_zero, Int.toNat_natCast] at hx45_1); have hf45_1 := hfr45 1; (try simp only [show (k48).sz = 4 from rfl, Nat.mul_one, Nat.add_zero, Int.toNat_natCast] at hf45_1); have hx45_2 := hcc45 2 _ rfl; (try simp only [show (k48).sz = 4 from rfl, Nat.mul_one, Nat.add_zero, Int.toNat_natCast] at hx45_2); have hf45_2 := hfr45 2; (try simp only [show (k48).sz = 4 from rfl, Nat.mul_one, Nat.add_zero, Int.toNat_natCast] at hf45_2); have hx45_3 := hcc45 3 _ rfl; (try simp only [show (k48).sz = 4 from rfl, Nat.mul_one, Nat.add_zero, Int.toNat_natCast] at hx45_3); have hf45_3 := hfr45 3; (try simp only [show (k48).sz = 4 from rfl, Nat.mul_one, Nat.add_zero, Int.toNat_natCast] at hf45_3); clear hcl45 hcc45 hfr45; (try clear hM45)) | ((with_reducible refine gate_store (t := 48) (p := 66) rfl ?_); refine store_event (t := 48) (p := 66) (v := ?vo_w46) (w1 := ((((w44.setCell ⟨go33, l0.length * 4, none⟩ (.int .i8 1)).setCell ⟨go33, l0.length * 4 + 1, none⟩ (.int .i8 0)).setCell ⟨go33, l0.length * 4 + 2, none⟩ (.int .i8 (IntKind.i8.wrap (t139)))).setCell ⟨go33, l0.length * 4 + 3, none⟩ (.int .i8 0))) ?hg ?ho ?hn ?hr ?_; (case ho => rfl); (case hg => rfl); (case hn => rfl); (case hr => first | (go_simp; done) | (go_simp; rfl)); intro w46 hw; have hg : w44.grownBy w46 (some go33) := (by rw [hw]; exact HP45.2); have hp_ : Kd.R k48 48 w46 w0.heap.size (fun k_ => (P0_ k_ ∨ w.heap.size ≤ k_)) (.slice (some ⟨go33, 0, none⟩) y136.length co33) y140 := (by rw [hw, Ny140.out]; exact HP45.1); clear HP45; have n0_ := Aside0.mk (blk_grown (g := gb132) (o := .cells #[.int .i64 a1] 2 (0, 0)) (kb_ BK132) hg (Kd.R_ne HO138.out BK132.out (by decide))); replace BKX := impl_cutter_add.bg_ BKX hg (Kd.R_ne HO138.out BKX.out (by decide)) (fun h_ => by (with_reducible repeat (first | refine blk_drewN ?_ _ | refine blk_drew ?_ | refine blk_alloc ?_ _)); exact h_); have n1_ := Aside0.mk (blk_grown (g := gb133) (o := .cells #[.int .i64 a2] 2 (0, 0)) (kb_ BK133) hg (Kd.R_ne HO138.out BK133.out (by decide))); have n2_ := Aside0.mk (blk_grown (g := gb135) (o := .cells #[.int .i64 (rd l3 (a1 * 25 + a2))] 2 (0, 0)) (kb_ BK135) hg (Kd.R_ne HO138.out BK135.out (by decide))); have n3_ := Aside0.mk (hp_); have n4_ := Aside0.mk ((by rw [hw]; exact below_set (below_set (below_set (below_set (HB.out) GB33.out) GB33.out) GB33.out) GB33.out : Below w0.heap.size w0 w46)); have n5_ := Aside0.mk (Kept.of_grown (S := (fun k_ => P0_ k_)) hg (by repeat (first | (with_reducible first | exact HK.out | apply Kept.alloc | apply Kept.drewN | apply Kept.drew | refine Kept.setCell ?_ (.inr GW132.out) _ | refine Kept.setCell ?_ (.inr GW133.out) _ | refine Kept.setCell ?_ (.inr GW135.out) _) | exact HK.out)) (fun k_ e_ => (HO138.out.1 k_ e_))); clear BK132; clear BK133; clear BK135; clear HO138; clear HB; clear HK; have BK132 := n0_; have BK133 := n1_; have BK135 := n2_; have HO138 := n3_; have HB := n4_; have HK := n5_; clear n0_ n1_ n2_ n3_ n4_ n5_; clear hg hw hp_))
  go_ret2
  exact ⟨_, by first | rfl | (simp [errW_none, errW_some] <;> rfl) | (simp [*, errW_none, errW_some] <;> rfl), by (with_reducible repeat (first | refine blk_drewN ?_ _ | refine blk_drew ?_ | refine blk_alloc ?_ _)); (first | exact BKX.out | (refine blk_far ?_ (blk_ne BKX.out BK135.out (by decide)) _; (with_reducible repeat (first | refine blk_drewN ?_ _ | refine blk_drew ?_ | refine blk_alloc ?_ _)); exact BKX.out)), by (with_reducible repeat (first | apply Kd.R_alloc | apply Kd.R_drewN | apply Kd.R_drew)); exact HO138.out, k3_ HB GE132 GE133 GE135, by repeat (first | (with_reducible first | exact HK.out | apply Kept.alloc | apply Kept.drewN | apply Kept.drew | refine Kept.setCell ?_ (.inr GW132.out) _ | refine Kept.setCell ?_ (.inr GW133.out) _ | refine Kept.setCell ?_ (.inr GW135.out) _) | exact HK.out)⟩
 rw [if_neg c30] at H
 have c30b0 : decide (0 ≤ t139) = false := decide_eq_false c30
 clear c30
 have HC47 := Aside0.mk H
 clear H
 go_enter Try.func26, Try.ntmps26
 try go_wp2_with (first | ((with_reducible refine gate_dst (N := 4) rfl ?_); refine boxM_ 4 #[.int .i64 a1] 2 ?_; intro gb132 hg w48 hbox hb; replace BKX := impl_cutter_add.bd_ BKX hb; replace HO0 := Aside0.mk (Kd.R_below (kp_ HO0) hb); have BK132 := Aside0.mk (hbox); have GW132 := Aside0.mk ((by rw [hg]; exact (by first | exact HK.out.1 | exact (show Kept w _ (fun k_ => P0_ k_) from by repeat (first | (with_reducible first | exact HK.out | apply Kept.alloc | apply Kept.drewN | apply Kept.drew) | exact HK.out)).1) : w.heap.size ≤ gb132)); replace HK := Aside0.mk (Kept.below (S := (fun k_ => P0_ k_)) (by repeat (first | (with_reducible first | exact HK.out | apply Kept.alloc | apply Kept.drewN | apply Kept.drew) | exact HK.out)) hb); have GE132 := Aside0.mk ((by rw [hg]; exact (below_size (kB_ HB)) : w0.heap.size ≤ gb132)); replace HB := Aside0.mk (below_step (kB_ HB) hb); clear hb hbox hg) | ((with_reducible refine gate_dst (N := 5) rfl ?_); refine boxM_ 5 #[.int .i64 a2] 2 ?_; intro gb133 hg w49 hbox hb; have n0_ := Aside0.mk (Kd.R_below (kp_ HO0) hb); have n1_ := bd_ BK132 hb; replace BKX := impl_cutter_add.bd_ BKX hb; have n2_ := Aside0.mk (Kept.below (S := (fun k_ => P0_ k_)) (by repeat (first | (with_reducible first | exact HK.out | apply Kept.alloc | apply Kept.drewN | apply Kept.drew | refine Kept.setCell ?_ (.inr GW132.out) _) | exact HK.out)) hb); have n3_ := Aside0.mk (below_step (k1_ HB GE132) hb); have n4_ := Aside0.mk (hbox); have n5_ := Aside0.mk ((by rw [hg]; exact (by first | exact HK.out.1 | exact (show Kept w _ (fun k_ => P0_ k_) from by repeat (first | (with_reducible first | exact HK.out | apply Kept.alloc | apply Kept.drewN | apply Kept.drew | refine Kept.setCell ?_ (.inr GW132.out) _) | exact HK.out)).1) : w.heap.size ≤ gb133)); have n6_ := Aside0.mk ((by rw [hg]; exact (below_size (k1_ HB GE132)) : w0.heap.size ≤ gb133)); have n7_ := nl_ BK132 hg; have n8_ := ng_ BK132 hg; clear HO0; clear BK132; clear HK; clear HB; have HO0 := n0_; have BK132 := n1_; have HK := n2_; have HB := n3_; have BK133 := n4_; have GW133 := n5_; have GE133 := n6_; have NB132_133 := n7_; have NB133_132 := n8_; clear n0_ n1_ n2_ n3_ n4_ n5_ n6_ n7_ n8_; clear hb hbox hg))
 have n0_ := Aside0.mk (Kd.R_drew HO0.out)
 have n1_ := Aside0.mk (blk_drew BK132.out)
 replace BKX := Aside0.mk (blk_drew BKX.out)
 have n2_ := Aside0.mk (blk_drew BK133.out)
 have n3_ := Aside0.mk (Kept.drew HK.out)
 have n4_ := Aside0.mk (below_drew1 HB.out)
 clear HO0
 clear BK132
 clear BK133
 clear HK
 clear HB
 have HO0 := n0_
 have BK132 := n1_
 have BK133 := n2_
 have HK := n3_
 have HB := n4_
 clear n0_ n1_ n2_ n3_ n4_
 obtain ⟨Ao51, co51, eo51⟩ := Kd.R_slice HO0.out
 (first | subst eo51 | (injection eo51 with f1_ f2_ f3_; have f4_ := f1_.symm; have f5_ := f3_.symm; clear f1_ f2_ f3_; subst f4_; subst f5_))
 have pi134 : 0 ≤ a1 := od_
 have qi134 : a1 < 25 := od_
 have pj134 : 0 ≤ a2 := od_
 have qj134 : a2 < 25 := od_
 have hx134_0 := spec_l04Cut.tcell (HR3.out _ HK.out) HC3.out (a1) (a2) pi134 qi134 pj134 qj134
 have hw134_0 := hx134_0
 replace pi134 := eq_true pi134
 replace qi134 := eq_true qi134
 replace pj134 := eq_true pj134
 replace qj134 := eq_true qj134
 refine start_ (n := 18) (S := fun w' => w'.cell? ⟨gb132, 0, none⟩ = some (.int .i64 a1) ∧ w'.cell? ⟨gb133, 0, none⟩ = some (.int .i64 a2) ∧ w'.cell? ⟨gt, (a1).toNat * 25 + (a2).toNat, none⟩ = some (.int .i64 (rd l3 (a1 * 25 + a2))) ∧ w'.cell? ⟨gx, 2, none⟩ = some (.slice Ao51 l0.length co51) ∧ w'.cell? ⟨gx, 1, none⟩ = some (.pointer (some ⟨gt, 0, none⟩))) (ds := []) #[false, false, false, false, false, false, false, false, false, false, false, false, false, false, false, false, false, false] (by kernel_rfl) rfl rfl ⟨(blk_cell BK132.out 0).trans rfl, (blk_cell BK133.out 0).trans rfl, (spec_l04Cut.tcell (HR3.out _ (by repeat (first | exact HK.out | apply Kept.alloc | apply Kept.drewN | apply Kept.drew | refine Kept.setCell ?_ (.inr GW135.out) _))) HC3.out (a1) (a2) (of_eq_true pi134) (of_eq_true qi134) (of_eq_true pj134) (of_eq_true qj134)), (blk_cell BKX.out 2).trans rfl, (blk_cell BKX.out 1).trans rfl⟩ (fun hHeld => ?_); refine with_tabW impl_cutter_add.tab1 impl_cutter_add.bits1 (fun HT_ HW_ => ?_)
 generalize w49.drew = w50 at HO0 BK132 BKX BK133 HK HB hx134_0 hHeld ⊢
 refine pu_ 0 19 (lA 18 1) ?_ ?_ HT_ ?_
 refine pu_ 1 20 (lA 18 3) ?_ ?_ HT_ ?_
 refine pu_ 2 21 (lA 18 7) ?_ ?_ HT_ ?_
 refine tk_ 3 22 (lA 18 15) ?_ ?_ HT_ HW_ hHeld ?_
 refine pu_ 4 23 (lA 18 31) ?_ ?_ HT_ ?_
 refine pu_ 5 24 (lA 18 63) ?_ ?_ HT_ ?_
 refine pu_ 6 25 (lA 18 127) ?_ ?_ HT_ ?_
 refine pu_ 7 26 (lA 18 255) ?_ ?_ HT_ ?_
 refine tk_ 8 27 (lA 18 511) ?_ ?_ HT_ HW_ hHeld ?_
 refine pu_ 11 30 (lA 18 2559) ?_ ?_ HT_ ?_
 refine tk_ 9 28 (lA 18 3071) ?_ ?_ HT_ HW_ hHeld ?_
 refine pu_ 12 31 (lA 18 7167) ?_ ?_ HT_ ?_
 refine tk_ 10 29 (lA 18 8191) ?_ ?_ HT_ HW_ hHeld ?_
 refine pu_ 13 32 (lA 18 16383) ?_ ?_ HT_ ?_
 refine tk_ 14 33 (lA 18 32767) ?_ ?_ HT_ HW_ hHeld ?_
 refine one_ (i := 15) (N := some 9) #[true, true, true, true, true, true, true, true, true, true, true, true, true, true, true, true, false, false] rfl rfl (one_of HT_.out (by kernel_rfl)) (by decide) (fun K hK => ?_)
 refine box_step ?hg (N := 9) ?hd (cs := #[.int .i64 0]) (t := 2) ?hr ?_; (case hd => rfl); (case hg => rfl); (case hr => first | (go_simp; done) | (go_simp; rfl))
 intro gb135 hg w52 hbox hb
 have n0_ := Aside0.mk (Kd.R_below (kp_ HO0) hb)
 have n1_ := bd_ BK132 hb
 replace BKX := impl_cutter_add.bd_ BKX hb
 have n2_ := bd_ BK133 hb
 have n3_ := Aside0.mk (Kept.below (S := (fun k_ => P0_ k_)) (by repeat (first | (with_reducible first | exact HK.out | apply Kept.alloc | apply Kept.drewN | apply Kept.drew | refine Kept.setCell ?_ (.inr GW132.out) _ | refine Kept.setCell ?_ (.inr GW133.out) _) | exact HK.out)) hb)
 have n4_ := Aside0.mk (below_step (k2_ HB GE132 GE133) hb)
 have n5_ := Aside0.mk (hbox)
 have n6_ := Aside0.mk ((by rw [hg]; exact (by first | exact HK.out.1 | exact (show Kept w _ (fun k_ => P0_ k_) from by repeat (first | (with_reducible first | exact HK.out | apply Kept.alloc | apply Kept.drewN | apply Kept.drew | refine Kept.setCell ?_ (.inr GW132.out) _ | refine Kept.setCell ?_ (.inr GW133.out) _) | exact HK.out)).1) : w.heap.size ≤ gb135))
 have n7_ := Aside0.mk ((by rw [hg]; exact (below_size (k2_ HB GE132 GE133)) : w0.heap.size ≤ gb135))
 have n8_ := nl_ BK132 hg
 have n9_ := ng_ BK132 hg
 have n10_ := nl_ BK133 hg
 have n11_ := ng_ BK133 hg
 clear HO0
 clear BK132
 clear BK133
 clear HK
 clear HB
 have HO0 := n0_
 have BK132 := n1_
 have BK133 := n2_
 have HK := n3_
 have HB := n4_
 have BK135 := n5_
 have GW135 := n6_
 have GE135 := n7_
 have NB132_135 := n8_
 have NB135_132 := n9_
 have NB133_135 := n10_
 have NB135_133 := n11_
 clear n0_ n1_ n2_ n3_ n4_ n5_ n6_ n7_ n8_ n9_ n10_ n11_
 clear hb hbox hg
 refine hK.out _ _ ⟨(blk_cell BK132.out 0).trans rfl, (blk_cell BK133.out 0).trans rfl, (spec_l04Cut.tcell (HR3.out _ (by repeat (first | exact HK.out | apply Kept.alloc | apply Kept.drewN | apply Kept.drew | refine Kept.setCell ?_ (.inr GW135.out) _))) HC3.out (a1) (a2) (of_eq_true pi134) (of_eq_true qi134) (of_eq_true pj134) (of_eq_true qj134)), ((blk_cell BKX.out 2).trans rfl), ((blk_cell BKX.out 1).trans rfl)⟩ (fun hHeld => ?_)
 clear hK K
 refine norm_ (a' := ?_) ?_ ?_
 rotate_left
 ·
  show Act.put _ (some 9) _ = _
  simp only [Act.put, List.setIfInBounds_toArray, List.set_cons_zero, List.set_cons_succ, i64_w, i32_w]
  rfl
 refine pu_ 16 8 (lA 18 131071) ?_ ?_ HT_ ?_
 refine one_ (i := 17) (N := none) #[true, true, true, true, true, true, true, true, true, true, true, true, true, true, true, true, true, true] rfl rfl (one_of HT_.out (by kernel_rfl)) (by decide) (fun K hK => ?_)
 have hs53 : w52.cell? ⟨gb135, 0, none⟩ = some (.int .i64 0) := (blk_cell BK135.out 0).trans rfl
 have hfs53 := blk_frozen BK135.out 0
 have hns53_0 := NB132_135.out
 have hns53_1 := NB133_135.out
 have hms53_0 := NB135_132.out
 have hms53_1 := NB135_133.out
 refine skip_ (w1 := ?_) (by rfl) rfl ?_ ?_
 rotate_left
 ·
  go_simp
  rfl
 refine hK.out _ _ ⟨((cell_far (p := ⟨gb135, _, none⟩) NB132_135.out _).trans (hHeld.1)), ((cell_far (p := ⟨gb135, _, none⟩) NB133_135.out _).trans (hHeld.2.1)), (spec_l04Cut.tcell (HR3.out _ (by repeat (first | exact HK.out | apply Kept.alloc | apply Kept.drewN | apply Kept.drew | refine Kept.setCell ?_ (.inr GW135.out) _))) HC3.out (a1) (a2) (of_eq_true pi134) (of_eq_true qi134) (of_eq_true pj134) (of_eq_true qj134)), ((cell_far (p := ⟨gb135, _, none⟩) (blk_ne BKX.out BK135.out (by decide)) _).trans ((blk_cell BKX.out 2).trans rfl)), ((cell_far (p := ⟨gb135, _, none⟩) (blk_ne BKX.out BK135.out (by decide)) _).trans ((blk_cell BKX.out 1).trans rfl))⟩ (fun hHeld => ?_)
 clear hK K
 refine done_ (done_of HT_.out (by kernel_rfl)) ?_
 have hcx4 : (w52.setCell ⟨gb135, 0, none⟩ (.int .i64 (rd l3 (a1 * 25 + a2)))).cell? ⟨gx, 2, none⟩ = some (.slice Ao51 l0.length co51) := (cell_far (p := ⟨gb135, 0, none⟩) (blk_ne BKX.out BK135.out (by decide)) _).trans ((blk_cell BKX.out 2).trans rfl)
 go_upto_block 0 with (first | ((with_reducible refine gate_builtin (b := .append) (xs := #[.tmp 40, .tmp 42]) rfl ?_); at_builtin; refine Kd.R_append k48 (w0 := w0) w0.heap.size rfl (.tmp 40) (.tmp 42) 27 48 (.agg #[(.int .i8 0), (.int .i8 0), (.int .i8 0), (.int .i8 0)]) 4 rfl Try.underlying27 info48 rfl (by decide) (by omega) (.slice Ao51 l0.length co51) l0 (⟨0, 0, 0, 0⟩ : S48) [.int .i8 0, .int .i8 0, .int .i8 0, .int .i8 0] (fun k_ => (P0_ k_ ∨ w.heap.size ≤ k_)) (fun _ => False) rfl (by first | (go_simp; done) | (go_simp; rfl)) ?aP (fun _ hk => hk.elim) ?aF ?aO ?aB ?aS ?aL ?_; (case aP => exact k48_mkM _ _ _ (⟨0, 0, 0, 0⟩ : S48)); (case aB => exact (k3_ HB GE132 GE133 GE135)); (case aF => exact (fun k_ hk => (.inr (Nat.le_trans (show Kept w _ (fun k_ => P0_ k_) from by repeat (first | (with_reducible first | exact HK.out | apply Kept.alloc | apply Kept.drewN | apply Kept.drew | refine Kept.setCell ?_ (.inr GW132.out) _ | refine Kept.setCell ?_ (.inr GW133.out) _ | refine Kept.setCell ?_ (.inr GW135.out) _) | exact HK.out)).1 hk)))); (case aO => exact (by (with_reducible repeat (first | apply Kd.R_alloc | apply Kd.R_drewN | apply Kd.R_drew)); exact Kd.R_mono (Kd.R_far (p := ⟨gb135, 0, none⟩) (Kd.R_types HO0.out BK135.out (by decide)) (fun _ hk => hk.2) (.int .i64 (rd l3 (a1 * 25 + a2)))) (fun _ hk => hk.1))); (case aS => exact (below_size (k3_ HB GE132 GE133 GE135))); (case aL => have := LMc17.out; omega); intro v137 w54 ho hb hg hat; rw [← Ny136.out] at ho; have n0_ := Aside0.mk (blk_grown (g := gb132) (o := .cells #[.int .i64 a1] 2 (0, 0)) (by (with_reducible repeat (first | refine blk_drewN ?_ _ | refine blk_drew ?_ | refine blk_alloc ?_ _)); refine blk_far ?_ NB132_135.out _; (with_reducible repeat (first | refine blk_drewN ?_ _ | refine blk_drew ?_ | refine blk_alloc ?_ _)); exact BK132.out) hg (Kd.R_ne HO0.out BK132.out (by decide))); replace BKX := impl_cutter_add.bg_ BKX hg (Kd.R_ne HO0.out BKX.out (by decide)) (fun h_ => by (with_reducible repeat (first | refine blk_drewN ?_ _ | refine blk_drew ?_ | refine blk_alloc ?_ _)); refine blk_far ?_ (blk_ne BKX.out BK135.out (by decide)) _; (with_reducible repeat (first | refine blk_drewN ?_ _ | refine blk_drew ?_ | refine blk_alloc ?_ _)); exact h_); have n1_ := Aside0.mk (blk_grown (g := gb133) (o := .cells #[.int .i64 a2] 2 (0, 0)) (by (with_reducible repeat (first | refine blk_drewN ?_ _ | refine blk_drew ?_ | refine blk_alloc ?_ _)); refine blk_far ?_ NB133_135.out _; (with_reducible repeat (first | refine blk_drewN ?_ _ | refine blk_drew ?_ | refine blk_alloc ?_ _)); exact BK133.out) hg (Kd.R_ne HO0.out BK133.out (by decide))); have n2_ := Aside0.mk (blk_grown (g := gb135) (o := .cells #[.int .i64 (rd l3 (a1 * 25 + a2))] 2 (0, 0)) (by (with_reducible repeat (first | refine blk_drewN ?_ _ | refine blk_drew ?_ | refine blk_alloc ?_ _)); refine blk_put (cs := #[.int .i64 0]) ?_ 0 _ rfl; (with_reducible repeat (first | refine blk_drewN ?_ _ | refine blk_drew ?_ | refine blk_alloc ?_ _)); exact BK135.out) hg (Kd.R_ne HO0.out BK135.out (by decide))); have n3_ := Aside0.mk (hb); have n4_ := Aside0.mk (Kept.of_grown (S := (fun k_ => P0_ k_)) hg (by repeat (first | (with_reducible first | exact HK.out | apply Kept.alloc | apply Kept.drewN | apply Kept.drew | refine Kept.setCell ?_ (.inr GW132.out) _ | refine Kept.setCell ?_ (.inr GW133.out) _ | refine Kept.setCell ?_ (.inr GW135.out) _) | exact HK.out)) (fun k_ e_ => (HO0.out.1 k_ e_))); have n5_ := Aside0.mk (ho); clear BK132; clear BK133; clear BK135; clear HB; clear HK; clear HO0; have BK132 := n0_; have BK133 := n1_; have BK135 := n2_; have HB := n3_; have HK := n4_; have HO138 := n5_; clear n0_ n1_ n2_ n3_ n4_ n5_; clear ho hb hg hat; obtain ⟨Ao5, co5, eo5⟩ := Kd.R_slice HO138.out; subst eo5; have hcx5 : w54.cell? ⟨gx, 2, none⟩ = some (.slice Ao51 l0.length co51) := (blk_cell BKX.out 2).trans rfl; have hfx5 := blk_frozen BKX.out 2) | ((with_reducible refine gate_store (t := 27) (p := 45) rfl ?_); refine store_event (t := 27) (p := 45) (v := ?vo_x) (w1 := (w54.setCell ⟨gx, 2, none⟩ (.slice Ao5 y136.length co5))) ?hg ?ho ?hn ?hr ?_; (case ho => rfl); (case hg => rfl); (case hn => rfl); (case hr => first | (go_simp; done) | (go_simp; rfl)); intro w54x hw; have n0_ := Aside0.mk ((by rw [hw]; exact blk_far BK132.out (blk_ne BK132.out BKX.out (by decide)) _ : w54x.heap[gb132]? = some (.cells #[.int .i64 a1] 2 (0, 0)))); have n1_ := Aside0.mk ((by rw [hw]; exact blk_far BK133.out (blk_ne BK133.out BKX.out (by decide)) _ : w54x.heap[gb133]? = some (.cells #[.int .i64 a2] 2 (0, 0)))); have n2_ := Aside0.mk ((by rw [hw]; exact blk_far BK135.out (blk_ne BK135.out BKX.out (by decide)) _ : w54x.heap[gb135]? = some (.cells #[.int .i64 (rd l3 (a1 * 25 + a2))] 2 (0, 0)))); have n3_ := Aside0.mk ((by rw [hw]; exact below_set HB.out GEX.out : Below w0.heap.size w0 w54x)); have n4_ := Aside0.mk ((by rw [hw]; exact Kept.setCell HK.out (.inl HPG.out) _ : Kept w w54x (fun k_ => P0_ k_))); have n5_ := Aside0.mk ((by rw [hw]; exact Kd.R_mono (Kd.R_far (p := ⟨gx, 2, none⟩) (Kd.R_types HO138.out BKX.out (by decide)) (fun _ hk => hk.2) (.slice Ao5 y136.length co5)) (fun _ hk => hk.1) : Kd.R k48 48 w54x w0.heap.size (fun k_ => (P0_ k_ ∨ w.heap.size ≤ k_)) (.slice Ao5 y136.length co5) y136)); have n6_ := Aside0.mk ((by rw [hw]; exact blk_put (cs := #[.slice A4 l4.length c4, .pointer (some ⟨gt, 0, none⟩), .slice Ao51 l0.length co51]) BKX.out 2 _ rfl : w54x.heap[gx]? = some (.cells #[.slice A4 l4.length c4, .pointer (some ⟨gt, 0, none⟩), (.slice Ao5 y136.length co5)] 60 (0, 0)))); clear BK132 BK133 BK135 HB HK HO138 BKX hw; have BK132 := n0_; have BK133 := n1_; have BK135 := n2_; have HB := n3_; have HK := n4_; have HO138 := n5_; have BKX := n6_; clear n0_ n1_ n2_ n3_ n4_ n5_ n6_; obtain ⟨v137, hv137⟩ : ∃ v_ : Value, (.slice Ao5 y136.length co5 : Value) = v_ := ⟨_, rfl⟩; rw [hv137] at HO138 BKX; rw [hv137]; clear hv137 hcx5; have hcx6 : w54x.cell? ⟨gx, 0, none⟩ = some (.slice A4 l4.length c4) := (blk_cell BKX.out 0).trans rfl; have hnb55 := NB135_132.out; have hnc55 := NB132_135.out; have hnb56 := NB135_133.out; have hnc56 := NB133_135.out; have hcz57_0 : w54x.cell? ⟨gb135, 0, none⟩ = some (.int .i64 (rd l3 (a1 * 25 + a2))) := (blk_cell BK135.out 0).trans rfl; have hfz57_0 := blk_frozen BK135.out 0) | ((with_reducible refine gate_callee (f := 40) rfl ?_); refine goM_ (some 55) Try.func40 #[.slice A4 l4.length c4, .func (.func 41) #[] #[.pointer (some ⟨gb132, 0, none⟩), .pointer (some ⟨gb133, 0, none⟩), .pointer (some ⟨gb135, 0, none⟩)]] ?_; (with_reducible refine (impl_cutter_add.find_calls gb132 gb133 gb135 (rd l3 (a1 * 25 + a2)) a1 a2 _ _ l4 t139 _ ?side1 ?side2 ?side7 ?side8 ?side9 A29.out).mono ?_); (case side7 => exact BK132.out); (case side8 => exact BK133.out); (case side9 => exact BK135.out); (case side1 => exact Kd.C_kept_now HR4.out (by repeat (first | (with_reducible first | exact HK.out | apply Kept.alloc | apply Kept.drewN | apply Kept.drew | refine Kept.setCell ?_ (.inr GW132.out) _ | refine Kept.setCell ?_ (.inr GW133.out) _ | refine Kept.setCell ?_ (.inr GW135.out) _) | exact HK.out))); (case side2 => exact HC4.out); rintro e w58 ⟨rfl, hb⟩; refine ⟨_, rfl, ?_⟩; have n0_ := Aside0.mk (Kd.R_below (kp_ HO138) hb); have n1_ := bd_ BK132 hb; replace BKX := impl_cutter_add.bd_ BKX hb; have n2_ := bd_ BK133 hb; have n3_ := bd_ BK135 hb; have n4_ := Aside0.mk (Kept.below (S := (fun k_ => P0_ k_)) (by repeat (first | (with_reducible first | exact HK.out | apply Kept.alloc | apply Kept.drewN | apply Kept.drew | refine Kept.setCell ?_ (.inr GW132.out) _ | refine Kept.setCell ?_ (.inr GW133.out) _ | refine Kept.setCell ?_ (.inr GW135.out) _) | exact HK.out)) hb); have n5_ := Aside0.mk (below_step (k3_ HB GE132 GE133 GE135) hb); clear HO138; clear BK132; clear BK133; clear BK135; clear HK; clear HB; have HO138 := n0_; have BK132 := n1_; have BK133 := n2_; have BK135 := n3_; have HK := n4_; have HB := n5_; clear n0_ n1_ n2_ n3_ n4_ n5_; clear hb; have hcx7 : w58.cell? ⟨gx, 2, none⟩ = some v137 := (blk_cell BKX.out 2).trans rfl))
 (try simp only [Act.put, List.setIfInBounds_toArray, List.set_cons_zero, List.set_cons_succ])
 go_cut [12] (fun v12 wc => ∃ (kq : Nat) (x12_46 : Int), v12 = .int .i64 x12_46 ∧ Aside0 (impl_cutter_add.j1 kq y136 l3 l4 (l0.length : Int) 2 x12_46 a1 a2 (rd l3 (a1 * 25 + a2)) = some (r1, r2, r3)) ∧ Aside0 (kq ≤ k) ∧ Aside0 (Kd.R k48 48 wc w0.heap.size (fun k_ => (P0_ k_ ∨ w.heap.size ≤ k_)) v137 y136) ∧ Aside0 (wc.heap[gx]? = some (.cells #[.slice A4 l4.length c4, .pointer (some ⟨gt, 0, none⟩), v137] 60 (0, 0))) ∧ Aside0 (wc.heap[gb132]? = some (.cells #[.int .i64 a1] 2 (0, 0))) ∧ Aside0 (wc.heap[gb133]? = some (.cells #[.int .i64 a2] 2 (0, 0))) ∧ Aside0 (wc.heap[gb135]? = some (.cells #[.int .i64 (rd l3 (a1 * 25 + a2))] 2 (0, 0))) ∧ Aside0 (Kept w wc (fun k_ => P0_ k_)) ∧ Aside0 (Below w0.heap.size w0 wc))
 case first =>
  have H := HC47.out
  clear HC47
  have H' := Aside0.mk H
  clear H
  go_wp2
  go_loopg [12] k (fun kq v12 w' => ∃ (x12_1 : Int), v12 = .int .i64 x12_1 ∧ Aside0 (impl_cutter_add.l0 kq y136 l3 l4 (l0.length : Int) 2 x12_1 a1 a2 (rd l3 (a1 * 25 + a2)) = some (r1, r2, r3)) ∧ Aside0 (kq ≤ k) ∧ Aside0 (Kd.R k48 48 w' w0.heap.size (fun k_ => (P0_ k_ ∨ w.heap.size ≤ k_)) v137 y136) ∧ Aside0 (w'.heap[gx]? = some (.cells #[.slice A4 l4.length c4, .pointer (some ⟨gt, 0, none⟩), v137] 60 (0, 0))) ∧ Aside0 (w'.heap[gb132]? = some (.cells #[.int .i64 a1] 2 (0, 0))) ∧ Aside0 (w'.heap[gb133]? = some (.cells #[.int .i64 a2] 2 (0, 0))) ∧ Aside0 (w'.heap[gb135]? = some (.cells #[.int .i64 (rd l3 (a1 * 25 + a2))] 2 (0, 0))) ∧ Aside0 (Kept w w' (fun k_ => P0_ k_)) ∧ Aside0 (Below w0.heap.size w0 w'))
  case atStart => exact ⟨(1), (by first | rfl | (simp; done) | (simp [*]; done)), H', ⟨Nat.le_refl _⟩, ⟨kp_ HO138⟩, ⟨bk_ BKX⟩, ⟨bk_ BK132⟩, ⟨bk_ BK133⟩, ⟨bk_ BK135⟩, ⟨by repeat (first | (with_reducible first | exact HK.out | apply Kept.alloc | apply Kept.drewN | apply Kept.drew | refine Kept.setCell ?_ (.inr GW132.out) _ | refine Kept.setCell ?_ (.inr GW133.out) _ | refine Kept.setCell ?_ (.inr GW135.out) _) | exact HK.out)⟩, ⟨k3_ HB GE132 GE133 GE135⟩⟩
  case round =>
   clear H'
   obtain ⟨x12_1, rfl, HA, HK1, HO_0, BKX, BK132, BK133, BK135, HK, HB⟩ := hrel
   rcases gk with _ | k1
   · exact absurd HA.out (by simp [impl_cutter_add.l0])
   have H := HA.out
   clear HA
   simp only [impl_cutter_add.l0] at H
   rcases (Decidable.em (x12_1 < a1)).symm with c59 | c59
   ·
    rw [if_neg c59] at H
    have c59b0 : decide (x12_1 < a1) = false := decide_eq_false c59
    clear c59
    (first | rw [c59b0] | (simp only [i64_w, i32_w]; rw [c59b0]) | skip)
    have H' := Aside0.mk H
    clear H
    try go_wp2
    have n0_ := Aside0.mk (Kd.R_drew HO_0.out)
    have n1_ := Aside0.mk (blk_drew BK132.out)
    replace BKX := Aside0.mk (blk_drew BKX.out)
    have n2_ := Aside0.mk (blk_drew BK133.out)
    have n3_ := Aside0.mk (blk_drew BK135.out)
    have n4_ := Aside0.mk (Kept.drew HK.out)
    have n5_ := Aside0.mk (below_drew1 HB.out)
    clear HO_0
    clear BK132
    clear BK133
    clear BK135
    clear HK
    clear HB
    have HO_0 := n0_
    have BK132 := n1_
    have BK133 := n2_
    have BK135 := n3_
    have HK := n4_
    have HB := n5_
    clear n0_ n1_ n2_ n3_ n4_ n5_
    refine start_ (n := 30) (S := fun w' => w'.cell? ⟨gb132, 0, none⟩ = some (.int .i64 a1)) (ds := []) #[false, false, false, false, false, false, false, false, false, false, false, false, false, false, false, false, false, false, false, false, false, false, false, false, false, false, false, false, false, false] (by kernel_rfl) rfl rfl ((blk_cell BK132.out 0).trans rfl) (fun hHeld => ?_); refine with_tabW impl_cutter_add.tab12 impl_cutter_add.bits12 (fun HT_ HW_ => ?_)
    generalize wr.drew = w70 at HO_0 BK132 BKX BK133 BK135 HK HB hHeld ⊢
    refine pu_ 0 69 (lA 30 1) ?_ ?_ HT_ ?_
    refine tk_ 1 70 (lA 30 3) ?_ ?_ HT_ HW_ hHeld ?_
    refine pu_ 2 71 (lA 30 7) ?_ ?_ HT_ ?_
    refine pu_ 3 72 (lA 30 15) ?_ ?_ HT_ ?_
    refine pn_ 4 73 (lA 30 31) ?_ HT_ ?_
    refine pn_ 5 74 (lA 30 63) ?_ HT_ ?_
    refine pn_ 6 75 (lA 30 127) ?_ HT_ ?_
    refine pn_ 7 76 (lA 30 255) ?_ HT_ ?_
    refine pn_ 8 77 (lA 30 511) ?_ HT_ ?_
    refine pn_ 9 78 (lA 30 1023) ?_ HT_ ?_
    refine pn_ 10 79 (lA 30 2047) ?_ HT_ ?_
    refine pn_ 11 80 (lA 30 4095) ?_ HT_ ?_
    refine pn_ 12 81 (lA 30 8191) ?_ HT_ ?_
    refine pn_ 13 82 (lA 30 16383) ?_ HT_ ?_
    refine pn_ 14 83 (lA 30 32767) ?_ HT_ ?_
    refine pn_ 15 84 (lA 30 65535) ?_ HT_ ?_
    refine pn_ 16 85 (lA 30 131071) ?_ HT_ ?_
    refine pn_ 17 86 (lA 30 262143) ?_ HT_ ?_
    refine pn_ 18 87 (lA 30 524287) ?_ HT_ ?_
    refine pn_ 19 88 (lA 30 1048575) ?_ HT_ ?_
    refine pn_ 20 89 (lA 30 2097151) ?_ HT_ ?_
    refine pn_ 21 90 (lA 30 4194303) ?_ HT_ ?_
    refine pn_ 22 91 (lA 30 8388607) ?_ HT_ ?_
    refine pn_ 23 92 (lA 30 16777215) ?_ HT_ ?_
    refine pn_ 24 93 (lA 30 33554431) ?_ HT_ ?_
    refine pn_ 25 94 (lA 30 67108863) ?_ HT_ ?_
    refine pn_ 26 95 (lA 30 134217727) ?_ HT_ ?_
    refine pn_ 27 96 (lA 30 268435455) ?_ HT_ ?_
    refine pn_ 28 97 (lA 30 536870911) ?_ HT_ ?_
    refine pu_ 29 98 (lA 30 1073741823) ?_ ?_ HT_ ?_
    refine done_ (done_of HT_.out (by kernel_rfl)) ?_
    try go_wp2
    go_meet
    case rel => exact ⟨_, (x12_1), (by first | rfl | (simp; done) | (simp [*]; done)), H', ⟨by have := HK1.out; first | omega | exact Nat.le_refl _⟩, ⟨kp_ HO_0⟩, ⟨bk_ BKX⟩, ⟨bk_ BK132⟩, ⟨bk_ BK133⟩, ⟨bk_ BK135⟩, ⟨by repeat (first | (with_reducible first | exact HK.out | apply Kept.alloc | apply Kept.drewN | apply Kept.drew | refine Kept.setCell ?_ (.inr GW132.out) _ | refine Kept.setCell ?_ (.inr GW133.out) _ | refine Kept.setCell ?_ (.inr GW135.out) _) | exact HK.out)⟩, ⟨k3_ HB GE132 GE133 GE135⟩⟩
   rw [if_pos c59] at H
   have c59b0 : decide (x12_1 < a1) = true := decide_eq_true c59
   clear c59
   (first | rw [c59b0] | (simp only [i64_w, i32_w]; rw [c59b0]) | skip)
   obtain ⟨c60b0, H⟩ := gx_ H
   obtain ⟨c61b0, H⟩ := gx_ H
   obtain ⟨c62b0, H⟩ := gx_ H
   obtain ⟨c63b0, H⟩ := gx_ H
   obtain ⟨ji64, hji64⟩ : ∃ j_ : Int, (wrap64 (a1 - x12_1)) = j_ := ⟨_, rfl⟩
   replace H : (if 0 ≤ (ji64) then (if (ji64) < 25 then (if (wrap64 ((rd l3 (x12_1 * 25 + a2)) + (rd l3 ((ji64) * 25 + a2)))) = (rd l3 (a1 * 25 + a2)) then (impl_cutter_add.j1 k1 y136 l3 l4 (l0.length : Int) 2 x12_1 a1 a2 (rd l3 (a1 * 25 + a2))) else (impl_cutter_add.l0 k1 y136 l3 l4 (l0.length : Int) 2 (wrap64 (x12_1 + 1)) a1 a2 (rd l3 (a1 * 25 + a2)))) else (none)) else (none)) = some (r1, r2, r3) := by first | (rw [hji64] at H; exact H) | (simp only [hji64] at H ⊢; exact H)
   have hji64w : (IntKind.i64.wrap (a1 - x12_1)) = ji64 := (i64_w _).trans hji64
   obtain ⟨c65b0, H⟩ := gx_ H
   obtain ⟨c66b0, H⟩ := gx_ H
   rcases (Decidable.em ((wrap64 ((rd l3 (x12_1 * 25 + a2)) + (rd l3 ((ji64) * 25 + a2)))) = (rd l3 (a1 * 25 + a2)))).symm with c67 | c67
   ·
    rw [if_neg c67] at H
    have c67b0 : ((wrap64 ((rd l3 (x12_1 * 25 + a2)) + (rd l3 ((ji64) * 25 + a2)))) == (rd l3 (a1 * 25 + a2))) = false := beq_eq_false_iff_ne.mpr c67
    have c67b1 : ((wrap64 ((rd l3 (x12_1 * 25 + a2)) + (rd l3 ((ji64) * 25 + a2)))) != (rd l3 (a1 * 25 + a2))) = true := bne_iff_ne.mpr c67
    have H' := Aside0.mk H
    clear H
    try go_wp2
    have n0_ := Aside0.mk (Kd.R_drew HO_0.out)
    have n1_ := Aside0.mk (blk_drew BK132.out)
    replace BKX := Aside0.mk (blk_drew BKX.out)
    have n2_ := Aside0.mk (blk_drew BK133.out)
    have n3_ := Aside0.mk (blk_drew BK135.out)
    have n4_ := Aside0.mk (Kept.drew HK.out)
    have n5_ := Aside0.mk (below_drew1 HB.out)
    clear HO_0
    clear BK132
    clear BK133
    clear BK135
    clear HK
    clear HB
    have HO_0 := n0_
    have BK132 := n1_
    have BK133 := n2_
    have BK135 := n3_
    have HK := n4_
    have HB := n5_
    clear n0_ n1_ n2_ n3_ n4_ n5_
    have pi141 : 0 ≤ x12_1 := od_
    have qi141 : x12_1 < 25 := od_
    have pj141 : 0 ≤ a2 := od_
    have qj141 : a2 < 25 := od_
    have hx141_0 := spec_l04Cut.tcell (HR3.out _ HK.out) HC3.out (x12_1) (a2) pi141 qi141 pj141 qj141
    have hw141_0 := hx141_0
    replace pi141 := eq_true pi141
    replace qi141 := eq_true qi141
    replace pj141 := eq_true pj141
    replace qj141 := eq_true qj141
    have pi142 : 0 ≤ (ji64) := od_
    have qi142 : (ji64) < 25 := od_
    have pj142 : 0 ≤ a2 := od_
    have qj142 : a2 < 25 := od_
    have hx142_0 := spec_l04Cut.tcell (HR3.out _ HK.out) HC3.out ((ji64)) (a2) pi142 qi142 pj142 qj142
    have hw142_0 := hx142_0
    replace pi142 := eq_true pi142
    replace qi142 := eq_true qi142
    replace pj142 := eq_true pj142
    replace qj142 := eq_true qj142
    refine start_ (n := 30) (S := fun w' => w'.cell? ⟨gb132, 0, none⟩ = some (.int .i64 a1) ∧ w'.cell? ⟨gb133, 0, none⟩ = some (.int .i64 a2) ∧ w'.cell? ⟨gb135, 0, none⟩ = some (.int .i64 (rd l3 (a1 * 25 + a2))) ∧ w'.cell? ⟨gt, (x12_1).toNat * 25 + (a2).toNat, none⟩ = some (.int .i64 (rd l3 (x12_1 * 25 + a2))) ∧ w'.cell? ⟨gt, ((ji64)).toNat * 25 + (a2).toNat, none⟩ = some (.int .i64 (rd l3 ((ji64) * 25 + a2))) ∧ w'.cell? ⟨gx, 1, none⟩ = some (.pointer (some ⟨gt, 0, none⟩))) (ds := []) #[false, false, false, false, false, false, false, false, false, false, false, false, false, false, false, false, false, false, false, false, false, false, false, false, false, false, false, false, false, false] (by kernel_rfl) rfl rfl ⟨(blk_cell BK132.out 0).trans rfl, (blk_cell BK133.out 0).trans rfl, (blk_cell BK135.out 0).trans rfl, (spec_l04Cut.tcell (HR3.out _ (by repeat (first | exact HK.out | apply Kept.alloc | apply Kept.drewN | apply Kept.drew))) HC3.out (x12_1) (a2) (of_eq_true pi141) (of_eq_true qi141) (of_eq_true pj141) (of_eq_true qj141)), (spec_l04Cut.tcell (HR3.out _ (by repeat (first | exact HK.out | apply Kept.alloc | apply Kept.drewN | apply Kept.drew))) HC3.out ((ji64)) (a2) (of_eq_true pi142) (of_eq_true qi142) (of_eq_true pj142) (of_eq_true qj142)), (blk_cell BKX.out 1).trans rfl⟩ (fun hHeld => ?_); refine with_tabW impl_cutter_add.tab12 impl_cutter_add.bits12 (fun HT_ HW_ => ?_)
    generalize wr.drew = w69 at HO_0 BK132 BKX BK133 BK135 HK HB hx141_0 hx142_0 hHeld ⊢
    refine pu_ 0 69 (lA 30 1) ?_ ?_ HT_ ?_
    refine tk_ 1 70 (lA 30 3) ?_ ?_ HT_ HW_ hHeld ?_
    refine pu_ 2 71 (lA 30 7) ?_ ?_ HT_ ?_
    refine pu_ 3 72 (lA 30 15) ?_ ?_ HT_ ?_
    refine pu_ 4 73 (lA 30 31) ?_ ?_ HT_ ?_
    refine pu_ 5 74 (lA 30 63) ?_ ?_ HT_ ?_
    refine pu_ 6 75 (lA 30 127) ?_ ?_ HT_ ?_
    refine tk_ 7 76 (lA 30 255) ?_ ?_ HT_ HW_ hHeld ?_
    refine pu_ 8 77 (lA 30 511) ?_ ?_ HT_ ?_
    refine pu_ 10 79 (lA 30 1535) ?_ ?_ HT_ ?_
    refine pu_ 11 80 (lA 30 3583) ?_ ?_ HT_ ?_
    refine pu_ 14 83 (lA 30 19967) ?_ ?_ HT_ ?_
    refine pu_ 15 84 (lA 30 52735) ?_ ?_ HT_ ?_
    refine pu_ 16 85 (lA 30 118271) ?_ ?_ HT_ ?_
    refine tk_ 17 86 (lA 30 249343) ?_ ?_ HT_ HW_ hHeld ?_
    refine pu_ 19 88 (lA 30 773631) ?_ ?_ HT_ ?_
    refine pu_ 22 91 (lA 30 4967935) ?_ ?_ HT_ ?_
    refine tk_ 9 78 (lA 30 4968447) ?_ ?_ HT_ HW_ hHeld ?_
    refine pu_ 12 81 (lA 30 4972543) ?_ ?_ HT_ ?_
    refine tk_ 13 82 (lA 30 4980735) ?_ ?_ HT_ HW_ hHeld ?_
    refine tk_ 18 87 (lA 30 5242879) ?_ ?_ HT_ HW_ hHeld ?_
    refine pu_ 20 89 (lA 30 6291455) ?_ ?_ HT_ ?_
    refine pu_ 23 92 (lA 30 14680063) ?_ ?_ HT_ ?_
    refine tk_ 21 90 (lA 30 16777215) ?_ ?_ HT_ HW_ hHeld ?_
    refine pu_ 24 93 (lA 30 33554431) ?_ ?_ HT_ ?_
    refine tk_ 25 94 (lA 30 67108863) ?_ ?_ HT_ HW_ hHeld ?_
    refine pu_ 26 95 (lA 30 134217727) ?_ ?_ HT_ ?_
    refine tk_ 27 96 (lA 30 268435455) ?_ ?_ HT_ HW_ hHeld ?_
    refine pu_ 28 97 (lA 30 536870911) ?_ ?_ HT_ ?_
    refine pu_ 29 98 (lA 30 1073741823) ?_ ?_ HT_ ?_
    refine done_ (done_of HT_.out (by kernel_rfl)) ?_
    try go_wp2
    go_roundg k1
    case measure => have := HK1.out; omega
    case rel => exact ⟨(wrap64 (x12_1 + 1)), (by first | rfl | (simp; done) | (simp [*]; done)), H', ⟨by have := HK1.out; omega⟩, ⟨kp_ HO_0⟩, ⟨bk_ BKX⟩, ⟨bk_ BK132⟩, ⟨bk_ BK133⟩, ⟨bk_ BK135⟩, ⟨by repeat (first | (with_reducible first | exact HK.out | apply Kept.alloc | apply Kept.drewN | apply Kept.drew | refine Kept.setCell ?_ (.inr GW132.out) _ | refine Kept.setCell ?_ (.inr GW133.out) _ | refine Kept.setCell ?_ (.inr GW135.out) _) | exact HK.out)⟩, ⟨k3_ HB GE132 GE133 GE135⟩⟩
   rw [if_pos c67] at H
   have c67b0 : ((wrap64 ((rd l3 (x12_1 * 25 + a2)) + (rd l3 ((ji64) * 25 + a2)))) == (rd l3 (a1 * 25 + a2))) = true := beq_iff_eq.mpr c67
   have c67b1 : ((wrap64 ((rd l3 (x12_1 * 25 + a2)) + (rd l3 ((ji64) * 25 + a2)))) != (rd l3 (a1 * 25 + a2))) = false := bne_eq_false_iff_eq.mpr c67
   clear c67
   have H' := Aside0.mk H
   clear H
   try go_wp2
   have n0_ := Aside0.mk (Kd.R_drew HO_0.out)
   have n1_ := Aside0.mk (blk_drew BK132.out)
   replace BKX := Aside0.mk (blk_drew BKX.out)
   have n2_ := Aside0.mk (blk_drew BK133.out)
   have n3_ := Aside0.mk (blk_drew BK135.out)
   have n4_ := Aside0.mk (Kept.drew HK.out)
   have n5_ := Aside0.mk (below_drew1 HB.out)
   clear HO_0
   clear BK132
   clear BK133
   clear BK135
   clear HK
   clear HB
   have HO_0 := n0_
   have BK132 := n1_
   have BK133 := n2_
   have BK135 := n3_
   have HK := n4_
   have HB := n5_
   clear n0_ n1_ n2_ n3_ n4_ n5_
   have pi141 : 0 ≤ x12_1 := od_
   have qi141 : x12_1 < 25 := od_
   have pj141 : 0 ≤ a2 := od_
   have qj141 : a2 < 25 := od_
   have hx141_0 := spec_l04Cut.tcell (HR3.out _ HK.out) HC3.out (x12_1) (a2) pi141 qi141 pj141 qj141
   have hw141_0 := hx141_0
   replace pi141 := eq_true pi141
   replace qi141 := eq_true qi141
   replace pj141 := eq_true pj141
   replace qj141 := eq_true qj141
   have pi142 : 0 ≤ (ji64) := od_
   have qi142 : (ji64) < 25 := od_
   have pj142 : 0 ≤ a2 := od_
   have qj142 : a2 < 25 := od_
   have hx142_0 := spec_l04Cut.tcell (HR3.out _ HK.out) HC3.out ((ji64)) (a2) pi142 qi142 pj142 qj142
   have hw142_0 := hx142_0
   replace pi142 := eq_true pi142
   replace qi142 := eq_true qi142
   replace pj142 := eq_true pj142
   replace qj142 := eq_true qj142
   refine start_ (n := 30) (S := fun w' => w'.cell? ⟨gb132, 0, none⟩ = some (.int .i64 a1) ∧ w'.cell? ⟨gb133, 0, none⟩ = some (.int .i64 a2) ∧ w'.cell? ⟨gb135, 0, none⟩ = some (.int .i64 (rd l3 (a1 * 25 + a2))) ∧ w'.cell? ⟨gt, (x12_1).toNat * 25 + (a2).toNat, none⟩ = some (.int .i64 (rd l3 (x12_1 * 25 + a2))) ∧ w'.cell? ⟨gt, ((ji64)).toNat * 25 + (a2).toNat, none⟩ = some (.int .i64 (rd l3 ((ji64) * 25 + a2))) ∧ w'.cell? ⟨gx, 1, none⟩ = some (.pointer (some ⟨gt, 0, none⟩))) (ds := []) #[false, false, false, false, false, false, false, false, false, false, false, false, false, false, false, false, false, false, false, false, false, false, false, false, false, false, false, false, false, false] (by kernel_rfl) rfl rfl ⟨(blk_cell BK132.out 0).trans rfl, (blk_cell BK133.out 0).trans rfl, (blk_cell BK135.out 0).trans rfl, (spec_l04Cut.tcell (HR3.out _ (by repeat (first | exact HK.out | apply Kept.alloc | apply Kept.drewN | apply Kept.drew))) HC3.out (x12_1) (a2) (of_eq_true pi141) (of_eq_true qi141) (of_eq_true pj141) (of_eq_true qj141)), (spec_l04Cut.tcell (HR3.out _ (by repeat (first | exact HK.out | apply Kept.alloc | apply Kept.drewN | apply Kept.drew))) HC3.out ((ji64)) (a2) (of_eq_true pi142) (of_eq_true qi142) (of_eq_true pj142) (of_eq_true qj142)), (blk_cell BKX.out 1).trans rfl⟩ (fun hHeld => ?_); refine with_tabW impl_cutter_add.tab12 impl_cutter_add.bits12 (fun HT_ HW_ => ?_)
   generalize wr.drew = w68 at HO_0 BK132 BKX BK133 BK135 HK HB hx141_0 hx142_0 hHeld ⊢
   refine pu_ 0 69 (lA 30 1) ?_ ?_ HT_ ?_
   refine tk_ 1 70 (lA 30 3) ?_ ?_ HT_ HW_ hHeld ?_
   refine pu_ 2 71 (lA 30 7) ?_ ?_ HT_ ?_
   refine pu_ 3 72 (lA 30 15) ?_ ?_ HT_ ?_
   refine pu_ 4 73 (lA 30 31) ?_ ?_ HT_ ?_
   refine pu_ 5 74 (lA 30 63) ?_ ?_ HT_ ?_
   refine pu_ 6 75 (lA 30 127) ?_ ?_ HT_ ?_
   refine tk_ 7 76 (lA 30 255) ?_ ?_ HT_ HW_ hHeld ?_
   refine pu_ 8 77 (lA 30 511) ?_ ?_ HT_ ?_
   refine pu_ 10 79 (lA 30 1535) ?_ ?_ HT_ ?_
   refine pu_ 11 80 (lA 30 3583) ?_ ?_ HT_ ?_
   refine pu_ 14 83 (lA 30 19967) ?_ ?_ HT_ ?_
   refine pu_ 15 84 (lA 30 52735) ?_ ?_ HT_ ?_
   refine pu_ 16 85 (lA 30 118271) ?_ ?_ HT_ ?_
   refine tk_ 17 86 (lA 30 249343) ?_ ?_ HT_ HW_ hHeld ?_
   refine pu_ 19 88 (lA 30 773631) ?_ ?_ HT_ ?_
   refine pu_ 22 91 (lA 30 4967935) ?_ ?_ HT_ ?_
   refine tk_ 9 78 (lA 30 4968447) ?_ ?_ HT_ HW_ hHeld ?_
   refine pu_ 12 81 (lA 30 4972543) ?_ ?_ HT_ ?_
   refine tk_ 13 82 (lA 30 4980735) ?_ ?_ HT_ HW_ hHeld ?_
   refine tk_ 18 87 (lA 30 5242879) ?_ ?_ HT_ HW_ hHeld ?_
   refine pu_ 20 89 (lA 30 6291455) ?_ ?_ HT_ ?_
   refine pu_ 23 92 (lA 30 14680063) ?_ ?_ HT_ ?_
   refine tk_ 21 90 (lA 30 16777215) ?_ ?_ HT_ HW_ hHeld ?_
   refine pu_ 24 93 (lA 30 33554431) ?_ ?_ HT_ ?_
   refine tk_ 25 94 (lA 30 67108863) ?_ ?_ HT_ HW_ hHeld ?_
   refine pu_ 26 95 (lA 30 134217727) ?_ ?_ HT_ ?_
   refine tk_ 27 96 (lA 30 268435455) ?_ ?_ HT_ HW_ hHeld ?_
   refine pu_ 28 97 (lA 30 536870911) ?_ ?_ HT_ ?_
   refine pu_ 29 98 (lA 30 1073741823) ?_ ?_ HT_ ?_
   refine done_ (done_of HT_.out (by kernel_rfl)) ?_
   try go_wp2
   go_meet
   case rel => exact ⟨_, (x12_1), (by first | rfl | (simp; done) | (simp [*]; done)), H', ⟨by have := HK1.out; first | omega | exact Nat.le_refl _⟩, ⟨kp_ HO_0⟩, ⟨bk_ BKX⟩, ⟨bk_ BK132⟩, ⟨bk_ BK133⟩, ⟨bk_ BK135⟩, ⟨by repeat (first | (with_reducible first | exact HK.out | apply Kept.alloc | apply Kept.drewN | apply Kept.drew | refine Kept.setCell ?_ (.inr GW132.out) _ | refine Kept.setCell ?_ (.inr GW133.out) _ | refine Kept.setCell ?_ (.inr GW135.out) _) | exact HK.out)⟩, ⟨k3_ HB GE132 GE133 GE135⟩⟩
 case rest =>
  clear HC47
  obtain ⟨kq, x12_46, rfl, HA, HJ46, HO_0, BKX, BK132, BK133, BK135, HK, HB⟩ := hcut
  rcases kq with _ | kj46
  · exact absurd HA.out (by simp [impl_cutter_add.j1])
  have H := HA.out
  clear HA
  simp only [impl_cutter_add.j1] at H
  have HC71 := Aside0.mk H
  clear H
  try go_wp2
  have n0_ := Aside0.mk (Kd.R_drew HO_0.out)
  have n1_ := Aside0.mk (blk_drew BK132.out)
  replace BKX := Aside0.mk (blk_drew BKX.out)
  have n2_ := Aside0.mk (blk_drew BK133.out)
  have n3_ := Aside0.mk (blk_drew BK135.out)
  have n4_ := Aside0.mk (Kept.drew HK.out)
  have n5_ := Aside0.mk (below_drew1 HB.out)
  clear HO_0
  clear BK132
  clear BK133
  clear BK135
  clear HK
  clear HB
  have HO_0 := n0_
  have BK132 := n1_
  have BK133 := n2_
  have BK135 := n3_
  have HK := n4_
  have HB := n5_
  clear n0_ n1_ n2_ n3_ n4_ n5_
  refine start_ (n := 12) (S := fun w' => w'.cell? ⟨gb133, 0, none⟩ = some (.int .i64 a2) ∧ w'.cell? ⟨gb132, 0, none⟩ = some (.int .i64 a1)) (ds := []) #[false, false, false, false, false, false, false, false, false, false, false, false] (by kernel_rfl) rfl rfl ⟨(blk_cell BK133.out 0).trans rfl, (blk_cell BK132.out 0).trans rfl⟩ (fun hHeld => ?_); refine with_tabW impl_cutter_add.tab14 impl_cutter_add.bits14 (fun HT_ HW_ => ?_)
  generalize wc.drew = w72 at HO_0 BK132 BKX BK133 BK135 HK HB hHeld ⊢
  refine pu_ 0 101 (lA 12 1) ?_ ?_ HT_ ?_
  refine pu_ 4 105 (lA 12 17) ?_ ?_ HT_ ?_
  refine tk_ 1 102 (lA 12 19) ?_ ?_ HT_ HW_ hHeld ?_
  refine pu_ 2 103 (lA 12 23) ?_ ?_ HT_ ?_
  refine tk_ 3 104 (lA 12 31) ?_ ?_ HT_ HW_ hHeld ?_
  refine pu_ 5 106 (lA 12 63) ?_ ?_ HT_ ?_
  refine tk_ 6 107 (lA 12 127) ?_ ?_ HT_ HW_ hHeld ?_
  refine pu_ 7 108 (lA 12 255) ?_ ?_ HT_ ?_
  refine join_ (σ := Nat × Nat) 2 #[true, true, true, true, true, true, true, true, true, true, false, false] (fun s_ => [(13, .pointer (some ⟨s_.1, 0, none⟩)), (14, .pointer (some ⟨s_.2, 0, none⟩))]) (fun s_ w' => (w'.cell? ⟨gb133, 0, none⟩ = some (.int .i64 a2) ∧ w'.cell? ⟨gb132, 0, none⟩ = some (.int .i64 a1)) ∧ (Kd.R k48 48 w' w0.heap.size (fun k_ => (P0_ k_ ∨ w.heap.size ≤ k_)) v137 y136) ∧ (w'.heap[gb132]? = some (.cells #[.int .i64 a1] 2 (0, 0))) ∧ (w'.heap[gb133]? = some (.cells #[.int .i64 a2] 2 (0, 0))) ∧ (w'.heap[gb135]? = some (.cells #[.int .i64 (rd l3 (a1 * 25 + a2))] 2 (0, 0))) ∧ (w'.heap[s_.1]? = some (.cells #[.int .i64 0, .int .i64 0] 49 (0, 0))) ∧ (w'.heap[s_.2]? = some (.cells #[.int .i64 0, .int .i64 0] 49 (0, 0))) ∧ (w.heap.size ≤ s_.1) ∧ (w0.heap.size ≤ s_.1) ∧ (gb132 ≠ s_.1) ∧ (s_.1 ≠ gb132) ∧ (gb133 ≠ s_.1) ∧ (s_.1 ≠ gb133) ∧ (gb135 ≠ s_.1) ∧ (s_.1 ≠ gb135) ∧ (s_.2 ≠ s_.1) ∧ (s_.1 ≠ s_.2) ∧ (w.heap.size ≤ s_.2) ∧ (w0.heap.size ≤ s_.2) ∧ (gb132 ≠ s_.2) ∧ (s_.2 ≠ gb132) ∧ (gb133 ≠ s_.2) ∧ (s_.2 ≠ gb133) ∧ (gb135 ≠ s_.2) ∧ (s_.2 ≠ gb135) ∧ (Kept w w' (fun k_ => P0_ k_)) ∧ (Below w0.heap.size w0 w') ∧ (w'.heap[gx]? = some (.cells #[.slice A4 l4.length c4, .pointer (some ⟨gt, 0, none⟩), v137] 60 (0, 0)))) ?_ ?_
  rotate_left
  ·
   intro hCont
   refine two_ (i := 8) (j := 9) (Ni := some 13) (Nj := some 14) #[true, true, true, true, true, true, true, true, true, false, false, false] #[true, true, true, true, true, true, true, true, false, true, false, false] rfl rfl rfl rfl (two_of HT_.out (by kernel_rfl)) (by decide) (by decide) (fun K hK => ?_) (fun K hK => ?_)
   ·
    skip
    refine box_step ?hg (N := 13) ?hd (cs := #[.int .i64 0, .int .i64 0]) (t := 49) ?hr ?_; (case hd => rfl); (case hg => rfl); (case hr => first | (go_simp; done) | (go_simp; rfl))
    intro gb143 hg w73 hbox hb
    have n0_ := Aside0.mk (Kd.R_below (kp_ HO_0) hb)
    have n1_ := bd_ BK132 hb
    replace BKX := impl_cutter_add.bd_ BKX hb
    have n2_ := bd_ BK133 hb
    have n3_ := bd_ BK135 hb
    have n4_ := Aside0.mk (Kept.below (S := (fun k_ => P0_ k_)) (by repeat (first | (with_reducible first | exact HK.out | apply Kept.alloc | apply Kept.drewN | apply Kept.drew | refine Kept.setCell ?_ (.inr GW132.out) _ | refine Kept.setCell ?_ (.inr GW133.out) _ | refine Kept.setCell ?_ (.inr GW135.out) _) | exact HK.out)) hb)
    have n5_ := Aside0.mk (below_step (k3_ HB GE132 GE133 GE135) hb)
    have n6_ := Aside0.mk (hbox)
    have n7_ := Aside0.mk ((by rw [hg]; exact (by first | exact HK.out.1 | exact (show Kept w _ (fun k_ => P0_ k_) from by repeat (first | (with_reducible first | exact HK.out | apply Kept.alloc | apply Kept.drewN | apply Kept.drew | refine Kept.setCell ?_ (.inr GW132.out) _ | refine Kept.setCell ?_ (.inr GW133.out) _ | refine Kept.setCell ?_ (.inr GW135.out) _) | exact HK.out)).1) : w.heap.size ≤ gb143))
    have n8_ := Aside0.mk ((by rw [hg]; exact (below_size (k3_ HB GE132 GE133 GE135)) : w0.heap.size ≤ gb143))
    have n9_ := nl_ BK132 hg
    have n10_ := ng_ BK132 hg
    have n11_ := nl_ BK133 hg
    have n12_ := ng_ BK133 hg
    have n13_ := nl_ BK135 hg
    have n14_ := ng_ BK135 hg
    clear HO_0
    clear BK132
    clear BK133
    clear BK135
    clear HK
    clear HB
    have HO_0 := n0_
    have BK132 := n1_
    have BK133 := n2_
    have BK135 := n3_
    have HK := n4_
    have HB := n5_
    have BK143 := n6_
    have GW143 := n7_
    have GE143 := n8_
    have NB132_143 := n9_
    have NB143_132 := n10_
    have NB133_143 := n11_
    have NB143_133 := n12_
    have NB135_143 := n13_
    have NB143_135 := n14_
    clear n0_ n1_ n2_ n3_ n4_ n5_ n6_ n7_ n8_ n9_ n10_ n11_ n12_ n13_ n14_
    clear hb hbox hg
    refine hK.out _ _ ⟨(blk_cell BK133.out 0).trans rfl, (blk_cell BK132.out 0).trans rfl⟩ (fun hHeld => ?_)
    clear hK K
    refine norm_ (a' := ?_) ?_ ?_
    rotate_left
    ·
     show Act.put _ (some 13) _ = _
     simp only [Act.put, List.setIfInBounds_toArray, List.set_cons_zero, List.set_cons_succ, i64_w, i32_w]
     rfl
    refine one_ (i := 9) (N := some 14) #[true, true, true, true, true, true, true, true, true, true, false, false] rfl rfl (one_of HT_.out (by kernel_rfl)) (by decide) (fun K hK => ?_)
    refine box_step ?hg (N := 14) ?hd (cs := #[.int .i64 0, .int .i64 0]) (t := 49) ?hr ?_; (case hd => rfl); (case hg => rfl); (case hr => first | (go_simp; done) | (go_simp; rfl))
    intro gb144 hg w74 hbox hb
    have n0_ := Aside0.mk (Kd.R_below (kp_ HO_0) hb)
    have n1_ := bd_ BK132 hb
    replace BKX := impl_cutter_add.bd_ BKX hb
    have n2_ := bd_ BK133 hb
    have n3_ := bd_ BK135 hb
    have n4_ := bd_ BK143 hb
    have n5_ := Aside0.mk (Kept.below (S := (fun k_ => P0_ k_)) (by repeat (first | (with_reducible first | exact HK.out | apply Kept.alloc | apply Kept.drewN | apply Kept.drew | refine Kept.setCell ?_ (.inr GW132.out) _ | refine Kept.setCell ?_ (.inr GW133.out) _ | refine Kept.setCell ?_ (.inr GW135.out) _ | refine Kept.setCell ?_ (.inr GW143.out) _) | exact HK.out)) hb)
    have n6_ := Aside0.mk (below_step (k4_ HB GE132 GE133 GE135 GE143) hb)
    have n7_ := Aside0.mk (hbox)
    have n8_ := Aside0.mk ((by rw [hg]; exact (by first | exact HK.out.1 | exact (show Kept w _ (fun k_ => P0_ k_) from by repeat (first | (with_reducible first | exact HK.out | apply Kept.alloc | apply Kept.drewN | apply Kept.drew | refine Kept.setCell ?_ (.inr GW132.out) _ | refine Kept.setCell ?_ (.inr GW133.out) _ | refine Kept.setCell ?_ (.inr GW135.out) _ | refine Kept.setCell ?_ (.inr GW143.out) _) | exact HK.out)).1) : w.heap.size ≤ gb144))
    have n9_ := Aside0.mk ((by rw [hg]; exact (below_size (k4_ HB GE132 GE133 GE135 GE143)) : w0.heap.size ≤ gb144))
    have n10_ := nl_ BK132 hg
    have n11_ := ng_ BK132 hg
    have n12_ := nl_ BK133 hg
    have n13_ := ng_ BK133 hg
    have n14_ := nl_ BK135 hg
    have n15_ := ng_ BK135 hg
    have n16_ := nl_ BK143 hg
    have n17_ := ng_ BK143 hg
    clear HO_0
    clear BK132
    clear BK133
    clear BK135
    clear BK143
    clear HK
    clear HB
    have HO_0 := n0_
    have BK132 := n1_
    have BK133 := n2_
    have BK135 := n3_
    have BK143 := n4_
    have HK := n5_
    have HB := n6_
    have BK144 := n7_
    have GW144 := n8_
    have GE144 := n9_
    have NB132_144 := n10_
    have NB144_132 := n11_
    have NB133_144 := n12_
    have NB144_133 := n13_
    have NB135_144 := n14_
    have NB144_135 := n15_
    have NB143_144 := n16_
    have NB144_143 := n17_
    clear n0_ n1_ n2_ n3_ n4_ n5_ n6_ n7_ n8_ n9_ n10_ n11_ n12_ n13_ n14_ n15_ n16_ n17_
    clear hb hbox hg
    refine hK.out _ _ ⟨(blk_cell BK133.out 0).trans rfl, (blk_cell BK132.out 0).trans rfl⟩ (fun hHeld => ?_)
    clear hK K
    refine norm_ (a' := ?_) ?_ ?_
    rotate_left
    ·
     show Act.put _ (some 14) _ = _
     simp only [Act.put, List.setIfInBounds_toArray, List.set_cons_zero, List.set_cons_succ, i64_w, i32_w]
     rfl
    exact norm_ (by simp only [putAll, Act.put, List.setIfInBounds_toArray, List.set_cons_zero, List.set_cons_succ]) (hCont (gb143, gb144) _ ⟨hHeld, (kp_ HO_0), (kb_ BK132), (kb_ BK133), (kb_ BK135), (kb_ BK143), (kb_ BK144), GW143.out, GE143.out, NB132_143.out, NB143_132.out, NB133_143.out, NB143_133.out, NB135_143.out, NB143_135.out, NB144_143.out, NB143_144.out, GW144.out, GE144.out, NB132_144.out, NB144_132.out, NB133_144.out, NB144_133.out, NB135_144.out, NB144_135.out, (by repeat (first | (with_reducible first | exact HK.out | apply Kept.alloc | apply Kept.drewN | apply Kept.drew | refine Kept.setCell ?_ (.inr GW132.out) _ | refine Kept.setCell ?_ (.inr GW133.out) _ | refine Kept.setCell ?_ (.inr GW135.out) _ | refine Kept.setCell ?_ (.inr GW143.out) _ | refine Kept.setCell ?_ (.inr GW144.out) _) | exact HK.out)), (by repeat (first | (with_reducible first | exact HB.out | apply below_alloc | apply pw_below_drewN | apply below_drew1 | refine below_set ?_ GE132.out | refine below_set ?_ GE133.out | refine below_set ?_ GE135.out | refine below_set ?_ GE143.out | refine below_set ?_ GE144.out) | exact HB.out)), (kb_ BKX)⟩)
   ·
    skip
    refine box_step ?hg (N := 14) ?hd (cs := #[.int .i64 0, .int .i64 0]) (t := 49) ?hr ?_; (case hd => rfl); (case hg => rfl); (case hr => first | (go_simp; done) | (go_simp; rfl))
    intro gb144 hg w73 hbox hb
    have n0_ := Aside0.mk (Kd.R_below (kp_ HO_0) hb)
    have n1_ := bd_ BK132 hb
    replace BKX := impl_cutter_add.bd_ BKX hb
    have n2_ := bd_ BK133 hb
    have n3_ := bd_ BK135 hb
    have n4_ := Aside0.mk (Kept.below (S := (fun k_ => P0_ k_)) (by repeat (first | (with_reducible first | exact HK.out | apply Kept.alloc | apply Kept.drewN | apply Kept.drew | refine Kept.setCell ?_ (.inr GW132.out) _ | refine Kept.setCell ?_ (.inr GW133.out) _ | refine Kept.setCell ?_ (.inr GW135.out) _) | exact HK.out)) hb)
    have n5_ := Aside0.mk (below_step (k3_ HB GE132 GE133 GE135) hb)
    have n6_ := Aside0.mk (hbox)
    have n7_ := Aside0.mk ((by rw [hg]; exact (by first | exact HK.out.1 | exact (show Kept w _ (fun k_ => P0_ k_) from by repeat (first | (with_reducible first | exact HK.out | apply Kept.alloc | apply Kept.drewN | apply Kept.drew | refine Kept.setCell ?_ (.inr GW132.out) _ | refine Kept.setCell ?_ (.inr GW133.out) _ | refine Kept.setCell ?_ (.inr GW135.out) _) | exact HK.out)).1) : w.heap.size ≤ gb144))
    have n8_ := Aside0.mk ((by rw [hg]; exact (below_size (k3_ HB GE132 GE133 GE135)) : w0.heap.size ≤ gb144))
    have n9_ := nl_ BK132 hg
    have n10_ := ng_ BK132 hg
    have n11_ := nl_ BK133 hg
    have n12_ := ng_ BK133 hg
    have n13_ := nl_ BK135 hg
    have n14_ := ng_ BK135 hg
    clear HO_0
    clear BK132
    clear BK133
    clear BK135
    clear HK
    clear HB
    have HO_0 := n0_
    have BK132 := n1_
    have BK133 := n2_
    have BK135 := n3_
    have HK := n4_
    have HB := n5_
    have BK144 := n6_
    have GW144 := n7_
    have GE144 := n8_
    have NB132_144 := n9_
    have NB144_132 := n10_
    have NB133_144 := n11_
    have NB144_133 := n12_
    have NB135_144 := n13_
    have NB144_135 := n14_
    clear n0_ n1_ n2_ n3_ n4_ n5_ n6_ n7_ n8_ n9_ n10_ n11_ n12_ n13_ n14_
    clear hb hbox hg
    refine hK.out _ _ ⟨(blk_cell BK133.out 0).trans rfl, (blk_cell BK132.out 0).trans rfl⟩ (fun hHeld => ?_)
    clear hK K
    refine norm_ (a' := ?_) ?_ ?_
    rotate_left
    ·
     show Act.put _ (some 14) _ = _
     simp only [Act.put, List.setIfInBounds_toArray, List.set_cons_zero, List.set_cons_succ, i64_w, i32_w]
     rfl
    refine one_ (i := 8) (N := some 13) #[true, true, true, true, true, true, true, true, true, true, false, false] rfl rfl (one_of HT_.out (by kernel_rfl)) (by decide) (fun K hK => ?_)
    refine box_step ?hg (N := 13) ?hd (cs := #[.int .i64 0, .int .i64 0]) (t := 49) ?hr ?_; (case hd => rfl); (case hg => rfl); (case hr => first | (go_simp; done) | (go_simp; rfl))
    intro gb143 hg w74 hbox hb
    have n0_ := Aside0.mk (Kd.R_below (kp_ HO_0) hb)
    have n1_ := bd_ BK132 hb
    replace BKX := impl_cutter_add.bd_ BKX hb
    have n2_ := bd_ BK133 hb
    have n3_ := bd_ BK135 hb
    have n4_ := bd_ BK144 hb
    have n5_ := Aside0.mk (Kept.below (S := (fun k_ => P0_ k_)) (by repeat (first | (with_reducible first | exact HK.out | apply Kept.alloc | apply Kept.drewN | apply Kept.drew | refine Kept.setCell ?_ (.inr GW132.out) _ | refine Kept.setCell ?_ (.inr GW133.out) _ | refine Kept.setCell ?_ (.inr GW135.out) _ | refine Kept.setCell ?_ (.inr GW144.out) _) | exact HK.out)) hb)
    have n6_ := Aside0.mk (below_step (k4_ HB GE132 GE133 GE135 GE144) hb)
    have n7_ := Aside0.mk (hbox)
    have n8_ := Aside0.mk ((by rw [hg]; exact (by first | exact HK.out.1 | exact (show Kept w _ (fun k_ => P0_ k_) from by repeat (first | (with_reducible first | exact HK.out | apply Kept.alloc | apply Kept.drewN | apply Kept.drew | refine Kept.setCell ?_ (.inr GW132.out) _ | refine Kept.setCell ?_ (.inr GW133.out) _ | refine Kept.setCell ?_ (.inr GW135.out) _ | refine Kept.setCell ?_ (.inr GW144.out) _) | exact HK.out)).1) : w.heap.size ≤ gb143))
    have n9_ := Aside0.mk ((by rw [hg]; exact (below_size (k4_ HB GE132 GE133 GE135 GE144)) : w0.heap.size ≤ gb143))
    have n10_ := nl_ BK132 hg
    have n11_ := ng_ BK132 hg
    have n12_ := nl_ BK133 hg
    have n13_ := ng_ BK133 hg
    have n14_ := nl_ BK135 hg
    have n15_ := ng_ BK135 hg
    have n16_ := nl_ BK144 hg
    have n17_ := ng_ BK144 hg
    clear HO_0
    clear BK132
    clear BK133
    clear BK135
    clear BK144
    clear HK
    clear HB
    have HO_0 := n0_
    have BK132 := n1_
    have BK133 := n2_
    have BK135 := n3_
    have BK144 := n4_
    have HK := n5_
    have HB := n6_
    have BK143 := n7_
    have GW143 := n8_
    have GE143 := n9_
    have NB132_143 := n10_
    have NB143_132 := n11_
    have NB133_143 := n12_
    have NB143_133 := n13_
    have NB135_143 := n14_
    have NB143_135 := n15_
    have NB144_143 := n16_
    have NB143_144 := n17_
    clear n0_ n1_ n2_ n3_ n4_ n5_ n6_ n7_ n8_ n9_ n10_ n11_ n12_ n13_ n14_ n15_ n16_ n17_
    clear hb hbox hg
    refine hK.out _ _ ⟨(blk_cell BK133.out 0).trans rfl, (blk_cell BK132.out 0).trans rfl⟩ (fun hHeld => ?_)
    clear hK K
    refine norm_ (a' := ?_) ?_ ?_
    rotate_left
    ·
     show Act.put _ (some 13) _ = _
     simp only [Act.put, List.setIfInBounds_toArray, List.set_cons_zero, List.set_cons_succ, i64_w, i32_w]
     rfl
    exact norm_ (by simp only [putAll, Act.put, List.setIfInBounds_toArray, List.set_cons_zero, List.set_cons_succ]) (hCont (gb143, gb144) _ ⟨hHeld, (kp_ HO_0), (kb_ BK132), (kb_ BK133), (kb_ BK135), (kb_ BK143), (kb_ BK144), GW143.out, GE143.out, NB132_143.out, NB143_132.out, NB133_143.out, NB143_133.out, NB135_143.out, NB143_135.out, NB144_143.out, NB143_144.out, GW144.out, GE144.out, NB132_144.out, NB144_132.out, NB133_144.out, NB144_133.out, NB135_144.out, NB144_135.out, (by repeat (first | (with_reducible first | exact HK.out | apply Kept.alloc | apply Kept.drewN | apply Kept.drew | refine Kept.setCell ?_ (.inr GW132.out) _ | refine Kept.setCell ?_ (.inr GW133.out) _ | refine Kept.setCell ?_ (.inr GW135.out) _ | refine Kept.setCell ?_ (.inr GW144.out) _ | refine Kept.setCell ?_ (.inr GW143.out) _) | exact HK.out)), (by repeat (first | (with_reducible first | exact HB.out | apply below_alloc | apply pw_below_drewN | apply below_drew1 | refine below_set ?_ GE132.out | refine below_set ?_ GE133.out | refine below_set ?_ GE135.out | refine below_set ?_ GE144.out | refine below_set ?_ GE143.out) | exact HB.out)), (kb_ BKX)⟩)
  rintro ⟨gb143, gb144⟩ w75 ⟨hS_, h0_, h1_, h2_, h3_, h4_, h5_, h6_, h7_, h8_, h9_, h10_, h11_, h12_, h13_, h14_, h15_, h16_, h17_, h18_, h19_, h20_, h21_, h22_, h23_, h24_, h25_, hX_⟩
  replace BKX : Aside0 (w75.heap[gx]? = some (.cells #[.slice A4 l4.length c4, .pointer (some ⟨gt, 0, none⟩), v137] 60 (0, 0))) := ⟨hX_⟩
  have n0_ : Aside0 (Kd.R k48 48 w75 w0.heap.size (fun k_ => (P0_ k_ ∨ w.heap.size ≤ k_)) v137 y136) := ⟨h0_⟩
  have n1_ : Aside0 (w75.heap[gb132]? = some (.cells #[.int .i64 a1] 2 (0, 0))) := ⟨h1_⟩
  have n2_ : Aside0 (w75.heap[gb133]? = some (.cells #[.int .i64 a2] 2 (0, 0))) := ⟨h2_⟩
  have n3_ : Aside0 (w75.heap[gb135]? = some (.cells #[.int .i64 (rd l3 (a1 * 25 + a2))] 2 (0, 0))) := ⟨h3_⟩
  have n4_ : Aside0 (w75.heap[gb143]? = some (.cells #[.int .i64 0, .int .i64 0] 49 (0, 0))) := ⟨h4_⟩
  have n5_ : Aside0 (w75.heap[gb144]? = some (.cells #[.int .i64 0, .int .i64 0] 49 (0, 0))) := ⟨h5_⟩
  have n6_ : Aside0 (w.heap.size ≤ gb143) := ⟨h6_⟩
  have n7_ : Aside0 (w0.heap.size ≤ gb143) := ⟨h7_⟩
  have n8_ : Aside0 (gb132 ≠ gb143) := ⟨h8_⟩
  have n9_ : Aside0 (gb143 ≠ gb132) := ⟨h9_⟩
  have n10_ : Aside0 (gb133 ≠ gb143) := ⟨h10_⟩
  have n11_ : Aside0 (gb143 ≠ gb133) := ⟨h11_⟩
  have n12_ : Aside0 (gb135 ≠ gb143) := ⟨h12_⟩
  have n13_ : Aside0 (gb143 ≠ gb135) := ⟨h13_⟩
  have n14_ : Aside0 (gb144 ≠ gb143) := ⟨h14_⟩
  have n15_ : Aside0 (gb143 ≠ gb144) := ⟨h15_⟩
  have n16_ : Aside0 (w.heap.size ≤ gb144) := ⟨h16_⟩
  have n17_ : Aside0 (w0.heap.size ≤ gb144) := ⟨h17_⟩
  have n18_ : Aside0 (gb132 ≠ gb144) := ⟨h18_⟩
  have n19_ : Aside0 (gb144 ≠ gb132) := ⟨h19_⟩
  have n20_ : Aside0 (gb133 ≠ gb144) := ⟨h20_⟩
  have n21_ : Aside0 (gb144 ≠ gb133) := ⟨h21_⟩
  have n22_ : Aside0 (gb135 ≠ gb144) := ⟨h22_⟩
  have n23_ : Aside0 (gb144 ≠ gb135) := ⟨h23_⟩
  have n24_ : Aside0 (Kept w w75 (fun k_ => P0_ k_)) := ⟨h24_⟩
  have n25_ : Aside0 (Below w0.heap.size w0 w75) := ⟨h25_⟩
  clear HO_0
  clear BK132
  clear BK133
  clear BK135
  clear HK
  clear HB
  clear h0_ h1_ h2_ h3_ h4_ h5_ h6_ h7_ h8_ h9_ h10_ h11_ h12_ h13_ h14_ h15_ h16_ h17_ h18_ h19_ h20_ h21_ h22_ h23_ h24_ h25_
  have HO_0 := n0_
  have BK132 := n1_
  have BK133 := n2_
  have BK135 := n3_
  have BK143 := n4_
  have BK144 := n5_
  have GW143 := n6_
  have GE143 := n7_
  have NB132_143 := n8_
  have NB143_132 := n9_
  have NB133_143 := n10_
  have NB143_133 := n11_
  have NB135_143 := n12_
  have NB143_135 := n13_
  have NB144_143 := n14_
  have NB143_144 := n15_
  have GW144 := n16_
  have GE144 := n17_
  have NB132_144 := n18_
  have NB144_132 := n19_
  have NB133_144 := n20_
  have NB144_133 := n21_
  have NB135_144 := n22_
  have NB144_135 := n23_
  have HK := n24_
  have HB := n25_
  clear n0_ n1_ n2_ n3_ n4_ n5_ n6_ n7_ n8_ n9_ n10_ n11_ n12_ n13_ n14_ n15_ n16_ n17_ n18_ n19_ n20_ n21_ n22_ n23_ n24_ n25_
  have hHeld : w75.cell? ⟨gb133, 0, none⟩ = some (.int .i64 a2) ∧ w75.cell? ⟨gb132, 0, none⟩ = some (.int .i64 a1) := hS_
  refine norm_ (a' := ?_) ?_ ?_
  rotate_left
  ·
   simp only [putAll, Act.put, List.setIfInBounds_toArray, List.set_cons_zero, List.set_cons_succ]
   rfl
  refine one_ (i := 10) (N := none) #[true, true, true, true, true, true, true, true, true, true, true, false] rfl rfl (one_of HT_.out (by kernel_rfl)) (by decide) (fun K hK => ?_)
  have hs76 : w75.cell? ⟨gb143, 0, none⟩ = some (.int .i64 0) := (blk_cell BK143.out 0).trans rfl
  have hfs76 := blk_frozen BK143.out 0
  have hns76_0 := NB132_143.out
  have hns76_1 := NB133_143.out
  have hns76_2 := NB135_143.out
  have hns76_4 := NB144_143.out
  have hms76_0 := NB143_132.out
  have hms76_1 := NB143_133.out
  have hms76_2 := NB143_135.out
  have hms76_4 := NB143_144.out
  have hs77 : w75.cell? ⟨gb143, 1, none⟩ = some (.int .i64 0) := (blk_cell BK143.out 1).trans rfl
  have hfs77 := blk_frozen BK143.out 1
  have hns77_0 := NB132_143.out
  have hns77_1 := NB133_143.out
  have hns77_2 := NB135_143.out
  have hns77_4 := NB144_143.out
  have hms77_0 := NB143_132.out
  have hms77_1 := NB143_133.out
  have hms77_2 := NB143_135.out
  have hms77_4 := NB143_144.out
  refine skip_ (w1 := ?_) (by rfl) rfl ?_ ?_
  rotate_left
  ·
   go_simp
   rfl
  refine hK.out _ _ ⟨((cell_far (p := ⟨gb143, _, none⟩) NB133_143.out _).trans (((cell_far (p := ⟨gb143, _, none⟩) NB133_143.out _).trans (hHeld.1)))), ((cell_far (p := ⟨gb143, _, none⟩) NB132_143.out _).trans (((cell_far (p := ⟨gb143, _, none⟩) NB132_143.out _).trans (hHeld.2))))⟩ (fun hHeld => ?_)
  clear hK K
  refine one_ (i := 11) (N := none) #[true, true, true, true, true, true, true, true, true, true, true, true] rfl rfl (one_of HT_.out (by kernel_rfl)) (by decide) (fun K hK => ?_)
  have hs78 : w75.cell? ⟨gb144, 0, none⟩ = some (.int .i64 0) := (blk_cell BK144.out 0).trans rfl
  have hfs78 := blk_frozen BK144.out 0
  have hns78_0 := NB132_144.out
  have hns78_1 := NB133_144.out
  have hns78_2 := NB135_144.out
  have hns78_3 := NB143_144.out
  have hms78_0 := NB144_132.out
  have hms78_1 := NB144_133.out
  have hms78_2 := NB144_135.out
  have hms78_3 := NB144_143.out
  have hs79 : w75.cell? ⟨gb144, 1, none⟩ = some (.int .i64 0) := (blk_cell BK144.out 1).trans rfl
  have hfs79 := blk_frozen BK144.out 1
  have hns79_0 := NB132_144.out
  have hns79_1 := NB133_144.out
  have hns79_2 := NB135_144.out
  have hns79_3 := NB143_144.out
  have hms79_0 := NB144_132.out
  have hms79_1 := NB144_133.out
  have hms79_2 := NB144_135.out
  have hms79_3 := NB144_143.out
  refine skip_ (w1 := ?_) (by rfl) rfl ?_ ?_
  rotate_left
  ·
   go_simp
   rfl
  refine hK.out _ _ ⟨((cell_far (p := ⟨gb144, _, none⟩) NB133_144.out _).trans (((cell_far (p := ⟨gb144, _, none⟩) NB133_144.out _).trans (hHeld.1)))), ((cell_far (p := ⟨gb144, _, none⟩) NB132_144.out _).trans (((cell_far (p := ⟨gb144, _, none⟩) NB132_144.out _).trans (hHeld.2))))⟩ (fun hHeld => ?_)
  clear hK K
  refine done_ (done_of HT_.out (by kernel_rfl)) ?_
  have hnb80 := NB132_133.out
  have hnc80 := NB133_132.out
  have hnb81 := NB132_135.out
  have hnc81 := NB135_132.out
  have hnb82 := NB132_143.out
  have hnc82 := NB143_132.out
  have hnb83 := NB132_144.out
  have hnc83 := NB144_132.out
  have hcz84_0 : w75.cell? ⟨gb132, 0, none⟩ = some (.int .i64 a1) := (blk_cell BK132.out 0).trans rfl
  have hfz84_0 := blk_frozen BK132.out 0
  go_upto_if 111 with (fail)
  go_cut [11, 12] (fun v11 v12 wc => ∃ (kq : Nat) (x11_70 : Int) (x12_70 : Int) (x144000_70 : Int) (x144001_70 : Int) (x145000_70 : Int) (x145001_70 : Int), v11 = .int .i8 x11_70 ∧ v12 = .int .i64 x12_70 ∧ Aside0 (impl_cutter_add.j3 kq y136 l3 l4 (l0.length : Int) x11_70 x12_70 x144000_70 x144001_70 x145000_70 x145001_70 = some (r1, r2, r3)) ∧ Aside0 (kq ≤ kj46) ∧ Aside0 (Kd.R k48 48 wc w0.heap.size (fun k_ => (P0_ k_ ∨ w.heap.size ≤ k_)) v137 y136) ∧ Aside0 (wc.heap[gx]? = some (.cells #[.slice A4 l4.length c4, .pointer (some ⟨gt, 0, none⟩), v137] 60 (0, 0))) ∧ Aside0 (wc.heap[gb132]? = some (.cells #[.int .i64 a1] 2 (0, 0))) ∧ Aside0 (wc.heap[gb133]? = some (.cells #[.int .i64 a2] 2 (0, 0))) ∧ Aside0 (wc.heap[gb135]? = some (.cells #[.int .i64 (rd l3 (a1 * 25 + a2))] 2 (0, 0))) ∧ Aside0 (wc.heap[gb143]? = some (.cells #[.int .i64 x144000_70, .int .i64 x144001_70] 49 (0, 0))) ∧ Aside0 (wc.heap[gb144]? = some (.cells #[.int .i64 x145000_70, .int .i64 x145001_70] 49 (0, 0))) ∧ Aside0 (Kept w wc (fun k_ => P0_ k_)) ∧ Aside0 (Below w0.heap.size w0 wc))
  case first =>
   have H := HC71.out
   clear HC71
   rcases (Decidable.em (x12_46 ≥ a1)).symm with c85 | c85
   ·
    rw [if_neg c85] at H
    have c85b0 : decide (a1 ≤ x12_46) = false := decide_eq_false c85
    clear c85
    (first | rw [c85b0] | (simp only [i64_w, i32_w]; rw [c85b0]) | skip)
    have H' := Aside0.mk H
    clear H
    go_wp2
    go_meet
    case rel => exact ⟨_, (2), (x12_46), (x12_46), (a2), (wrap64 (a1 - x12_46)), (a2), (by first | rfl | (simp; done) | (simp [*]; done)), (by first | rfl | (simp; done) | (simp [*]; done)), H', ⟨by have := HJ46.out; first | omega | exact Nat.le_refl _⟩, ⟨by (with_reducible repeat (first | apply Kd.R_alloc | apply Kd.R_drewN | apply Kd.R_drew)); exact Kd.R_mono (Kd.R_far (p := ⟨gb144, 1, none⟩) (Kd.R_far (p := ⟨gb144, 0, none⟩) (Kd.R_far (p := ⟨gb143, 1, none⟩) (Kd.R_far (p := ⟨gb143, 0, none⟩) (Kd.R_types (Kd.R_types HO_0.out BK143.out (by decide)) BK144.out (by decide)) (fun _ hk => hk.1.2) (.int .i64 x12_46)) (fun _ hk => hk.1.2) (.int .i64 a2)) (fun _ hk => hk.2) (.int .i64 (wrap64 (a1 - x12_46)))) (fun _ hk => hk.2) (.int .i64 a2)) (fun _ hk => hk.1.1)⟩, ⟨by (with_reducible repeat (first | refine blk_drewN ?_ _ | refine blk_drew ?_ | refine blk_alloc ?_ _)); refine blk_far ?_ (blk_ne BKX.out BK144.out (by decide)) _; (with_reducible repeat (first | refine blk_drewN ?_ _ | refine blk_drew ?_ | refine blk_alloc ?_ _)); refine blk_far ?_ (blk_ne BKX.out BK144.out (by decide)) _; (with_reducible repeat (first | refine blk_drewN ?_ _ | refine blk_drew ?_ | refine blk_alloc ?_ _)); refine blk_far ?_ (blk_ne BKX.out BK143.out (by decide)) _; (with_reducible repeat (first | refine blk_drewN ?_ _ | refine blk_drew ?_ | refine blk_alloc ?_ _)); refine blk_far ?_ (blk_ne BKX.out BK143.out (by decide)) _; (with_reducible repeat (first | refine blk_drewN ?_ _ | refine blk_drew ?_ | refine blk_alloc ?_ _)); exact BKX.out⟩, ⟨by (with_reducible repeat (first | refine blk_drewN ?_ _ | refine blk_drew ?_ | refine blk_alloc ?_ _)); refine blk_far ?_ NB132_144.out _; (with_reducible repeat (first | refine blk_drewN ?_ _ | refine blk_drew ?_ | refine blk_alloc ?_ _)); refine blk_far ?_ NB132_144.out _; (with_reducible repeat (first | refine blk_drewN ?_ _ | refine blk_drew ?_ | refine blk_alloc ?_ _)); refine blk_far ?_ NB132_143.out _; (with_reducible repeat (first | refine blk_drewN ?_ _ | refine blk_drew ?_ | refine blk_alloc ?_ _)); refine blk_far ?_ NB132_143.out _; (with_reducible repeat (first | refine blk_drewN ?_ _ | refine blk_drew ?_ | refine blk_alloc ?_ _)); exact BK132.out⟩, ⟨by (with_reducible repeat (first | refine blk_drewN ?_ _ | refine blk_drew ?_ | refine blk_alloc ?_ _)); refine blk_far ?_ NB133_144.out _; (with_reducible repeat (first | refine blk_drewN ?_ _ | refine blk_drew ?_ | refine blk_alloc ?_ _)); refine blk_far ?_ NB133_144.out _; (with_reducible repeat (first | refine blk_drewN ?_ _ | refine blk_drew ?_ | refine blk_alloc ?_ _)); refine blk_far ?_ NB133_143.out _; (with_reducible repeat (first | refine blk_drewN ?_ _ | refine blk_drew ?_ | refine blk_alloc ?_ _)); refine blk_far ?_ NB133_143.out _; (with_reducible repeat (first | refine blk_drewN ?_ _ | refine blk_drew ?_ | refine blk_alloc ?_ _)); exact BK133.out⟩, ⟨by (with_reducible repeat (first | refine blk_drewN ?_ _ | refine blk_drew ?_ | refine blk_alloc ?_ _)); refine blk_far ?_ NB135_144.out _; (with_reducible repeat (first | refine blk_drewN ?_ _ | refine blk_drew ?_ | refine blk_alloc ?_ _)); refine blk_far ?_ NB135_144.out _; (with_reducible repeat (first | refine blk_drewN ?_ _ | refine blk_drew ?_ | refine blk_alloc ?_ _)); refine blk_far ?_ NB135_143.out _; (with_reducible repeat (first | refine blk_drewN ?_ _ | refine blk_drew ?_ | refine blk_alloc ?_ _)); refine blk_far ?_ NB135_143.out _; (with_reducible repeat (first | refine blk_drewN ?_ _ | refine blk_drew ?_ | refine blk_alloc ?_ _)); exact BK135.out⟩, ⟨by (with_reducible repeat (first | refine blk_drewN ?_ _ | refine blk_drew ?_ | refine blk_alloc ?_ _)); refine blk_far ?_ NB143_144.out _; (with_reducible repeat (first | refine blk_drewN ?_ _ | refine blk_drew ?_ | refine blk_alloc ?_ _)); refine blk_far ?_ NB143_144.out _; (with_reducible repeat (first | refine blk_drewN ?_ _ | refine blk_drew ?_ | refine blk_alloc ?_ _)); refine blk_put (cs := #[.int .i64 x12_46, .int .i64 0]) ?_ 1 _ rfl; (with_reducible repeat (first | refine blk_drewN ?_ _ | refine blk_drew ?_ | refine blk_alloc ?_ _)); refine blk_put (cs := #[.int .i64 0, .int .i64 0]) ?_ 0 _ rfl; (with_reducible repeat (first | refine blk_drewN ?_ _ | refine blk_drew ?_ | refine blk_alloc ?_ _)); exact BK143.out⟩, ⟨by (with_reducible repeat (first | refine blk_drewN ?_ _ | refine blk_drew ?_ | refine blk_alloc ?_ _)); refine blk_put (cs := #[.int .i64 (wrap64 (a1 - x12_46)), .int .i64 0]) ?_ 1 _ rfl; (with_reducible repeat (first | refine blk_drewN ?_ _ | refine blk_drew ?_ | refine blk_alloc ?_ _)); refine blk_put (cs := #[.int .i64 0, .int .i64 0]) ?_ 0 _ rfl; (with_reducible repeat (first | refine blk_drewN ?_ _ | refine blk_drew ?_ | refine blk_alloc ?_ _)); refine blk_far ?_ NB144_143.out _; (with_reducible repeat (first | refine blk_drewN ?_ _ | refine blk_drew ?_ | refine blk_alloc ?_ _)); refine blk_far ?_ NB144_143.out _; (with_reducible repeat (first | refine blk_drewN ?_ _ | refine blk_drew ?_ | refine blk_alloc ?_ _)); exact BK144.out⟩, ⟨by repeat (first | (with_reducible first | exact HK.out | apply Kept.alloc | apply Kept.drewN | apply Kept.drew | refine Kept.setCell ?_ (.inr GW132.out) _ | refine Kept.setCell ?_ (.inr GW133.out) _ | refine Kept.setCell ?_ (.inr GW135.out) _ | refine Kept.setCell ?_ (.inr GW143.out) _ | refine Kept.setCell ?_ (.inr GW144.out) _) | exact HK.out)⟩, ⟨by repeat (first | (with_reducible first | exact HB.out | apply below_alloc | apply pw_below_drewN | apply below_drew1 | refine below_set ?_ GE132.out | refine below_set ?_ GE133.out | refine below_set ?_ GE135.out | refine below_set ?_ GE143.out | refine below_set ?_ GE144.out) | exact HB.out)⟩⟩
   rw [if_pos c85] at H
   have c85b0 : decide (a1 ≤ x12_46) = true := decide_eq_true c85
   clear c85
   (first | rw [c85b0] | (simp only [i64_w, i32_w]; rw [c85b0]) | skip)
   have H' := Aside0.mk H
   clear H
   go_wp2
   go_loopg [12] kj46 (fun kq v12 w' => ∃ (x12_2 : Int), v12 = .int .i64 x12_2 ∧ Aside0 (impl_cutter_add.l1 kq y136 l3 l4 (l0.length : Int) 3 x12_2 a1 a2 (rd l3 (a1 * 25 + a2)) = some (r1, r2, r3)) ∧ Aside0 (kq ≤ kj46) ∧ Aside0 (Kd.R k48 48 w' w0.heap.size (fun k_ => (P0_ k_ ∨ w.heap.size ≤ k_)) v137 y136) ∧ Aside0 (w'.heap[gx]? = some (.cells #[.slice A4 l4.length c4, .pointer (some ⟨gt, 0, none⟩), v137] 60 (0, 0))) ∧ Aside0 (w'.heap[gb132]? = some (.cells #[.int .i64 a1] 2 (0, 0))) ∧ Aside0 (w'.heap[gb133]? = some (.cells #[.int .i64 a2] 2 (0, 0))) ∧ Aside0 (w'.heap[gb135]? = some (.cells #[.int .i64 (rd l3 (a1 * 25 + a2))] 2 (0, 0))) ∧ Aside0 (w'.heap[gb143]? = some (.cells #[.int .i64 x12_46, .int .i64 a2] 49 (0, 0))) ∧ Aside0 (w'.heap[gb144]? = some (.cells #[.int .i64 (wrap64 (a1 - x12_46)), .int .i64 a2] 49 (0, 0))) ∧ Aside0 (Kept w w' (fun k_ => P0_ k_)) ∧ Aside0 (Below w0.heap.size w0 w'))
   case atStart => exact ⟨(1), (by first | rfl | (simp; done) | (simp [*]; done)), H', ⟨Nat.le_refl _⟩, ⟨by (with_reducible repeat (first | apply Kd.R_alloc | apply Kd.R_drewN | apply Kd.R_drew)); exact Kd.R_mono (Kd.R_far (p := ⟨gb144, 1, none⟩) (Kd.R_far (p := ⟨gb144, 0, none⟩) (Kd.R_far (p := ⟨gb143, 1, none⟩) (Kd.R_far (p := ⟨gb143, 0, none⟩) (Kd.R_types (Kd.R_types HO_0.out BK143.out (by decide)) BK144.out (by decide)) (fun _ hk => hk.1.2) (.int .i64 x12_46)) (fun _ hk => hk.1.2) (.int .i64 a2)) (fun _ hk => hk.2) (.int .i64 (wrap64 (a1 - x12_46)))) (fun _ hk => hk.2) (.int .i64 a2)) (fun _ hk => hk.1.1)⟩, ⟨by (with_reducible repeat (first | refine blk_drewN ?_ _ | refine blk_drew ?_ | refine blk_alloc ?_ _)); refine blk_far ?_ (blk_ne BKX.out BK144.out (by decide)) _; (with_reducible repeat (first | refine blk_drewN ?_ _ | refine blk_drew ?_ | refine blk_alloc ?_ _)); refine blk_far ?_ (blk_ne BKX.out BK144.out (by decide)) _; (with_reducible repeat (first | refine blk_drewN ?_ _ | refine blk_drew ?_ | refine blk_alloc ?_ _)); refine blk_far ?_ (blk_ne BKX.out BK143.out (by decide)) _; (with_reducible repeat (first | refine blk_drewN ?_ _ | refine blk_drew ?_ | refine blk_alloc ?_ _)); refine blk_far ?_ (blk_ne BKX.out BK143.out (by decide)) _; (with_reducible repeat (first | refine blk_drewN ?_ _ | refine blk_drew ?_ | refine blk_alloc ?_ _)); exact BKX.out⟩, ⟨by (with_reducible repeat (first | refine blk_drewN ?_ _ | refine blk_drew ?_ | refine blk_alloc ?_ _)); refine blk_far ?_ NB132_144.out _; (with_reducible repeat (first | refine blk_drewN ?_ _ | refine blk_drew ?_ | refine blk_alloc ?_ _)); refine blk_far ?_ NB132_144.out _; (with_reducible repeat (first | refine blk_drewN ?_ _ | refine blk_drew ?_ | refine blk_alloc ?_ _)); refine blk_far ?_ NB132_143.out _; (with_reducible repeat (first | refine blk_drewN ?_ _ | refine blk_drew ?_ | refine blk_alloc ?_ _)); refine blk_far ?_ NB132_143.out _; (with_reducible repeat (first | refine blk_drewN ?_ _ | refine blk_drew ?_ | refine blk_alloc ?_ _)); exact BK132.out⟩, ⟨by (with_reducible repeat (first | refine blk_drewN ?_ _ | refine blk_drew ?_ | refine blk_alloc ?_ _)); refine blk_far ?_ NB133_144.out _; (with_reducible repeat (first | refine blk_drewN ?_ _ | refine blk_drew ?_ | refine blk_alloc ?_ _)); refine blk_far ?_ NB133_144.out _; (with_reducible repeat (first | refine blk_drewN ?_ _ | refine blk_drew ?_ | refine blk_alloc ?_ _)); refine blk_far ?_ NB133_143.out _; (with_reducible repeat (first | refine blk_drewN ?_ _ | refine blk_drew ?_ | refine blk_alloc ?_ _)); refine blk_far ?_ NB133_143.out _; (with_reducible repeat (first | refine blk_drewN ?_ _ | refine blk_drew ?_ | refine blk_alloc ?_ _)); exact BK133.out⟩, ⟨by (with_reducible repeat (first | refine blk_drewN ?_ _ | refine blk_drew ?_ | refine blk_alloc ?_ _)); refine blk_far ?_ NB135_144.out _; (with_reducible repeat (first | refine blk_drewN ?_ _ | refine blk_drew ?_ | refine blk_alloc ?_ _)); refine blk_far ?_ NB135_144.out _; (with_reducible repeat (first | refine blk_drewN ?_ _ | refine blk_drew ?_ | refine blk_alloc ?_ _)); refine blk_far ?_ NB135_143.out _; (with_reducible repeat (first | refine blk_drewN ?_ _ | refine blk_drew ?_ | refine blk_alloc ?_ _)); refine blk_far ?_ NB135_143.out _; (with_reducible repeat (first | refine blk_drewN ?_ _ | refine blk_drew ?_ | refine blk_alloc ?_ _)); exact BK135.out⟩, ⟨by (with_reducible repeat (first | refine blk_drewN ?_ _ | refine blk_drew ?_ | refine blk_alloc ?_ _)); refine blk_far ?_ NB143_144.out _; (with_reducible repeat (first | refine blk_drewN ?_ _ | refine blk_drew ?_ | refine blk_alloc ?_ _)); refine blk_far ?_ NB143_144.out _; (with_reducible repeat (first | refine blk_drewN ?_ _ | refine blk_drew ?_ | refine blk_alloc ?_ _)); refine blk_put (cs := #[.int .i64 x12_46, .int .i64 0]) ?_ 1 _ rfl; (with_reducible repeat (first | refine blk_drewN ?_ _ | refine blk_drew ?_ | refine blk_alloc ?_ _)); refine blk_put (cs := #[.int .i64 0, .int .i64 0]) ?_ 0 _ rfl; (with_reducible repeat (first | refine blk_drewN ?_ _ | refine blk_drew ?_ | refine blk_alloc ?_ _)); exact BK143.out⟩, ⟨by (with_reducible repeat (first | refine blk_drewN ?_ _ | refine blk_drew ?_ | refine blk_alloc ?_ _)); refine blk_put (cs := #[.int .i64 (wrap64 (a1 - x12_46)), .int .i64 0]) ?_ 1 _ rfl; (with_reducible repeat (first | refine blk_drewN ?_ _ | refine blk_drew ?_ | refine blk_alloc ?_ _)); refine blk_put (cs := #[.int .i64 0, .int .i64 0]) ?_ 0 _ rfl; (with_reducible repeat (first | refine blk_drewN ?_ _ | refine blk_drew ?_ | refine blk_alloc ?_ _)); refine blk_far ?_ NB144_143.out _; (with_reducible repeat (first | refine blk_drewN ?_ _ | refine blk_drew ?_ | refine blk_alloc ?_ _)); refine blk_far ?_ NB144_143.out _; (with_reducible repeat (first | refine blk_drewN ?_ _ | refine blk_drew ?_ | refine blk_alloc ?_ _)); exact BK144.out⟩, ⟨by repeat (first | (with_reducible first | exact HK.out | apply Kept.alloc | apply Kept.drewN | apply Kept.drew | refine Kept.setCell ?_ (.inr GW132.out) _ | refine Kept.setCell ?_ (.inr GW133.out) _ | refine Kept.setCell ?_ (.inr GW135.out) _ | refine Kept.setCell ?_ (.inr GW143.out) _ | refine Kept.setCell ?_ (.inr GW144.out) _) | exact HK.out)⟩, ⟨by repeat (first | (with_reducible first | exact HB.out | apply below_alloc | apply pw_below_drewN | apply below_drew1 | refine below_set ?_ GE132.out | refine below_set ?_ GE133.out | refine below_set ?_ GE135.out | refine below_set ?_ GE143.out | refine below_set ?_ GE144.out) | exact HB.out)⟩⟩
   case round =>
    clear H'
    obtain ⟨x12_2, rfl, HA, HK2, HO_0, BKX, BK132, BK133, BK135, BK143, BK144, HK, HB⟩ := hrel
    rcases gk with _ | k2
    · exact absurd HA.out (by simp [impl_cutter_add.l1])
    have H := HA.out
    clear HA
    simp only [impl_cutter_add.l1] at H
    obtain ⟨c86b0, H⟩ := gx_ H
    obtain ⟨c87b0, H⟩ := gx_ H
    obtain ⟨c88b0, H⟩ := gx_ H
    obtain ⟨c89b0, H⟩ := gx_ H
    obtain ⟨ji90, hji90⟩ : ∃ j_ : Int, (wrap64 (a2 - x12_2)) = j_ := ⟨_, rfl⟩
    replace H : (if 0 ≤ (ji90) then (if (ji90) < 25 then (if (wrap64 ((rd l3 (a1 * 25 + x12_2)) + (rd l3 (a1 * 25 + (ji90))))) = (rd l3 (a1 * 25 + a2)) then (impl_cutter_add.j3 k2 y136 l3 l4 (l0.length : Int) 3 x12_2 a1 x12_2 a1 ji90) else (impl_cutter_add.l1 k2 y136 l3 l4 (l0.length : Int) 3 (wrap64 (x12_2 + 1)) a1 a2 (rd l3 (a1 * 25 + a2)))) else (none)) else (none)) = some (r1, r2, r3) := by first | (rw [hji90] at H; exact H) | (simp only [hji90] at H ⊢; exact H)
    have hji90w : (IntKind.i64.wrap (a2 - x12_2)) = ji90 := (i64_w _).trans hji90
    obtain ⟨c91b0, H⟩ := gx_ H
    obtain ⟨c92b0, H⟩ := gx_ H
    rcases (Decidable.em ((wrap64 ((rd l3 (a1 * 25 + x12_2)) + (rd l3 (a1 * 25 + (ji90))))) = (rd l3 (a1 * 25 + a2)))).symm with c93 | c93
    ·
     rw [if_neg c93] at H
     have c93b0 : ((wrap64 ((rd l3 (a1 * 25 + x12_2)) + (rd l3 (a1 * 25 + (ji90))))) == (rd l3 (a1 * 25 + a2))) = false := beq_eq_false_iff_ne.mpr c93
     have c93b1 : ((wrap64 ((rd l3 (a1 * 25 + x12_2)) + (rd l3 (a1 * 25 + (ji90))))) != (rd l3 (a1 * 25 + a2))) = true := bne_iff_ne.mpr c93
     have H' := Aside0.mk H
     clear H
     try go_wp2
     have n0_ := Aside0.mk (Kd.R_drew HO_0.out)
     have n1_ := Aside0.mk (blk_drew BK132.out)
     replace BKX := Aside0.mk (blk_drew BKX.out)
     have n2_ := Aside0.mk (blk_drew BK133.out)
     have n3_ := Aside0.mk (blk_drew BK135.out)
     have n4_ := Aside0.mk (blk_drew BK143.out)
     have n5_ := Aside0.mk (blk_drew BK144.out)
     have n6_ := Aside0.mk (Kept.drew HK.out)
     have n7_ := Aside0.mk (below_drew1 HB.out)
     clear HO_0
     clear BK132
     clear BK133
     clear BK135
     clear BK143
     clear BK144
     clear HK
     clear HB
     have HO_0 := n0_
     have BK132 := n1_
     have BK133 := n2_
     have BK135 := n3_
     have BK143 := n4_
     have BK144 := n5_
     have HK := n6_
     have HB := n7_
     clear n0_ n1_ n2_ n3_ n4_ n5_ n6_ n7_
     have pi145 : 0 ≤ a1 := od_
     have qi145 : a1 < 25 := od_
     have pj145 : 0 ≤ x12_2 := od_
     have qj145 : x12_2 < 25 := od_
     have hx145_0 := spec_l04Cut.tcell (HR3.out _ HK.out) HC3.out (a1) (x12_2) pi145 qi145 pj145 qj145
     have hw145_0 := hx145_0
     replace pi145 := eq_true pi145
     replace qi145 := eq_true qi145
     replace pj145 := eq_true pj145
     replace qj145 := eq_true qj145
     have pi146 : 0 ≤ a1 := od_
     have qi146 : a1 < 25 := od_
     have pj146 : 0 ≤ (ji90) := od_
     have qj146 : (ji90) < 25 := od_
     have hx146_0 := spec_l04Cut.tcell (HR3.out _ HK.out) HC3.out (a1) ((ji90)) pi146 qi146 pj146 qj146
     have hw146_0 := hx146_0
     replace pi146 := eq_true pi146
     replace qi146 := eq_true qi146
     replace pj146 := eq_true pj146
     replace qj146 := eq_true qj146
     refine start_ (n := 25) (S := fun w' => w'.cell? ⟨gb132, 0, none⟩ = some (.int .i64 a1) ∧ w'.cell? ⟨gb133, 0, none⟩ = some (.int .i64 a2) ∧ w'.cell? ⟨gb135, 0, none⟩ = some (.int .i64 (rd l3 (a1 * 25 + a2))) ∧ w'.cell? ⟨gt, (a1).toNat * 25 + (x12_2).toNat, none⟩ = some (.int .i64 (rd l3 (a1 * 25 + x12_2))) ∧ w'.cell? ⟨gt, (a1).toNat * 25 + ((ji90)).toNat, none⟩ = some (.int .i64 (rd l3 (a1 * 25 + (ji90)))) ∧ w'.cell? ⟨gx, 1, none⟩ = some (.pointer (some ⟨gt, 0, none⟩))) (ds := []) #[false, false, false, false, false, false, false, false, false, false, false, false, false, false, false, false, false, false, false, false, false, false, false, false, false] (by kernel_rfl) rfl rfl ⟨(blk_cell BK132.out 0).trans rfl, (blk_cell BK133.out 0).trans rfl, (blk_cell BK135.out 0).trans rfl, (spec_l04Cut.tcell (HR3.out _ (by repeat (first | exact HK.out | apply Kept.alloc | apply Kept.drewN | apply Kept.drew))) HC3.out (a1) (x12_2) (of_eq_true pi145) (of_eq_true qi145) (of_eq_true pj145) (of_eq_true qj145)), (spec_l04Cut.tcell (HR3.out _ (by repeat (first | exact HK.out | apply Kept.alloc | apply Kept.drewN | apply Kept.drew))) HC3.out (a1) ((ji90)) (of_eq_true pi146) (of_eq_true qi146) (of_eq_true pj146) (of_eq_true qj146)), (blk_cell BKX.out 1).trans rfl⟩ (fun hHeld => ?_); refine with_tabW impl_cutter_add.tab17 impl_cutter_add.bits17 (fun HT_ HW_ => ?_)
     generalize wr.drew = w100 at HO_0 BK132 BKX BK133 BK135 BK143 BK144 HK HB hx145_0 hx146_0 hHeld ⊢
     refine pu_ 0 112 (lA 25 1) ?_ ?_ HT_ ?_
     refine pu_ 1 113 (lA 25 3) ?_ ?_ HT_ ?_
     refine pu_ 2 114 (lA 25 7) ?_ ?_ HT_ ?_
     refine tk_ 3 115 (lA 25 15) ?_ ?_ HT_ HW_ hHeld ?_
     refine pu_ 5 117 (lA 25 47) ?_ ?_ HT_ ?_
     refine pu_ 6 118 (lA 25 111) ?_ ?_ HT_ ?_
     refine pu_ 10 122 (lA 25 1135) ?_ ?_ HT_ ?_
     refine pu_ 11 123 (lA 25 3183) ?_ ?_ HT_ ?_
     refine pu_ 12 124 (lA 25 7279) ?_ ?_ HT_ ?_
     refine tk_ 13 125 (lA 25 15471) ?_ ?_ HT_ HW_ hHeld ?_
     refine pu_ 16 128 (lA 25 81007) ?_ ?_ HT_ ?_
     refine pu_ 18 130 (lA 25 343151) ?_ ?_ HT_ ?_
     refine tk_ 4 116 (lA 25 343167) ?_ ?_ HT_ HW_ hHeld ?_
     refine pu_ 7 119 (lA 25 343295) ?_ ?_ HT_ ?_
     refine pu_ 8 120 (lA 25 343551) ?_ ?_ HT_ ?_
     refine tk_ 9 121 (lA 25 344063) ?_ ?_ HT_ HW_ hHeld ?_
     refine tk_ 14 126 (lA 25 360447) ?_ ?_ HT_ HW_ hHeld ?_
     refine pu_ 19 131 (lA 25 884735) ?_ ?_ HT_ ?_
     refine tk_ 15 127 (lA 25 917503) ?_ ?_ HT_ HW_ hHeld ?_
     refine pu_ 17 129 (lA 25 1048575) ?_ ?_ HT_ ?_
     refine pu_ 20 132 (lA 25 2097151) ?_ ?_ HT_ ?_
     refine tk_ 21 133 (lA 25 4194303) ?_ ?_ HT_ HW_ hHeld ?_
     refine pu_ 22 134 (lA 25 8388607) ?_ ?_ HT_ ?_
     refine tk_ 23 135 (lA 25 16777215) ?_ ?_ HT_ HW_ hHeld ?_
     refine pu_ 24 136 (lA 25 33554431) ?_ ?_ HT_ ?_
     refine done_ (done_of HT_.out (by kernel_rfl)) ?_
     try go_wp2
     go_roundg k2
     case measure => have := HJ46.out; have := HK2.out; omega
     case rel => exact ⟨(wrap64 (x12_2 + 1)), (by first | rfl | (simp; done) | (simp [*]; done)), H', ⟨by have := HJ46.out; have := HK2.out; omega⟩, ⟨kp_ HO_0⟩, ⟨bk_ BKX⟩, ⟨bk_ BK132⟩, ⟨bk_ BK133⟩, ⟨bk_ BK135⟩, ⟨bk_ BK143⟩, ⟨bk_ BK144⟩, ⟨by repeat (first | (with_reducible first | exact HK.out | apply Kept.alloc | apply Kept.drewN | apply Kept.drew | refine Kept.setCell ?_ (.inr GW132.out) _ | refine Kept.setCell ?_ (.inr GW133.out) _ | refine Kept.setCell ?_ (.inr GW135.out) _ | refine Kept.setCell ?_ (.inr GW143.out) _ | refine Kept.setCell ?_ (.inr GW144.out) _) | exact HK.out)⟩, ⟨by repeat (first | (with_reducible first | exact HB.out | apply below_alloc | apply pw_below_drewN | apply below_drew1 | refine below_set ?_ GE132.out | refine below_set ?_ GE133.out | refine below_set ?_ GE135.out | refine below_set ?_ GE143.out | refine below_set ?_ GE144.out) | exact HB.out)⟩⟩
    rw [if_pos c93] at H
    have c93b0 : ((wrap64 ((rd l3 (a1 * 25 + x12_2)) + (rd l3 (a1 * 25 + (ji90))))) == (rd l3 (a1 * 25 + a2))) = true := beq_iff_eq.mpr c93
    have c93b1 : ((wrap64 ((rd l3 (a1 * 25 + x12_2)) + (rd l3 (a1 * 25 + (ji90))))) != (rd l3 (a1 * 25 + a2))) = false := bne_eq_false_iff_eq.mpr c93
    clear c93
    have H' := Aside0.mk H
    clear H
    try go_wp2
    have n0_ := Aside0.mk (Kd.R_drew HO_0.out)
    have n1_ := Aside0.mk (blk_drew BK132.out)
    replace BKX := Aside0.mk (blk_drew BKX.out)
    have n2_ := Aside0.mk (blk_drew BK133.out)
    have n3_ := Aside0.mk (blk_drew BK135.out)
    have n4_ := Aside0.mk (blk_drew BK143.out)
    have n5_ := Aside0.mk (blk_drew BK144.out)
    have n6_ := Aside0.mk (Kept.drew HK.out)
    have n7_ := Aside0.mk (below_drew1 HB.out)
    clear HO_0
    clear BK132
    clear BK133
    clear BK135
    clear BK143
    clear BK144
    clear HK
    clear HB
    have HO_0 := n0_
    have BK132 := n1_
    have BK133 := n2_
    have BK135 := n3_
    have BK143 := n4_
    have BK144 := n5_
    have HK := n6_
    have HB := n7_
    clear n0_ n1_ n2_ n3_ n4_ n5_ n6_ n7_
    have pi145 : 0 ≤ a1 := od_
    have qi145 : a1 < 25 := od_
    have pj145 : 0 ≤ x12_2 := od_
    have qj145 : x12_2 < 25 := od_
    have hx145_0 := spec_l04Cut.tcell (HR3.out _ HK.out) HC3.out (a1) (x12_2) pi145 qi145 pj145 qj145
    have hw145_0 := hx145_0
    replace pi145 := eq_true pi145
    replace qi145 := eq_true qi145
    replace pj145 := eq_true pj145
    replace qj145 := eq_true qj145
    have pi146 : 0 ≤ a1 := od_
    have qi146 : a1 < 25 := od_
    have pj146 : 0 ≤ (ji90) := od_
    have qj146 : (ji90) < 25 := od_
    have hx146_0 := spec_l04Cut.tcell (HR3.out _ HK.out) HC3.out (a1) ((ji90)) pi146 qi146 pj146 qj146
    have hw146_0 := hx146_0
    replace pi146 := eq_true pi146
    replace qi146 := eq_true qi146
    replace pj146 := eq_true pj146
    replace qj146 := eq_true qj146
    refine start_ (n := 25) (S := fun w' => w'.cell? ⟨gb132, 0, none⟩ = some (.int .i64 a1) ∧ w'.cell? ⟨gb133, 0, none⟩ = some (.int .i64 a2) ∧ w'.cell? ⟨gb135, 0, none⟩ = some (.int .i64 (rd l3 (a1 * 25 + a2))) ∧ w'.cell? ⟨gt, (a1).toNat * 25 + (x12_2).toNat, none⟩ = some (.int .i64 (rd l3 (a1 * 25 + x12_2))) ∧ w'.cell? ⟨gt, (a1).toNat * 25 + ((ji90)).toNat, none⟩ = some (.int .i64 (rd l3 (a1 * 25 + (ji90)))) ∧ w'.cell? ⟨gx, 1, none⟩ = some (.pointer (some ⟨gt, 0, none⟩))) (ds := []) #[false, false, false, false, false, false, false, false, false, false, false, false, false, false, false, false, false, false, false, false, false, false, false, false, false] (by kernel_rfl) rfl rfl ⟨(blk_cell BK132.out 0).trans rfl, (blk_cell BK133.out 0).trans rfl, (blk_cell BK135.out 0).trans rfl, (spec_l04Cut.tcell (HR3.out _ (by repeat (first | exact HK.out | apply Kept.alloc | apply Kept.drewN | apply Kept.drew))) HC3.out (a1) (x12_2) (of_eq_true pi145) (of_eq_true qi145) (of_eq_true pj145) (of_eq_true qj145)), (spec_l04Cut.tcell (HR3.out _ (by repeat (first | exact HK.out | apply Kept.alloc | apply Kept.drewN | apply Kept.drew))) HC3.out (a1) ((ji90)) (of_eq_true pi146) (of_eq_true qi146) (of_eq_true pj146) (of_eq_true qj146)), (blk_cell BKX.out 1).trans rfl⟩ (fun hHeld => ?_); refine with_tabW impl_cutter_add.tab17 impl_cutter_add.bits17 (fun HT_ HW_ => ?_)
    generalize wr.drew = w94 at HO_0 BK132 BKX BK133 BK135 BK143 BK144 HK HB hx145_0 hx146_0 hHeld ⊢
    refine pu_ 0 112 (lA 25 1) ?_ ?_ HT_ ?_
    refine pu_ 1 113 (lA 25 3) ?_ ?_ HT_ ?_
    refine pu_ 2 114 (lA 25 7) ?_ ?_ HT_ ?_
    refine tk_ 3 115 (lA 25 15) ?_ ?_ HT_ HW_ hHeld ?_
    refine pu_ 5 117 (lA 25 47) ?_ ?_ HT_ ?_
    refine pu_ 6 118 (lA 25 111) ?_ ?_ HT_ ?_
    refine pu_ 10 122 (lA 25 1135) ?_ ?_ HT_ ?_
    refine pu_ 11 123 (lA 25 3183) ?_ ?_ HT_ ?_
    refine pu_ 12 124 (lA 25 7279) ?_ ?_ HT_ ?_
    refine tk_ 13 125 (lA 25 15471) ?_ ?_ HT_ HW_ hHeld ?_
    refine pu_ 16 128 (lA 25 81007) ?_ ?_ HT_ ?_
    refine pu_ 18 130 (lA 25 343151) ?_ ?_ HT_ ?_
    refine tk_ 4 116 (lA 25 343167) ?_ ?_ HT_ HW_ hHeld ?_
    refine pu_ 7 119 (lA 25 343295) ?_ ?_ HT_ ?_
    refine pu_ 8 120 (lA 25 343551) ?_ ?_ HT_ ?_
    refine tk_ 9 121 (lA 25 344063) ?_ ?_ HT_ HW_ hHeld ?_
    refine tk_ 14 126 (lA 25 360447) ?_ ?_ HT_ HW_ hHeld ?_
    refine pu_ 19 131 (lA 25 884735) ?_ ?_ HT_ ?_
    refine tk_ 15 127 (lA 25 917503) ?_ ?_ HT_ HW_ hHeld ?_
    refine pu_ 17 129 (lA 25 1048575) ?_ ?_ HT_ ?_
    refine pu_ 20 132 (lA 25 2097151) ?_ ?_ HT_ ?_
    refine tk_ 21 133 (lA 25 4194303) ?_ ?_ HT_ HW_ hHeld ?_
    refine pu_ 22 134 (lA 25 8388607) ?_ ?_ HT_ ?_
    refine tk_ 23 135 (lA 25 16777215) ?_ ?_ HT_ HW_ hHeld ?_
    refine pu_ 24 136 (lA 25 33554431) ?_ ?_ HT_ ?_
    refine done_ (done_of HT_.out (by kernel_rfl)) ?_
    try go_wp2
    have n0_ := Aside0.mk (Kd.R_drew HO_0.out)
    have n1_ := Aside0.mk (blk_drew BK132.out)
    replace BKX := Aside0.mk (blk_drew BKX.out)
    have n2_ := Aside0.mk (blk_drew BK133.out)
    have n3_ := Aside0.mk (blk_drew BK135.out)
    have n4_ := Aside0.mk (blk_drew BK143.out)
    have n5_ := Aside0.mk (blk_drew BK144.out)
    have n6_ := Aside0.mk (Kept.drew HK.out)
    have n7_ := Aside0.mk (below_drew1 HB.out)
    clear HO_0
    clear BK132
    clear BK133
    clear BK135
    clear BK143
    clear BK144
    clear HK
    clear HB
    have HO_0 := n0_
    have BK132 := n1_
    have BK133 := n2_
    have BK135 := n3_
    have BK143 := n4_
    have BK144 := n5_
    have HK := n6_
    have HB := n7_
    clear n0_ n1_ n2_ n3_ n4_ n5_ n6_ n7_
    refine start_ (n := 10) (S := fun w' => w'.cell? ⟨gb132, 0, none⟩ = some (.int .i64 a1) ∧ w'.cell? ⟨gb133, 0, none⟩ = some (.int .i64 a2)) (ds := []) #[false, false, false, false, false, false, false, false, false, false] (by kernel_rfl) rfl rfl ⟨(blk_cell BK132.out 0).trans rfl, (blk_cell BK133.out 0).trans rfl⟩ (fun hHeld => ?_); refine with_tabW impl_cutter_add.tab19 impl_cutter_add.bits19 (fun HT_ HW_ => ?_)
    generalize w94.drew = w95 at HO_0 BK132 BKX BK133 BK135 BK143 BK144 HK HB hHeld ⊢
    refine pu_ 1 140 (lA 10 2) ?_ ?_ HT_ ?_
    refine pu_ 5 144 (lA 10 34) ?_ ?_ HT_ ?_
    refine tk_ 0 139 (lA 10 35) ?_ ?_ HT_ HW_ hHeld ?_
    refine pu_ 2 141 (lA 10 39) ?_ ?_ HT_ ?_
    refine tk_ 3 142 (lA 10 47) ?_ ?_ HT_ HW_ hHeld ?_
    refine tk_ 4 143 (lA 10 63) ?_ ?_ HT_ HW_ hHeld ?_
    refine pu_ 6 145 (lA 10 127) ?_ ?_ HT_ ?_
    refine pu_ 7 146 (lA 10 255) ?_ ?_ HT_ ?_
    refine one_ (i := 8) (N := none) #[true, true, true, true, true, true, true, true, true, false] rfl rfl (one_of HT_.out (by kernel_rfl)) (by decide) (fun K hK => ?_)
    have hs96 : w95.cell? ⟨gb143, 0, none⟩ = some (.int .i64 x12_46) := (blk_cell BK143.out 0).trans rfl
    have hfs96 := blk_frozen BK143.out 0
    have hns96_0 := NB132_143.out
    have hns96_1 := NB133_143.out
    have hns96_2 := NB135_143.out
    have hns96_4 := NB144_143.out
    have hms96_0 := NB143_132.out
    have hms96_1 := NB143_133.out
    have hms96_2 := NB143_135.out
    have hms96_4 := NB143_144.out
    have hs97 : w95.cell? ⟨gb143, 1, none⟩ = some (.int .i64 a2) := (blk_cell BK143.out 1).trans rfl
    have hfs97 := blk_frozen BK143.out 1
    have hns97_0 := NB132_143.out
    have hns97_1 := NB133_143.out
    have hns97_2 := NB135_143.out
    have hns97_4 := NB144_143.out
    have hms97_0 := NB143_132.out
    have hms97_1 := NB143_133.out
    have hms97_2 := NB143_135.out
    have hms97_4 := NB143_144.out
    refine skip_ (w1 := ?_) (by rfl) rfl ?_ ?_
    rotate_left
    ·
     go_simp
     rfl
    refine hK.out _ _ ⟨((cell_far (p := ⟨gb143, _, none⟩) NB132_143.out _).trans (((cell_far (p := ⟨gb143, _, none⟩) NB132_143.out _).trans (hHeld.1)))), ((cell_far (p := ⟨gb143, _, none⟩) NB133_143.out _).trans (((cell_far (p := ⟨gb143, _, none⟩) NB133_143.out _).trans (hHeld.2))))⟩ (fun hHeld => ?_)
    clear hK K
    refine one_ (i := 9) (N := none) #[true, true, true, true, true, true, true, true, true, true] rfl rfl (one_of HT_.out (by kernel_rfl)) (by decide) (fun K hK => ?_)
    have hs98 : w95.cell? ⟨gb144, 0, none⟩ = some (.int .i64 (wrap64 (a1 - x12_46))) := (blk_cell BK144.out 0).trans rfl
    have hfs98 := blk_frozen BK144.out 0
    have hns98_0 := NB132_144.out
    have hns98_1 := NB133_144.out
    have hns98_2 := NB135_144.out
    have hns98_3 := NB143_144.out
    have hms98_0 := NB144_132.out
    have hms98_1 := NB144_133.out
    have hms98_2 := NB144_135.out
    have hms98_3 := NB144_143.out
    have hs99 : w95.cell? ⟨gb144, 1, none⟩ = some (.int .i64 a2) := (blk_cell BK144.out 1).trans rfl
    have hfs99 := blk_frozen BK144.out 1
    have hns99_0 := NB132_144.out
    have hns99_1 := NB133_144.out
    have hns99_2 := NB135_144.out
    have hns99_3 := NB143_144.out
    have hms99_0 := NB144_132.out
    have hms99_1 := NB144_133.out
    have hms99_2 := NB144_135.out
    have hms99_3 := NB144_143.out
    refine skip_ (w1 := ?_) (by rfl) rfl ?_ ?_
    rotate_left
    ·
     go_simp
     rfl
    refine hK.out _ _ ⟨((cell_far (p := ⟨gb144, _, none⟩) NB132_144.out _).trans (((cell_far (p := ⟨gb144, _, none⟩) NB132_144.out _).trans (hHeld.1)))), ((cell_far (p := ⟨gb144, _, none⟩) NB133_144.out _).trans (((cell_far (p := ⟨gb144, _, none⟩) NB133_144.out _).trans (hHeld.2))))⟩ (fun hHeld => ?_)
    clear hK K
    refine done_ (done_of HT_.out (by kernel_rfl)) ?_
    try go_wp2
    go_meet
    case rel => exact ⟨_, (3), (x12_2), (a1), (x12_2), (a1), (ji90), (by first | rfl | (simp; done) | (simp [*]; done)), (by first | rfl | (simp; done) | (simp [*]; done)), H', ⟨by have := HJ46.out; have := HK2.out; first | omega | exact Nat.le_refl _⟩, ⟨by (with_reducible repeat (first | apply Kd.R_alloc | apply Kd.R_drewN | apply Kd.R_drew)); exact Kd.R_mono (Kd.R_far (p := ⟨gb144, 1, none⟩) (Kd.R_far (p := ⟨gb144, 0, none⟩) (Kd.R_far (p := ⟨gb143, 1, none⟩) (Kd.R_far (p := ⟨gb143, 0, none⟩) (Kd.R_types (Kd.R_types HO_0.out BK143.out (by decide)) BK144.out (by decide)) (fun _ hk => hk.1.2) (.int .i64 a1)) (fun _ hk => hk.1.2) (.int .i64 x12_2)) (fun _ hk => hk.2) (.int .i64 a1)) (fun _ hk => hk.2) (.int .i64 ji90)) (fun _ hk => hk.1.1)⟩, ⟨by (with_reducible repeat (first | refine blk_drewN ?_ _ | refine blk_drew ?_ | refine blk_alloc ?_ _)); refine blk_far ?_ (blk_ne BKX.out BK144.out (by decide)) _; (with_reducible repeat (first | refine blk_drewN ?_ _ | refine blk_drew ?_ | refine blk_alloc ?_ _)); refine blk_far ?_ (blk_ne BKX.out BK144.out (by decide)) _; (with_reducible repeat (first | refine blk_drewN ?_ _ | refine blk_drew ?_ | refine blk_alloc ?_ _)); refine blk_far ?_ (blk_ne BKX.out BK143.out (by decide)) _; (with_reducible repeat (first | refine blk_drewN ?_ _ | refine blk_drew ?_ | refine blk_alloc ?_ _)); refine blk_far ?_ (blk_ne BKX.out BK143.out (by decide)) _; (with_reducible repeat (first | refine blk_drewN ?_ _ | refine blk_drew ?_ | refine blk_alloc ?_ _)); exact BKX.out⟩, ⟨by (with_reducible repeat (first | refine blk_drewN ?_ _ | refine blk_drew ?_ | refine blk_alloc ?_ _)); refine blk_far ?_ NB132_144.out _; (with_reducible repeat (first | refine blk_drewN ?_ _ | refine blk_drew ?_ | refine blk_alloc ?_ _)); refine blk_far ?_ NB132_144.out _; (with_reducible repeat (first | refine blk_drewN ?_ _ | refine blk_drew ?_ | refine blk_alloc ?_ _)); refine blk_far ?_ NB132_143.out _; (with_reducible repeat (first | refine blk_drewN ?_ _ | refine blk_drew ?_ | refine blk_alloc ?_ _)); refine blk_far ?_ NB132_143.out _; (with_reducible repeat (first | refine blk_drewN ?_ _ | refine blk_drew ?_ | refine blk_alloc ?_ _)); exact BK132.out⟩, ⟨by (with_reducible repeat (first | refine blk_drewN ?_ _ | refine blk_drew ?_ | refine blk_alloc ?_ _)); refine blk_far ?_ NB133_144.out _; (with_reducible repeat (first | refine blk_drewN ?_ _ | refine blk_drew ?_ | refine blk_alloc ?_ _)); refine blk_far ?_ NB133_144.out _; (with_reducible repeat (first | refine blk_drewN ?_ _ | refine blk_drew ?_ | refine blk_alloc ?_ _)); refine blk_far ?_ NB133_143.out _; (with_reducible repeat (first | refine blk_drewN ?_ _ | refine blk_drew ?_ | refine blk_alloc ?_ _)); refine blk_far ?_ NB133_143.out _; (with_reducible repeat (first | refine blk_drewN ?_ _ | refine blk_drew ?_ | refine blk_alloc ?_ _)); exact BK133.out⟩, ⟨by (with_reducible repeat (first | refine blk_drewN ?_ _ | refine blk_drew ?_ | refine blk_alloc ?_ _)); refine blk_far ?_ NB135_144.out _; (with_reducible repeat (first | refine blk_drewN ?_ _ | refine blk_drew ?_ | refine blk_alloc ?_ _)); refine blk_far ?_ NB135_144.out _; (with_reducible repeat (first | refine blk_drewN ?_ _ | refine blk_drew ?_ | refine blk_alloc ?_ _)); refine blk_far ?_ NB135_143.out _; (with_reducible repeat (first | refine blk_drewN ?_ _ | refine blk_drew ?_ | refine blk_alloc ?_ _)); refine blk_far ?_ NB135_143.out _; (with_reducible repeat (first | refine blk_drewN ?_ _ | refine blk_drew ?_ | refine blk_alloc ?_ _)); exact BK135.out⟩, ⟨by (with_reducible repeat (first | refine blk_drewN ?_ _ | refine blk_drew ?_ | refine blk_alloc ?_ _)); refine blk_far ?_ NB143_144.out _; (with_reducible repeat (first | refine blk_drewN ?_ _ | refine blk_drew ?_ | refine blk_alloc ?_ _)); refine blk_far ?_ NB143_144.out _; (with_reducible repeat (first | refine blk_drewN ?_ _ | refine blk_drew ?_ | refine blk_alloc ?_ _)); refine blk_put (cs := #[.int .i64 a1, .int .i64 a2]) ?_ 1 _ rfl; (with_reducible repeat (first | refine blk_drewN ?_ _ | refine blk_drew ?_ | refine blk_alloc ?_ _)); refine blk_put (cs := #[.int .i64 x12_46, .int .i64 a2]) ?_ 0 _ rfl; (with_reducible repeat (first | refine blk_drewN ?_ _ | refine blk_drew ?_ | refine blk_alloc ?_ _)); exact BK143.out⟩, ⟨by (with_reducible repeat (first | refine blk_drewN ?_ _ | refine blk_drew ?_ | refine blk_alloc ?_ _)); refine blk_put (cs := #[.int .i64 a1, .int .i64 a2]) ?_ 1 _ rfl; (with_reducible repeat (first | refine blk_drewN ?_ _ | refine blk_drew ?_ | refine blk_alloc ?_ _)); refine blk_put (cs := #[.int .i64 (wrap64 (a1 - x12_46)), .int .i64 a2]) ?_ 0 _ rfl; (with_reducible repeat (first | refine blk_drewN ?_ _ | refine blk_drew ?_ | refine blk_alloc ?_ _)); refine blk_far ?_ NB144_143.out _; (with_reducible repeat (first | refine blk_drewN ?_ _ | refine blk_drew ?_ | refine blk_alloc ?_ _)); refine blk_far ?_ NB144_143.out _; (with_reducible repeat (first | refine blk_drewN ?_ _ | refine blk_drew ?_ | refine blk_alloc ?_ _)); exact BK144.out⟩, ⟨by repeat (first | (with_reducible first | exact HK.out | apply Kept.alloc | apply Kept.drewN | apply Kept.drew | refine Kept.setCell ?_ (.inr GW132.out) _ | refine Kept.setCell ?_ (.inr GW133.out) _ | refine Kept.setCell ?_ (.inr GW135.out) _ | refine Kept.setCell ?_ (.inr GW143.out) _ | refine Kept.setCell ?_ (.inr GW144.out) _) | exact HK.out)⟩, ⟨by repeat (first | (with_reducible first | exact HB.out | apply below_alloc | apply pw_below_drewN | apply below_drew1 | refine below_set ?_ GE132.out | refine below_set ?_ GE133.out | refine below_set ?_ GE135.out | refine below_set ?_ GE143.out | refine below_set ?_ GE144.out) | exact HB.out)⟩⟩
  case rest =>
   clear HC71
   obtain ⟨kq, x11_70, x12_70, x144000_70, x144001_70, x145000_70, x145001_70, rfl, rfl, HA, HJ70, HO_0, BKX, BK132, BK133, BK135, BK143, BK144, HK, HB⟩ := hcut
   rcases kq with _ | kj70
   · exact absurd HA.out (by simp [impl_cutter_add.j3])
   have H := HA.out
   clear HA
   simp only [impl_cutter_add.j3] at H
   obtain ⟨⟨t147, t150, t151⟩, A101, H⟩ := be_ H
   (try dsimp only at H)
   rcases (Decidable.em (t151 = true)).symm with c102 | c102
   ·
    replace c102 := Bool.eq_false_iff.mpr c102
    subst c102
    replace H := gf_ H
    simp only [Option.some.injEq, Prod.mk.injEq] at H
    obtain ⟨rfl, rfl, rfl⟩ := H
    have hnb122 := NB143_132.out
    have hnc122 := NB132_143.out
    have hnb123 := NB143_133.out
    have hnc123 := NB133_143.out
    have hnb124 := NB143_135.out
    have hnc124 := NB135_143.out
    have hnb125 := NB143_144.out
    have hnc125 := NB144_143.out
    obtain ⟨⟨hcz126_0, hcz126_1⟩, hfz126_0, hfz126_1⟩ := bq_ BK143
    obtain ⟨Ao127, co127, eo127⟩ := Kd.R_slice HO_0.out
    subst eo127
    go_wp2_with (first | ((with_reducible refine gate_callee (f := 26) rfl ?_); refine goM_ (some 153) Try.func26 #[.pointer (some ⟨gx, 0, none⟩), .int .i64 x144000_70, .int .i64 x144001_70] ?_; have hc1 := ih kj70 (Nat.lt_succ_of_le (Nat.le_trans (Nat.le_of_succ_le HJ70.out) (Nat.le_of_succ_le HJ46.out))) (fun k_ => some k_ = (.slice Ao127 y136.length co127 : Value).ownBlock ∨ k_ = gx) gx (.slice Ao127 y136.length co127) y136 x144000_70 x144001_70 gt l3 A4 c4 l4 t147 t150 false w0 wc (.inr rfl) GEX.out BKX.out HB.out (Kd.R_mono (Kd.R_tight rfl HO_0.out) (fun _ h_ => .inl h_)) (spec_l04Cut.kept_call HR3.out HK.out (fun k_ hs_ => hs_.elim (fun e_ => (HO_0.out.1 k_ e_.symm)) (fun e_ => .inl (by rw [e_]; exact HPG.out)))) HC3.out (Kd.C_kept_call HR4.out HK.out (fun k_ hs_ => hs_.elim (fun e_ => (HO_0.out.1 k_ e_.symm)) (fun e_ => .inl (by rw [e_]; exact HPG.out)))) HC4.out A101.out; refine hc1.mono ?_; clear hc1; rintro e w128 ⟨v148, rfl, hx_, ho0, hb, hkp⟩; refine ⟨_, rfl, ?_⟩; have n0_ := Aside0.mk (blk_kept (kb_ BK132) hkp (fun hs_ => hs_.elim (fun e_ => (Kd.R_ne HO_0.out BK132.out (by decide)) e_) (fun e_ => blk_ne BK132.out BKX.out (by decide) e_))); have n1_ := Aside0.mk (blk_kept (kb_ BK133) hkp (fun hs_ => hs_.elim (fun e_ => (Kd.R_ne HO_0.out BK133.out (by decide)) e_) (fun e_ => blk_ne BK133.out BKX.out (by decide) e_))); have n2_ := Aside0.mk (blk_kept (kb_ BK135) hkp (fun hs_ => hs_.elim (fun e_ => (Kd.R_ne HO_0.out BK135.out (by decide)) e_) (fun e_ => blk_ne BK135.out BKX.out (by decide) e_))); have n3_ := Aside0.mk (blk_kept (kb_ BK143) hkp (fun hs_ => hs_.elim (fun e_ => (Kd.R_ne HO_0.out BK143.out (by decide)) e_) (fun e_ => blk_ne BK143.out BKX.out (by decide) e_))); have n4_ := Aside0.mk (blk_kept (kb_ BK144) hkp (fun hs_ => hs_.elim (fun e_ => (Kd.R_ne HO_0.out BK144.out (by decide)) e_) (fun e_ => blk_ne BK144.out BKX.out (by decide) e_))); have n5_ := Aside0.mk (Kd.R_mono (ok' := fun k_ => (P0_ k_ ∨ w.heap.size ≤ k_)) ho0 (fun k_ hk_ => Or.elim hk_ (fun hs_ => hs_.elim (fun e_ => (HO_0.out.1 k_ e_.symm)) (fun e_ => .inl (by rw [e_]; exact HPG.out))) (fun hn_ => (.inr (Nat.le_trans (by first | exact HK.out.1 | exact (show Kept w _ (fun k_ => P0_ k_) from by repeat (first | (with_reducible first | exact HK.out | apply Kept.alloc | apply Kept.drewN | apply Kept.drew | refine Kept.setCell ?_ (.inr GW132.out) _ | refine Kept.setCell ?_ (.inr GW133.out) _ | refine Kept.setCell ?_ (.inr GW135.out) _ | refine Kept.setCell ?_ (.inr GW143.out) _ | refine Kept.setCell ?_ (.inr GW144.out) _) | exact HK.out)).1) hn_))))); have n6_ := Aside0.mk (Kept.then_ (S := (fun k_ => P0_ k_)) (by repeat (first | (with_reducible first | exact HK.out | apply Kept.alloc | apply Kept.drewN | apply Kept.drew | refine Kept.setCell ?_ (.inr GW132.out) _ | refine Kept.setCell ?_ (.inr GW133.out) _ | refine Kept.setCell ?_ (.inr GW135.out) _ | refine Kept.setCell ?_ (.inr GW143.out) _ | refine Kept.setCell ?_ (.inr GW144.out) _) | exact HK.out)) hkp (fun k_ hs_ => hs_.elim (fun e_ => (HO_0.out.1 k_ e_.symm)) (fun e_ => .inl (by rw [e_]; exact HPG.out)))); have n7_ := Aside0.mk (hb); clear BK132; clear BK133; clear BK135; clear BK143; clear BK144; clear HK; clear HB; clear HO_0; have BK132 := n0_; have BK133 := n1_; have BK135 := n2_; have BK143 := n3_; have BK144 := n4_; have HO149 := n5_; have HK := n6_; have HB := n7_; clear n0_ n1_ n2_ n3_ n4_ n5_ n6_ n7_; clear hb; (try clear hkp); (try clear ho0); replace BKX := Aside0.mk hx_; clear hx_; have hcxw128 : w128.cell? ⟨gx, 2, none⟩ = some v148 := (blk_cell BKX.out 2).trans rfl))
    go_ret2
    exact ⟨_, by first | rfl | (simp [errW_none, errW_some] <;> rfl) | (simp [*, errW_none, errW_some] <;> rfl), by (with_reducible repeat (first | refine blk_drewN ?_ _ | refine blk_drew ?_ | refine blk_alloc ?_ _)); (first | exact BKX.out | (refine blk_far ?_ (blk_ne BKX.out BK135.out (by decide)) _; (with_reducible repeat (first | refine blk_drewN ?_ _ | refine blk_drew ?_ | refine blk_alloc ?_ _)); exact BKX.out)), by (with_reducible repeat (first | apply Kd.R_alloc | apply Kd.R_drewN | apply Kd.R_drew)); exact HO149.out, by repeat (first | (with_reducible first | exact HB.out | apply below_alloc | apply pw_below_drewN | apply below_drew1 | refine below_set ?_ GE132.out | refine below_set ?_ GE133.out | refine below_set ?_ GE135.out | refine below_set ?_ GE143.out | refine below_set ?_ GE144.out) | exact HB.out), by repeat (first | (with_reducible first | exact HK.out | apply Kept.alloc | apply Kept.drewN | apply Kept.drew | refine Kept.setCell ?_ (.inr GW132.out) _ | refine Kept.setCell ?_ (.inr GW133.out) _ | refine Kept.setCell ?_ (.inr GW135.out) _ | refine Kept.setCell ?_ (.inr GW143.out) _ | refine Kept.setCell ?_ (.inr GW144.out) _) | exact HK.out)⟩
   subst c102
   replace H := gt_ H
   obtain ⟨⟨t152, t155, t156⟩, A103, H⟩ := be_ H
   (try dsimp only at H)
   obtain ⟨(c104 : 0 ≤ (l0.length : Int)), H⟩ := gd_ H
   have c104b0 : decide (0 ≤ (l0.length : Int)) = true := decide_eq_true c104
   have c104b1 : decide (0 ≤ l0.length) = true := decide_eq_true (by omega)
   clear c104
   obtain ⟨(c105 : (l0.length : Int) < (t152.length : Int)), H⟩ := gd_ H
   have c105b0 : decide ((l0.length : Int) < (t152.length : Int)) = true := decide_eq_true c105
   have c105b1 : decide (l0.length < t152.length) = true := decide_eq_true (Int.ofNat_lt.mp c105)
   clear c105
   obtain ⟨y157, hy157⟩ : ∃ y_ : List (S48), y_ = (t152.set ((l0.length : Int) : Int).toNat (⟨x11_70, IntKind.i8.wrap (x12_70), t150, t155⟩ : S48)) := ⟨_, rfl⟩
   replace H : (some (y157, IntKind.i8.wrap ((l0.length : Int)), t156)) = some (r1, r2, r3) := by first | (rw [hy157]; with_reducible exact H) | (have H2_ := (Option.bind_some _ _).symm.trans H; rw [hy157]; with_reducible exact H2_) | (have H2_ := (Option.bind_some _ _).symm.trans H; with_reducible exact H2_) | with_reducible exact H | (rw [hy157]; exact H) | exact H
   have Ny157 := Aside0.mk hy157
   clear hy157
   simp only [Option.some.injEq, Prod.mk.injEq] at H
   obtain ⟨rfl, rfl, rfl⟩ := H
   have hnb107 := NB143_132.out
   have hnc107 := NB132_143.out
   have hnb108 := NB143_133.out
   have hnc108 := NB133_143.out
   have hnb109 := NB143_135.out
   have hnc109 := NB135_143.out
   have hnb110 := NB143_144.out
   have hnc110 := NB144_143.out
   obtain ⟨⟨hcz111_0, hcz111_1⟩, hfz111_0, hfz111_1⟩ := bq_ BK143
   obtain ⟨Ao112, co112, eo112⟩ := Kd.R_slice HO_0.out
   subst eo112
   go_wp2_with (first | ((with_reducible refine gate_callee (f := 26) rfl ?_); refine goM_ (some 153) Try.func26 #[.pointer (some ⟨gx, 0, none⟩), .int .i64 x144000_70, .int .i64 x144001_70] ?_; have hc1 := ih kj70 (Nat.lt_succ_of_le (Nat.le_trans (Nat.le_of_succ_le HJ70.out) (Nat.le_of_succ_le HJ46.out))) (fun k_ => some k_ = (.slice Ao112 y136.length co112 : Value).ownBlock ∨ k_ = gx) gx (.slice Ao112 y136.length co112) y136 x144000_70 x144001_70 gt l3 A4 c4 l4 t147 t150 true w0 wc (.inr rfl) GEX.out BKX.out HB.out (Kd.R_mono (Kd.R_tight rfl HO_0.out) (fun _ h_ => .inl h_)) (spec_l04Cut.kept_call HR3.out HK.out (fun k_ hs_ => hs_.elim (fun e_ => (HO_0.out.1 k_ e_.symm)) (fun e_ => .inl (by rw [e_]; exact HPG.out)))) HC3.out (Kd.C_kept_call HR4.out HK.out (fun k_ hs_ => hs_.elim (fun e_ => (HO_0.out.1 k_ e_.symm)) (fun e_ => .inl (by rw [e_]; exact HPG.out)))) HC4.out A101.out; refine hc1.mono ?_; clear hc1; rintro e w113 ⟨v148, rfl, hx_, ho0, hb, hkp⟩; refine ⟨_, rfl, ?_⟩; have n0_ := Aside0.mk (blk_kept (kb_ BK132) hkp (fun hs_ => hs_.elim (fun e_ => (Kd.R_ne HO_0.out BK132.out (by decide)) e_) (fun e_ => blk_ne BK132.out BKX.out (by decide) e_))); have n1_ := Aside0.mk (blk_kept (kb_ BK133) hkp (fun hs_ => hs_.elim (fun e_ => (Kd.R_ne HO_0.out BK133.out (by decide)) e_) (fun e_ => blk_ne BK133.out BKX.out (by decide) e_))); have n2_ := Aside0.mk (blk_kept (kb_ BK135) hkp (fun hs_ => hs_.elim (fun e_ => (Kd.R_ne HO_0.out BK135.out (by decide)) e_) (fun e_ => blk_ne BK135.out BKX.out (by decide) e_))); have n3_ := Aside0.mk (blk_kept (kb_ BK143) hkp (fun hs_ => hs_.elim (fun e_ => (Kd.R_ne HO_0.out BK143.out (by decide)) e_) (fun e_ => blk_ne BK143.out BKX.out (by decide) e_))); have n4_ := Aside0.mk (blk_kept (kb_ BK144) hkp (fun hs_ => hs_.elim (fun e_ => (Kd.R_ne HO_0.out BK144.out (by decide)) e_) (fun e_ => blk_ne BK144.out BKX.out (by decide) e_))); have n5_ := Aside0.mk (Kd.R_mono (ok' := fun k_ => (P0_ k_ ∨ w.heap.size ≤ k_)) ho0 (fun k_ hk_ => Or.elim hk_ (fun hs_ => hs_.elim (fun e_ => (HO_0.out.1 k_ e_.symm)) (fun e_ => .inl (by rw [e_]; exact HPG.out))) (fun hn_ => (.inr (Nat.le_trans (by first | exact HK.out.1 | exact (show Kept w _ (fun k_ => P0_ k_) from by repeat (first | (with_reducible first | exact HK.out | apply Kept.alloc | apply Kept.drewN | apply Kept.drew | refine Kept.setCell ?_ (.inr GW132.out) _ | refine Kept.setCell ?_ (.inr GW133.out) _ | refine Kept.setCell ?_ (.inr GW135.out) _ | refine Kept.setCell ?_ (.inr GW143.out) _ | refine Kept.setCell ?_ (.inr GW144.out) _) | exact HK.out)).1) hn_))))); have n6_ := Aside0.mk (Kept.then_ (S := (fun k_ => P0_ k_)) (by repeat (first | (with_reducible first | exact HK.out | apply Kept.alloc | apply Kept.drewN | apply Kept.drew | refine Kept.setCell ?_ (.inr GW132.out) _ | refine Kept.setCell ?_ (.inr GW133.out) _ | refine Kept.setCell ?_ (.inr GW135.out) _ | refine Kept.setCell ?_ (.inr GW143.out) _ | refine Kept.setCell ?_ (.inr GW144.out) _) | exact HK.out)) hkp (fun k_ hs_ => hs_.elim (fun e_ => (HO_0.out.1 k_ e_.symm)) (fun e_ => .inl (by rw [e_]; exact HPG.out)))); have n7_ := Aside0.mk (hb); clear BK132; clear BK133; clear BK135; clear BK143; clear BK144; clear HK; clear HB; clear HO_0; have BK132 := n0_; have BK133 := n1_; have BK135 := n2_; have BK143 := n3_; have BK144 := n4_; have HO149 := n5_; have HK := n6_; have HB := n7_; clear n0_ n1_ n2_ n3_ n4_ n5_ n6_ n7_; clear hb; (try clear hkp); (try clear ho0); replace BKX := Aside0.mk hx_; clear hx_; have hcxw113 : w113.cell? ⟨gx, 2, none⟩ = some v148 := (blk_cell BKX.out 2).trans rfl; have hnb114 := NB144_132.out; have hnc114 := NB132_144.out; have hnb115 := NB144_133.out; have hnc115 := NB133_144.out; have hnb116 := NB144_135.out; have hnc116 := NB135_144.out; obtain ⟨⟨hcz117_0, hcz117_1⟩, hfz117_0, hfz117_1⟩ := bq_ BK144; obtain ⟨Ao118, co118, eo118⟩ := Kd.R_slice HO149.out; subst eo118) | ((with_reducible refine gate_callee (f := 26) rfl ?_); refine goM_ (some 164) Try.func26 #[.pointer (some ⟨gx, 0, none⟩), .int .i64 x145000_70, .int .i64 x145001_70] ?_; have hc1 := ih kj70 (Nat.lt_succ_of_le (Nat.le_trans (Nat.le_of_succ_le HJ70.out) (Nat.le_of_succ_le HJ46.out))) (fun k_ => some k_ = (.slice Ao118 t147.length co118 : Value).ownBlock ∨ k_ = gx) gx (.slice Ao118 t147.length co118) t147 x145000_70 x145001_70 gt l3 A4 c4 l4 t152 t155 t156 w0 w113 (.inr rfl) GEX.out BKX.out HB.out (Kd.R_mono (Kd.R_tight rfl HO149.out) (fun _ h_ => .inl h_)) (spec_l04Cut.kept_call HR3.out HK.out (fun k_ hs_ => hs_.elim (fun e_ => (HO149.out.1 k_ e_.symm)) (fun e_ => .inl (by rw [e_]; exact HPG.out)))) HC3.out (Kd.C_kept_call HR4.out HK.out (fun k_ hs_ => hs_.elim (fun e_ => (HO149.out.1 k_ e_.symm)) (fun e_ => .inl (by rw [e_]; exact HPG.out)))) HC4.out A103.out; refine hc1.mono ?_; clear hc1; rintro e w119 ⟨v153, rfl, hx_, ho0, hb, hkp⟩; refine ⟨_, rfl, ?_⟩; have n0_ := Aside0.mk (blk_kept (kb_ BK132) hkp (fun hs_ => hs_.elim (fun e_ => (Kd.R_ne HO149.out BK132.out (by decide)) e_) (fun e_ => blk_ne BK132.out BKX.out (by decide) e_))); have n1_ := Aside0.mk (blk_kept (kb_ BK133) hkp (fun hs_ => hs_.elim (fun e_ => (Kd.R_ne HO149.out BK133.out (by decide)) e_) (fun e_ => blk_ne BK133.out BKX.out (by decide) e_))); have n2_ := Aside0.mk (blk_kept (kb_ BK135) hkp (fun hs_ => hs_.elim (fun e_ => (Kd.R_ne HO149.out BK135.out (by decide)) e_) (fun e_ => blk_ne BK135.out BKX.out (by decide) e_))); have n3_ := Aside0.mk (blk_kept (kb_ BK143) hkp (fun hs_ => hs_.elim (fun e_ => (Kd.R_ne HO149.out BK143.out (by decide)) e_) (fun e_ => blk_ne BK143.out BKX.out (by decide) e_))); have n4_ := Aside0.mk (blk_kept (kb_ BK144) hkp (fun hs_ => hs_.elim (fun e_ => (Kd.R_ne HO149.out BK144.out (by decide)) e_) (fun e_ => blk_ne BK144.out BKX.out (by decide) e_))); have n5_ := Aside0.mk (Kd.R_mono (ok' := fun k_ => (P0_ k_ ∨ w.heap.size ≤ k_)) ho0 (fun k_ hk_ => Or.elim hk_ (fun hs_ => hs_.elim (fun e_ => (HO149.out.1 k_ e_.symm)) (fun e_ => .inl (by rw [e_]; exact HPG.out))) (fun hn_ => (.inr (Nat.le_trans (by first | exact HK.out.1 | exact (show Kept w _ (fun k_ => P0_ k_) from by repeat (first | (with_reducible first | exact HK.out | apply Kept.alloc | apply Kept.drewN | apply Kept.drew | refine Kept.setCell ?_ (.inr GW132.out) _ | refine Kept.setCell ?_ (.inr GW133.out) _ | refine Kept.setCell ?_ (.inr GW135.out) _ | refine Kept.setCell ?_ (.inr GW143.out) _ | refine Kept.setCell ?_ (.inr GW144.out) _) | exact HK.out)).1) hn_))))); have n6_ := Aside0.mk (Kept.then_ (S := (fun k_ => P0_ k_)) (by repeat (first | (with_reducible first | exact HK.out | apply Kept.alloc | apply Kept.drewN | apply Kept.drew | refine Kept.setCell ?_ (.inr GW132.out) _ | refine Kept.setCell ?_ (.inr GW133.out) _ | refine Kept.setCell ?_ (.inr GW135.out) _ | refine Kept.setCell ?_ (.inr GW143.out) _ | refine Kept.setCell ?_ (.inr GW144.out) _) | exact HK.out)) hkp (fun k_ hs_ => hs_.elim (fun e_ => (HO149.out.1 k_ e_.symm)) (fun e_ => .inl (by rw [e_]; exact HPG.out)))); have n7_ := Aside0.mk (hb); clear BK132; clear BK133; clear BK135; clear BK143; clear BK144; clear HK; clear HB; clear HO149; have BK132 := n0_; have BK133 := n1_; have BK135 := n2_; have BK143 := n3_; have BK144 := n4_; have HO154 := n5_; have HK := n6_; have HB := n7_; clear n0_ n1_ n2_ n3_ n4_ n5_ n6_ n7_; clear hb; (try clear hkp); (try clear ho0); replace BKX := Aside0.mk hx_; clear hx_; have hcxw119 : w119.cell? ⟨gx, 2, none⟩ = some v153 := (blk_cell BKX.out 2).trans rfl; have p106 : 0 ≤ ((l0.length : Int) : Int) := od_; have q106 : ((l0.length : Int) : Int) < ((t152.length : Int) : Int) := od_; obtain ⟨go106, co106, eo106, gb106, gl106, cl106, HG106⟩ := Kd.R_form HO154.out (by omega); (first | cases eo106 | (injection eo106 with ea_ en_ ec_; (first | subst ea_ | (injection ea_ with ea_; subst ea_)); subst ec_; clear en_)); have GB106 := Aside0.mk gb106; have GG106 := Aside0.mk HG106; clear gb106 gl106 HG106; have HMgo106 := Aside0.mk (show (P0_ go106 ∨ w.heap.size ≤ go106) from (HO154.out.1 _ rfl)); obtain ⟨ce106, hcl106, hM106, hcc106, hfr106⟩ := Kd.R_elem HO154.out z48 ((l0.length : Int) : Int) p106 q106; obtain rfl := k48_openM hM106; have hx106_0 : w119.cell? ⟨go106, l0.length * 4, none⟩ = some (.int .i8 ((rd_T48 t152 (l0.length : Int)).f0)) := hcc106 0 _ rfl; have hx106_1 : w119.cell? ⟨go106, l0.length * 4 + 1, none⟩ = some (.int .i8 ((rd_T48 t152 (l0.length : Int)).f1)) := hcc106 1 _ rfl; have hx106_2 : w119.cell? ⟨go106, l0.length * 4 + 2, none⟩ = some (.int .i8 ((rd_T48 t152 (l0.length : Int)).f2)) := hcc106 2 _ rfl; have hx106_3 : w119.cell? ⟨go106, l0.length * 4 + 3, none⟩ = some (.int .i8 ((rd_T48 t152 (l0.length : Int)).f3)) := hcc106 3 _ rfl; have hf106_0 : w119.frozen? ⟨go106, l0.length * 4, none⟩ = false := hfr106 0; have hf106_1 : w119.frozen? ⟨go106, l0.length * 4 + 1, none⟩ = false := hfr106 1; have hf106_2 : w119.frozen? ⟨go106, l0.length * 4 + 2, none⟩ = false := hfr106 2; have hf106_3 : w119.frozen? ⟨go106, l0.length * 4 + 3, none⟩ = false := hfr106 3; clear hcl106 hcc106 hfr106; (try clear hM106); replace p106 := eq_true p106; replace q106 := eq_true q106; have HX120 := Aside0.mk (show Kd.R k48 48 w119 w0.heap.size (fun k_ => (P0_ k_ ∨ w.heap.size ≤ k_)) (.slice (some ⟨go106, 0, none⟩) t152.length co106) t152 from (kp_ HO154)); obtain ⟨ce120, hcl120, hM120, hcc120, hfr120⟩ := Kd.R_elem HX120.out z48 ((l0.length : Int) : Int) od_ (by have h_ : ((l0.length : Int) : Int) < ((t152.length : Int) : Int) := od_; first | exact h_ | (have e_ := (Kd.R_reads' HO154.out).1; omega) | simpa using h_); obtain rfl := k48_openM hM120; have HP120 := Kd.R_seg HX120.out ((l0.length : Int) : Int) od_ (by have h_ : ((l0.length : Int) : Int) < ((t152.length : Int) : Int) := od_; first | exact h_ | (have e_ := (Kd.R_reads' HO154.out).1; omega) | simpa using h_) (seg := [.int .i8 x11_70, .int .i8 (IntKind.i8.wrap (x12_70)), .int .i8 t150, .int .i8 t155]) (j := 0) hcl120 hcc120 (show 4 ≤ 4 from by decide) (x' := (⟨x11_70, IntKind.i8.wrap (x12_70), t150, t155⟩ : S48)) (k48_mkM _ _ _ (⟨x11_70, IntKind.i8.wrap (x12_70), t150, t155⟩ : S48) ) (fun _ hk => hk); have hx120_0 := hcc120 0 _ rfl; (try simp only [show (k48).sz = 4 from rfl, Nat.mul_one, Nat.add_zero, Int.toNat_natCast] at hx120_0); have hf120_0 := hfr120 0; (try simp only [show (k48).sz = 4 from rfl, Nat.mul_one, Nat.add_zero, Int.toNat_natCast] at hf120_0); have hx120_1 := hcc120 1 _ rfl; (try simp only [show (k48).sz = 4 from rfl, Nat.mul_one, Nat.add_zero, Int.toNat_natCast] at hx120_1); have hf120_1 := hfr120 1; (try simp only [show (k48).sz = 4 from rfl, Nat.mul_one, Nat.add_zero, Int.toNat_natCast] at hf120_1); have hx120_2 := hcc120 2 _ rfl; (try simp only [show (k48).sz = 4 from rfl, Nat.mul_one, Nat.add_zero, Int.toNat_natCast] at hx120_2); have hf120_2 := hfr120 2; (try simp only [show (k48).sz = 4 from rfl, Nat.mul_one, Nat.add_zero, Int.toNat_natCast] at hf120_2); have hx120_3 := hcc120 3 _ rfl; (try simp only [show (k48).sz = 4 from rfl, Nat.mul_one, Nat.add_zero, Int.toNat_natCast] at hx120_3); have hf120_3 := hfr120 3; (try simp only [show (k48).sz = 4 from rfl, Nat.mul_one, Nat.add_zero, Int.toNat_natCast] at hf120_3); clear hcl120 hcc120 hfr120; (try clear hM120)) | ((with_reducible refine gate_store (t := 48) (p := 178) rfl ?_); refine store_event (t := 48) (p := 178) (v := ?vo_w121) (w1 := ((((w119.setCell ⟨go106, l0.length * 4, none⟩ (.int .i8 x11_70)).setCell ⟨go106, l0.length * 4 + 1, none⟩ (.int .i8 (IntKind.i8.wrap (x12_70)))).setCell ⟨go106, l0.length * 4 + 2, none⟩ (.int .i8 t150)).setCell ⟨go106, l0.length * 4 + 3, none⟩ (.int .i8 t155))) ?hg ?ho ?hn ?hr ?_; (case ho => rfl); (case hg => rfl); (case hn => rfl); (case hr => first | (go_simp; done) | (go_simp; rfl)); intro w121 hw; have hg : w119.grownBy w121 (some go106) := (by rw [hw]; exact HP120.2); have hp_ : Kd.R k48 48 w121 w0.heap.size (fun k_ => (P0_ k_ ∨ w.heap.size ≤ k_)) (.slice (some ⟨go106, 0, none⟩) t152.length co106) y157 := (by rw [hw, Ny157.out]; exact HP120.1); clear HP120; have n0_ := Aside0.mk (blk_grown (g := gb132) (o := .cells #[.int .i64 a1] 2 (0, 0)) (kb_ BK132) hg (Kd.R_ne HO154.out BK132.out (by decide))); replace BKX := impl_cutter_add.bg_ BKX hg (Kd.R_ne HO154.out BKX.out (by decide)) (fun h_ => by (with_reducible repeat (first | refine blk_drewN ?_ _ | refine blk_drew ?_ | refine blk_alloc ?_ _)); exact h_); have n1_ := Aside0.mk (blk_grown (g := gb133) (o := .cells #[.int .i64 a2] 2 (0, 0)) (kb_ BK133) hg (Kd.R_ne HO154.out BK133.out (by decide))); have n2_ := Aside0.mk (blk_grown (g := gb135) (o := .cells #[.int .i64 (rd l3 (a1 * 25 + a2))] 2 (0, 0)) (kb_ BK135) hg (Kd.R_ne HO154.out BK135.out (by decide))); have n3_ := Aside0.mk (blk_grown (g := gb143) (o := .cells #[.int .i64 x144000_70, .int .i64 x144001_70] 49 (0, 0)) (kb_ BK143) hg (Kd.R_ne HO154.out BK143.out (by decide))); have n4_ := Aside0.mk (blk_grown (g := gb144) (o := .cells #[.int .i64 x145000_70, .int .i64 x145001_70] 49 (0, 0)) (kb_ BK144) hg (Kd.R_ne HO154.out BK144.out (by decide))); have n5_ := Aside0.mk (hp_); have n6_ := Aside0.mk ((by rw [hw]; exact below_set (below_set (below_set (below_set (HB.out) GB106.out) GB106.out) GB106.out) GB106.out : Below w0.heap.size w0 w121)); have n7_ := Aside0.mk (Kept.of_grown (S := (fun k_ => P0_ k_)) hg (by repeat (first | (with_reducible first | exact HK.out | apply Kept.alloc | apply Kept.drewN | apply Kept.drew | refine Kept.setCell ?_ (.inr GW132.out) _ | refine Kept.setCell ?_ (.inr GW133.out) _ | refine Kept.setCell ?_ (.inr GW135.out) _ | refine Kept.setCell ?_ (.inr GW143.out) _ | refine Kept.setCell ?_ (.inr GW144.out) _) | exact HK.out)) (fun k_ e_ => (HO154.out.1 k_ e_))); clear BK132; clear BK133; clear BK135; clear BK143; clear BK144; clear HO154; clear HB; clear HK; have BK132 := n0_; have BK133 := n1_; have BK135 := n2_; have BK143 := n3_; have BK144 := n4_; have HO154 := n5_; have HB := n6_; have HK := n7_; clear n0_ n1_ n2_ n3_ n4_ n5_ n6_ n7_; clear hg hw hp_))
   go_ret2
   exact ⟨_, by first | rfl | (simp [errW_none, errW_some] <;> rfl) | (simp [*, errW_none, errW_some] <;> rfl), by (with_reducible repeat (first | refine blk_drewN ?_ _ | refine blk_drew ?_ | refine blk_alloc ?_ _)); (first | exact BKX.out | (refine blk_far ?_ (blk_ne BKX.out BK135.out (by decide)) _; (with_reducible repeat (first | refine blk_drewN ?_ _ | refine blk_drew ?_ | refine blk_alloc ?_ _)); exact BKX.out)), by (with_reducible repeat (first | apply Kd.R_alloc | apply Kd.R_drewN | apply Kd.R_drew)); exact HO154.out, by repeat (first | (with_reducible first | exact HB.out | apply below_alloc | apply pw_below_drewN | apply below_drew1 | refine below_set ?_ GE132.out | refine below_set ?_ GE133.out | refine below_set ?_ GE135.out | refine below_set ?_ GE143.out | refine below_set ?_ GE144.out) | exact HB.out), by repeat (first | (with_reducible first | exact HK.out | apply Kept.alloc | apply Kept.drewN | apply Kept.drew | refine Kept.setCell ?_ (.inr GW132.out) _ | refine Kept.setCell ?_ (.inr GW133.out) _ | refine Kept.setCell ?_ (.inr GW135.out) _ | refine Kept.setCell ?_ (.inr GW143.out) _ | refine Kept.setCell ?_ (.inr GW144.out) _) | exact HK.out)⟩
end Go.Proofs.Ytnkihjabmbeicaa.PA
