/- Pure functions, and that Go's functions come to them. -/
import Derived.Test.YtnkihjabmbeicaaPAx0
import Derived.Test.YtnkihjabmbeicaaPAxm10
namespace Go.Proofs.Ytnkihjabmbeicaa.PA
open Go.RowKit Go.Proofs.YtnkihjabmbeicaaW.PrintWords Go.Proofs.YtnkihjabmbeicaaW.PrintLast Go.Proofs.YtnkihjabmbeicaaW.PrintMore
set_option linter.unusedVariables false
set_option linter.unusedSimpArgs false

/-! ### spec_l04Worth: function 28 -/
/-- The cells of a table of whole numbers. -/
def spec_l04Worth.cs (xs : List Int) : Array Value := (xs.map (Value.int .i64)).toArray
/-- A table of 625 numbers in block g (of type T), as a row of the call's own. -/
abbrev spec_l04Worth.Tab (T : Nat) (W : World) (base g : Nat) (xs : List Int) : Prop := Kd.R (Kd.int .i64) T W base (fun _ => True) (.slice (some ⟨g, 0, none⟩) 625 625) xs
theorem spec_l04Worth.cs_size (xs : List Int) : (spec_l04Worth.cs xs).size = xs.length := by simp [spec_l04Worth.cs]
theorem spec_l04Worth.cs_one (xs : List Int) : (spec_l04Worth.cs xs).all (·.oneCell') = true := by
 rw [Array.all_eq_true_iff_forall_mem]
 intro v hv
 simp only [spec_l04Worth.cs, List.mem_toArray, List.mem_map] at hv
 obtain ⟨x, _, rfl⟩ := hv
 rfl
theorem spec_l04Worth.cs_zero : spec_l04Worth.cs (List.replicate 625 0) = Array.replicate 625 (.int .i64 0) := by rw [spec_l04Worth.cs, List.map_replicate, List.toArray_replicate]
theorem spec_l04Worth.tab_blk {T base g : Nat} {W : World} {xs : List Int} (h : spec_l04Worth.Tab T W base g xs) : W.heap[g]? = some (.cells (spec_l04Worth.cs xs) T (0, 0)) ∧ xs.length = 625 ∧ base ≤ g := by
 have hl : 625 = xs.length := (Kd.R_reads' h).1
 obtain ⟨h1, h2⟩ := Kd.own_of_R h
 rcases h2 with ⟨hv, _⟩ | ⟨g', cap, cur, hv, hb, hg, hn, hc, hs, ht⟩
 ·
  cases hv
 ·
  injection hv with ha hn' hc'
  injection ha with ha
  injection ha with ha
  subst ha
  subst hc'
  refine ⟨?_, hl.symm, hb⟩
  have e : cur = spec_l04Worth.cs xs := by
   apply Array.ext'
   rw [← List.take_of_length_le (l := cur.toList) (i := xs.length * 1) (by simp; omega), ht]
   simp [spec_l04Worth.cs, encs]
  rw [hg, e]
theorem spec_l04Worth.tab_of {T base g : Nat} {W : World} {xs : List Int} (hg : W.heap[g]? = some (.cells (spec_l04Worth.cs xs) T (0, 0))) (hl : xs.length = 625) (hb : base ≤ g) : spec_l04Worth.Tab T W base g xs := by
 refine Kd.R_of_own ⟨by simp [encs], .inr ⟨g, 625, _, by rw [hl], hb, hg, by omega, by decide, by simp [spec_l04Worth.cs, hl], ?_⟩⟩ (fun _ _ => trivial)
 simp only [spec_l04Worth.cs, encs]
 exact List.take_of_length_le (by simp)
theorem spec_l04Worth.tab_cell {T base g : Nat} {W : World} {xs : List Int} (h : spec_l04Worth.Tab T W base g xs) (i j : Int) (i0 : 0 ≤ i) (i1 : i < 25) (j0 : 0 ≤ j) (j1 : j < 25) :
  W.cell? ⟨g, i.toNat * 25 + j.toNat, none⟩ = some (.int .i64 (rd xs (i * 25 + j))) ∧ W.frozen? ⟨g, i.toNat * 25 + j.toNat, none⟩ = false := by
 have := Kd.R_celln 0 h (i * 25 + j) (by omega) (by omega)
 rw [show (i * 25 + j).toNat = i.toNat * 25 + j.toNat by omega] at this
 exact this
theorem spec_l04Worth.tab_put {T base g : Nat} {W : World} {xs : List Int} (h : spec_l04Worth.Tab T W base g xs) (i j v : Int) (i0 : 0 ≤ i) (i1 : i < 25) (j0 : 0 ≤ j) (j1 : j < 25) :
  spec_l04Worth.Tab T (W.setCell ⟨g, i.toNat * 25 + j.toNat, none⟩ (.int .i64 v)) base g (xs.set (i * 25 + j).toNat v) := by
 have := (Kd.R_putg h (i * 25 + j) v).1
 rw [show (i * 25 + j).toNat = i.toNat * 25 + j.toNat by omega] at this ⊢
 exact this
section
variable {P : Program} {ops : Array Oper} {rest : List Oper} {o : Oper} {a : Act} {Q : Exit → Act → World → Prop} {W : World}
theorem spec_l04Worth.build_ev (hgd : o.guard = none) {N : Tmp} (_hd : o.dst = some N) (t : TypeId) (ho : o.op = .build t #[]) {Z : Array Value} (hb : P.built t [] = some Z)
  (h : wpList P ops Q rest (a.put o.dst (.agg Z)) W) : wpList P ops Q (o :: rest) a W := by
 refine Kd.event_run hgd ?_ h
 simp [execOp, ho, run_build W t #[] Z (by simpa using hb)]
theorem spec_l04Worth.alloc_ev (hgd : o.guard = none) {N : Tmp} (_hd : o.dst = some N) (t : TypeId) (ho : o.op = .alloc t) {Z : Array Value} (hz : (P.info? t).bind (·.zero) = some (.agg Z))
  (h : ∀ g, g = W.heap.size → ∀ w1, w1.heap[g]? = some (.cells Z t (0, 0)) → Below W.heap.size W w1 → wpList P ops Q rest (a.put o.dst (.pointer (some ⟨g, 0, none⟩))) w1) : wpList P ops Q (o :: rest) a W := by
 refine box_event hgd _hd (cs := Z) (t := t) ?_ h
 obtain ⟨i, hi, hz⟩ := Option.bind_eq_some_iff.1 hz
 simp [execOp, ho, Instr.alloc, zeroValue, typeInfo, hi, hz, newVar, newRow, Value.cells]
theorem spec_l04Worth.box_ev (hgd : o.guard = none) {N : Tmp} (_hd : o.dst = some N) (t : TypeId) (x : Operand) (ho : o.op = .box t x) {Z : Array Value} (hx : a.eval x = .agg Z)
  (h : ∀ g, g = W.heap.size → ∀ w1, w1.heap[g]? = some (.cells Z t (0, 0)) → Below W.heap.size W w1 → wpList P ops Q rest (a.put o.dst (.pointer (some ⟨g, 0, none⟩))) w1) : wpList P ops Q (o :: rest) a W := by
 refine box_event hgd _hd (cs := Z) (t := t) ?_ h
 simp [execOp, ho, hx, Instr.box, newVar, newRow, Value.cells]
theorem spec_l04Worth.load_ev (hgd : o.guard = none) {N : Tmp} (_hd : o.dst = some N) (t : TypeId) (x : Operand) (ho : o.op = .load t x) (g : Nat) (hx : a.eval x = .pointer (some ⟨g, 0, none⟩)) (T n e : Nat) (xs : List Int)
  (hg : W.heap[g]? = some (.cells (spec_l04Worth.cs xs) T (0, 0))) (hl : xs.length = 625) (hu : P.underlying t = some (.array n e)) (hi : (P.info? t).map (·.size) = some 625)
  (h : wpList P ops Q rest (a.put o.dst (.agg (spec_l04Worth.cs xs))) W) : wpList P ops Q (o :: rest) a W :=
 wpList_load_row hgd t x ho g hx T _ _ _ hg hu rfl (by rw [hi, spec_l04Worth.cs_size, hl]) h
theorem spec_l04Worth.store_ev (hgd : o.guard = none) (hN : o.dst = none) (t : TypeId) (p : Tmp) (x : Operand) (ho : o.op = .store t (.tmp p) x) (g T : Nat) (old : Array Value) (xs : List Int) (hp : a.eval (.tmp p) = .pointer (some ⟨g, 0, none⟩)) (hx : a.eval x = .agg (spec_l04Worth.cs xs))
  (hg : W.heap[g]? = some (.cells old T (0, 0))) (hs : old.size = 625) (hl : xs.length = 625) (hi : (P.info? t).map (·.size) = some 625) {B : Nat} {w0 : World} (HB : Below B w0 W) (hB : B ≤ g)
  (h : ∀ w1, w1.heap[g]? = some (.cells (spec_l04Worth.cs xs) T (0, 0)) → Below B w0 w1 → (∀ k, k ≠ g → w1.heap[k]? = W.heap[k]?) → wpList P ops Q rest a w1) : wpList P ops Q (o :: rest) a W := by
 refine store_event hgd ho hN (w1 := W.setRow g (spec_l04Worth.cs xs)) ?_ ?_
 ·
  simp only [execOp, ho, hp, hx, Instr.storeAt, Instr.sureAddr, Sem.run_bind, Sem.run_pure, Result.andThen_ok, run_storeVar_row W g T t old (spec_l04Worth.cs xs) hg (by rw [hi, spec_l04Worth.cs_size, hl]) (by rw [hs, spec_l04Worth.cs_size, hl]) (spec_l04Worth.cs_one xs)]
 ·
  rintro w1 rfl
  exact h _ (setRow_heap W g old _ T _ hg) (HB.trans ⟨rfl, rfl, rfl, by simp [World.setRow], fun k hk => setRow_other W g k _ (by omega)⟩) (fun k hk => setRow_other W g k _ hk)
end
mutual
def spec_l04Worth.l0 : Nat → Int → Int → List (S46) → List Int → Int → Option (List Int)
 | 0, _, _, _, _, _ => none
 | k + 1, x0, x1, x2, x7, x8 => if x8 ≤ x0 then (spec_l04Worth.l1 k x0 x1 x2 x7 x8 1) else (some x7)
def spec_l04Worth.l1 : Nat → Int → Int → List (S46) → List Int → Int → Int → Option (List Int)
 | 0, _, _, _, _, _, _ => none
 | k + 1, x0, x1, x2, x7, x8, x9 => if x9 ≤ x1 then (spec_l04Worth.l2 k x0 x1 x2 x7 x8 x9 0 0) else (spec_l04Worth.l0 k x0 x1 x2 x7 (wrap64 (x8 + 1)))
def spec_l04Worth.l2 : Nat → Int → Int → List (S46) → List Int → Int → Int → Int → Int → Option (List Int)
 | 0, _, _, _, _, _, _, _, _ => none
 | k + 1, x0, x1, x2, x7, x8, x9, x10, x11 => if x11 < (x2.length : Int) then (if 0 ≤ x11 then (if (wrap64 ((rd_T46 x2 x11).f0)) = x8 then (if (wrap64 ((rd_T46 x2 x11).f1)) = x9 then ((spec_l00Max.f x10 (wrap64 ((rd_T46 x2 x11).f2))).bind fun t133 => (spec_l04Worth.l2 k x0 x1 x2 x7 x8 x9 t133 (wrap64 (x11 + 1)))) else (spec_l04Worth.l2 k x0 x1 x2 x7 x8 x9 x10 (wrap64 (x11 + 1)))) else (spec_l04Worth.l2 k x0 x1 x2 x7 x8 x9 x10 (wrap64 (x11 + 1)))) else (none)) else (spec_l04Worth.l3 k x0 x1 x2 x7 x8 x9 x10 1)
def spec_l04Worth.l3 : Nat → Int → Int → List (S46) → List Int → Int → Int → Int → Int → Option (List Int)
 | 0, _, _, _, _, _, _, _, _ => none
 | k + 1, x0, x1, x2, x7, x8, x9, x10, x12 => if x12 < x8 then (if 0 ≤ x12 then (if x12 < 25 then (if 0 ≤ x9 then (if x9 < 25 then (if 0 ≤ (wrap64 (x8 - x12)) then (if (wrap64 (x8 - x12)) < 25 then ((spec_l00Max.f x10 (wrap64 ((rd x7 (x12 * 25 + x9)) + (rd x7 ((wrap64 (x8 - x12)) * 25 + x9))))).bind fun t136 => (spec_l04Worth.l3 k x0 x1 x2 x7 x8 x9 t136 (wrap64 (x12 + 1)))) else (none)) else (none)) else (none)) else (none)) else (none)) else (none)) else (spec_l04Worth.l4 k x0 x1 x2 x7 x8 x9 x10 1)
def spec_l04Worth.l4 : Nat → Int → Int → List (S46) → List Int → Int → Int → Int → Int → Option (List Int)
 | 0, _, _, _, _, _, _, _, _ => none
 | k + 1, x0, x1, x2, x7, x8, x9, x10, x13 => if x13 < x9 then (if 0 ≤ x8 then (if x8 < 25 then (if 0 ≤ x13 then (if x13 < 25 then (if 0 ≤ (wrap64 (x9 - x13)) then (if (wrap64 (x9 - x13)) < 25 then ((spec_l00Max.f x10 (wrap64 ((rd x7 (x8 * 25 + x13)) + (rd x7 (x8 * 25 + (wrap64 (x9 - x13))))))).bind fun t139 => (spec_l04Worth.l4 k x0 x1 x2 x7 x8 x9 t139 (wrap64 (x13 + 1)))) else (none)) else (none)) else (none)) else (none)) else (none)) else (none)) else (if 0 ≤ x8 then (if x8 < 25 then (if 0 ≤ x9 then (if x9 < 25 then (spec_l04Worth.l1 k x0 x1 x2 (x7.set ((x8 * 25 + x9) : Int).toNat x10) x8 (wrap64 (x9 + 1))) else (none)) else (none)) else (none)) else (none))
end
def spec_l04Worth.f (k : Nat) (a0 : Int) (a1 : Int) (l2 : List (S46)) : Option (List Int) := spec_l04Worth.l0 k a0 a1 l2 (List.replicate 625 0) 1
theorem spec_l04Worth.mono_l : ∀ k, (∀ y0 y1 y2 y3 y4, LeO (spec_l04Worth.l0 k y0 y1 y2 y3 y4) (spec_l04Worth.l0 (k + 1) y0 y1 y2 y3 y4)) ∧ (∀ y0 y1 y2 y3 y4 y5, LeO (spec_l04Worth.l1 k y0 y1 y2 y3 y4 y5) (spec_l04Worth.l1 (k + 1) y0 y1 y2 y3 y4 y5)) ∧ (∀ y0 y1 y2 y3 y4 y5 y6 y7, LeO (spec_l04Worth.l2 k y0 y1 y2 y3 y4 y5 y6 y7) (spec_l04Worth.l2 (k + 1) y0 y1 y2 y3 y4 y5 y6 y7)) ∧ (∀ y0 y1 y2 y3 y4 y5 y6 y7, LeO (spec_l04Worth.l3 k y0 y1 y2 y3 y4 y5 y6 y7) (spec_l04Worth.l3 (k + 1) y0 y1 y2 y3 y4 y5 y6 y7)) ∧ (∀ y0 y1 y2 y3 y4 y5 y6 y7, LeO (spec_l04Worth.l4 k y0 y1 y2 y3 y4 y5 y6 y7) (spec_l04Worth.l4 (k + 1) y0 y1 y2 y3 y4 y5 y6 y7))
 | 0 => ⟨fun _ _ _ _ _ r h => by simp [spec_l04Worth.l0] at h, fun _ _ _ _ _ _ r h => by simp [spec_l04Worth.l1] at h, fun _ _ _ _ _ _ _ _ r h => by simp [spec_l04Worth.l2] at h, fun _ _ _ _ _ _ _ _ r h => by simp [spec_l04Worth.l3] at h, fun _ _ _ _ _ _ _ _ r h => by simp [spec_l04Worth.l4] at h⟩
 | k + 1 => by
  obtain ⟨ih0, ih1, ih2, ih3, ih4⟩ := spec_l04Worth.mono_l k
  refine ⟨?_, ?_, ?_, ?_, ?_⟩ <;> intros
  all_goals first | unfold spec_l04Worth.l0 | unfold spec_l04Worth.l1 | unfold spec_l04Worth.l2 | unfold spec_l04Worth.l3 | unfold spec_l04Worth.l4
  all_goals repeat' first | (with_reducible first | exact ih0 _ _ _ _ _ | exact ih1 _ _ _ _ _ _ | exact ih2 _ _ _ _ _ _ _ _ | exact ih3 _ _ _ _ _ _ _ _ | exact ih4 _ _ _ _ _ _ _ _ | exact LeO.refl _ | exact LeO.none _ | refine LeO.ite ?_ ?_ | refine LeO.bind ?_ (fun _ => ?_))
theorem spec_l04Worth.mono : ∀ a0 a1 a2 k, LeO (spec_l04Worth.f k a0 a1 a2) (spec_l04Worth.f (k + 1) a0 a1 a2) := by
 intro a0 a1 a2 k
 obtain ⟨ih0, ih1, ih2, ih3, ih4⟩ := spec_l04Worth.mono_l k
 unfold spec_l04Worth.f
 repeat' first | (with_reducible first | exact ih0 _ _ _ _ _ | exact ih1 _ _ _ _ _ _ | exact ih2 _ _ _ _ _ _ _ _ | exact ih3 _ _ _ _ _ _ _ _ | exact ih4 _ _ _ _ _ _ _ _ | exact LeO.refl _ | exact LeO.none _ | refine LeO.ite ?_ ?_ | refine LeO.bind ?_ (fun _ => ?_))
set_option maxHeartbeats 8000000 in
set_option maxRecDepth 100000 in
theorem spec_l04Worth.calls (k : Nat) (a0 : Int) (a1 : Int) (A2 : Option Addr) (c2 : Nat) (l2 : List (S46)) (r : List Int) (w : World) (hr2 : Kd.C k46 w A2 l2.length l2) (hc2 : l2.length ≤ c2) (h : spec_l04Worth.f k a0 a1 l2 = some r) :
  Calls Try.prog 28 #[.int .i64 a0, .int .i64 a1, .slice A2 l2.length c2] w fun e w' => e = .returned (.agg (spec_l04Worth.cs r)) ∧ r.length = 625 ∧ Below w.heap.size w w' := by
 have HR2 := Aside0.mk hr2
 have HC2 := Aside0.mk hc2
 clear hr2 hc2
 have HB := Aside0.mk (Below.refl w.heap.size w)
 have H : (spec_l04Worth.l0 k a0 a1 l2 (List.replicate 625 0) 1) = some r := h
 clear h
 obtain ⟨z6, hNz⟩ : ∃ y_ : List Int, (List.replicate 625 0) = y_ := ⟨_, rfl⟩
 replace H : (spec_l04Worth.l0 k a0 a1 l2 z6 1) = some r := by rw [hNz] at H; exact H
 have H' := Aside0.mk H
 clear H
 go_enter Try.func28, Try.ntmps28
 have Nz := hNz
 have ZL : z6.length = 625 := by rw [← Nz]; simp
 have ZB := Aside0.mk (show Try.prog.built 65 [] = some (spec_l04Worth.cs z6) by rw [← Nz, spec_l04Worth.cs_zero]; kernel_rfl)
 have ZA := Aside0.mk (show (Try.prog.info? 65).bind (·.zero) = some (.agg (spec_l04Worth.cs z6)) by rw [← Nz, spec_l04Worth.cs_zero]; kernel_rfl)
 go_wp2_with (first
  | ((with_reducible refine gate_dst (N := 6) rfl ?_); refine spec_l04Worth.alloc_ev rfl rfl 65 rfl ZA.out ?_; intro g6 hg w4 hk6 hb; have HG := Aside0.mk hk6; have GE6 := Aside0.mk ((by rw [hg]; exact (below_size (kB_ HB))) : w.heap.size ≤ g6); replace HB := bs_ HB hb; clear hb hk6 hg)
  | ((with_reducible refine gate_dst (N := 14) rfl ?_); refine spec_l04Worth.build_ev rfl rfl 65 rfl ZB.out ?_)
  | ((with_reducible refine gate_dst (N := 7) rfl ?_); refine spec_l04Worth.alloc_ev rfl rfl 65 rfl ZA.out ?_; intro g7 hg w5 hk7 hb; have n0_ := bs_ HB hb; have n1_ := Aside0.mk hk7; have n2_ := Aside0.mk ((by rw [hg]; exact (below_size (kB_ HB))) : w.heap.size ≤ g7); have n3_ := Aside0.mk (blk_below (by (with_reducible repeat (first | refine blk_drewN ?_ _ | refine blk_drew ?_ | refine blk_alloc ?_ _)); exact HG.out) hb); have n4_ := Aside0.mk ((by rw [hg]; exact Nat.ne_of_lt (blk_lt (by (with_reducible repeat (first | refine blk_drewN ?_ _ | refine blk_drew ?_ | refine blk_alloc ?_ _)); exact HG.out))) : g6 ≠ g7); clear HB HG; have HB := n0_; have BK7 := n1_; have GE7 := n2_; have HG := n3_; have NE67 := n4_; clear n0_ n1_ n2_ n3_ n4_; clear hb hk7 hg)
  | ((with_reducible refine gate_store (t := 65) (p := 7) rfl ?_); refine spec_l04Worth.store_ev rfl rfl 65 7 _ rfl g7 65 _ z6 rfl rfl (kb_ BK7) (by rw [spec_l04Worth.cs_size, ZL]) ZL (by kernel_rfl) (kB_ HB) GE7.out ?_; intro w6 hk7 hb ho; have n0_ := Aside0.mk hb; have n1_ := Aside0.mk (spec_l04Worth.tab_of hk7 ZL GE7.out); have n2_ := Aside0.mk ((ho g6 NE67.out).trans (by (with_reducible repeat (first | refine blk_drewN ?_ _ | refine blk_drew ?_ | refine blk_alloc ?_ _)); exact HG.out)); clear HB HG BK7; have HB := n0_; have HO_7 := n1_; have HG := n2_; clear n0_ n1_ n2_; clear hb hk7 ho))
 go_loopg [8] k (fun kq v8 w' => ∃ (x7_1 : List Int) (x8_1 : Int), v8 = .int .i64 x8_1 ∧ Aside0 (spec_l04Worth.l0 kq a0 a1 l2 x7_1 x8_1 = some r) ∧ Aside0 (kq ≤ k) ∧ Aside0 (spec_l04Worth.Tab 65 w' w.heap.size g7 x7_1) ∧ Aside0 (w'.heap[g6]? = some (.cells (spec_l04Worth.cs z6) 65 (0, 0))) ∧ Aside0 (Below w.heap.size w w'))
 case atStart => exact ⟨(z6), (1), (by first | rfl | (simp; done) | (simp [*]; done)), H', ⟨Nat.le_refl _⟩, ⟨kp_ HO_7⟩, ⟨by (with_reducible repeat (first | refine blk_drewN ?_ _ | refine blk_drew ?_ | refine blk_alloc ?_ _)); exact HG.out⟩, ⟨bl_ HB⟩⟩
 case round =>
  clear H'
  obtain ⟨x7_1, x8_1, rfl, HA, HK1, HO_7, HG, HB⟩ := hrel
  rcases gk with _ | k1
  · exact absurd HA.out (by simp [spec_l04Worth.l0])
  have H := HA.out
  clear HA
  simp only [spec_l04Worth.l0] at H
  rcases (Decidable.em (x8_1 ≤ a0)).symm with c6 | c6
  ·
   rw [if_neg c6] at H
   have c6b0 : decide (x8_1 ≤ a0) = false := decide_eq_false c6
   clear c6
   obtain rfl := Option.some.inj H
   have EL := Aside0.mk (spec_l04Worth.tab_blk HO_7.out).2.1
   go_wp2_with (first
    | ((with_reducible refine gate_dst (N := 102) rfl ?_); refine spec_l04Worth.load_ev rfl rfl 65 _ rfl g7 rfl 65 25 63 x7_1 ((spec_l04Worth.tab_blk (kp_ HO_7)).1) EL.out Try.underlying65 (by kernel_rfl) ?_)
    | ((with_reducible refine gate_store (t := 65) (p := 6) rfl ?_); refine spec_l04Worth.store_ev rfl rfl 65 6 _ rfl g6 65 _ x7_1 rfl rfl (by (with_reducible repeat (first | refine blk_drewN ?_ _ | refine blk_drew ?_ | refine blk_alloc ?_ _)); exact HG.out) (by rw [spec_l04Worth.cs_size, ZL]) EL.out (by kernel_rfl) (kB_ HB) GE6.out ?_; intro w9 hk6 hb ho; have HE := Aside0.mk hk6; have HBE := Aside0.mk hb; clear ho hb hk6))
   (try simp only [Exit.inBlock, Exit.then])
   refine bodyPost_ret (results_cell_row rfl _ _ g6 65 _ _ _ rfl HE.out Try.underlying65 rfl (by rw [spec_l04Worth.cs_size, EL.out]; kernel_rfl)) rfl ?_
   exact ⟨rfl, EL.out, HBE.out⟩

  rw [if_pos c6] at H
  have c6b0 : decide (x8_1 ≤ a0) = true := decide_eq_true c6
  clear c6
  have H' := Aside0.mk H
  clear H
  go_wp2
  repeat (go_quiet (fail); try go_wp2)
  go_loopg [9] k1 (fun kq v9 w' => ∃ (x7_2 : List Int) (x9_2 : Int), v9 = .int .i64 x9_2 ∧ Aside0 (spec_l04Worth.l1 kq a0 a1 l2 x7_2 x8_1 x9_2 = some r) ∧ Aside0 (kq ≤ k1) ∧ Aside0 (spec_l04Worth.Tab 65 w' w.heap.size g7 x7_2) ∧ Aside0 (w'.heap[g6]? = some (.cells (spec_l04Worth.cs z6) 65 (0, 0))) ∧ Aside0 (Below w.heap.size w w'))
  case atStart => exact ⟨(x7_1), (1), (by first | rfl | (simp; done) | (simp [*]; done)), H', ⟨Nat.le_refl _⟩, ⟨kp_ HO_7⟩, ⟨by (with_reducible repeat (first | refine blk_drewN ?_ _ | refine blk_drew ?_ | refine blk_alloc ?_ _)); exact HG.out⟩, ⟨bl_ HB⟩⟩
  case round =>
   clear H'
   obtain ⟨x7_2, x9_2, rfl, HA, HK2, HO_7, HG, HB⟩ := hrel
   rcases gk with _ | k2
   · exact absurd HA.out (by simp [spec_l04Worth.l1])
   have H := HA.out
   clear HA
   simp only [spec_l04Worth.l1] at H
   rcases (Decidable.em (x9_2 ≤ a1)).symm with c7 | c7
   ·
    rw [if_neg c7] at H
    have c7b0 : decide (x9_2 ≤ a1) = false := decide_eq_false c7
    clear c7
    have H' := Aside0.mk H
    clear H
    go_wp2
    repeat (go_quiet (fail); try go_wp2)
    go_roundg k2
    case measure => have := HK1.out; have := HK2.out; omega
    case rel => exact ⟨(x7_2), (wrap64 (x8_1 + 1)), (by first | rfl | (simp; done) | (simp [*]; done)), H', ⟨by have := HK1.out; have := HK2.out; omega⟩, ⟨kp_ HO_7⟩, ⟨by (with_reducible repeat (first | refine blk_drewN ?_ _ | refine blk_drew ?_ | refine blk_alloc ?_ _)); exact HG.out⟩, ⟨bl_ HB⟩⟩
   rw [if_pos c7] at H
   have c7b0 : decide (x9_2 ≤ a1) = true := decide_eq_true c7
   clear c7
   have H' := Aside0.mk H
   clear H
   go_wp2
   repeat (go_quiet (fail); try go_wp2)
   go_loopg [10, 11] k2 (fun kq v10 v11 w' => ∃ (x10_3 : Int) (x11_3 : Int), v10 = .int .i64 x10_3 ∧ v11 = .int .i64 x11_3 ∧ Aside0 (spec_l04Worth.l2 kq a0 a1 l2 x7_2 x8_1 x9_2 x10_3 x11_3 = some r) ∧ Aside0 (kq ≤ k2) ∧ Aside0 (spec_l04Worth.Tab 65 w' w.heap.size g7 x7_2) ∧ Aside0 (w'.heap[g6]? = some (.cells (spec_l04Worth.cs z6) 65 (0, 0))) ∧ Aside0 (Below w.heap.size w w'))
   case atStart => exact ⟨(0), (0), (by first | rfl | (simp; done) | (simp [*]; done)), (by first | rfl | (simp; done) | (simp [*]; done)), H', ⟨Nat.le_refl _⟩, ⟨kp_ HO_7⟩, ⟨by (with_reducible repeat (first | refine blk_drewN ?_ _ | refine blk_drew ?_ | refine blk_alloc ?_ _)); exact HG.out⟩, ⟨bl_ HB⟩⟩
   case round =>
    clear H'
    obtain ⟨x10_3, x11_3, rfl, rfl, HA, HK3, HO_7, HG, HB⟩ := hrel
    rcases gk with _ | k3
    · exact absurd HA.out (by simp [spec_l04Worth.l2])
    have H := HA.out
    clear HA
    simp only [spec_l04Worth.l2] at H
    by_cases c8 : x11_3 < (l2.length : Int)
    ·
     rw [if_pos c8] at H
     have c8b0 : decide (x11_3 < (l2.length : Int)) = true := decide_eq_true c8
     clear c8
     obtain ⟨c9b0, H⟩ := gx_ H
     rcases (Decidable.em ((wrap64 ((rd_T46 l2 x11_3).f0)) = x8_1)).symm with c10 | c10
     ·
      rw [if_neg c10] at H
      have c10b0 : ((wrap64 ((rd_T46 l2 x11_3).f0)) == x8_1) = false := beq_eq_false_iff_ne.mpr c10
      have c10b1 : ((wrap64 ((rd_T46 l2 x11_3).f0)) != x8_1) = true := bne_iff_ne.mpr c10
      have H' := Aside0.mk H
      clear H
      have p130 : 0 ≤ (x11_3 : Int) := od_
      have q130 : x11_3 < (l2.length : Int) := od_
      obtain ⟨ad130, e130, hx130_0, hx130_1, hx130_2⟩ := at_T46 HR2.out x11_3 p130 q130
      cases e130
      replace hx130_0 := (hw_ HB hx130_0 :)
      replace hx130_1 := (hw_ HB hx130_1 :)
      replace hx130_2 := (hw_ HB hx130_2 :)
      replace p130 := eq_true p130
      replace q130 := eq_true q130
      go_wp2
      repeat (go_quiet (fail); try go_wp2)
      go_roundg k3
      case measure => have := HK1.out; have := HK2.out; have := HK3.out; omega
      case rel => exact ⟨(x10_3), (wrap64 (x11_3 + 1)), (by first | rfl | (simp; done) | (simp [*]; done)), (by first | rfl | (simp; done) | (simp [*]; done)), H', ⟨by have := HK1.out; have := HK2.out; have := HK3.out; omega⟩, ⟨kp_ HO_7⟩, ⟨by (with_reducible repeat (first | refine blk_drewN ?_ _ | refine blk_drew ?_ | refine blk_alloc ?_ _)); exact HG.out⟩, ⟨bl_ HB⟩⟩
     rw [if_pos c10] at H
     have c10b0 : ((wrap64 ((rd_T46 l2 x11_3).f0)) == x8_1) = true := beq_iff_eq.mpr c10
     have c10b1 : ((wrap64 ((rd_T46 l2 x11_3).f0)) != x8_1) = false := bne_eq_false_iff_eq.mpr c10
     clear c10
     rcases (Decidable.em ((wrap64 ((rd_T46 l2 x11_3).f1)) = x9_2)).symm with c11 | c11
     ·
      rw [if_neg c11] at H
      have c11b0 : ((wrap64 ((rd_T46 l2 x11_3).f1)) == x9_2) = false := beq_eq_false_iff_ne.mpr c11
      have c11b1 : ((wrap64 ((rd_T46 l2 x11_3).f1)) != x9_2) = true := bne_iff_ne.mpr c11
      have H' := Aside0.mk H
      clear H
      have p130 : 0 ≤ (x11_3 : Int) := od_
      have q130 : x11_3 < (l2.length : Int) := od_
      obtain ⟨ad130, e130, hx130_0, hx130_1, hx130_2⟩ := at_T46 HR2.out x11_3 p130 q130
      cases e130
      replace hx130_0 := (hw_ HB hx130_0 :)
      replace hx130_1 := (hw_ HB hx130_1 :)
      replace hx130_2 := (hw_ HB hx130_2 :)
      replace p130 := eq_true p130
      replace q130 := eq_true q130
      have p131 : 0 ≤ (x11_3 : Int) := od_
      have q131 : x11_3 < (l2.length : Int) := od_
      obtain ⟨ad131, e131, hx131_0, hx131_1, hx131_2⟩ := at_T46 HR2.out x11_3 p131 q131
      obtain rfl : ad130 = ad131 := (by injection e131)
      replace hx131_0 := (hw_ HB hx131_0 :)
      replace hx131_1 := (hw_ HB hx131_1 :)
      replace hx131_2 := (hw_ HB hx131_2 :)
      replace p131 := eq_true p131
      replace q131 := eq_true q131
      go_wp2
      repeat (go_quiet (fail); try go_wp2)
      go_roundg k3
      case measure => have := HK1.out; have := HK2.out; have := HK3.out; omega
      case rel => exact ⟨(x10_3), (wrap64 (x11_3 + 1)), (by first | rfl | (simp; done) | (simp [*]; done)), (by first | rfl | (simp; done) | (simp [*]; done)), H', ⟨by have := HK1.out; have := HK2.out; have := HK3.out; omega⟩, ⟨kp_ HO_7⟩, ⟨by (with_reducible repeat (first | refine blk_drewN ?_ _ | refine blk_drew ?_ | refine blk_alloc ?_ _)); exact HG.out⟩, ⟨bl_ HB⟩⟩
     rw [if_pos c11] at H
     have c11b0 : ((wrap64 ((rd_T46 l2 x11_3).f1)) == x9_2) = true := beq_iff_eq.mpr c11
     have c11b1 : ((wrap64 ((rd_T46 l2 x11_3).f1)) != x9_2) = false := bne_eq_false_iff_eq.mpr c11
     clear c11
     obtain ⟨t133, A12, H⟩ := be_ H
     (try dsimp only at H)
     have H' := Aside0.mk H
     clear H
     have p130 : 0 ≤ (x11_3 : Int) := od_
     have q130 : x11_3 < (l2.length : Int) := od_
     obtain ⟨ad130, e130, hx130_0, hx130_1, hx130_2⟩ := at_T46 HR2.out x11_3 p130 q130
     cases e130
     replace hx130_0 := (hw_ HB hx130_0 :)
     replace hx130_1 := (hw_ HB hx130_1 :)
     replace hx130_2 := (hw_ HB hx130_2 :)
     replace p130 := eq_true p130
     replace q130 := eq_true q130
     have p131 : 0 ≤ (x11_3 : Int) := od_
     have q131 : x11_3 < (l2.length : Int) := od_
     obtain ⟨ad131, e131, hx131_0, hx131_1, hx131_2⟩ := at_T46 HR2.out x11_3 p131 q131
     obtain rfl : ad130 = ad131 := (by injection e131)
     replace hx131_0 := (hw_ HB hx131_0 :)
     replace hx131_1 := (hw_ HB hx131_1 :)
     replace hx131_2 := (hw_ HB hx131_2 :)
     replace p131 := eq_true p131
     replace q131 := eq_true q131
     have p132 : 0 ≤ (x11_3 : Int) := od_
     have q132 : x11_3 < (l2.length : Int) := od_
     obtain ⟨ad132, e132, hx132_0, hx132_1, hx132_2⟩ := at_T46 HR2.out x11_3 p132 q132
     obtain rfl : ad130 = ad132 := (by injection e132)
     replace hx132_0 := (hw_ HB hx132_0 :)
     replace hx132_1 := (hw_ HB hx132_1 :)
     replace hx132_2 := (hw_ HB hx132_2 :)
     replace p132 := eq_true p132
     replace q132 := eq_true q132
     go_wp2_with (first | (go_at_call 44; (with_reducible refine (spec_l00Max.calls x10_3 (wrap64 ((rd_T46 l2 x11_3).f2)) t133 _ A12.out).mono ?_); rintro e w' ⟨rfl, ⟨nd, rfl⟩⟩; (try first | exact ⟨rfl, _, World.drewN_drewN _ _ _⟩ | exact ⟨rfl, _, Eq.trans (World.drewN_drewN _ _ _) (congrArg (World.drewN _) (Nat.add_assoc _ _ _))⟩)))
     repeat (go_quiet (first | (go_at_call 44; (with_reducible refine (spec_l00Max.calls x10_3 (wrap64 ((rd_T46 l2 x11_3).f2)) t133 _ A12.out).mono ?_); rintro e w' ⟨rfl, ⟨nd, rfl⟩⟩; (try first | exact ⟨rfl, _, World.drewN_drewN _ _ _⟩ | exact ⟨rfl, _, Eq.trans (World.drewN_drewN _ _ _) (congrArg (World.drewN _) (Nat.add_assoc _ _ _))⟩))); try go_wp2_with (first | (go_at_call 44; (with_reducible refine (spec_l00Max.calls x10_3 (wrap64 ((rd_T46 l2 x11_3).f2)) t133 _ A12.out).mono ?_); rintro e w' ⟨rfl, ⟨nd, rfl⟩⟩; (try first | exact ⟨rfl, _, World.drewN_drewN _ _ _⟩ | exact ⟨rfl, _, Eq.trans (World.drewN_drewN _ _ _) (congrArg (World.drewN _) (Nat.add_assoc _ _ _))⟩))))
     go_roundg k3
     case measure => have := HK1.out; have := HK2.out; have := HK3.out; omega
     case rel => exact ⟨(t133), (wrap64 (x11_3 + 1)), (by first | rfl | (simp; done) | (simp [*]; done)), (by first | rfl | (simp; done) | (simp [*]; done)), H', ⟨by have := HK1.out; have := HK2.out; have := HK3.out; omega⟩, ⟨kp_ HO_7⟩, ⟨by (with_reducible repeat (first | refine blk_drewN ?_ _ | refine blk_drew ?_ | refine blk_alloc ?_ _)); exact HG.out⟩, ⟨bl_ HB⟩⟩
    rw [if_neg c8] at H
    have c8b0 : decide (x11_3 < (l2.length : Int)) = false := decide_eq_false c8
    clear c8
    have H' := Aside0.mk H
    clear H
    go_wp2
    repeat (go_quiet (fail); try go_wp2)
    go_loopg [10, 12] k3 (fun kq v10 v12 w' => ∃ (x10_4 : Int) (x12_4 : Int), v10 = .int .i64 x10_4 ∧ v12 = .int .i64 x12_4 ∧ Aside0 (spec_l04Worth.l3 kq a0 a1 l2 x7_2 x8_1 x9_2 x10_4 x12_4 = some r) ∧ Aside0 (kq ≤ k3) ∧ Aside0 (spec_l04Worth.Tab 65 w' w.heap.size g7 x7_2) ∧ Aside0 (w'.heap[g6]? = some (.cells (spec_l04Worth.cs z6) 65 (0, 0))) ∧ Aside0 (Below w.heap.size w w'))
    case atStart => exact ⟨(x10_3), (1), (by first | rfl | (simp; done) | (simp [*]; done)), (by first | rfl | (simp; done) | (simp [*]; done)), H', ⟨Nat.le_refl _⟩, ⟨kp_ HO_7⟩, ⟨by (with_reducible repeat (first | refine blk_drewN ?_ _ | refine blk_drew ?_ | refine blk_alloc ?_ _)); exact HG.out⟩, ⟨bl_ HB⟩⟩
    case round =>
     clear H'
     obtain ⟨x10_4, x12_4, rfl, rfl, HA, HK4, HO_7, HG, HB⟩ := hrel
     rcases gk with _ | k4
     · exact absurd HA.out (by simp [spec_l04Worth.l3])
     have H := HA.out
     clear HA
     simp only [spec_l04Worth.l3] at H
     by_cases c13 : x12_4 < x8_1
     ·
      rw [if_pos c13] at H
      have c13b0 : decide (x12_4 < x8_1) = true := decide_eq_true c13
      clear c13
      obtain ⟨c14b0, H⟩ := gx_ H
      obtain ⟨c15b0, H⟩ := gx_ H
      obtain ⟨c16b0, H⟩ := gx_ H
      obtain ⟨c17b0, H⟩ := gx_ H
      obtain ⟨ji18, hji18⟩ : ∃ j_ : Int, (wrap64 (x8_1 - x12_4)) = j_ := ⟨_, rfl⟩
      replace H : (if 0 ≤ (ji18) then (if (ji18) < 25 then ((spec_l00Max.f x10_4 (wrap64 ((rd x7_2 (x12_4 * 25 + x9_2)) + (rd x7_2 ((ji18) * 25 + x9_2))))).bind fun t136 => (spec_l04Worth.l3 k4 a0 a1 l2 x7_2 x8_1 x9_2 t136 (wrap64 (x12_4 + 1)))) else (none)) else (none)) = some r := by first | (rw [hji18] at H; exact H) | (simp only [hji18] at H ⊢; exact H)
      have hji18w : (IntKind.i64.wrap (x8_1 - x12_4)) = ji18 := (i64_w _).trans hji18
      obtain ⟨c19b0, H⟩ := gx_ H
      obtain ⟨c20b0, H⟩ := gx_ H
      obtain ⟨t136, A21, H⟩ := be_ H
      (try dsimp only at H)
      have H' := Aside0.mk H
      clear H
      have pi134 : 0 ≤ x12_4 := od_
      have qi134 : x12_4 < 25 := od_
      have pj134 : 0 ≤ x9_2 := od_
      have qj134 : x9_2 < 25 := od_
      have hx134_0 := (spec_l04Worth.tab_cell HO_7.out (x12_4) (x9_2) pi134 qi134 pj134 qj134).1
      replace pi134 := eq_true pi134
      replace qi134 := eq_true qi134
      replace pj134 := eq_true pj134
      replace qj134 := eq_true qj134
      have pi135 : 0 ≤ (ji18) := od_
      have qi135 : (ji18) < 25 := od_
      have pj135 : 0 ≤ x9_2 := od_
      have qj135 : x9_2 < 25 := od_
      have hx135_0 := (spec_l04Worth.tab_cell HO_7.out ((ji18)) (x9_2) pi135 qi135 pj135 qj135).1
      replace pi135 := eq_true pi135
      replace qi135 := eq_true qi135
      replace pj135 := eq_true pj135
      replace qj135 := eq_true qj135
      go_wp2_with (first | (go_at_call 44; (with_reducible refine (spec_l00Max.calls x10_4 (wrap64 ((rd x7_2 (x12_4 * 25 + x9_2)) + (rd x7_2 ((ji18) * 25 + x9_2)))) t136 _ A21.out).mono ?_); rintro e w' ⟨rfl, ⟨nd, rfl⟩⟩; (try first | exact ⟨rfl, _, World.drewN_drewN _ _ _⟩ | exact ⟨rfl, _, Eq.trans (World.drewN_drewN _ _ _) (congrArg (World.drewN _) (Nat.add_assoc _ _ _))⟩)))
      repeat (go_quiet (first | (go_at_call 44; (with_reducible refine (spec_l00Max.calls x10_4 (wrap64 ((rd x7_2 (x12_4 * 25 + x9_2)) + (rd x7_2 ((ji18) * 25 + x9_2)))) t136 _ A21.out).mono ?_); rintro e w' ⟨rfl, ⟨nd, rfl⟩⟩; (try first | exact ⟨rfl, _, World.drewN_drewN _ _ _⟩ | exact ⟨rfl, _, Eq.trans (World.drewN_drewN _ _ _) (congrArg (World.drewN _) (Nat.add_assoc _ _ _))⟩))); try go_wp2_with (first | (go_at_call 44; (with_reducible refine (spec_l00Max.calls x10_4 (wrap64 ((rd x7_2 (x12_4 * 25 + x9_2)) + (rd x7_2 ((ji18) * 25 + x9_2)))) t136 _ A21.out).mono ?_); rintro e w' ⟨rfl, ⟨nd, rfl⟩⟩; (try first | exact ⟨rfl, _, World.drewN_drewN _ _ _⟩ | exact ⟨rfl, _, Eq.trans (World.drewN_drewN _ _ _) (congrArg (World.drewN _) (Nat.add_assoc _ _ _))⟩))))
      go_roundg k4
      case measure => have := HK1.out; have := HK2.out; have := HK3.out; have := HK4.out; omega
      case rel => exact ⟨(t136), (wrap64 (x12_4 + 1)), (by first | rfl | (simp; done) | (simp [*]; done)), (by first | rfl | (simp; done) | (simp [*]; done)), H', ⟨by have := HK1.out; have := HK2.out; have := HK3.out; have := HK4.out; omega⟩, ⟨kp_ HO_7⟩, ⟨by (with_reducible repeat (first | refine blk_drewN ?_ _ | refine blk_drew ?_ | refine blk_alloc ?_ _)); exact HG.out⟩, ⟨bl_ HB⟩⟩
     rw [if_neg c13] at H
     have c13b0 : decide (x12_4 < x8_1) = false := decide_eq_false c13
     clear c13
     have H' := Aside0.mk H
     clear H
     go_wp2
     repeat (go_quiet (fail); try go_wp2)
     go_loopg [10, 13] k4 (fun kq v10 v13 w' => ∃ (x10_5 : Int) (x13_5 : Int), v10 = .int .i64 x10_5 ∧ v13 = .int .i64 x13_5 ∧ Aside0 (spec_l04Worth.l4 kq a0 a1 l2 x7_2 x8_1 x9_2 x10_5 x13_5 = some r) ∧ Aside0 (kq ≤ k4) ∧ Aside0 (spec_l04Worth.Tab 65 w' w.heap.size g7 x7_2) ∧ Aside0 (w'.heap[g6]? = some (.cells (spec_l04Worth.cs z6) 65 (0, 0))) ∧ Aside0 (Below w.heap.size w w'))
     case atStart => exact ⟨(x10_4), (1), (by first | rfl | (simp; done) | (simp [*]; done)), (by first | rfl | (simp; done) | (simp [*]; done)), H', ⟨Nat.le_refl _⟩, ⟨kp_ HO_7⟩, ⟨by (with_reducible repeat (first | refine blk_drewN ?_ _ | refine blk_drew ?_ | refine blk_alloc ?_ _)); exact HG.out⟩, ⟨bl_ HB⟩⟩
     case round =>
      clear H'
      obtain ⟨x10_5, x13_5, rfl, rfl, HA, HK5, HO_7, HG, HB⟩ := hrel
      rcases gk with _ | k5
      · exact absurd HA.out (by simp [spec_l04Worth.l4])
      have H := HA.out
      clear HA
      simp only [spec_l04Worth.l4] at H
      rcases (Decidable.em (x13_5 < x9_2)).symm with c23 | c23
      ·
       rw [if_neg c23] at H
       have c23b0 : decide (x13_5 < x9_2) = false := decide_eq_false c23
       clear c23
       obtain ⟨c33b0, H⟩ := gx_ H
       obtain ⟨c34b0, H⟩ := gx_ H
       obtain ⟨c35b0, H⟩ := gx_ H
       obtain ⟨c36b0, H⟩ := gx_ H
       obtain ⟨y140, hy140⟩ : ∃ y_ : List Int, y_ = (x7_2.set ((x8_1 * 25 + x9_2) : Int).toNat x10_5) := ⟨_, rfl⟩
       replace H : (spec_l04Worth.l1 k5 a0 a1 l2 y140 x8_1 (wrap64 (x9_2 + 1))) = some r := by first | (rw [hy140]; with_reducible exact H) | (have H2_ := (Option.bind_some _ _).symm.trans H; rw [hy140]; with_reducible exact H2_) | (have H2_ := (Option.bind_some _ _).symm.trans H; with_reducible exact H2_) | with_reducible exact H | (rw [hy140]; exact H) | exact H
       have Ny140 := Aside0.mk hy140
       clear hy140
       have H' := Aside0.mk H
       clear H
       have pi37 : 0 ≤ x8_1 := od_
       have qi37 : x8_1 < 25 := od_
       have pj37 : 0 ≤ x9_2 := od_
       have qj37 : x9_2 < 25 := od_
       obtain ⟨hx37_0, hf37_0⟩ := spec_l04Worth.tab_cell HO_7.out (x8_1) (x9_2) pi37 qi37 pj37 qj37
       have HP37 := spec_l04Worth.tab_put HO_7.out (x8_1) (x9_2) (x10_5) pi37 qi37 pj37 qj37
       replace pi37 := eq_true pi37
       replace qi37 := eq_true qi37
       replace pj37 := eq_true pj37
       replace qj37 := eq_true qj37
       go_wp2_with (first | ((with_reducible refine gate_store (t := 2) (p := 101) rfl ?_); refine store_event (t := 2) (p := 101) (v := ?vo_w39) (w1 := (wr.setCell ⟨g7, x8_1.toNat * 25 + x9_2.toNat, none⟩ (.int .i64 x10_5))) ?hg ?ho ?hn ?hr ?_; (case ho => rfl); (case hg => rfl); (case hn => rfl); (case hr => first | (go_simp; done) | (go_simp; rfl)); intro w39 hw; have n0_ := Aside0.mk ((by rw [hw, Ny140.out]; exact HP37 : spec_l04Worth.Tab 65 w39 w.heap.size g7 y140)); have n1_ := Aside0.mk ((by rw [hw]; exact below_set (HB.out) GE7.out : Below w.heap.size w w39)); have n2_ := Aside0.mk ((by rw [hw]; exact blk_far HG.out NE67.out _ : w39.heap[g6]? = some (.cells (spec_l04Worth.cs z6) 65 (0, 0)))); clear HP37 HO_7 HB HG; have HO_7 := n0_; have HB := n1_; have HG := n2_; clear n0_ n1_; clear n2_; clear hw))
       repeat (go_quiet (fail); try go_wp2)
       go_roundg k5
       case measure => have := HK1.out; have := HK2.out; have := HK3.out; have := HK4.out; have := HK5.out; omega
       case rel => exact ⟨(y140), (wrap64 (x9_2 + 1)), (by first | rfl | (simp; done) | (simp [*]; done)), H', ⟨by have := HK1.out; have := HK2.out; have := HK3.out; have := HK4.out; have := HK5.out; omega⟩, ⟨kp_ HO_7⟩, ⟨by (with_reducible repeat (first | refine blk_drewN ?_ _ | refine blk_drew ?_ | refine blk_alloc ?_ _)); exact HG.out⟩, ⟨bl_ HB⟩⟩
      rw [if_pos c23] at H
      have c23b0 : decide (x13_5 < x9_2) = true := decide_eq_true c23
      clear c23
      obtain ⟨c24b0, H⟩ := gx_ H
      obtain ⟨c25b0, H⟩ := gx_ H
      obtain ⟨c26b0, H⟩ := gx_ H
      obtain ⟨c27b0, H⟩ := gx_ H
      obtain ⟨ji28, hji28⟩ : ∃ j_ : Int, (wrap64 (x9_2 - x13_5)) = j_ := ⟨_, rfl⟩
      replace H : (if 0 ≤ (ji28) then (if (ji28) < 25 then ((spec_l00Max.f x10_5 (wrap64 ((rd x7_2 (x8_1 * 25 + x13_5)) + (rd x7_2 (x8_1 * 25 + (ji28)))))).bind fun t139 => (spec_l04Worth.l4 k5 a0 a1 l2 x7_2 x8_1 x9_2 t139 (wrap64 (x13_5 + 1)))) else (none)) else (none)) = some r := by first | (rw [hji28] at H; exact H) | (simp only [hji28] at H ⊢; exact H)
      have hji28w : (IntKind.i64.wrap (x9_2 - x13_5)) = ji28 := (i64_w _).trans hji28
      obtain ⟨c29b0, H⟩ := gx_ H
      obtain ⟨c30b0, H⟩ := gx_ H
      obtain ⟨t139, A31, H⟩ := be_ H
      (try dsimp only at H)
      have H' := Aside0.mk H
      clear H
      have pi137 : 0 ≤ x8_1 := od_
      have qi137 : x8_1 < 25 := od_
      have pj137 : 0 ≤ x13_5 := od_
      have qj137 : x13_5 < 25 := od_
      have hx137_0 := (spec_l04Worth.tab_cell HO_7.out (x8_1) (x13_5) pi137 qi137 pj137 qj137).1
      replace pi137 := eq_true pi137
      replace qi137 := eq_true qi137
      replace pj137 := eq_true pj137
      replace qj137 := eq_true qj137
      have pi138 : 0 ≤ x8_1 := od_
      have qi138 : x8_1 < 25 := od_
      have pj138 : 0 ≤ (ji28) := od_
      have qj138 : (ji28) < 25 := od_
      have hx138_0 := (spec_l04Worth.tab_cell HO_7.out (x8_1) ((ji28)) pi138 qi138 pj138 qj138).1
      replace pi138 := eq_true pi138
      replace qi138 := eq_true qi138
      replace pj138 := eq_true pj138
      replace qj138 := eq_true qj138
      go_wp2_with (first | (go_at_call 44; (with_reducible refine (spec_l00Max.calls x10_5 (wrap64 ((rd x7_2 (x8_1 * 25 + x13_5)) + (rd x7_2 (x8_1 * 25 + (ji28))))) t139 _ A31.out).mono ?_); rintro e w' ⟨rfl, ⟨nd, rfl⟩⟩; (try first | exact ⟨rfl, _, World.drewN_drewN _ _ _⟩ | exact ⟨rfl, _, Eq.trans (World.drewN_drewN _ _ _) (congrArg (World.drewN _) (Nat.add_assoc _ _ _))⟩)))
      repeat (go_quiet (first | (go_at_call 44; (with_reducible refine (spec_l00Max.calls x10_5 (wrap64 ((rd x7_2 (x8_1 * 25 + x13_5)) + (rd x7_2 (x8_1 * 25 + (ji28))))) t139 _ A31.out).mono ?_); rintro e w' ⟨rfl, ⟨nd, rfl⟩⟩; (try first | exact ⟨rfl, _, World.drewN_drewN _ _ _⟩ | exact ⟨rfl, _, Eq.trans (World.drewN_drewN _ _ _) (congrArg (World.drewN _) (Nat.add_assoc _ _ _))⟩))); try go_wp2_with (first | (go_at_call 44; (with_reducible refine (spec_l00Max.calls x10_5 (wrap64 ((rd x7_2 (x8_1 * 25 + x13_5)) + (rd x7_2 (x8_1 * 25 + (ji28))))) t139 _ A31.out).mono ?_); rintro e w' ⟨rfl, ⟨nd, rfl⟩⟩; (try first | exact ⟨rfl, _, World.drewN_drewN _ _ _⟩ | exact ⟨rfl, _, Eq.trans (World.drewN_drewN _ _ _) (congrArg (World.drewN _) (Nat.add_assoc _ _ _))⟩))))
      go_roundg k5
      case measure => have := HK1.out; have := HK2.out; have := HK3.out; have := HK4.out; have := HK5.out; omega
      case rel => exact ⟨(t139), (wrap64 (x13_5 + 1)), (by first | rfl | (simp; done) | (simp [*]; done)), (by first | rfl | (simp; done) | (simp [*]; done)), H', ⟨by have := HK1.out; have := HK2.out; have := HK3.out; have := HK4.out; have := HK5.out; omega⟩, ⟨kp_ HO_7⟩, ⟨by (with_reducible repeat (first | refine blk_drewN ?_ _ | refine blk_drew ?_ | refine blk_alloc ?_ _)); exact HG.out⟩, ⟨bl_ HB⟩⟩
end Go.Proofs.Ytnkihjabmbeicaa.PA
