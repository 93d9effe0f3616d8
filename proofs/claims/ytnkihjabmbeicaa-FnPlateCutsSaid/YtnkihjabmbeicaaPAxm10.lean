/- Pure functions, and that Go's functions come to them. -/
import Derived.Test.YtnkihjabmbeicaaPAx0
import Derived.Test.YtnkihjabmbeicaaPAxf38
import Derived.Test.YtnkihjabmbeicaaPAxf33
namespace Go.Proofs.Ytnkihjabmbeicaa.PA
open Go.RowKit Go.Proofs.YtnkihjabmbeicaaW.PrintWords Go.Proofs.YtnkihjabmbeicaaW.PrintLast Go.Proofs.YtnkihjabmbeicaaW.PrintMore
set_option linter.unusedVariables false
set_option linter.unusedSimpArgs false

theorem eqA49 (d : Nat) (w : World) (x0 y0 : Int) (x1 y1 : Int) :
  (Op.equalIn (d + 2) 49 (.agg #[.int .i64 x0, .int .i64 x1]) (.agg #[.int .i64 y0, .int .i64 y1])).run Try.prog w = .ok (x0 == y0 && (x1 == y1)) w := by
 rw [run_equalIn_array w (d + 1) _ _ Try.underlying49 (i := (Try.prog.info? 2).getD default) (by kernel_rfl)]
 rw [show Try.prog.cellsOf 2 = 1 from by kernel_rfl, show List.range 2 = [0, 1] from rfl]
 have p : ∀ (x0 x1 : Int), (part 2 #[Value.int .i64 x0, Value.int .i64 x1] (0 * 1)).run Try.prog w = .ok (Value.int .i64 x0) w := fun x0 x1 => by go_simp
 have q : ∀ (x0 x1 : Int), (part 2 #[Value.int .i64 x0, Value.int .i64 x1] (1 * 1)).run Try.prog w = .ok (Value.int .i64 x1) w := fun x0 x1 => by go_simp
 have e : ∀ (x y : Int), (Op.equalIn (d + 1) 2 (.int .i64 x) (.int .i64 y)).run Try.prog w = .ok (x == y) w := fun x y => by go_simp
 simp only [Op.eqItems, Sem.run_bind, p, q, e, Result.andThen_ok]
 cases x0 == y0
 ·
  simp
 ·
  simp only [Bool.not_true, Bool.false_eq_true, if_false, Sem.run_bind, p, q, e, Result.andThen_ok]
  cases x1 == y1 <;> simp


/-! ### spec_l00Max: function 44 -/
def spec_l00Max.f (a0 : Int) (a1 : Int) : Option (Int) := if a0 > a1 then (some a0) else (some a1)
set_option maxHeartbeats 8000000 in
set_option maxRecDepth 100000 in
theorem spec_l00Max.calls (a0 : Int) (a1 : Int) (r : Int) (w : World) (h : spec_l00Max.f a0 a1 = some r) :
  Calls Try.prog 44 #[.int .i64 a0, .int .i64 a1] w fun e w' => e = .returned (.int .i64 r) ∧ Drawn0 w w' := by
 have H : (if a0 > a1 then (some a0) else (some a1)) = some r := h
 clear h
 by_cases c3 : a0 > a1
 ·
  rw [if_pos c3] at H
  have c3b0 : decide (a1 < a0) = true := decide_eq_true c3
  clear c3
  obtain rfl := Option.some.inj H
  go_enter Try.func44, Try.ntmps44
  go_wp2
  go_ret
  exact ⟨by first | rfl | (simp; done) | (simp [*]; done), by repeat (first | exact Drawn0.refl _ | apply Drawn0.step)⟩
 rw [if_neg c3] at H
 have c3b0 : decide (a1 < a0) = false := decide_eq_false c3
 clear c3
 obtain rfl := Option.some.inj H
 go_enter Try.func44, Try.ntmps44
 go_wp2
 go_ret
 exact ⟨by first | rfl | (simp; done) | (simp [*]; done), by repeat (first | exact Drawn0.refl _ | apply Drawn0.step)⟩


/-! ### impl_CutLength: function 18 -/
def impl_CutLength.f (k : Nat) (a0 : Int) (a1 : Int) (l2 : List (S46)) (l3 : List (S48)) : Option (Int × Int) := (impl_CutLength_1_sum.f k a0 a1 l2 l3).bind fun bt283 => (some (bt283.1, bt283.2))
theorem impl_CutLength.mono : ∀ a0 a1 a2 a3 k, LeO (impl_CutLength.f k a0 a1 a2 a3) (impl_CutLength.f (k + 1) a0 a1 a2 a3) := by
 intro a0 a1 a2 a3 k
 unfold impl_CutLength.f
 repeat' first | (with_reducible first | exact impl_CutLength_1_sum.mono _ _ _ _ _ | exact LeO.refl _ | exact LeO.none _ | refine LeO.ite ?_ ?_ | refine LeO.bind ?_ (fun _ => ?_))
set_option maxHeartbeats 8000000 in
set_option maxRecDepth 100000 in
theorem impl_CutLength.calls (k : Nat) (a0 : Int) (a1 : Int) (A2 : Option Addr) (c2 : Nat) (l2 : List (S46)) (A3 : Option Addr) (c3 : Nat) (l3 : List (S48)) (r1 : Int) (r2 : Int) (w : World) (hr2 : Kd.C k46 w A2 l2.length l2) (hc2 : l2.length ≤ c2) (hr3 : Kd.C k48 w A3 l3.length l3) (hc3 : l3.length ≤ c3) (h : impl_CutLength.f k a0 a1 l2 l3 = some (r1, r2)) :
  Calls Try.prog 18 #[.int .i64 a0, .int .i64 a1, .slice A2 l2.length c2, .slice A3 l3.length c3] w fun e w' => e = .returned (.tuple #[.int .i64 r1, .int .i64 r2]) ∧ Below w.heap.size w w' := by
 have HR2 := Aside0.mk hr2
 have HC2 := Aside0.mk hc2
 clear hr2 hc2
 have HR3 := Aside0.mk hr3
 have HC3 := Aside0.mk hc3
 clear hr3 hc3
 have HB := Aside0.mk (Below.refl w.heap.size w)
 have H : ((impl_CutLength_1_sum.f k a0 a1 l2 l3).bind fun bt283 => (some (bt283.1, bt283.2))) = some (r1, r2) := h
 clear h
 obtain ⟨⟨t283, t284⟩, A5, H⟩ := be_ H
 (try dsimp only at H)
 simp only [Option.some.injEq, Prod.mk.injEq] at H
 obtain ⟨rfl, rfl⟩ := H
 go_enter Try.func18, Try.ntmps18
 go_wp2_with (first | ((with_reducible refine gate_callee (f := 33) rfl ?_); refine goM_ (some 14) Try.func33 #[.int .i64 a0, .int .i64 a1, .slice A2 l2.length c2, .slice A3 l3.length c3, .func (.func 38) #[] #[]] ?_; (with_reducible refine (impl_CutLength_1_sum.calls k a0 a1 _ _ l2 _ _ l3  t283 t284 _ ?side1 ?side2 ?side3 ?side4 A5.out).mono ?_); (case side1 => exact kc_ HR2.out); (case side2 => exact HC2.out); (case side3 => exact kc_ HR3.out); (case side4 => exact HC3.out); rintro e w6 ⟨rfl, hb⟩; refine ⟨_, rfl, ?_⟩; replace HB := bs_ HB hb; clear hb))
 go_ret2
 exact ⟨rt_, bl_ HB⟩


/-! ### impl_WasteIn_1: function 35 -/
def impl_WasteIn_1.f (a0_0 : Int) (a0_1 : Int) (a0_2 : Int) (a0_3 : Int) (a1_0 : Int) (a1_1 : Int) : Option (Int) := if a0_0 = 0 then (some (wrap64 (a1_0 * a1_1))) else (some 0)
set_option maxHeartbeats 8000000 in
set_option maxRecDepth 100000 in
theorem impl_WasteIn_1.calls (a0_0 : Int) (a0_1 : Int) (a0_2 : Int) (a0_3 : Int) (a1_0 : Int) (a1_1 : Int) (r : Int) (w : World) (h : impl_WasteIn_1.f a0_0 a0_1 a0_2 a0_3 a1_0 a1_1 = some r) :
  Calls Try.prog 35 #[.agg #[.int .i8 a0_0, .int .i8 a0_1, .int .i8 a0_2, .int .i8 a0_3], .agg #[.int .i64 a1_0, .int .i64 a1_1]] w fun e w' => e = .returned (.int .i64 r) ∧ Below w.heap.size w w' := by
 have hu48 := Try.underlying48
 have hu49 := Try.underlying49
 have HB := Aside0.mk (Below.refl w.heap.size w)
 have H : (if a0_0 = 0 then (some (wrap64 (a1_0 * a1_1))) else (some 0)) = some r := h
 clear h
 by_cases c3 : a0_0 = 0
 ·
  rw [if_pos c3] at H
  have c3b0 : (a0_0 == 0) = true := beq_iff_eq.mpr c3
  have c3b1 : (a0_0 != 0) = false := bne_eq_false_iff_eq.mpr c3
  clear c3
  obtain rfl := Option.some.inj H
  go_enter Try.func35, Try.ntmps35
  go_wp2_with (first | ((with_reducible refine gate_dst (N := 2) rfl ?_); refine boxM_ 2 #[.int .i8 a0_0, .int .i8 a0_1, .int .i8 a0_2, .int .i8 a0_3] 48 ?_; intro gb208 hg w4 hbox hb; have BK208 := Aside0.mk (hbox); have GW208 := ge_ HB hg; have GE208 := ge_ HB hg; replace HB := bs_ HB hb; clear hb hbox hg) | ((with_reducible refine gate_dst (N := 3) rfl ?_); refine boxM_ 3 #[.int .i64 a1_0, .int .i64 a1_1] 49 ?_; intro gb209 hg w5 hbox hb; have BK209 := Aside0.mk (hbox); have GW209 := ge_ HB hg; have GE209 := ge_ HB hg; replace HB := bs_ HB hb; have NB208_209 := nl_ BK208 hg; have NB209_208 := ng_ BK208 hg; replace BK208 := bd_ BK208 hb; clear hb hbox hg; have hnb6 := NB208_209.out; have hnc6 := NB209_208.out; have hcz7_0 : w5.cell? ⟨gb208, 0, none⟩ = some (.int .i8 a0_0) := (blk_cell BK208.out 0).trans rfl; have hcz7_1 : w5.cell? ⟨gb208, 1, none⟩ = some (.int .i8 a0_1) := (blk_cell BK208.out 1).trans rfl; have hcz7_2 : w5.cell? ⟨gb208, 2, none⟩ = some (.int .i8 a0_2) := (blk_cell BK208.out 2).trans rfl; have hcz7_3 : w5.cell? ⟨gb208, 3, none⟩ = some (.int .i8 a0_3) := (blk_cell BK208.out 3).trans rfl; have hfz7_0 := blk_frozen BK208.out 0; have hfz7_1 := blk_frozen BK208.out 1; have hfz7_2 := blk_frozen BK208.out 2; have hfz7_3 := blk_frozen BK208.out 3; obtain ⟨⟨hcz8_0, hcz8_1⟩, hfz8_0, hfz8_1⟩ := bq_ BK209))
  go_ret
  exact ⟨rt_, k2_ HB GE208 GE209⟩
 ·
  rw [if_neg c3] at H
  have c3b0 : (a0_0 == 0) = false := beq_eq_false_iff_ne.mpr c3
  have c3b1 : (a0_0 != 0) = true := bne_iff_ne.mpr c3
  obtain rfl := Option.some.inj H
  go_enter Try.func35, Try.ntmps35
  go_wp2_with (first | ((with_reducible refine gate_dst (N := 2) rfl ?_); refine boxM_ 2 #[.int .i8 a0_0, .int .i8 a0_1, .int .i8 a0_2, .int .i8 a0_3] 48 ?_; intro gb208 hg w9 hbox hb; have BK208 := Aside0.mk (hbox); have GW208 := ge_ HB hg; have GE208 := ge_ HB hg; replace HB := bs_ HB hb; clear hb hbox hg) | ((with_reducible refine gate_dst (N := 3) rfl ?_); refine boxM_ 3 #[.int .i64 a1_0, .int .i64 a1_1] 49 ?_; intro gb209 hg w10 hbox hb; have BK209 := Aside0.mk (hbox); have GW209 := ge_ HB hg; have GE209 := ge_ HB hg; replace HB := bs_ HB hb; have NB208_209 := nl_ BK208 hg; have NB209_208 := ng_ BK208 hg; replace BK208 := bd_ BK208 hb; clear hb hbox hg; have hnb11 := NB208_209.out; have hnc11 := NB209_208.out; have hcz12_0 : w10.cell? ⟨gb208, 0, none⟩ = some (.int .i8 a0_0) := (blk_cell BK208.out 0).trans rfl; have hcz12_1 : w10.cell? ⟨gb208, 1, none⟩ = some (.int .i8 a0_1) := (blk_cell BK208.out 1).trans rfl; have hcz12_2 : w10.cell? ⟨gb208, 2, none⟩ = some (.int .i8 a0_2) := (blk_cell BK208.out 2).trans rfl; have hcz12_3 : w10.cell? ⟨gb208, 3, none⟩ = some (.int .i8 a0_3) := (blk_cell BK208.out 3).trans rfl; have hfz12_0 := blk_frozen BK208.out 0; have hfz12_1 := blk_frozen BK208.out 1; have hfz12_2 := blk_frozen BK208.out 2; have hfz12_3 := blk_frozen BK208.out 3))
  go_ret
  exact ⟨rt_, k2_ HB GE208 GE209⟩

/-! ### impl_WasteIn_1_sum: function 35 -/
def impl_WasteIn_1_sum.f (k : Nat) (a0 : Int) (a1 : Int) (l2 : List (S46)) (l3 : List (S48)) : Option (Int × Int) := impl_summed.f impl_WasteIn_1.f k a0 a1 l2 l3
theorem impl_WasteIn_1_sum.mono : ∀ a0 a1 a2 a3 k, LeO (impl_WasteIn_1_sum.f k a0 a1 a2 a3) (impl_WasteIn_1_sum.f (k + 1) a0 a1 a2 a3) := fun a0 a1 a2 a3 k => impl_summed.mono impl_WasteIn_1.f a0 a1 a2 a3 k
theorem impl_WasteIn_1_sum.calls (k : Nat) (a0 : Int) (a1 : Int) (A2 : Option Addr) (c2 : Nat) (l2 : List (S46)) (A3 : Option Addr) (c3 : Nat) (l3 : List (S48)) (r1 : Int) (r2 : Int) (w : World) (hr2 : Kd.C k46 w A2 l2.length l2) (hc2 : l2.length ≤ c2) (hr3 : Kd.C k48 w A3 l3.length l3) (hc3 : l3.length ≤ c3) (h : impl_WasteIn_1_sum.f k a0 a1 l2 l3 = some (r1, r2)) :
  Calls Try.prog 33 #[.int .i64 a0, .int .i64 a1, .slice A2 l2.length c2, .slice A3 l3.length c3, .func (.func 35) #[] #[]] w fun e w' => e = .returned (.tuple #[.int .i64 r1, .int .i64 r2]) ∧ Below w.heap.size w w' :=
 impl_summed.calls impl_WasteIn_1.f 35 #[] w (enters_of Try.func35 (by kernel_rfl) rfl) (fun c0 c1 c2 c3 s0 s1 r W _ hx => impl_WasteIn_1.calls c0 c1 c2 c3 s0 s1 r W hx) k a0 a1 A2 c2 l2 A3 c3 l3 r1 r2 hr2 hc2 hr3 hc3 h

end Go.Proofs.Ytnkihjabmbeicaa.PA
