/- Pure functions, and that Go's functions come to them. -/
import Derived.Test.YthbogbaaikjhbaaGreatDoorPAx0
import Derived.Test.YthbogbaaikjhbaaGreatDoorShelf
import Derived.Lib.SlicesCompact
import Derived.Shelf.RegionOpenPlain
namespace Go.Proofs.YthbogbaaikjhbaaGreatDoor.PA
open Go.RowKit Go.Proofs.YthbogbaaikjhbaaGreatDoorW.PrintWords Go.Proofs.YthbogbaaikjhbaaGreatDoorW.PrintLast Go.Proofs.YthbogbaaikjhbaaGreatDoorW.PrintMore
set_option linter.unusedVariables false
set_option linter.unusedSimpArgs false

theorem eqA43 (d : Nat) (w : World) (x0 y0 : Int) (x1 y1 : Int) :
  (Op.equalIn (d + 2) 43 (.agg #[.int .i16 x0, .int .i16 x1]) (.agg #[.int .i16 y0, .int .i16 y1])).run Tryz.prog w = .ok (x0 == y0 && (x1 == y1)) w := by
 refine eqA_of Tryz.underlying43 (by kernel_rfl) ?_
 refine eqf_cons (by rfl) (by go_simp; rfl) (by go_simp; rfl) (by go_simp) ?_
 exact eqf_last (by rfl) (by go_simp; rfl) (by go_simp; rfl) (by go_simp)

/-! ### laws_f6big: function 4 -/
def laws_f6big.f (l0 : List Int) : Option (Bool) := some (decide ((l0.length : Int) > 4096))
set_option maxHeartbeats 8000000 in
set_option maxRecDepth 100000 in
theorem laws_f6big.calls (A0 : Option Addr) (c0 : Nat) (l0 : List Int) (r : Bool) (w : World) (hr0 : Kd.C (Kd.int .u8) w A0 l0.length l0) (hc0 : l0.length ≤ c0) (h : laws_f6big.f l0 = some r) :
  Calls Tryz.prog 4 #[.slice A0 l0.length c0] w fun e w' => e = .returned (.bool r) ∧ Drawn0 w w' := by
 have HR0 := Aside0.mk hr0
 have HC0 := Aside0.mk hc0
 clear hr0 hc0
 have H : (some (decide ((l0.length : Int) > 4096))) = some r := h
 clear h
 obtain rfl := Option.some.inj H
 go_enter Tryz.func4, Tryz.ntmps4
 go_wp2
 go_ret
 exact ⟨by first | rfl | (simp; done) | (simp [*]; done), by repeat (first | exact Drawn0.refl _ | apply Drawn0.step)⟩


/-! ### strings_Split: function 29 -/
def strings_Split.f (a0 a1 : ByteArray) : Option (List ByteArray) := if a0.size < 4294967281 then (if 1 ≤ a1.size then some (Lib.splitB a1 0 (Lib.countB a0 a1) a0) else none) else none
theorem strings_Split.calls (a0 a1 : ByteArray) (r : List ByteArray) (w : World) (hT : Tables.TabT w) (h : strings_Split.f a0 a1 = some r) :
  Calls Tryz.prog 29 #[.string a0, .string a1] w fun e w' => ∃ v0_ : Value, e = .returned (v0_) ∧ Kd.R Kd.string 9 w' w.heap.size (fun _ => True) v0_ r ∧ Below w.heap.size w w' := by
 unfold strings_Split.f at h
 rcases (Decidable.em (a0.size < 4294967281)).symm with c0 | c0
 ·
  rw [if_neg c0] at h
  exact absurd h (by simp)

 rw [if_pos c0] at h
 rcases (Decidable.em (1 ≤ a1.size)).symm with c1 | c1
 ·
  rw [if_neg c1] at h
  exact absurd h (by simp)
 rw [if_pos c1] at h
 obtain rfl := Option.some.inj h
 obtain ⟨m, hm⟩ := hT.mx
 refine (Any.strings_Split Tryz.lays146 (by kernel_rfl) a0 a1 m w c0 hm c1).mono ?_
 rintro e w' ⟨he, rfl⟩
 have hlen := Lib.splitB_all a1 c1 0 (Lib.countB a0 a1) a0 rfl
 refine ⟨_, he, ?_, (Below.refl _ w).alloc (Nat.le_refl _) _⟩
 refine Kd.R_of_own ⟨by simp [encs], .inr ⟨w.heap.size, Lib.countB a0 a1 + 1, _, ?_, Nat.le_refl _, heap_alloc_new w _, ?_, ?_, ?_, ?_⟩⟩ (fun _ _ => trivial)
 ·
  rw [hlen]
 ·
  rw [hlen]; exact Nat.le_refl _
 ·
  have := Lib.countB_le a1 c1 a0.size a0 (Nat.le_refl _)
  unfold maxLen
  omega
 ·
  simp only [List.size_toArray, List.length_map, hlen, Nat.mul_one]
 ·
  simp only [encs]
  exact List.take_of_length_le (by simp)

/-! ### strings_Cut: function 30 -/
def strings_Cut.f (a0 a1 : ByteArray) : Option (ByteArray × ByteArray × Bool) := if a0.size < 4294967281 then some (⟨(Lib.cut a0.data.toList a1.data.toList).1.toArray⟩, ⟨(Lib.cut a0.data.toList a1.data.toList).2.1.toArray⟩, (Lib.cut a0.data.toList a1.data.toList).2.2) else none
theorem strings_Cut.calls (a0 a1 : ByteArray) (r1 r2 : ByteArray) (r3 : Bool) (w : World) (hT : Tables.TabT w) (h : strings_Cut.f a0 a1 = some (r1, r2, r3)) :
  Calls Tryz.prog 30 #[.string a0, .string a1] w fun e w' => e = .returned (.tuple #[.string r1, .string r2, .bool r3]) ∧ Drawn0 w w' := by
 unfold strings_Cut.f at h
 by_cases c0 : a0.size < 4294967281
 ·
  rw [if_pos c0] at h
  have h := Option.some.inj h
  obtain ⟨m, hm⟩ := hT.mx
  refine (Any.strings_Cut Tryz.lays145 a0 a1 m w c0 hm).mono ?_
  rintro e w' ⟨he, n, hw⟩
  rw [Prod.mk.injEq, Prod.mk.injEq] at h
  obtain ⟨h1, h2, h3⟩ := h
  rw [h1, h2, h3] at he
  exact ⟨he, n, hw⟩
 ·
  rw [if_neg c0] at h
  exact absurd h (by simp)


/-! ### impl_decimal: function 32 -/
def impl_decimal.f (a0 : Int) : Option ByteArray := if -9223372036854775808 ≤ a0 then (if a0 ≤ 9223372036854775807 then (some ⟨(Lib.itoa a0).toArray⟩) else none) else none
set_option maxHeartbeats 4000000 in
set_option maxRecDepth 100000 in
theorem impl_decimal.calls (a0 : Int) (r : ByteArray) (w : World) (hT : Tables.TabT w) (h : impl_decimal.f a0 = some r) :
  Calls Tryz.prog 32 #[.int .i64 a0] w fun e w' => e = .returned (.string r) ∧ Below w.heap.size w w' := by
 unfold impl_decimal.f at h
 by_cases c0 : -9223372036854775808 ≤ a0
 ·
  rw [if_pos c0] at h
  by_cases c1 : a0 ≤ 9223372036854775807
  ·
   rw [if_pos c1] at h
   obtain rfl := Option.some.inj h
   go_enter Tryz.func32, Tryz.ntmps32
   go_wp2_with (go_at_call 64; refine (Any.strconv_FormatInt_10 Tryz.laysM173 a0 c0 c1 _ (Tables.tabT_pow hT)).mono ?_; rintro e w' ⟨rfl, k, os, rfl⟩)
   go_ret
   exact ⟨rfl, Tables.below_grow _ _ _⟩
  ·
   rw [if_neg c1] at h
   exact absurd h (by simp)
 ·
  rw [if_neg c0] at h
  exact absurd h (by simp)


/-! ### impl_Corner_89: function 89 -/
def impl_Corner_89.f (n : Int) : Option (List S43) := if 0 ≤ n then (if n < 1048576 then some [] else none) else none
set_option maxHeartbeats 4000000 in
set_option maxRecDepth 100000 in
theorem impl_Corner_89.calls (n : Int) (r : List S43) (w : World) (h : impl_Corner_89.f n = some r) :
  Calls Tryz.prog 89 #[.slice none 0 0, .int .i64 n] w fun e w' => ∃ v0_ : Value, e = .returned (v0_) ∧ Kd.R k43 43 w' w.heap.size (fun _ => True) v0_ r ∧ Below w.heap.size w w' := by
 unfold impl_Corner_89.f at h
 rcases (Decidable.em (0 ≤ n)).symm with c0 | c0
 ·
  rw [if_neg c0] at h; exact absurd h (by simp)

 rw [if_pos c0] at h
 rcases (Decidable.em (n < 1048576)).symm with c1 | c1
 ·
  rw [if_neg c1] at h; exact absurd h (by simp)
 rw [if_pos c1] at h
 obtain rfl := Option.some.inj h
 clear h
 have b0 : decide (n < 0) = false := decide_eq_false (by omega)
 have b1 : wrap64 n = n := IntWalk.wrap64_in n ⟨by omega, by omega⟩
 replace c0 : 0 ≤ wrap64 n := by omega
 replace c1 : wrap64 n < 1048576 := by omega
 by_cases c2 : 0 < wrap64 n
 ·
  have b2 : decide (0 < wrap64 n) = true := decide_eq_true c2
  have c0' := Aside0.mk c0
  have c1' := Aside0.mk c1
  have c2' := Aside0.mk c2
  clear b1
  obtain ⟨i0, hi0, _, hsz, _⟩ := info_parts info43
  clear c0 c1 c2
  go_enter Tryz.func89, Tryz.ntmps89
  go_wp2_with (first | (at_builtin; refine Kd.R_append_zeros k43 (w0 := w) w.heap.size rfl (.tmp 20) (.tmp 21) 25 3 43 (.agg #[.int .i16 0, .int .i16 0]) 4 rfl Tryz.underlying25 Tryz.underlying3 info43 rfl (by decide) (by omega) (.slice none 0 0) [] z43 (wrap64 n) (fun _ => True) rfl rfl (k43_mkM _ _ _ z43) (fun _ _ => trivial) (Kd.R_nil _ _ _ _ _) c0'.out (Below.refl _ _) (Nat.le_refl _) (by have := c1'.out; have := c0'.out; simp; omega) ?_; intro v1 w1 ho hb hg hat; clear hg hat; obtain ⟨g, cap, hv, hg1, hg2, hg3⟩ := Kd.R_form ho (by have := c2'.out; simp; omega); subst hv; have hn := (Kd.R_reads' ho).2.1; have HT := Kd.R_take (m := 0) ho (Nat.zero_le _); have hcut := cut_to (P := Tryz.prog) 25 43 .i64 Tryz.underlying25 hi0 (some ⟨g, 0, none⟩) _ cap 0 (Int.le_refl _) (Int.natCast_nonneg _) hn; have HT' := Aside0.mk HT; have HB' := Aside0.mk hb; clear ho hb hg1 hg2 hg3 hn HT))
  go_ret
  exact ⟨_, rfl, HT'.out, HB'.out⟩
 ·
  have b2 : decide (0 < wrap64 n) = false := decide_eq_false c2
  clear c0 c1 c2 b1
  go_enter Tryz.func89, Tryz.ntmps89
  go_wp2
  go_ret
  exact ⟨_, rfl, Kd.R_nil _ _ _ _ _, Below.refl _ _⟩

/-! ### impl_Corner_73: function 73 -/
mutual
def impl_Corner_73.l0 : Nat → List (List (S43)) → Int → List (List (S43)) → Int → Int → Option ((List (S43)))
 | 0, _, _, _, _, _ => none
 | k + 1, x0, x3, x9, x10, x11 => if x11 < x10 then (if 0 ≤ x11 then (if x11 < (x9.length : Int) then (if (wrap64 (x3 + ((rd_L4 x9 x11).length : Int))) < 0 then (none) else (impl_Corner_73.l0 k x0 (wrap64 (x3 + ((rd_L4 x9 x11).length : Int))) x9 x10 (wrap64 (x11 + 1)))) else (none)) else (none)) else ((impl_Corner_89.f x3).bind fun t414 => (impl_Corner_73.l1 k t414 x0 (x0.length : Int) 0))
def impl_Corner_73.l1 : Nat → List (S43) → List (List (S43)) → Int → Int → Option ((List (S43)))
 | 0, _, _, _, _ => none
 | k + 1, x6, x25, x26, x27 => if x27 < x26 then (if 0 ≤ x27 then (if x27 < (x25.length : Int) then (if x6.length + (rd_L4 x25 x27).length < 35184372088832 then (impl_Corner_73.l1 k (x6 ++ (rd_L4 x25 x27)) x25 x26 (wrap64 (x27 + 1))) else (none)) else (none)) else (none)) else (some x6)
end
def impl_Corner_73.f (k : Nat) (l0 : List (List (S43))) : Option ((List (S43))) := impl_Corner_73.l0 k l0 0 l0 (l0.length : Int) 0
theorem impl_Corner_73.mono_l : ∀ k, (∀ y0 y1 y2 y3 y4, LeO (impl_Corner_73.l0 k y0 y1 y2 y3 y4) (impl_Corner_73.l0 (k + 1) y0 y1 y2 y3 y4)) ∧ (∀ y0 y1 y2 y3, LeO (impl_Corner_73.l1 k y0 y1 y2 y3) (impl_Corner_73.l1 (k + 1) y0 y1 y2 y3))
 | 0 => ⟨fun _ _ _ _ _ r h => by simp [impl_Corner_73.l0] at h, fun _ _ _ _ r h => by simp [impl_Corner_73.l1] at h⟩
 | k + 1 => by
  obtain ⟨ih0, ih1⟩ := impl_Corner_73.mono_l k
  refine ⟨?_, ?_⟩ <;> intros
  all_goals first | unfold impl_Corner_73.l0 | unfold impl_Corner_73.l1
  all_goals repeat' first | (with_reducible first | exact ih0 _ _ _ _ _ | exact ih1 _ _ _ _ | exact LeO.refl _ | exact LeO.none _ | refine LeO.ite ?_ ?_ | refine LeO.bind ?_ (fun _ => ?_))
theorem impl_Corner_73.mono : ∀ a0 k, LeO (impl_Corner_73.f k a0) (impl_Corner_73.f (k + 1) a0) := by
 intro a0 k
 obtain ⟨ih0, ih1⟩ := impl_Corner_73.mono_l k
 unfold impl_Corner_73.f
 repeat' first | (with_reducible first | exact ih0 _ _ _ _ _ | exact ih1 _ _ _ _ | exact LeO.refl _ | exact LeO.none _ | refine LeO.ite ?_ ?_ | refine LeO.bind ?_ (fun _ => ?_))
set_option maxHeartbeats 8000000 in
set_option maxRecDepth 100000 in
theorem impl_Corner_73.calls (k : Nat) (A0 : Option Addr) (c0 : Nat) (l0 : List (List (S43))) (r : List (S43)) (w : World) (hr0 : Kd.C (Kd.slice 43 k43) w A0 l0.length l0) (hc0 : l0.length ≤ c0) (h : impl_Corner_73.f k l0 = some r) :
  Calls Tryz.prog 73 #[.slice A0 l0.length c0] w fun e w' => ∃ v0_ : Value, e = .returned (v0_) ∧ Kd.R k43 43 w' w.heap.size (fun _ => True) v0_ r ∧ Below w.heap.size w w' := by
 have HR0 := Aside0.mk hr0
 have HC0 := Aside0.mk hc0
 clear hr0 hc0
 have HB := Aside0.mk (Below.refl w.heap.size w)
 have H : (impl_Corner_73.l0 k l0 0 l0 (l0.length : Int) 0) = some r := h
 clear h
 have H' := Aside0.mk H
 clear H
 go_enter Tryz.func73, Tryz.ntmps73
 go_wp2
 go_loopg [3, 11] k (fun kq v3 v11 w' => ∃ (x3_1 : Int) (x11_1 : Int), v3 = .int .i64 x3_1 ∧ v11 = .int .i64 x11_1 ∧ Aside0 (impl_Corner_73.l0 kq l0 x3_1 l0 (l0.length : Int) x11_1 = some r) ∧ Aside0 (kq ≤ k) ∧ Aside0 (Below w.heap.size w w'))
 case atStart => exact ⟨(0), (0), (by first | rfl | (simp; done) | (simp [*]; done)), (by first | rfl | (simp; done) | (simp [*]; done)), H', ⟨Nat.le_refl _⟩, ⟨bl_ HB⟩⟩
 case round =>
  clear H'
  obtain ⟨x3_1, x11_1, rfl, rfl, HA, HK1, HB⟩ := hrel
  rcases gk with _ | k1
  · exact absurd HA.out (by simp [impl_Corner_73.l0])
  have H := HA.out
  clear HA
  simp only [impl_Corner_73.l0] at H
  by_cases c2 : x11_1 < (l0.length : Int)
  ·
   rw [if_pos c2] at H
   have c2b0 : decide (x11_1 < (l0.length : Int)) = true := decide_eq_true c2
   clear c2
   obtain ⟨c3b0, H⟩ := gx_ H
   obtain ⟨c4b0, H⟩ := gx_ H
   by_cases c5 : (wrap64 (x3_1 + ((rd_L4 l0 x11_1).length : Int))) < 0
   ·
    rw [if_pos c5] at H
    exact absurd H (by simp)
   rw [if_neg c5] at H
   have c5b0 : decide ((wrap64 (x3_1 + ((rd_L4 l0 x11_1).length : Int))) < 0) = false := decide_eq_false c5
   clear c5
   have H' := Aside0.mk H
   clear H
   have p413 : 0 ≤ (x11_1 : Int) := od_
   have q413 : x11_1 < (l0.length : Int) := od_
   obtain ⟨ad413, A413_0, c413_0, e413, hx413_0, hl413_0, hi413_0⟩ := at_L4 HR0.out x11_1 p413 q413
   cases e413
   replace hx413_0 := (hw_ HB hx413_0 :)
   have HR413_0 := Aside0.mk hi413_0
   have HC413_0 := Aside0.mk hl413_0
   clear hi413_0 hl413_0
   replace p413 := eq_true p413
   replace q413 := eq_true q413
   go_wp2
   go_roundg k1
   case measure => have := HK1.out; omega
   case rel => exact ⟨(wrap64 (x3_1 + ((rd_L4 l0 x11_1).length : Int))), (wrap64 (x11_1 + 1)), (by first | rfl | (simp; done) | (simp [*]; done)), (by first | rfl | (simp; done) | (simp [*]; done)), H', ⟨by have := HK1.out; omega⟩, ⟨bl_ HB⟩⟩
  rw [if_neg c2] at H
  have c2b0 : decide (x11_1 < (l0.length : Int)) = false := decide_eq_false c2
  clear c2
  obtain ⟨t414, A6, H⟩ := be_ H
  (try dsimp only at H)
  have H' := Aside0.mk H
  clear H
  go_wp2_with (first | ((with_reducible refine gate_callee (f := 89) rfl ?_); refine goM_ (some 24) Tryz.func89 #[.slice none 0 0, .int .i64 x3_1] ?_; (with_reducible refine (impl_Corner_89.calls  x3_1 t414 _ A6.out).mono ?_); rintro e w7 ⟨v415, rfl, ho0, hb⟩; refine ⟨_, rfl, ?_⟩; have HO416 := Aside0.mk (Kd.R_lower ho0 (below_size (kB_ HB))); replace HB := bs_ HB hb; clear hb; (try clear ho0)))
  go_loopg [6, 27] k1 (fun kq v6 v27 w' => ∃ (x6_2 : List (S43)) (x27_2 : Int), v27 = .int .i64 x27_2 ∧ Aside0 (impl_Corner_73.l1 kq x6_2 l0 (l0.length : Int) x27_2 = some r) ∧ Aside0 (kq ≤ k1) ∧ Aside0 (Kd.R k43 43 w' w.heap.size (fun _ => True) v6 x6_2) ∧ Aside0 (Below w.heap.size w w'))
  case atStart => exact ⟨(t414), (0), (by first | rfl | (simp; done) | (simp [*]; done)), H', ⟨Nat.le_refl _⟩, ⟨kp_ HO416⟩, ⟨bl_ HB⟩⟩
  case round =>
   clear H'
   obtain ⟨x6_2, x27_2, rfl, HA, HK2, HO_6, HB⟩ := hrel
   rcases gk with _ | k2
   · exact absurd HA.out (by simp [impl_Corner_73.l1])
   have H := HA.out
   clear HA
   simp only [impl_Corner_73.l1] at H
   rcases (Decidable.em (x27_2 < (l0.length : Int))).symm with c8 | c8
   ·
    rw [if_neg c8] at H
    have c8b0 : decide (x27_2 < (l0.length : Int)) = false := decide_eq_false c8
    clear c8
    obtain rfl := Option.some.inj H
    go_wp2
    go_ret
    exact ⟨_, by first | rfl | (simp [errW_none, errW_some] <;> rfl) | (simp [*, errW_none, errW_some] <;> rfl), by (with_reducible repeat (first | apply Kd.R_alloc | apply Kd.R_drewN | apply Kd.R_drew)); exact HO_6.out, bl_ HB⟩

   rw [if_pos c8] at H
   have c8b0 : decide (x27_2 < (l0.length : Int)) = true := decide_eq_true c8
   clear c8
   obtain ⟨c9b0, H⟩ := gx_ H
   obtain ⟨c10b0, H⟩ := gx_ H
   obtain ⟨(c11 : x6_2.length + (rd_L4 l0 x27_2).length < 35184372088832), H⟩ := gd_ H
   have LMc11 := Aside0.mk c11
   clear c11
   obtain ⟨y418, hy418⟩ : ∃ y_ : List (S43), y_ = (x6_2 ++ (rd_L4 l0 x27_2)) := ⟨_, rfl⟩
   replace H : (impl_Corner_73.l1 k2 y418 l0 (l0.length : Int) (wrap64 (x27_2 + 1))) = some r := by first | (rw [hy418]; with_reducible exact H) | (have H2_ := (Option.bind_some _ _).symm.trans H; rw [hy418]; with_reducible exact H2_) | (have H2_ := (Option.bind_some _ _).symm.trans H; with_reducible exact H2_) | with_reducible exact H | (rw [hy418]; exact H) | exact H
   have Ny418 := Aside0.mk hy418
   clear hy418
   have H' := Aside0.mk H
   clear H
   have p417 : 0 ≤ (x27_2 : Int) := od_
   have q417 : x27_2 < (l0.length : Int) := od_
   obtain ⟨ad417, A417_0, c417_0, e417, hx417_0, hl417_0, hi417_0⟩ := at_L4 HR0.out x27_2 p417 q417
   cases e417
   replace hx417_0 := (hw_ HB hx417_0 :)
   have HR417_0 := Aside0.mk hi417_0
   have HC417_0 := Aside0.mk hl417_0
   clear hi417_0 hl417_0
   replace p417 := eq_true p417
   replace q417 := eq_true q417
   go_wp2_with (first | ((with_reducible refine gate_builtin (b := .append) (xs := #[.tmp 31, .tmp 32]) rfl ?_); at_builtin; refine Kd.R_append_rows k43 (w0 := w) w.heap.size rfl (.tmp 31) (.tmp 32) 25 43 (.agg #[(.int .i16 0), (.int .i16 0)]) 4 rfl Tryz.underlying25 info43 rfl (by decide) (by omega) u6 x6_2 (rd_L4 l0 x27_2) _ _ _ (fun _ => True) (fun _ => False) rfl rfl ?aO ?aR (fun _ _ h => h) (fun _ h => h.elim) ?aF ?aB ?aS ?aL ?_; (case aR => exact kc_ (Kd.C_below HR417_0.out HB.out)); (case aB => exact (kB_ HB)); (case aF => exact (fun _ _ => trivial)); (case aO => exact (kp_ HO_6)); (case aS => exact (below_size (kB_ HB))); (case aL => have := LMc11.out; omega); intro v419 w12 ho hb hg hat; rw [← Ny418.out] at ho; have n0_ := Aside0.mk (hb); have n1_ := Aside0.mk (ho); clear HB; clear HO_6; have HB := n0_; have HO420 := n1_; clear n0_ n1_; clear ho hb hg hat))
   go_roundg k2
   case measure => have := HK1.out; have := HK2.out; omega
   case rel => exact ⟨(y418), (wrap64 (x27_2 + 1)), (by first | rfl | (simp; done) | (simp [*]; done)), H', ⟨by have := HK1.out; have := HK2.out; omega⟩, ⟨kp_ HO420⟩, ⟨bl_ HB⟩⟩
end Go.Proofs.YthbogbaaikjhbaaGreatDoor.PA
namespace Go.Proofs.YthbogbaaikjhbaaGreatDoor.PA
open Go.RowKit Go.Proofs.YthbogbaaikjhbaaGreatDoorW.PrintWords Go.Proofs.YthbogbaaikjhbaaGreatDoorW.PrintLast Go.Proofs.YthbogbaaikjhbaaGreatDoorW.PrintMore
attribute [local go_sem high] eqA43
set_option linter.unusedVariables false
set_option linter.unusedSimpArgs false

/-! ### impl_Corner_53: function 53 -/
section
variable {α : Type} {d : Kd α} {P : Program} {ops : Array Oper} {rest : List Oper} {o : Oper} {a : Act} {Q : Exit → Act → World → Prop} {W : World}
/-- Cells of a row's block behind the row are written: the row stays. -/
theorem impl_Corner_53.tail_ {e base g n cap : Nat} {ok : Nat → Prop} {xs : List α} (h : d.R e W base ok (.slice (some ⟨g, 0, none⟩) n cap) xs) (seg : List Value) (q : Nat) (h1 : n * d.sz ≤ q) (h2 : q + seg.length ≤ cap * d.sz) :
  d.R e (W.setCells g q seg) base ok (.slice (some ⟨g, 0, none⟩) n cap) xs ∧ W.grownBy (W.setCells g q seg) (some g) := by
 obtain ⟨hn, hnc, _⟩ := Kd.R_reads' h
 obtain ⟨hok, inner, ho, hr⟩ := h
 obtain ⟨ho1, ho2⟩ := ho
 rcases ho2 with ⟨hv, _⟩ | ⟨g', cap', cur, hv, hb, hh, hnc', hcm, hcs, ht⟩
 ·
  cases hv
 injection hv with ha _ hc
 injection ha with ha
 injection ha with hg
 subst hg; subst hc
 have hfit : q + seg.length ≤ cur.size := by omega
 obtain ⟨cur', h3, h4, h5⟩ := setCells_row seg q W cur hh hfit
 obtain ⟨s1, s2, s3, s4⟩ := setCells_same g seg q W
 have hfar : ∀ k, k ≠ g → (W.setCells g q seg).heap[k]? = W.heap[k]? := fun k hk => setCells_far seg _ k hk
 have G : W.grownBy (W.setCells g q seg) (some g) := ⟨s1, s2, s3, by rw [s4]; exact Nat.le_refl _, fun k _ hk => hfar k (fun he => hk (by rw [he]))⟩
 refine ⟨⟨hok, inner, ⟨ho1, .inr ⟨g, cap, cur', by rw [hn], hb, h3, hnc', hcm, by rw [h4, hcs], ?_⟩⟩, hr.imp_ (fun _ _ hk => Kd.M_grown hk G (fun k hk2 => hk2.2))⟩, G⟩
 have hq : xs.length * d.sz ≤ q := by rw [← hn]; exact h1
 have hcl : cur.toList.length = cur.size := Array.length_toList
 rw [← ht, h5, List.append_assoc, List.take_append_of_le_length (by rw [List.length_take]; omega), List.take_take, Nat.min_eq_left hq]
/-- 'clear' of what lies behind a row of the call's own, in its block. -/
theorem impl_Corner_53.clear_ev (hgd : o.guard = none) (hN : o.dst = none) (x : Operand) (t e : TypeId) (ho : o.op = .call { callee := .builtin .clear, args := #[x], argTypes := #[t] }) (ht : P.underlying t = some (.slice e)) {z : Value} (hz : (P.info? e).bind (·.zero) = some z)
  (hzs : z.cells.size = d.sz) (hz1 : z.cells.all (·.oneCell') = true) {base g n cap q m c : Nat} {ok : Nat → Prop} {xs : List α} (hx : a.eval x = .slice (some ⟨g, q, none⟩) (m + 1) c) (hq : q = n * d.sz) (hm : n + (m + 1) ≤ cap)
  (HO : d.R e W base ok (.slice (some ⟨g, 0, none⟩) n cap) xs)
  (h : ∀ w1, d.R e w1 base ok (.slice (some ⟨g, 0, none⟩) n cap) xs → W.grownBy w1 (some g) → wpList P ops Q rest a w1) : wpList P ops Q (o :: rest) a W := by
 have hlen : (Builtin.zeroCells z.cells (m + 1)).toList.length = (m + 1) * d.sz := by simp [Builtin.zeroCells, hzs]
 have hone : ∀ v ∈ (Builtin.zeroCells z.cells (m + 1)).toList, v.oneCell' = true := by
  intro v hv
  simp only [Builtin.zeroCells, Array.toList_map, List.mem_map] at hv
  obtain ⟨j, hj, rfl⟩ := hv
  have hj' : j < (m + 1) * z.cells.size := by simpa using hj
  have hpos : 0 < z.cells.size := by
   rcases Nat.eq_zero_or_pos z.cells.size with h0 | h0
   ·
    rw [h0] at hj'; omega
   ·
    exact h0
  have hlt := Nat.mod_lt j hpos
  rw [getElem!_pos z.cells _ hlt]
  exact (Array.all_eq_true_iff_forall_mem.1 hz1) _ (Array.getElem_mem hlt)
 have hfit : q + (Builtin.zeroCells z.cells (m + 1)).toList.length ≤ cap * d.sz := by
  rw [hlen, hq, ← Nat.add_mul]
  exact Nat.mul_le_mul_right _ hm
 obtain ⟨h1, h2⟩ := impl_Corner_53.tail_ HO (Builtin.zeroCells z.cells (m + 1)).toList q (by omega) hfit
 obtain ⟨i, hi, hzz⟩ := Option.bind_eq_some_iff.1 hz
 have hrun : ∀ ty, (Builtin.clear_ #[t] ty #[.slice (some ⟨g, q, none⟩) (m + 1) c]).run P W = .ok (.tuple #[]) (W.setCells g q (Builtin.zeroCells z.cells (m + 1)).toList) := by
  intro ty
  obtain ⟨_, inner, ⟨_, ho2⟩, _⟩ := HO
  rcases ho2 with ⟨hv, _⟩ | ⟨g', cap', cur, hv, hb, hh, hnc', hcm, hcs, _⟩
  ·
   cases hv
  injection hv with ha _ hc
  injection ha with ha
  injection ha with hg
  subst hg; subst hc
  have hst := run_storeCells_cells (P := P) g q (Builtin.zeroCells z.cells (m + 1)).toList 0 W (fun j hj => by rw [cell_of_row W g _ cur e (0, 0) hh]; simp; omega) (fun j _ => blk_frozen hh _) hone
  simp only [Nat.add_zero] at hst
  simp [Builtin.clear_, run_underlying ht, zeroValue, typeInfo, hi, hzz, hst]
 refine wpList_plain hgd fun K hK => ?_
 unfold Oper.wp execOp
 simp only [ho, resolve, invoke, builtin, Sem.run_bind, Sem.run_pure, Result.andThen_ok, List.map_toArray, List.map_cons, List.map_nil, hx, hrun]
 show K (a.put o.dst _) _
 rw [hN]
 exact hK a _ (h _ h1 h2)
end
namespace CC
instance : Inhabited S43 := ⟨z43⟩
instance : DecidableEq S43 := fun a b => decidable_of_iff (a.f0 = b.f0 ∧ a.f1 = b.f1) ⟨fun h => by cases a; cases b; simp_all, fun h => h ▸ ⟨rfl, rfl⟩⟩
theorem getb (xs : List S43) (i : Nat) : xs.toArray[i]! = rd_T43 xs (i : Int) := by
 simp only [getElem!_def, List.getElem?_toArray, rd_T43, Int.toNat_natCast, List.getD_eq_getElem?_getD]
 cases xs[i]? <;> rfl
theorem eqb (a b : S43) : (a.f0 == b.f0 && (a.f1 == b.f1)) = decide (a = b) := by
 by_cases h : a = b
 ·
  subst h; simp
 ·
  rw [decide_eq_false h, Bool.and_eq_false_iff]
  by_cases e : a.f0 = b.f0
  ·
   right
   rw [beq_eq_false_iff_ne]
   intro e2
   exact h (by cases a; cases b; simp_all)
  ·
   left; rw [beq_eq_false_iff_ne]; exact e
theorem setb (xs : List S43) (i : Nat) (v : S43) : (xs.set i v).toArray = xs.toArray.setIfInBounds i v := by simp
/-- The two cells of place i. -/
theorem cells {W : World} {base g n cap : Nat} {ok : Nat → Prop} {xs : List S43} (h : Kd.R k43 43 W base ok (.slice (some ⟨g, 0, none⟩) n cap) xs) (i : Nat) (hi : i < xs.length) :
  (W.cell? ⟨g, i * 2, none⟩ = some (.int .i16 (rd_T43 xs (i : Int)).f0) ∧ W.cell? ⟨g, i * 2 + 1, none⟩ = some (.int .i16 (rd_T43 xs (i : Int)).f1)) ∧ (W.frozen? ⟨g, i * 2, none⟩ = false ∧ W.frozen? ⟨g, i * 2 + 1, none⟩ = false) := by
 have hn := (Kd.R_reads' h).1
 obtain ⟨c, hl, hM, hc, hf⟩ := Kd.R_elem h z43 (i : Int) (by omega) (by omega)
 obtain rfl := k43_openM hM
 rw [Int.toNat_natCast] at hc hf
 exact ⟨⟨hc 0 _ rfl, hc 1 _ rfl⟩, hf 0, hf 1⟩
/-- A place is written anew. -/
theorem put {W : World} {base g n cap : Nat} {ok : Nat → Prop} {xs : List S43} (h : Kd.R k43 43 W base ok (.slice (some ⟨g, 0, none⟩) n cap) xs) (i : Nat) (hi : i < xs.length) (x : S43) :
  Kd.R k43 43 (W.setCells g (i * 2) [.int .i16 x.f0, .int .i16 x.f1]) base ok (.slice (some ⟨g, 0, none⟩) n cap) (xs.set i x) ∧ W.grownBy (W.setCells g (i * 2) [.int .i16 x.f0, .int .i16 x.f1]) (some g) := by
 have hn := (Kd.R_reads' h).1
 obtain ⟨c, hl, hM, hc, hf⟩ := Kd.R_elem h z43 (i : Int) (by omega) (by omega)
 obtain rfl := k43_openM hM
 have := Kd.R_seg h (i : Int) (by omega) (by omega) (seg := [.int .i16 x.f0, .int .i16 x.f1]) (j := 0) hl hc (show 2 ≤ 2 from by decide) (x' := x) (k43_mkM _ _ _ x) (fun _ hk => hk)
 rw [Int.toNat_natCast] at this
 exact this
end CC
def impl_Corner_53.f (l0 : List (S43)) : Option (List (S43)) := if l0.length < 1048576 then some (Lib.compact l0) else none
set_option maxHeartbeats 8000000 in
set_option maxRecDepth 100000 in
theorem impl_Corner_53.calls (P0_ : Nat → Prop) (u9000_ : Value) (l0 : List (S43)) (r : List (S43)) (w0 w : World) (hB : Below w0.heap.size w0 w) (ho0 : Kd.R k43 43 w w0.heap.size P0_ u9000_ l0) (h : impl_Corner_53.f l0 = some r) :
  Calls Tryz.prog 53 #[u9000_] w fun e w' => ∃ v0_ : Value, e = .returned (v0_) ∧ Kd.R k43 43 w' w0.heap.size (fun k_ => (P0_ k_ ∨ w.heap.size ≤ k_)) v0_ r ∧ Below w0.heap.size w0 w' ∧ Kept w w' (fun k_ => P0_ k_) := by
 have hu := Tryz.underlying43
 have mixed : Tryz.prog.follows Departure.mixedOrders = true := by kernel_rfl
 unfold impl_Corner_53.f at h
 by_cases hlen : l0.length < 1048576
 rotate_left
 ·
  rw [if_neg hlen] at h; exact absurd h (by simp)
 rw [if_pos hlen] at h
 obtain rfl := Option.some.inj h
 clear h
 have HO := Aside0.mk (show Kd.R k43 43 w w0.heap.size (fun k_ => (P0_ k_ ∨ w.heap.size ≤ k_)) u9000_ l0 from Kd.R_mono ho0 (fun k_ hk => (.inl hk)))
 have HP0 := Aside0.mk (show ∀ k, u9000_.ownBlock = some k → P0_ k from ho0.1)
 have HK := Aside0.mk (Kept.refl w (fun k_ => P0_ k_))
 have HB := Aside0.mk hB
 have hsame : (∀ j, j < l0.length → Lib.keeps l0.toArray j = true) → Lib.compact l0 = l0 := Lib.compact_all l0
 have HS := Aside0.mk hsame
 clear hB ho0 hsame
 by_cases h2 : l0.length < 2
 ·
  obtain ⟨A, c, eA⟩ := Kd.R_slice HO.out
  subst eA
  have c1 : decide ((l0.length : Int) < 2) = true := decide_eq_true (by omega)
  have e := HS.out (fun j hj => Lib.keeps_lt_one _ j (by omega))
  rw [e]
  clear e HS
  go_enter Tryz.func53, Tryz.ntmps53
  go_wp2
  go_ret
  exact ⟨_, rfl, HO.out, HB.out, HK.out⟩
 ·
  obtain ⟨g, cap, eA, hgb, hgl, _⟩ := Kd.R_form HO.out (by omega)
  subst eA
  have c1 : decide ((l0.length : Int) < 2) = false := decide_eq_false (by omega)
  have HG := Aside0.mk (show w0.heap.size ≤ g from hgb)
  have HPg := Aside0.mk (HP0.out g rfl)
  clear hgb hgl HP0
  go_enter Tryz.func53, Tryz.ntmps53
  go_wp2
  go_loopg [3] l0.length (fun gg s3 wr => ∃ k : Nat, 1 ≤ k ∧ k ≤ l0.length ∧ l0.length - k ≤ gg ∧ s3 = .int .i64 k ∧ Aside0 (∀ j, j < k → Lib.keeps l0.toArray j = true) ∧ Aside0 (Kd.R k43 43 wr w0.heap.size (fun k_ => (P0_ k_ ∨ w.heap.size ≤ k_)) (.slice (some ⟨g, 0, none⟩) l0.length cap) l0) ∧ Aside0 (Kept w wr (fun k_ => P0_ k_)) ∧ Aside0 (Below w0.heap.size w0 wr))
  case atStart => exact ⟨1, Nat.le_refl _, by omega, by omega, rfl, ⟨Lib.keeps_lt_one _⟩, ⟨kp_ HO⟩, ⟨by repeat (first | (with_reducible first | exact HK.out | apply Kept.alloc | apply Kept.drewN | apply Kept.drew) | exact HK.out)⟩, ⟨bl_ HB⟩⟩
  case round =>
   clear HO HK HB
   obtain ⟨k, hk1, hk, hg, rfl, A, HO, HK, HB⟩ := hrel
   by_cases hlt : k < l0.length
   ·
    have hltz : decide ((k : Int) < (l0.length : Int)) = true := decide_eq_true (by omega)
    have hcap : l0.length ≤ cap := (Kd.R_reads' HO.out).2.1
    have hcapk : ¬ cap = k := by omega
    obtain ⟨⟨a1, a2⟩, _⟩ := CC.cells HO.out k hlt
    obtain ⟨⟨b1, b2⟩, _⟩ := CC.cells HO.out (k - 1) (by omega)
    have B := Aside0.mk (show l0.toArray[k]! = rd_T43 l0 (k : Int) ∧ l0.toArray[k - 1]! = rd_T43 l0 ((k - 1 : Nat) : Int) from ⟨CC.getb l0 k, CC.getb l0 (k - 1)⟩)
    generalize rd_T43 l0 (k : Int) = x at a1 a2 B
    generalize rd_T43 l0 ((k - 1 : Nat) : Int) = y at b1 b2 B
    by_cases hxy : x = y
    ·
     have hq : (x.f0 == y.f0 && (x.f1 == y.f1)) = true := by rw [CC.eqb]; exact decide_eq_true hxy
     go_wp2_with fail
     go_region_o
     have HO1 := Aside0.mk (Kd.R_drew HO.out)
     have HK1 := Aside0.mk (Kept.drew HK.out)
     have HB1 := Aside0.mk (below_drew1 HB.out)
     have BE := Aside0.mk (show l0.toArray[k]! = l0.toArray[k - 1]! by rw [B.out.1, B.out.2, hxy])
     clear a1 a2 b1 b2 HO HK HB B hq hxy
     go_wp2
     go_loopg [3, 5] l0.length (fun gg s3 s5 wq => ∃ (kk k2 : Nat) (xs : List S43), s3 = .int .i64 kk ∧ s5 = .int .i64 k2 ∧ 1 ≤ k2 ∧ k + k2 ≤ l0.length ∧ l0.length - (k + k2) ≤ gg ∧ Aside0 (Lib.CompInv l0.toArray (k + k2) kk xs.toArray) ∧ Aside0 (Kd.R k43 43 wq w0.heap.size (fun k_ => (P0_ k_ ∨ w.heap.size ≤ k_)) (.slice (some ⟨g, 0, none⟩) l0.length cap) xs) ∧ Aside0 (Kept w wq (fun k_ => P0_ k_)) ∧ Aside0 (Below w0.heap.size w0 wq))
     case atStart => exact ⟨k, 1, l0, rfl, rfl, Nat.le_refl _, by omega, by omega, ⟨Lib.CompInv.start A.out (Lib.keeps_neg (by omega) BE.out)⟩, HO1, HK1, HB1⟩
     case round =>
      clear HO1 HK1 HB1 A BE
      obtain ⟨kk, k2, xs, rfl, rfl, h1, hle, hg2, I, HO, HK, HB⟩ := hrel
      have hkk := I.out.lt
      have hxl : xs.length = l0.length := (Kd.R_reads' HO.out).1.symm
      have hcapk2 : ¬ cap = kk := by omega
      by_cases hlt2 : k + k2 < l0.length
      ·
       have hz2 : decide ((k2 : Int) < ((l0.length - k : Nat) : Int)) = true := decide_eq_true (by omega)
       obtain ⟨⟨m1, m2⟩, _⟩ := CC.cells HO.out (k + k2) (by omega)
       obtain ⟨⟨p1, p2⟩, _⟩ := CC.cells HO.out (k + k2 - 1) (by omega)
       obtain ⟨⟨o1, o2⟩, o3, o4⟩ := CC.cells HO.out kk (by omega)
       rw [show (k + k2) * 2 = k * 2 + k2 * 2 by omega] at m1 m2
       rw [show (k + k2 - 1) * 2 = k * 2 + (k2 - 1) * 2 by omega] at p1 p2
       have B := Aside0.mk (show l0.toArray[k + k2]! = rd_T43 xs ((k + k2 : Nat) : Int) ∧ l0.toArray[k + k2 - 1]! = rd_T43 xs ((k + k2 - 1 : Nat) : Int) from ⟨by rw [← CC.getb xs, I.out.high (k + k2) (by omega)], by rw [← CC.getb xs, I.out.high (k + k2 - 1) (by omega)]⟩)
       generalize rd_T43 xs ((k + k2 : Nat) : Int) = u at m1 m2 B
       generalize rd_T43 xs ((k + k2 - 1 : Nat) : Int) = v at p1 p2 B
       generalize rd_T43 xs ((kk : Nat) : Int) = z at o1 o2
       have HU := Aside0.mk (CC.put (Kd.R_drew HO.out) kk (by omega) u)
       by_cases huv : u = v
       ·
        have hq : (u.f0 == v.f0 && (u.f1 == v.f1)) = true := by rw [CC.eqb]; exact decide_eq_true huv
        have BE := Aside0.mk (show l0.toArray[k + k2]! = l0.toArray[k + k2 - 1]! by rw [B.out.1, B.out.2, huv])
        clear hkk hcapk2
        go_wp2_with fail
        go_region_o
        have HO1 := Aside0.mk (Kd.R_drew HO.out)
        have HK1 := Aside0.mk (Kept.drew HK.out)
        have HB1 := Aside0.mk (below_drew1 HB.out)
        clear m1 m2 p1 p2 o1 o2 o3 o4 HO HK HB B hq huv HU
        go_wp2
        go_roundg (l0.length - (k + (k2 + 1)))
        case measure => omega
        case rel => exact ⟨kk, k2 + 1, xs, rfl, by go_num, by omega, by omega, Nat.le_refl _, ⟨I.out.skip (Lib.keeps_neg (by omega) BE.out)⟩, HO1, HK1, HB1⟩
       ·
        have hq : (u.f0 == v.f0 && (u.f1 == v.f1)) = false := by rw [CC.eqb]; exact decide_eq_false huv
        have BE := Aside0.mk (show l0.toArray[k + k2]! ≠ l0.toArray[k + k2 - 1]! by rw [B.out.1, B.out.2]; exact huv)
        have hkl : (kk : Int) < (l0.length : Int) := by omega
        go_wp2_with fail
        go_region_o
        obtain ⟨hr1, hg1⟩ := CC.put HO.out kk (by omega) u
        have HO1 := Aside0.mk (Kd.R_drew hr1)
        have HK1 := Aside0.mk (Kept.drew (Kept.of_grown (S := (fun k_ => P0_ k_)) hg1 HK.out (fun k_ e_ => by injection e_ with e_; rw [← e_]; exact .inl HPg.out)))
        have HB1 := Aside0.mk (below_drew1 (HB.out.grown hg1 (below_size HB.out) (fun k_ e_ => by injection e_ with e_; rw [← e_]; exact HG.out)))
        have I1 := Aside0.mk (I.out.keep (show k + k2 < l0.toArray.size by simpa using hlt2) (Lib.keeps_pos BE.out))
        clear hr1 hg1 p1 p2 hq huv HU HO HK HB
        go_wp2
        clear m1 m2 o1 o2 o3 o4
        go_roundg (l0.length - (k + (k2 + 1)))
        case measure => omega
        case rel => exact ⟨kk + 1, k2 + 1, xs.set kk u, by go_num, by go_num, by omega, by omega, Nat.le_refl _, ⟨by
         have := I1.out
         rw [B.out.1, ← CC.setb] at this
         exact this⟩, HO1, HK1, HB1⟩
      ·
       have hz2 : decide ((k2 : Int) < ((l0.length - k : Nat) : Int)) = false := decide_eq_false (by omega)
       have hend : k + k2 = l0.length := by omega
       obtain ⟨m, hm⟩ : ∃ m, l0.length - kk = m + 1 := ⟨l0.length - kk - 1, by omega⟩
       have HT := Aside0.mk (Kd.R_take (m := kk) HO.out (by omega))
       have hcm : kk + (m + 1) ≤ cap := by omega
       have EC := Aside0.mk (show xs.take kk = Lib.compact l0 by
        have hI := I.out
        rw [hend] at hI
        have hl := hI.len
        unfold Lib.compact
        apply List.ext_getElem?
        intro j
        rw [List.getElem?_take]
        by_cases hj : j < kk
        ·
         rw [if_pos hj, hI.low j hj, CC.getb]
         rw [List.getElem?_eq_getElem (by omega)]
         simp [rd_T43, show j < xs.length by omega]
        ·
         rw [if_neg hj, List.getElem?_eq_none (by rw [hl]; omega)])
       have hkc : (kk : Int) ≤ (cap : Int) := by omega
       clear HO I
       go_wp2_with (first
        | ((with_reducible refine gate_ (.call { callee := .builtin .clear, args := #[.tmp 56], argTypes := #[24] }) rfl ?_); refine impl_Corner_53.clear_ev (d := k43) rfl rfl (.tmp 56) 24 43 rfl Tryz.underlying24 (z := .agg #[.int .i16 0, .int .i16 0]) (by kernel_rfl) (by rfl) (by simp [Value.cells, Value.oneCell']) (base := w0.heap.size) (g := g) (n := kk) (cap := cap) (m := m) (q := kk * 2) (c := cap - kk) (xs := xs.take kk) (ok := fun k_ => (P0_ k_ ∨ w.heap.size ≤ k_)) (by rw [← hm]; rfl) rfl hcm HT.out ?_; intro w40 ho hg; have HO1 := Aside0.mk ho; have HK1 := Aside0.mk (Kept.of_grown (S := (fun k_ => P0_ k_)) hg HK.out (fun k_ e_ => by injection e_ with e_; rw [← e_]; exact .inl HPg.out)); have HB1 := Aside0.mk (HB.out.grown hg (below_size HB.out) (fun k_ e_ => by injection e_ with e_; rw [← e_]; exact HG.out)); clear ho hg))
       go_ret
       exact ⟨_, rfl, by rw [← EC.out]; exact HO1.out, HB1.out, HK1.out⟩
    ·
     have hq : (x.f0 == y.f0 && (x.f1 == y.f1)) = false := by rw [CC.eqb]; exact decide_eq_false hxy
     have BE := Aside0.mk (show l0.toArray[k]! ≠ l0.toArray[k - 1]! by rw [B.out.1, B.out.2]; exact hxy)
     go_wp2_with fail
     go_region_o
     have HO1 := Aside0.mk (Kd.R_drew HO.out)
     have HK1 := Aside0.mk (Kept.drew HK.out)
     have HB1 := Aside0.mk (below_drew1 HB.out)
     clear a1 a2 b1 b2 HO HK HB B hq hxy
     go_wp2
     go_roundg (l0.length - (k + 1))
     case measure => omega
     case rel => exact ⟨k + 1, by omega, by omega, Nat.le_refl _, by go_num, ⟨fun j hj => by
      by_cases e : j = k
      ·
       subst e; exact Lib.keeps_pos BE.out
      ·
       exact A.out j (by omega)⟩, HO1, HK1, HB1⟩
   ·
    have hltz : decide ((k : Int) < (l0.length : Int)) = false := decide_eq_false (by omega)
    obtain rfl : k = l0.length := by omega
    have E := Aside0.mk (HS.out A.out)
    clear HS A
    go_wp2
    go_ret
    exact ⟨_, rfl, by rw [E.out]; exact HO.out, HB.out, HK.out⟩

end Go.Proofs.YthbogbaaikjhbaaGreatDoor.PA
