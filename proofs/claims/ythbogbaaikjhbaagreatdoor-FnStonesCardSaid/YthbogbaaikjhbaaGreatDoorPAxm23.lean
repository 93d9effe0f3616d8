/- Pure functions, and that Go's functions come to them. -/
import Derived.Test.YthbogbaaikjhbaaGreatDoorPAx0
import Derived.Test.YthbogbaaikjhbaaGreatDoorPAxm20
import Derived.Test.YthbogbaaikjhbaaGreatDoorPAxm25
import Derived.Test.YthbogbaaikjhbaaGreatDoorPAxf28
import Derived.Test.YthbogbaaikjhbaaGreatDoorShelf
import Derived.Test.YthbogbaaikjhbaaGreatDoorPAxm29
import Derived.Test.YthbogbaaikjhbaaGreatDoorPAxgImpl
import Derived.Test.YthbogbaaikjhbaaGreatDoorPAxm28
namespace Go.Proofs.YthbogbaaikjhbaaGreatDoor.PA
open Go.RowKit Go.Proofs.YthbogbaaikjhbaaGreatDoorW.PrintWords Go.Proofs.YthbogbaaikjhbaaGreatDoorW.PrintLast Go.Proofs.YthbogbaaikjhbaaGreatDoorW.PrintMore
set_option linter.unusedVariables false
set_option linter.unusedSimpArgs false

/-! ### spec_P6Stone: function 5 -/
def spec_P6Stone.f (k : Nat) (l0 : List Int) : Option ((List (S43))) := (spec_l00From.f l0).bind fun bt218 => ((spec_l00Src_pick.f bt218.1 bt218.2.1 bt218.2.2 9).bind fun bt222 => ((spec_l03Drawn.f k bt218.1 bt222.2.1 bt222.2.2 bt222.1 0).bind fun bt225 => (some bt225.1)))
theorem spec_P6Stone.mono : ∀ a0 k, LeO (spec_P6Stone.f k a0) (spec_P6Stone.f (k + 1) a0) := by
 intro a0 k
 unfold spec_P6Stone.f
 repeat' first | (with_reducible first | exact spec_l03Drawn.mono _ _ _ _ _ _ | exact LeO.refl _ | exact LeO.none _ | refine LeO.ite ?_ ?_ | refine LeO.bind ?_ (fun _ => ?_))
set_option maxHeartbeats 8000000 in
set_option maxRecDepth 100000 in
theorem spec_P6Stone.calls (k : Nat) (A0 : Option Addr) (c0 : Nat) (l0 : List Int) (r : List (S43)) (w : World) (hr0 : Kd.C (Kd.int .u8) w A0 l0.length l0) (hc0 : l0.length ≤ c0) (h : spec_P6Stone.f k l0 = some r) :
  Calls Tryz.prog 5 #[.slice A0 l0.length c0] w fun e w' => ∃ v0_ : Value, e = .returned (v0_) ∧ Kd.R k43 43 w' w.heap.size (fun _ => True) v0_ r ∧ Below w.heap.size w w' := by
 have HR0 := Aside0.mk hr0
 have HC0 := Aside0.mk hc0
 clear hr0 hc0
 have HB := Aside0.mk (Below.refl w.heap.size w)
 have H : ((spec_l00From.f l0).bind fun bt218 => ((spec_l00Src_pick.f bt218.1 bt218.2.1 bt218.2.2 9).bind fun bt222 => ((spec_l03Drawn.f k bt218.1 bt222.2.1 bt222.2.2 bt222.1 0).bind fun bt225 => (some bt225.1)))) = some r := h
 clear h
 obtain ⟨⟨t218, t219, t220⟩, A2, H⟩ := be_ H
 (try dsimp only at H)
 obtain ⟨⟨t222, t223, t224⟩, A3, H⟩ := be_ H
 (try dsimp only at H)
 obtain ⟨⟨t225, t228, t229⟩, A4, H⟩ := be_ H
 (try dsimp only at H)
 obtain rfl := Option.some.inj H
 go_enter Tryz.func5, Tryz.ntmps5
 go_wp2_with (first | ((with_reducible refine gate_callee (f := 26) rfl ?_); refine goM_ (some 6) Tryz.func26 #[.slice A0 l0.length c0] ?_; (with_reducible refine (spec_l00From.calls _ _ l0 t218 t219 t220 w _ ?side1 ?side2 ?side3 A2.out).mono ?_); (case side1 => repeat (first | (with_reducible first | exact HB.out | apply below_alloc | apply pw_below_drewN | apply below_drew1) | exact HB.out)); (case side2 => exact HR0.out); (case side3 => exact HC0.out); rintro e w5 ⟨g221, rfl, hi, hb, hb2⟩; refine ⟨_, rfl, ?_⟩; replace HB := Aside0.mk (hb); have HI221 := Aside0.mk (hi); clear hb; clear hb2; clear hi) | ((with_reducible refine gate_callee (f := 27) rfl ?_); refine goM_ (some 8) Tryz.func27 #[.pointer (some ⟨g221, 0, none⟩), .int .i64 9] ?_; (with_reducible refine (spec_l00Src_pick.calls g221 t218 t219 t220 9 t222 t223 t224 w _ ?side1 ?side2 A3.out).mono ?_); (case side1 => repeat (first | (with_reducible first | exact HI221.out | apply IsS80.alloc | apply IsS80.drewN | apply IsS80.drew | apply IsS80.set_1 | apply IsS80.set_2) | exact HI221.out)); (case side2 => repeat (first | (with_reducible first | exact HB.out | apply below_alloc | apply pw_below_drewN | apply below_drew1 | refine below_set ?_ (IsS80.ge HI221.out)) | exact HB.out)); rintro e w6 ⟨rfl, hi, hb, hk⟩; refine ⟨_, rfl, ?_⟩; replace HB := Aside0.mk (hb); replace HI221 := Aside0.mk (hi); clear hb; clear hk; clear hi) | ((with_reducible refine gate_callee (f := 28) rfl ?_); refine goM_ (some 11) Tryz.func28 #[.pointer (some ⟨g221, 0, none⟩), .int .i64 t222, .int .i64 0] ?_; (with_reducible refine (spec_l03Drawn.calls k g221 t218 t223 t224 t222 0 t225 t228 t229 w _ ?side1 ?side2 A4.out).mono ?_); (case side1 => repeat (first | (with_reducible first | exact HI221.out | apply IsS80.alloc | apply IsS80.drewN | apply IsS80.drew | apply IsS80.set_1 | apply IsS80.set_2) | exact HI221.out)); (case side2 => repeat (first | (with_reducible first | exact HB.out | apply below_alloc | apply pw_below_drewN | apply below_drew1 | refine below_set ?_ (IsS80.ge HI221.out)) | exact HB.out)); rintro e w7 ⟨v226, rfl, ho0, hi, hb, hk⟩; refine ⟨_, rfl, ?_⟩; have HO227 := Aside0.mk (Kd.R_lower ho0 (below_size (by repeat (first | (with_reducible first | exact HB.out | apply below_alloc | apply pw_below_drewN | apply below_drew1 | refine below_set ?_ (IsS80.ge HI221.out)) | exact HB.out)))); replace HB := Aside0.mk (hb); replace HI221 := Aside0.mk (hi); clear hb; clear hk; clear hi; (try clear ho0)))
 go_ret
 exact ⟨_, by first | rfl | (simp [errW_none, errW_some] <;> rfl) | (simp [*, errW_none, errW_some] <;> rfl), by (with_reducible repeat (first | apply Kd.R_alloc | apply Kd.R_drewN | apply Kd.R_drew)); exact HO227.out, by repeat (first | (with_reducible first | exact HB.out | apply below_alloc | apply pw_below_drewN | apply below_drew1 | refine below_set ?_ (IsS80.ge HI221.out)) | exact HB.out)⟩


/-! ### impl_readDecimal: function 31 -/
def impl_readDecimal.fin (v : Int) (a0 : ByteArray) (a1 a2 : Int) : Option (Int × Bool) := (impl_decimal.f v).bind fun t => if t.toList = a0.toList then (impl_within.f v a1 a2).bind fun u => some (v, u) else some (v, false)
def impl_readDecimal.f (a0 : ByteArray) (a1 a2 : Int) : Option (Int × Bool) := if a0.size ≤ 281474976710656 then (match Lib.parseIntB 64 a0.data.toList with | .ok v => impl_readDecimal.fin v a0 a1 a2 | .syntax => some (0, false) | .range => some (Lib.intSat 64 a0.data.toList, false)) else none
theorem impl_readDecimal.parse_ok (a0 : ByteArray) (v : Int) (w : World) (hs : a0.size ≤ 281474976710656) (h : Lib.parseIntB 64 a0.data.toList = .ok v) :
  Calls Tryz.prog 63 #[.string a0, .int .i64 10, .int .i64 64] w fun e w' => e = .returned (.tuple #[.int .i64 v, .nilIface]) ∧ Below w.heap.size w w' :=
 (Any.strconv_ParseInt_10_at64_ok Tryz.laysC174 a0 (by omega) v h w).mono fun e w' ⟨he, hw⟩ => ⟨he, by
  rcases hw with rfl | ⟨t, rfl⟩
  ·
   exact Below.refl _ _
  ·
   exact Lib.bytesWorld_below _ _ _⟩
theorem impl_readDecimal.parse_bad (a0 : ByteArray) (v : Int) (w : World) (hT : Tables.TabT w) (hs : a0.size ≤ 281474976710656) (h : (Lib.parseIntB 64 a0.data.toList = .«syntax» ∧ v = 0) ∨ (Lib.parseIntB 64 a0.data.toList = .range ∧ v = Lib.intSat 64 a0.data.toList)) :
  Calls Tryz.prog 63 #[.string a0, .int .i64 10, .int .i64 64] w fun e w' => ∃ N, e = .returned (.tuple #[.int .i64 v, .iface 127 (.pointer (some ⟨N, 0, none⟩))]) ∧ Below w.heap.size w w' := by
 rcases h with ⟨h, rfl⟩ | ⟨h, rfl⟩
 ·
  obtain ⟨tp, p, hv⟩ := hT.syn
  exact (Any.strconv_ParseInt_10_at64_syntax Tryz.laysC174 a0 hs h _ w hv (.inr ⟨tp, p, rfl⟩)).mono fun e w' ⟨N, he, _, _, hb⟩ => ⟨N, he, hb⟩
 ·
  obtain ⟨tp, p, hv⟩ := hT.rng
  exact (Any.strconv_ParseInt_10_at64_range Tryz.laysC174 a0 hs h _ w hv (.inr ⟨tp, p, rfl⟩)).mono fun e w' ⟨N, he, _, _, hb⟩ => ⟨N, he, hb⟩
set_option maxHeartbeats 4000000 in
set_option maxRecDepth 100000 in
theorem impl_readDecimal.bad (a0 : ByteArray) (a1 a2 : Int) (v : Int) (w : World) (hT : Tables.TabT w) (hs : a0.size ≤ 281474976710656) (h : (Lib.parseIntB 64 a0.data.toList = .«syntax» ∧ v = 0) ∨ (Lib.parseIntB 64 a0.data.toList = .range ∧ v = Lib.intSat 64 a0.data.toList)) :
  Calls Tryz.prog 31 #[.string a0, .int .i64 a1, .int .i64 a2] w fun e w' => e = .returned (.tuple #[.int .i64 v, .bool false]) ∧ Below w.heap.size w w' := by
 have HP := Aside0.mk (impl_readDecimal.parse_bad a0 v w hT hs h)
 clear h hT
 go_enter Tryz.func31, Tryz.ntmps31
 go_wp2_with (go_at_call 63; refine HP.out.mono ?_; rintro e w1 ⟨N, rfl, hb⟩; have HB := Aside0.mk hb; clear hb)
 go_ret2
 exact ⟨rfl, bl_ HB⟩
set_option maxHeartbeats 4000000 in
set_option maxRecDepth 100000 in
theorem impl_readDecimal.good (a0 : ByteArray) (a1 a2 : Int) (v : Int) (r1 : Int) (r2 : Bool) (w : World) (hT : Tables.TabT w) (hs : a0.size ≤ 281474976710656) (hp : Lib.parseIntB 64 a0.data.toList = .ok v) (h : impl_readDecimal.fin v a0 a1 a2 = some (r1, r2)) :
  Calls Tryz.prog 31 #[.string a0, .int .i64 a1, .int .i64 a2] w fun e w' => e = .returned (.tuple #[.int .i64 r1, .bool r2]) ∧ Below w.heap.size w w' := by
 have HP := Aside0.mk (impl_readDecimal.parse_ok a0 v w hs hp)
 have HT := Aside0.mk hT
 clear hp hT
 unfold impl_readDecimal.fin at h
 obtain ⟨t, A0, h⟩ := Option.bind_eq_some_iff.1 h
 have A1 := Aside0.mk A0
 clear A0
 by_cases ce : t.toList = a0.toList
 ·
  rw [if_pos ce] at h
  obtain ⟨u, B0, h⟩ := Option.bind_eq_some_iff.1 h
  have B1 := Aside0.mk B0
  clear B0
  have h := Option.some.inj h
  rw [Prod.mk.injEq] at h
  obtain ⟨rfl, rfl⟩ := h
  have c8b0 : (t.toList == a0.toList) = true := beq_iff_eq.mpr ce
  have c8b1 : (t.toList != a0.toList) = false := bne_eq_false_iff_eq.mpr ce
  clear ce
  go_enter Tryz.func31, Tryz.ntmps31
  go_wp2_with (first | (go_at_call 63; refine HP.out.mono ?_; rintro e w1 ⟨rfl, hb⟩; have HB := Aside0.mk hb; clear hb) | (go_at_call 32; refine (impl_decimal.calls v t _ (Tables.tabT_below HT.out (kB_ HB)) A1.out).mono ?_; rintro e w2 ⟨rfl, hb⟩; have n1_ := bs_ HB hb; clear HB; have HB := n1_; clear n1_; clear hb) | (go_at_call 41; refine (impl_within.calls v a1 a2 u _ B1.out).mono ?_; rintro e w3 ⟨rfl, nd, rfl⟩))
  go_ret2
  exact ⟨by first | rfl | (simp; done) | (simp [*]; done), bl_ HB⟩
 ·
  rw [if_neg ce] at h
  have h := Option.some.inj h
  rw [Prod.mk.injEq] at h
  obtain ⟨rfl, rfl⟩ := h
  have c8b0 : (t.toList == a0.toList) = false := beq_eq_false_iff_ne.mpr ce
  have c8b1 : (t.toList != a0.toList) = true := bne_iff_ne.mpr ce
  clear ce
  go_enter Tryz.func31, Tryz.ntmps31
  go_wp2_with (first | (go_at_call 63; refine HP.out.mono ?_; rintro e w1 ⟨rfl, hb⟩; have HB := Aside0.mk hb; clear hb) | (go_at_call 32; refine (impl_decimal.calls v t _ (Tables.tabT_below HT.out (kB_ HB)) A1.out).mono ?_; rintro e w2 ⟨rfl, hb⟩; have n1_ := bs_ HB hb; clear HB; have HB := n1_; clear n1_; clear hb))
  go_ret2
  exact ⟨by first | rfl | (simp; done) | (simp [*]; done), bl_ HB⟩
theorem impl_readDecimal.calls (a0 : ByteArray) (a1 a2 : Int) (r1 : Int) (r2 : Bool) (w : World) (hT : Tables.TabT w) (h : impl_readDecimal.f a0 a1 a2 = some (r1, r2)) :
  Calls Tryz.prog 31 #[.string a0, .int .i64 a1, .int .i64 a2] w fun e w' => e = .returned (.tuple #[.int .i64 r1, .bool r2]) ∧ Below w.heap.size w w' := by
 unfold impl_readDecimal.f at h
 rcases (Decidable.em (a0.size ≤ 281474976710656)).symm with c0 | c0
 ·
  rw [if_neg c0] at h
  exact absurd h (by simp)

 rw [if_pos c0] at h
 cases hp : Lib.parseIntB 64 a0.data.toList with
 | ok v => rw [hp] at h; exact impl_readDecimal.good a0 a1 a2 v r1 r2 w hT c0 hp h
 | «syntax» =>
  rw [hp] at h
  have h := Option.some.inj h
  rw [Prod.mk.injEq] at h
  obtain ⟨rfl, rfl⟩ := h
  exact impl_readDecimal.bad a0 a1 a2 0 w hT c0 (.inl ⟨hp, rfl⟩)
 | range =>
  rw [hp] at h
  have h := Option.some.inj h
  rw [Prod.mk.injEq] at h
  obtain ⟨rfl, rfl⟩ := h
  exact impl_readDecimal.bad a0 a1 a2 _ w hT c0 (.inr ⟨hp, rfl⟩)

/-! ### spec_P6Corners: function 23 -/
def spec_P6Corners.l0 : Nat → List (S43) → Int → List Int → Int → Int → Option ((List (S43)))
 | 0, _, _, _, _, _ => none
 | k + 1, x4, x5, x488000, x488001, x488002 => if x5 > 0 then ((spec_l03Near.f x488000 x488001 x488002 0 0 7).bind fun bt494 => (if x4.length < 35184372088832 then (spec_P6Corners.l0 k (x4 ++ [(⟨bt494.1, bt494.2.1⟩ : S43)]) (wrap64 (x5 - 1)) x488000 bt494.2.2.1 bt494.2.2.2) else (none))) else (some x4)
def spec_P6Corners.f (k : Nat) (l0 : List Int) : Option ((List (S43))) := (spec_l00From.f l0).bind fun bt484 => ((spec_l00Src_pick.f bt484.1 bt484.2.1 bt484.2.2 10).bind fun bt491 => (spec_P6Corners.l0 k (([] : List (S43))) bt491.1 bt484.1 bt491.2.1 bt491.2.2))
theorem spec_P6Corners.mono_l : ∀ k, (∀ y0 y1 y2 y3 y4, LeO (spec_P6Corners.l0 k y0 y1 y2 y3 y4) (spec_P6Corners.l0 (k + 1) y0 y1 y2 y3 y4))
 | 0 => fun _ _ _ _ _ r h => by simp [spec_P6Corners.l0] at h
 | k + 1 => by
  have ih0 := spec_P6Corners.mono_l k
  ·
   intro y0 y1 y2 y3 y4
   unfold spec_P6Corners.l0
   repeat' first | (with_reducible first | exact ih0 _ _ _ _ _ | exact LeO.refl _ | exact LeO.none _ | refine LeO.ite ?_ ?_ | refine LeO.bind ?_ (fun _ => ?_))
theorem spec_P6Corners.mono : ∀ a0 k, LeO (spec_P6Corners.f k a0) (spec_P6Corners.f (k + 1) a0) := by
 intro a0 k
 have ih0 := spec_P6Corners.mono_l k
 unfold spec_P6Corners.f
 repeat' first | (with_reducible first | exact ih0 _ _ _ _ _ | exact LeO.refl _ | exact LeO.none _ | refine LeO.ite ?_ ?_ | refine LeO.bind ?_ (fun _ => ?_))
set_option maxHeartbeats 8000000 in
set_option maxRecDepth 100000 in
theorem spec_P6Corners.calls (k : Nat) (A0 : Option Addr) (c0 : Nat) (l0 : List Int) (r : List (S43)) (w : World) (hr0 : Kd.C (Kd.int .u8) w A0 l0.length l0) (hc0 : l0.length ≤ c0) (h : spec_P6Corners.f k l0 = some r) :
  Calls Tryz.prog 23 #[.slice A0 l0.length c0] w fun e w' => ∃ v0_ : Value, e = .returned (v0_) ∧ Kd.R k43 43 w' w.heap.size (fun _ => True) v0_ r ∧ Below w.heap.size w w' := by
 have HR0 := Aside0.mk hr0
 have HC0 := Aside0.mk hc0
 clear hr0 hc0
 have HB := Aside0.mk (Below.refl w.heap.size w)
 have H : ((spec_l00From.f l0).bind fun bt484 => ((spec_l00Src_pick.f bt484.1 bt484.2.1 bt484.2.2 10).bind fun bt491 => (spec_P6Corners.l0 k (([] : List (S43))) bt491.1 bt484.1 bt491.2.1 bt491.2.2))) = some r := h
 clear h
 obtain ⟨⟨t484, t485, t486⟩, A2, H⟩ := be_ H
 (try dsimp only at H)
 obtain ⟨y488, hy488⟩ : ∃ y_ : List (S43), y_ = (([] : List (S43))) := ⟨_, rfl⟩
 replace H : ((spec_l00Src_pick.f t484 t485 t486 10).bind fun bt491 => (spec_P6Corners.l0 k y488 bt491.1 t484 bt491.2.1 bt491.2.2)) = some r := by first | (rw [hy488]; with_reducible exact H) | (have H2_ := (Option.bind_some _ _).symm.trans H; rw [hy488]; with_reducible exact H2_) | (have H2_ := (Option.bind_some _ _).symm.trans H; with_reducible exact H2_) | with_reducible exact H | (rw [hy488]; exact H) | exact H
 have Ny488 := Aside0.mk hy488
 clear hy488
 obtain ⟨⟨t491, t492, t493⟩, A3, H⟩ := be_ H
 (try dsimp only at H)
 have H' := Aside0.mk H
 clear H
 go_enter Tryz.func23, Tryz.ntmps23
 go_wp2_with (first | ((with_reducible refine gate_callee (f := 26) rfl ?_); refine goM_ (some 7) Tryz.func26 #[.slice A0 l0.length c0] ?_; (with_reducible refine (spec_l00From.calls _ _ l0 t484 t485 t486 w _ ?side1 ?side2 ?side3 A2.out).mono ?_); (case side1 => repeat (first | (with_reducible first | exact HB.out | apply below_alloc | apply pw_below_drewN | apply below_drew1) | exact HB.out)); (case side2 => exact HR0.out); (case side3 => exact HC0.out); rintro e w4 ⟨g487, rfl, hi, hb, hb2⟩; refine ⟨_, rfl, ?_⟩; replace HB := Aside0.mk (hb); have HI487 := Aside0.mk (hi); clear hb; clear hb2; clear hi) | ((with_reducible refine gate_dst (N := 8) rfl ?_); refine Kd.R_lit k43 _ 43 ?hg (N := 8) ?hd (xs := ([] : List (S43))) (inner := []) (ok := fun _ => True) (okp := fun _ => True) ?hr ?hp (fun _ hk => hk) trivial (Below.refl _ _) (Nat.le_refl _) (by simp) ?_; (case hd => rfl); (case hg => rfl); (case hr => first | (go_simp; done) | (go_simp; rfl)); (case hp => exact (Reps.none _ _)); intro v489 w5 ho6 hb hg_ hnew_; clear hg_ hnew_; (first | rw [← Ny488.out] at ho6 | (simp only [Int.reduceToNat] at ho6; rw [← Ny488.out] at ho6)); have HO490 := Aside0.mk (Kd.R_lower ho6 (below_size (by repeat (first | (with_reducible first | exact HB.out | apply below_alloc | apply pw_below_drewN | apply below_drew1 | refine below_set ?_ (IsS80.ge HI487.out)) | exact HB.out)))); replace HB := Aside0.mk (below_step (by repeat (first | (with_reducible first | exact HB.out | apply below_alloc | apply pw_below_drewN | apply below_drew1 | refine below_set ?_ (IsS80.ge HI487.out)) | exact HB.out)) hb); replace HI487 := Aside0.mk (IsS80.below (by repeat (first | (with_reducible first | exact HI487.out | apply IsS80.alloc | apply IsS80.drewN | apply IsS80.drew | apply IsS80.set_1 | apply IsS80.set_2) | exact HI487.out)) hb); clear hb ho6) | ((with_reducible refine gate_callee (f := 27) rfl ?_); refine goM_ (some 10) Tryz.func27 #[.pointer (some ⟨g487, 0, none⟩), .int .i64 10] ?_; (with_reducible refine (spec_l00Src_pick.calls g487 t484 t485 t486 10 t491 t492 t493 w _ ?side1 ?side2 A3.out).mono ?_); (case side1 => repeat (first | (with_reducible first | exact HI487.out | apply IsS80.alloc | apply IsS80.drewN | apply IsS80.drew | apply IsS80.set_1 | apply IsS80.set_2) | exact HI487.out)); (case side2 => repeat (first | (with_reducible first | exact HB.out | apply below_alloc | apply pw_below_drewN | apply below_drew1 | refine below_set ?_ (IsS80.ge HI487.out)) | exact HB.out)); rintro e w7 ⟨rfl, hi, hb, hk⟩; refine ⟨_, rfl, ?_⟩; replace HO490 := Aside0.mk (Kd.R_mono (Kd.R_keep (IsS80.apart (show IsS80 w _ g487 t484 t485 t486 from by repeat (first | (with_reducible first | exact HI487.out | apply IsS80.alloc | apply IsS80.drewN | apply IsS80.drew | apply IsS80.set_1 | apply IsS80.set_2) | exact HI487.out)) (kp_ HO490) (by decide)) hk (fun _ h => h.2)) (fun _ h => h.1)); replace HB := Aside0.mk (hb); replace HI487 := Aside0.mk (hi); clear hb; clear hk; clear hi))
 go_loopg [4, 5] k (fun kq v4 v5 w' => ∃ (x4_1 : List (S43)) (x5_1 : Int) (x488001_1 : Int) (x488002_1 : Int), v5 = .int .i64 x5_1 ∧ Aside0 (spec_P6Corners.l0 kq x4_1 x5_1 t484 x488001_1 x488002_1 = some r) ∧ Aside0 (kq ≤ k) ∧ Aside0 (Kd.R k43 43 w' w.heap.size (fun _ => True) v4 x4_1) ∧ Aside0 (IsS80 w w' g487 t484 x488001_1 x488002_1) ∧ Aside0 (Below w.heap.size w w'))
 case atStart => exact ⟨(y488), (t491), (t492), (t493), (by first | rfl | (simp; done) | (simp [*]; done)), H', ⟨Nat.le_refl _⟩, ⟨kp_ HO490⟩, ⟨by repeat (first | (with_reducible first | exact HI487.out | apply IsS80.alloc | apply IsS80.drewN | apply IsS80.drew | apply IsS80.set_1 | apply IsS80.set_2) | exact HI487.out)⟩, ⟨by repeat (first | (with_reducible first | exact HB.out | apply below_alloc | apply pw_below_drewN | apply below_drew1 | refine below_set ?_ (IsS80.ge HI487.out)) | exact HB.out)⟩⟩
 case round =>
  clear H'
  obtain ⟨x4_1, x5_1, x488001_1, x488002_1, rfl, HA, HK1, HO_4, HI487, HB⟩ := hrel
  rcases gk with _ | k1
  · exact absurd HA.out (by simp [spec_P6Corners.l0])
  have H := HA.out
  clear HA
  simp only [spec_P6Corners.l0] at H
  rcases (Decidable.em (x5_1 > 0)).symm with c8 | c8
  ·
   rw [if_neg c8] at H
   have c8b0 : decide (0 < x5_1) = false := decide_eq_false c8
   clear c8
   obtain rfl := Option.some.inj H
   go_wp2
   go_ret
   exact ⟨_, by first | rfl | (simp [errW_none, errW_some] <;> rfl) | (simp [*, errW_none, errW_some] <;> rfl), by (with_reducible repeat (first | apply Kd.R_alloc | apply Kd.R_drewN | apply Kd.R_drew)); exact HO_4.out, by repeat (first | (with_reducible first | exact HB.out | apply below_alloc | apply pw_below_drewN | apply below_drew1 | refine below_set ?_ (IsS80.ge HI487.out)) | exact HB.out)⟩

  rw [if_pos c8] at H
  have c8b0 : decide (0 < x5_1) = true := decide_eq_true c8
  clear c8
  obtain ⟨⟨t494, t495, t496, t497⟩, A9, H⟩ := be_ H
  (try dsimp only at H)
  obtain ⟨(c10 : x4_1.length < 35184372088832), H⟩ := gd_ H
  have LMc10 := Aside0.mk c10
  clear c10
  obtain ⟨y498, hy498⟩ : ∃ y_ : List (S43), y_ = (x4_1 ++ [(⟨t494, t495⟩ : S43)]) := ⟨_, rfl⟩
  replace H : (spec_P6Corners.l0 k1 y498 (wrap64 (x5_1 - 1)) t484 t496 t497) = some r := by first | (rw [hy498]; with_reducible exact H) | (have H2_ := (Option.bind_some _ _).symm.trans H; rw [hy498]; with_reducible exact H2_) | (have H2_ := (Option.bind_some _ _).symm.trans H; with_reducible exact H2_) | with_reducible exact H | (rw [hy498]; exact H) | exact H
  have Ny498 := Aside0.mk hy498
  clear hy498
  have H' := Aside0.mk H
  clear H
  go_wp2_with (first | ((with_reducible refine gate_callee (f := 47) rfl ?_); refine goM_ (some 17) Tryz.func47 #[.pointer (some ⟨g487, 0, none⟩), .int .i64 0, .int .i64 0, .int .i64 7] ?_; (with_reducible refine (spec_l03Near.calls g487 t484 x488001_1 x488002_1 0 0 7 t494 t495 t496 t497 w _ ?side1 ?side2 A9.out).mono ?_); (case side1 => repeat (first | (with_reducible first | exact HI487.out | apply IsS80.alloc | apply IsS80.drewN | apply IsS80.drew | apply IsS80.set_1 | apply IsS80.set_2) | exact HI487.out)); (case side2 => repeat (first | (with_reducible first | exact HB.out | apply below_alloc | apply pw_below_drewN | apply below_drew1 | refine below_set ?_ (IsS80.ge HI487.out)) | exact HB.out)); rintro e w11 ⟨rfl, hi, hb, hk⟩; refine ⟨_, rfl, ?_⟩; replace HO_4 := Aside0.mk (Kd.R_mono (Kd.R_keep (IsS80.apart (show IsS80 w _ g487 t484 x488001_1 x488002_1 from by repeat (first | (with_reducible first | exact HI487.out | apply IsS80.alloc | apply IsS80.drewN | apply IsS80.drew | apply IsS80.set_1 | apply IsS80.set_2) | exact HI487.out)) (kp_ HO_4) (by decide)) hk (fun _ h => h.2)) (fun _ h => h.1)); replace HB := Aside0.mk (hb); replace HI487 := Aside0.mk (hi); clear hb; clear hk; clear hi) | ((with_reducible refine gate_builtin (b := .append) (xs := #[.tmp 15, .tmp 18]) rfl ?_); at_builtin; refine Kd.R_append k43 (w0 := w) w.heap.size rfl (.tmp 15) (.tmp 18) 24 43 (.agg #[(.int .i16 0), (.int .i16 0)]) 4 rfl Tryz.underlying24 info43 rfl (by decide) (by omega) u4 x4_1 (⟨t494, t495⟩ : S43) [.int .i16 t494, .int .i16 t495] (fun _ => True) (fun _ => False) rfl rfl ?aP (fun _ hk => hk.elim) ?aF ?aO ?aB ?aS ?aL ?_; (case aP => exact k43_mkM _ _ _ (⟨t494, t495⟩ : S43)); (case aB => exact (by repeat (first | (with_reducible first | exact HB.out | apply below_alloc | apply pw_below_drewN | apply below_drew1 | refine below_set ?_ (IsS80.ge HI487.out)) | exact HB.out))); (case aF => exact (fun _ _ => trivial)); (case aO => exact (kp_ HO_4)); (case aS => exact (below_size (by repeat (first | (with_reducible first | exact HB.out | apply below_alloc | apply pw_below_drewN | apply below_drew1 | refine below_set ?_ (IsS80.ge HI487.out)) | exact HB.out)))); (case aL => have := LMc10.out; omega); intro v499 w12 ho hb hg hat; rw [← Ny498.out] at ho; have n0_ := Aside0.mk (IsS80.grown (by repeat (first | (with_reducible first | exact HI487.out | apply IsS80.alloc | apply IsS80.drewN | apply IsS80.drew | apply IsS80.set_1 | apply IsS80.set_2) | exact HI487.out)) hg (IsS80.own_ne HI487.out HO_4.out (by decide))); have n1_ := Aside0.mk (hb); have n2_ := Aside0.mk (ho); clear HI487; clear HB; clear HO_4; have HI487 := n0_; have HB := n1_; have HO500 := n2_; clear n0_ n1_ n2_; clear ho hb hg hat))
  go_roundg k1
  case measure => have := HK1.out; omega
  case rel => exact ⟨(y498), (wrap64 (x5_1 - 1)), (t496), (t497), (by first | rfl | (simp; done) | (simp [*]; done)), H', ⟨by have := HK1.out; omega⟩, ⟨kp_ HO500⟩, ⟨by repeat (first | (with_reducible first | exact HI487.out | apply IsS80.alloc | apply IsS80.drewN | apply IsS80.drew | apply IsS80.set_1 | apply IsS80.set_2) | exact HI487.out)⟩, ⟨by repeat (first | (with_reducible first | exact HB.out | apply below_alloc | apply pw_below_drewN | apply below_drew1 | refine below_set ?_ (IsS80.ge HI487.out)) | exact HB.out)⟩⟩
end Go.Proofs.YthbogbaaikjhbaaGreatDoor.PA
