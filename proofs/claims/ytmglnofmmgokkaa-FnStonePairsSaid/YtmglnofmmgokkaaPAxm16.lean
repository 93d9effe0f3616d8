/- Pure functions, and that Go's functions come to them. -/
import Derived.Test.YtmglnofmmgokkaaPAx0
import Derived.Test.YtmglnofmmgokkaaPAxm20
import Derived.Test.YtmglnofmmgokkaaPAxm15
import Derived.Test.YtmglnofmmgokkaaPAxf24
namespace Go.Proofs.Ytmglnofmmgokkaa.PA
open Go.RowKit Go.Proofs.YtmglnofmmgokkaaW.PrintWords Go.Proofs.YtmglnofmmgokkaaW.PrintLast Go.Proofs.YtmglnofmmgokkaaW.PrintMore
set_option linter.unusedVariables false
set_option linter.unusedSimpArgs false

/-! ### spec_SameStone: function 16 -/
def spec_SameStone.f (k : Nat) (l0 : List (S34)) (l1 : List (S34)) : Option (Bool) := (spec_l03Same.f k l0 l1).bind fun t422 => (some t422)
theorem spec_SameStone.mono : ∀ a0 a1 k, LeO (spec_SameStone.f k a0 a1) (spec_SameStone.f (k + 1) a0 a1) := by
 intro a0 a1 k
 unfold spec_SameStone.f
 repeat' first | (with_reducible first | exact spec_l03Same.mono _ _ _ | exact LeO.refl _ | exact LeO.none _ | refine LeO.ite ?_ ?_ | refine LeO.bind ?_ (fun _ => ?_))
set_option maxHeartbeats 8000000 in
set_option maxRecDepth 100000 in
theorem spec_SameStone.calls (k : Nat) (A0 : Option Addr) (c0 : Nat) (l0 : List (S34)) (A1 : Option Addr) (c1 : Nat) (l1 : List (S34)) (r : Bool) (w : World) (hr0 : Kd.C k34 w A0 l0.length l0) (hc0 : l0.length ≤ c0) (hr1 : Kd.C k34 w A1 l1.length l1) (hc1 : l1.length ≤ c1) (h : spec_SameStone.f k l0 l1 = some r) :
  Calls Try.prog 16 #[.slice A0 l0.length c0, .slice A1 l1.length c1] w fun e w' => e = .returned (.bool r) ∧ Drawn0 w w' := by
 have HR0 := Aside0.mk hr0
 have HC0 := Aside0.mk hc0
 clear hr0 hc0
 have HR1 := Aside0.mk hr1
 have HC1 := Aside0.mk hc1
 clear hr1 hc1
 have H : ((spec_l03Same.f k l0 l1).bind fun t422 => (some t422)) = some r := h
 clear h
 obtain ⟨t422, A3, H⟩ := be_ H
 (try dsimp only at H)
 obtain rfl := Option.some.inj H
 go_enter Try.func16, Try.ntmps16
 go_wp2_with (first | ((with_reducible refine gate_callee (f := 39) rfl ?_); refine goM_ (some 7) Try.func39 #[.slice A0 l0.length c0, .slice A1 l1.length c1] ?_; (with_reducible refine (spec_l03Same.calls k _ _ l0 _ _ l1 t422 _ ?side1 ?side2 ?side3 ?side4 A3.out).mono ?_); (case side1 => exact kc_ HR0.out); (case side2 => exact HC0.out); (case side3 => exact kc_ HR1.out); (case side4 => exact HC1.out); rintro e w' ⟨rfl, ⟨nd, rfl⟩⟩; refine ⟨_, rfl, ?_⟩))
 go_ret
 exact ⟨by first | rfl | (simp; done) | (simp [*]; done), by repeat (first | exact Drawn0.refl _ | apply Drawn0.step)⟩


/-! ### impl_Corner_70: function 70 -/
def impl_Corner_70.f (n : Int) : Option (List S34) := if 0 ≤ n then (if n < 1048576 then some [] else none) else none
set_option maxHeartbeats 4000000 in
set_option maxRecDepth 100000 in
theorem impl_Corner_70.calls (n : Int) (r : List S34) (w : World) (h : impl_Corner_70.f n = some r) :
  Calls Try.prog 70 #[.slice none 0 0, .int .i64 n] w fun e w' => ∃ v0_ : Value, e = .returned (v0_) ∧ Kd.R k34 34 w' w.heap.size (fun _ => True) v0_ r ∧ Below w.heap.size w w' := by
 unfold impl_Corner_70.f at h
 rcases (Decidable.em (0 ≤ n)).symm with c0 | c0
 ·
  rw [if_neg c0] at h; exact absurd h (by simp)

 rw [if_pos c0] at h
 rcases (Decidable.em (n < 1048576)).symm with c1 | c1
 ·
  rw [if_neg c1] at h; exact absurd h (by simp)
 rw [if_pos c1] at h
 obtain rfl := Option.some.inj h
 clear h
 have b0 : decide (n < 0) = false := decide_eq_false (by omega)
 have b1 : wrap64 n = n := IntWalk.wrap64_in n ⟨by omega, by omega⟩
 replace c0 : 0 ≤ wrap64 n := by omega
 replace c1 : wrap64 n < 1048576 := by omega
 by_cases c2 : 0 < wrap64 n
 ·
  have b2 : decide (0 < wrap64 n) = true := decide_eq_true c2
  have c0' := Aside0.mk c0
  have c1' := Aside0.mk c1
  have c2' := Aside0.mk c2
  clear b1
  obtain ⟨i0, hi0, _, hsz, _⟩ := info_parts info34
  clear c0 c1 c2
  go_enter Try.func70, Try.ntmps70
  go_wp2_with (first | (at_builtin; refine Kd.R_append_zeros k34 (w0 := w) w.heap.size rfl (.tmp 20) (.tmp 21) 25 3 34 (.agg #[.int .i16 0, .int .i16 0]) 4 rfl Try.underlying25 Try.underlying3 info34 rfl (by decide) (by omega) (.slice none 0 0) [] z34 (wrap64 n) (fun _ => True) rfl rfl (k34_mkM _ _ _ z34) (fun _ _ => trivial) (Kd.R_nil _ _ _ _ _) c0'.out (Below.refl _ _) (Nat.le_refl _) (by have := c1'.out; have := c0'.out; simp; omega) ?_; intro v1 w1 ho hb hg hat; clear hg hat; obtain ⟨g, cap, hv, hg1, hg2, hg3⟩ := Kd.R_form ho (by have := c2'.out; simp; omega); subst hv; have hn := (Kd.R_reads' ho).2.1; have HT := Kd.R_take (m := 0) ho (Nat.zero_le _); have hcut := cut_to (P := Try.prog) 25 34 .i64 Try.underlying25 hi0 (some ⟨g, 0, none⟩) _ cap 0 (Int.le_refl _) (Int.natCast_nonneg _) hn; have HT' := Aside0.mk HT; have HB' := Aside0.mk hb; clear ho hb hg1 hg2 hg3 hn HT))
  go_ret
  exact ⟨_, rfl, HT'.out, HB'.out⟩
 ·
  have b2 : decide (0 < wrap64 n) = false := decide_eq_false c2
  clear c0 c1 c2 b1
  go_enter Try.func70, Try.ntmps70
  go_wp2
  go_ret
  exact ⟨_, rfl, Kd.R_nil _ _ _ _ _, Below.refl _ _⟩

/-! ### spec_P6Stone: function 5 -/
def spec_P6Stone.f (k : Nat) (l0 : List Int) : Option ((List (S34))) := (spec_l00From.f l0).bind fun bt218 => ((spec_l00Src_pick.f bt218.1 bt218.2.1 bt218.2.2 9).bind fun bt222 => ((spec_l03Drawn.f k bt218.1 bt222.2.1 bt222.2.2 bt222.1 0).bind fun bt225 => (some bt225.1)))
theorem spec_P6Stone.mono : ∀ a0 k, LeO (spec_P6Stone.f k a0) (spec_P6Stone.f (k + 1) a0) := by
 intro a0 k
 unfold spec_P6Stone.f
 repeat' first | (with_reducible first | exact spec_l03Drawn.mono _ _ _ _ _ _ | exact LeO.refl _ | exact LeO.none _ | refine LeO.ite ?_ ?_ | refine LeO.bind ?_ (fun _ => ?_))
set_option maxHeartbeats 8000000 in
set_option maxRecDepth 100000 in
theorem spec_P6Stone.calls (k : Nat) (A0 : Option Addr) (c0 : Nat) (l0 : List Int) (r : List (S34)) (w : World) (hr0 : Kd.C (Kd.int .u8) w A0 l0.length l0) (hc0 : l0.length ≤ c0) (h : spec_P6Stone.f k l0 = some r) :
  Calls Try.prog 5 #[.slice A0 l0.length c0] w fun e w' => ∃ v0_ : Value, e = .returned (v0_) ∧ Kd.R k34 34 w' w.heap.size (fun _ => True) v0_ r ∧ Below w.heap.size w w' := by
 have HR0 := Aside0.mk hr0
 have HC0 := Aside0.mk hc0
 clear hr0 hc0
 have HB := Aside0.mk (Below.refl w.heap.size w)
 have H : ((spec_l00From.f l0).bind fun bt218 => ((spec_l00Src_pick.f bt218.1 bt218.2.1 bt218.2.2 9).bind fun bt222 => ((spec_l03Drawn.f k bt218.1 bt222.2.1 bt222.2.2 bt222.1 0).bind fun bt225 => (some bt225.1)))) = some r := h
 clear h
 obtain ⟨⟨t218, t219, t220⟩, A2, H⟩ := be_ H
 (try dsimp only at H)
 obtain ⟨⟨t222, t223, t224⟩, A3, H⟩ := be_ H
 (try dsimp only at H)
 obtain ⟨⟨t225, t228, t229⟩, A4, H⟩ := be_ H
 (try dsimp only at H)
 obtain rfl := Option.some.inj H
 go_enter Try.func5, Try.ntmps5
 go_wp2_with (first | ((with_reducible refine gate_callee (f := 22) rfl ?_); refine goM_ (some 6) Try.func22 #[.slice A0 l0.length c0] ?_; (with_reducible refine (spec_l00From.calls _ _ l0 t218 t219 t220 w _ ?side1 ?side2 ?side3 A2.out).mono ?_); (case side1 => repeat (first | (with_reducible first | exact HB.out | apply below_alloc | apply pw_below_drewN | apply below_drew1) | exact HB.out)); (case side2 => exact HR0.out); (case side3 => exact HC0.out); rintro e w5 ⟨g221, rfl, hi, hb, hb2⟩; refine ⟨_, rfl, ?_⟩; replace HB := Aside0.mk (hb); have HI221 := Aside0.mk (hi); clear hb; clear hb2; clear hi) | ((with_reducible refine gate_callee (f := 23) rfl ?_); refine goM_ (some 8) Try.func23 #[.pointer (some ⟨g221, 0, none⟩), .int .i64 9] ?_; (with_reducible refine (spec_l00Src_pick.calls g221 t218 t219 t220 9 t222 t223 t224 w _ ?side1 ?side2 A3.out).mono ?_); (case side1 => repeat (first | (with_reducible first | exact HI221.out | apply IsS66.alloc | apply IsS66.drewN | apply IsS66.drew | apply IsS66.set_1 | apply IsS66.set_2) | exact HI221.out)); (case side2 => repeat (first | (with_reducible first | exact HB.out | apply below_alloc | apply pw_below_drewN | apply below_drew1 | refine below_set ?_ (IsS66.ge HI221.out)) | exact HB.out)); rintro e w6 ⟨rfl, hi, hb, hk⟩; refine ⟨_, rfl, ?_⟩; replace HB := Aside0.mk (hb); replace HI221 := Aside0.mk (hi); clear hb; clear hk; clear hi) | ((with_reducible refine gate_callee (f := 24) rfl ?_); refine goM_ (some 11) Try.func24 #[.pointer (some ⟨g221, 0, none⟩), .int .i64 t222, .int .i64 0] ?_; (with_reducible refine (spec_l03Drawn.calls k g221 t218 t223 t224 t222 0 t225 t228 t229 w _ ?side1 ?side2 A4.out).mono ?_); (case side1 => repeat (first | (with_reducible first | exact HI221.out | apply IsS66.alloc | apply IsS66.drewN | apply IsS66.drew | apply IsS66.set_1 | apply IsS66.set_2) | exact HI221.out)); (case side2 => repeat (first | (with_reducible first | exact HB.out | apply below_alloc | apply pw_below_drewN | apply below_drew1 | refine below_set ?_ (IsS66.ge HI221.out)) | exact HB.out)); rintro e w7 ⟨v226, rfl, ho0, hi, hb, hk⟩; refine ⟨_, rfl, ?_⟩; have HO227 := Aside0.mk (Kd.R_lower ho0 (below_size (by repeat (first | (with_reducible first | exact HB.out | apply below_alloc | apply pw_below_drewN | apply below_drew1 | refine below_set ?_ (IsS66.ge HI221.out)) | exact HB.out)))); replace HB := Aside0.mk (hb); replace HI221 := Aside0.mk (hi); clear hb; clear hk; clear hi; (try clear ho0)))
 go_ret
 exact ⟨_, by first | rfl | (simp [errW_none, errW_some] <;> rfl) | (simp [*, errW_none, errW_some] <;> rfl), by (with_reducible repeat (first | apply Kd.R_alloc | apply Kd.R_drewN | apply Kd.R_drew)); exact HO227.out, by repeat (first | (with_reducible first | exact HB.out | apply below_alloc | apply pw_below_drewN | apply below_drew1 | refine below_set ?_ (IsS66.ge HI221.out)) | exact HB.out)⟩


/-! ### impl_Corner_62: function 62 -/
mutual
def impl_Corner_62.l0 : Nat → List (List (S34)) → Int → List (List (S34)) → Int → Int → Option ((List (S34)))
 | 0, _, _, _, _, _ => none
 | k + 1, x0, x3, x9, x10, x11 => if x11 < x10 then (if 0 ≤ x11 then (if x11 < (x9.length : Int) then (if (wrap64 (x3 + ((rd_L3 x9 x11).length : Int))) < 0 then (none) else (impl_Corner_62.l0 k x0 (wrap64 (x3 + ((rd_L3 x9 x11).length : Int))) x9 x10 (wrap64 (x11 + 1)))) else (none)) else (none)) else ((impl_Corner_70.f x3).bind fun t446 => (impl_Corner_62.l1 k t446 x0 (x0.length : Int) 0))
def impl_Corner_62.l1 : Nat → List (S34) → List (List (S34)) → Int → Int → Option ((List (S34)))
 | 0, _, _, _, _ => none
 | k + 1, x6, x25, x26, x27 => if x27 < x26 then (if 0 ≤ x27 then (if x27 < (x25.length : Int) then (if x6.length + (rd_L3 x25 x27).length < 35184372088832 then (impl_Corner_62.l1 k (x6 ++ (rd_L3 x25 x27)) x25 x26 (wrap64 (x27 + 1))) else (none)) else (none)) else (none)) else (some x6)
end
def impl_Corner_62.f (k : Nat) (l0 : List (List (S34))) : Option ((List (S34))) := impl_Corner_62.l0 k l0 0 l0 (l0.length : Int) 0
theorem impl_Corner_62.mono_l : ∀ k, (∀ y0 y1 y2 y3 y4, LeO (impl_Corner_62.l0 k y0 y1 y2 y3 y4) (impl_Corner_62.l0 (k + 1) y0 y1 y2 y3 y4)) ∧ (∀ y0 y1 y2 y3, LeO (impl_Corner_62.l1 k y0 y1 y2 y3) (impl_Corner_62.l1 (k + 1) y0 y1 y2 y3))
 | 0 => ⟨fun _ _ _ _ _ r h => by simp [impl_Corner_62.l0] at h, fun _ _ _ _ r h => by simp [impl_Corner_62.l1] at h⟩
 | k + 1 => by
  obtain ⟨ih0, ih1⟩ := impl_Corner_62.mono_l k
  refine ⟨?_, ?_⟩ <;> intros
  all_goals first | unfold impl_Corner_62.l0 | unfold impl_Corner_62.l1
  all_goals repeat' first | (with_reducible first | exact ih0 _ _ _ _ _ | exact ih1 _ _ _ _ | exact LeO.refl _ | exact LeO.none _ | refine LeO.ite ?_ ?_ | refine LeO.bind ?_ (fun _ => ?_))
theorem impl_Corner_62.mono : ∀ a0 k, LeO (impl_Corner_62.f k a0) (impl_Corner_62.f (k + 1) a0) := by
 intro a0 k
 obtain ⟨ih0, ih1⟩ := impl_Corner_62.mono_l k
 unfold impl_Corner_62.f
 repeat' first | (with_reducible first | exact ih0 _ _ _ _ _ | exact ih1 _ _ _ _ | exact LeO.refl _ | exact LeO.none _ | refine LeO.ite ?_ ?_ | refine LeO.bind ?_ (fun _ => ?_))
set_option maxHeartbeats 8000000 in
set_option maxRecDepth 100000 in
theorem impl_Corner_62.calls (k : Nat) (A0 : Option Addr) (c0 : Nat) (l0 : List (List (S34))) (r : List (S34)) (w : World) (hr0 : Kd.C (Kd.slice 34 k34) w A0 l0.length l0) (hc0 : l0.length ≤ c0) (h : impl_Corner_62.f k l0 = some r) :
  Calls Try.prog 62 #[.slice A0 l0.length c0] w fun e w' => ∃ v0_ : Value, e = .returned (v0_) ∧ Kd.R k34 34 w' w.heap.size (fun _ => True) v0_ r ∧ Below w.heap.size w w' := by
 have HR0 := Aside0.mk hr0
 have HC0 := Aside0.mk hc0
 clear hr0 hc0
 have HB := Aside0.mk (Below.refl w.heap.size w)
 have H : (impl_Corner_62.l0 k l0 0 l0 (l0.length : Int) 0) = some r := h
 clear h
 have H' := Aside0.mk H
 clear H
 go_enter Try.func62, Try.ntmps62
 go_wp2
 go_loopg [3, 11] k (fun kq v3 v11 w' => ∃ (x3_1 : Int) (x11_1 : Int), v3 = .int .i64 x3_1 ∧ v11 = .int .i64 x11_1 ∧ Aside0 (impl_Corner_62.l0 kq l0 x3_1 l0 (l0.length : Int) x11_1 = some r) ∧ Aside0 (kq ≤ k) ∧ Aside0 (Below w.heap.size w w'))
 case atStart => exact ⟨(0), (0), (by first | rfl | (simp; done) | (simp [*]; done)), (by first | rfl | (simp; done) | (simp [*]; done)), H', ⟨Nat.le_refl _⟩, ⟨bl_ HB⟩⟩
 case round =>
  clear H'
  obtain ⟨x3_1, x11_1, rfl, rfl, HA, HK1, HB⟩ := hrel
  rcases gk with _ | k1
  · exact absurd HA.out (by simp [impl_Corner_62.l0])
  have H := HA.out
  clear HA
  simp only [impl_Corner_62.l0] at H
  by_cases c2 : x11_1 < (l0.length : Int)
  ·
   rw [if_pos c2] at H
   have c2b0 : decide (x11_1 < (l0.length : Int)) = true := decide_eq_true c2
   clear c2
   obtain ⟨c3b0, H⟩ := gx_ H
   obtain ⟨c4b0, H⟩ := gx_ H
   by_cases c5 : (wrap64 (x3_1 + ((rd_L3 l0 x11_1).length : Int))) < 0
   ·
    rw [if_pos c5] at H
    exact absurd H (by simp)
   rw [if_neg c5] at H
   have c5b0 : decide ((wrap64 (x3_1 + ((rd_L3 l0 x11_1).length : Int))) < 0) = false := decide_eq_false c5
   clear c5
   have H' := Aside0.mk H
   clear H
   have p445 : 0 ≤ (x11_1 : Int) := od_
   have q445 : x11_1 < (l0.length : Int) := od_
   obtain ⟨ad445, A445_0, c445_0, e445, hx445_0, hl445_0, hi445_0⟩ := at_L3 HR0.out x11_1 p445 q445
   cases e445
   replace hx445_0 := (hw_ HB hx445_0 :)
   have HR445_0 := Aside0.mk hi445_0
   have HC445_0 := Aside0.mk hl445_0
   clear hi445_0 hl445_0
   replace p445 := eq_true p445
   replace q445 := eq_true q445
   go_wp2
   go_roundg k1
   case measure => have := HK1.out; omega
   case rel => exact ⟨(wrap64 (x3_1 + ((rd_L3 l0 x11_1).length : Int))), (wrap64 (x11_1 + 1)), (by first | rfl | (simp; done) | (simp [*]; done)), (by first | rfl | (simp; done) | (simp [*]; done)), H', ⟨by have := HK1.out; omega⟩, ⟨bl_ HB⟩⟩
  rw [if_neg c2] at H
  have c2b0 : decide (x11_1 < (l0.length : Int)) = false := decide_eq_false c2
  clear c2
  obtain ⟨t446, A6, H⟩ := be_ H
  (try dsimp only at H)
  have H' := Aside0.mk H
  clear H
  go_wp2_with (first | ((with_reducible refine gate_callee (f := 70) rfl ?_); refine goM_ (some 24) Try.func70 #[.slice none 0 0, .int .i64 x3_1] ?_; (with_reducible refine (impl_Corner_70.calls  x3_1 t446 _ A6.out).mono ?_); rintro e w7 ⟨v447, rfl, ho0, hb⟩; refine ⟨_, rfl, ?_⟩; have HO448 := Aside0.mk (Kd.R_lower ho0 (below_size (kB_ HB))); replace HB := bs_ HB hb; clear hb; (try clear ho0)))
  go_loopg [6, 27] k1 (fun kq v6 v27 w' => ∃ (x6_2 : List (S34)) (x27_2 : Int), v27 = .int .i64 x27_2 ∧ Aside0 (impl_Corner_62.l1 kq x6_2 l0 (l0.length : Int) x27_2 = some r) ∧ Aside0 (kq ≤ k1) ∧ Aside0 (Kd.R k34 34 w' w.heap.size (fun _ => True) v6 x6_2) ∧ Aside0 (Below w.heap.size w w'))
  case atStart => exact ⟨(t446), (0), (by first | rfl | (simp; done) | (simp [*]; done)), H', ⟨Nat.le_refl _⟩, ⟨kp_ HO448⟩, ⟨bl_ HB⟩⟩
  case round =>
   clear H'
   obtain ⟨x6_2, x27_2, rfl, HA, HK2, HO_6, HB⟩ := hrel
   rcases gk with _ | k2
   · exact absurd HA.out (by simp [impl_Corner_62.l1])
   have H := HA.out
   clear HA
   simp only [impl_Corner_62.l1] at H
   rcases (Decidable.em (x27_2 < (l0.length : Int))).symm with c8 | c8
   ·
    rw [if_neg c8] at H
    have c8b0 : decide (x27_2 < (l0.length : Int)) = false := decide_eq_false c8
    clear c8
    obtain rfl := Option.some.inj H
    go_wp2
    go_ret
    exact ⟨_, by first | rfl | (simp [errW_none, errW_some] <;> rfl) | (simp [*, errW_none, errW_some] <;> rfl), by (with_reducible repeat (first | apply Kd.R_alloc | apply Kd.R_drewN | apply Kd.R_drew)); exact HO_6.out, bl_ HB⟩

   rw [if_pos c8] at H
   have c8b0 : decide (x27_2 < (l0.length : Int)) = true := decide_eq_true c8
   clear c8
   obtain ⟨c9b0, H⟩ := gx_ H
   obtain ⟨c10b0, H⟩ := gx_ H
   obtain ⟨(c11 : x6_2.length + (rd_L3 l0 x27_2).length < 35184372088832), H⟩ := gd_ H
   have LMc11 := Aside0.mk c11
   clear c11
   obtain ⟨y450, hy450⟩ : ∃ y_ : List (S34), y_ = (x6_2 ++ (rd_L3 l0 x27_2)) := ⟨_, rfl⟩
   replace H : (impl_Corner_62.l1 k2 y450 l0 (l0.length : Int) (wrap64 (x27_2 + 1))) = some r := by first | (rw [hy450]; with_reducible exact H) | (have H2_ := (Option.bind_some _ _).symm.trans H; rw [hy450]; with_reducible exact H2_) | (have H2_ := (Option.bind_some _ _).symm.trans H; with_reducible exact H2_) | with_reducible exact H | (rw [hy450]; exact H) | exact H
   have Ny450 := Aside0.mk hy450
   clear hy450
   have H' := Aside0.mk H
   clear H
   have p449 : 0 ≤ (x27_2 : Int) := od_
   have q449 : x27_2 < (l0.length : Int) := od_
   obtain ⟨ad449, A449_0, c449_0, e449, hx449_0, hl449_0, hi449_0⟩ := at_L3 HR0.out x27_2 p449 q449
   cases e449
   replace hx449_0 := (hw_ HB hx449_0 :)
   have HR449_0 := Aside0.mk hi449_0
   have HC449_0 := Aside0.mk hl449_0
   clear hi449_0 hl449_0
   replace p449 := eq_true p449
   replace q449 := eq_true q449
   go_wp2_with (first | ((with_reducible refine gate_builtin (b := .append) (xs := #[.tmp 31, .tmp 32]) rfl ?_); at_builtin; refine Kd.R_append_rows k34 (w0 := w) w.heap.size rfl (.tmp 31) (.tmp 32) 25 34 (.agg #[(.int .i16 0), (.int .i16 0)]) 4 rfl Try.underlying25 info34 rfl (by decide) (by omega) u6 x6_2 (rd_L3 l0 x27_2) _ _ _ (fun _ => True) (fun _ => False) rfl rfl ?aO ?aR (fun _ _ h => h) (fun _ h => h.elim) ?aF ?aB ?aS ?aL ?_; (case aR => exact kc_ (Kd.C_below HR449_0.out HB.out)); (case aB => exact (kB_ HB)); (case aF => exact (fun _ _ => trivial)); (case aO => exact (kp_ HO_6)); (case aS => exact (below_size (kB_ HB))); (case aL => have := LMc11.out; omega); intro v451 w12 ho hb hg hat; rw [← Ny450.out] at ho; have n0_ := Aside0.mk (hb); have n1_ := Aside0.mk (ho); clear HB; clear HO_6; have HB := n0_; have HO452 := n1_; clear n0_ n1_; clear ho hb hg hat))
   go_roundg k2
   case measure => have := HK1.out; have := HK2.out; omega
   case rel => exact ⟨(y450), (wrap64 (x27_2 + 1)), (by first | rfl | (simp; done) | (simp [*]; done)), H', ⟨by have := HK1.out; have := HK2.out; omega⟩, ⟨kp_ HO452⟩, ⟨bl_ HB⟩⟩
end Go.Proofs.Ytmglnofmmgokkaa.PA
