/- Pure functions, and that Go's functions come to them. -/
import Derived.Test.YthbogbaaikjhbaaGreatDoorPAx0
import Derived.Test.YthbogbaaikjhbaaGreatDoorPAxm29
namespace Go.Proofs.YthbogbaaikjhbaaGreatDoor.PA
open Go.RowKit Go.Proofs.YthbogbaaikjhbaaGreatDoorW.PrintWords Go.Proofs.YthbogbaaikjhbaaGreatDoorW.PrintLast Go.Proofs.YthbogbaaikjhbaaGreatDoorW.PrintMore
set_option linter.unusedVariables false
set_option linter.unusedSimpArgs false

/-! ### impl_Corner_74: function 74 -/
set_option maxHeartbeats 4000000 in
theorem impl_Corner_74.anyB (g : Nat) (lb : Array Value) (eg : ∀ args w, (callFunc g args).run Tryz.prog w = .ok (.enter g args) w) (p : S43 → Option Bool) (A : Option Addr) (c : Nat) (l : List (S43)) (r : Int) (w : World) (hr : Kd.C k43 w A l.length l) (hc : l.length ≤ c) (h : Base.idxO p l 0 = some r)
  (hp : ∀ W (x : S43) (b : Bool), Below w.heap.size w W → x ∈ l → p x = some b → Calls Tryz.prog g (#[.agg #[.int .i16 x.f0, .int .i16 x.f1]] ++ lb) W fun e w' => e = .returned (.bool b) ∧ Below w.heap.size w w') :
  Calls Tryz.prog 74 #[.slice A l.length c, .func (.func g) #[] lb] w fun e w' => e = .returned (.int .i64 r) ∧ Below w.heap.size w w' := by
 have hn := hr.2.1
 have h0 := Aside0.mk h
 clear h
 go_enter Tryz.func74, Tryz.ntmps74
 go_wp2
 go_loopg [5, 8] l.length (fun gg _ s8 wr => ∃ kk : Nat, kk ≤ l.length ∧ l.length - kk ≤ gg ∧ s8 = .int .i64 kk ∧ Aside0 (Base.idxO p (l.drop kk) (kk : Int) = some r) ∧ Aside0 (Below w.heap.size w wr))
 case atStart => exact ⟨0, Nat.zero_le _, by omega, rfl, ⟨by rw [List.drop_zero]; exact h0.out⟩, ⟨Below.refl _ w⟩⟩
 case round =>
  clear h0
  obtain ⟨kk, hkk, hg, rfl, HA, HB⟩ := hrel
  by_cases hlt : kk < l.length
  ·
   have hltz : (kk : Int) < (l.length : Int) := by omega
   obtain ⟨ad, ea, hx0, hx1⟩ := at_T43 (Kd.C_below hr HB.out) (kk : Int) (by omega) hltz
   cases ea
   rw [Int.toNat_natCast] at hx0
   rw [Int.toNat_natCast] at hx1
   have hm : rd_T43 l (kk : Int) = l[kk] := Base.getD_nat l _ kk hlt
   obtain ⟨b, hb, ht, hf⟩ := Base.idxO_step hlt HA.out
   have hcall := hp wr (rd_T43 l (kk : Int)) b HB.out (by rw [hm]; exact List.getElem_mem _) (by rw [hm]; exact hb)
   have HT := Aside0.mk ht
   have HF := Aside0.mk hf
   clear hp hr hm hb ht hf HA
   cases b with
   | true =>
    have hT := Aside0.mk (HT.out rfl)
    clear HT HF
    go_wp2_with (go_at_fn g; refine hcall.mono ?_; rintro e w' ⟨rfl, hb'⟩)
    go_ret
    exact ⟨by rw [← hT.out]; rfl, hb'⟩
   | false =>
    have hF := Aside0.mk (HF.out rfl)
    clear HT HF
    go_wp2_with (go_at_fn g; refine hcall.mono ?_; rintro e w' ⟨rfl, hb'⟩)
    go_roundg (l.length - (kk + 1))
    case measure => omega
    case rel => exact ⟨kk + 1, by omega, by omega, by go_num, hF, ⟨hb'⟩⟩
  ·
   have hltz : ¬ (kk : Int) < (l.length : Int) := by omega
   have hE := Aside0.mk (Base.idxO_end hlt HA.out)
   clear hp hr HA
   go_wp2
   go_ret
   exact ⟨by rw [hE.out]; rfl, HB.out⟩

/-! ### impl_Corner_48: function 48 -/
set_option maxHeartbeats 4000000 in
theorem impl_Corner_48.anyB (g : Nat) (lb : Array Value) (eg : ∀ args w, (callFunc g args).run Tryz.prog w = .ok (.enter g args) w) (p : S43 → Option Bool) (A : Option Addr) (c : Nat) (l : List (S43)) (r : Bool) (w : World) (hr : Kd.C k43 w A l.length l) (hc : l.length ≤ c) (h : ((Base.idxO p l 0).bind fun i => some (decide (0 ≤ i))) = some r)
  (hp : ∀ W (x : S43) (b : Bool), Below w.heap.size w W → x ∈ l → p x = some b → Calls Tryz.prog g (#[.agg #[.int .i16 x.f0, .int .i16 x.f1]] ++ lb) W fun e w' => e = .returned (.bool b) ∧ Below w.heap.size w w') :
  Calls Tryz.prog 48 #[.slice A l.length c, .func (.func g) #[] lb] w fun e w' => e = .returned (.bool r) ∧ Below w.heap.size w w' := by
 obtain ⟨i, hi, he⟩ := Option.bind_eq_some_iff.1 h
 obtain rfl := Option.some.inj he
 have hcon := impl_Corner_74.anyB g lb eg p A c l i w hr hc hi hp
 clear hp hr h hi he
 go_enter Tryz.func48, Tryz.ntmps48
 go_wp2_with (go_at_call 74; refine hcon.mono ?_; rintro e w' ⟨rfl, hb'⟩)
 go_ret
 exact ⟨rfl, hb'⟩

/-! ### impl_side: function 71 -/
def impl_side.f (a0_0 : Int) (a0_1 : Int) (a1_0 : Int) (a1_1 : Int) (a2_0 : Int) (a2_1 : Int) : Option (Int) := some (wrap64 ((wrap64 ((wrap64 ((wrap64 (a1_0)) - (wrap64 (a0_0)))) * (wrap64 ((wrap64 (a2_1)) - (wrap64 (a0_1)))))) - (wrap64 ((wrap64 ((wrap64 (a1_1)) - (wrap64 (a0_1)))) * (wrap64 ((wrap64 (a2_0)) - (wrap64 (a0_0))))))))
set_option maxHeartbeats 8000000 in
set_option maxRecDepth 100000 in
theorem impl_side.calls (a0_0 : Int) (a0_1 : Int) (a1_0 : Int) (a1_1 : Int) (a2_0 : Int) (a2_1 : Int) (r : Int) (w : World) (h : impl_side.f a0_0 a0_1 a1_0 a1_1 a2_0 a2_1 = some r) :
  Calls Tryz.prog 71 #[.agg #[.int .i16 a0_0, .int .i16 a0_1], .agg #[.int .i16 a1_0, .int .i16 a1_1], .agg #[.int .i16 a2_0, .int .i16 a2_1]] w fun e w' => e = .returned (.int .i64 r) ∧ Below w.heap.size w w' := by
 have hu43 := Tryz.underlying43
 have HB := Aside0.mk (Below.refl w.heap.size w)
 have H : (some (wrap64 ((wrap64 ((wrap64 ((wrap64 (a1_0)) - (wrap64 (a0_0)))) * (wrap64 ((wrap64 (a2_1)) - (wrap64 (a0_1)))))) - (wrap64 ((wrap64 ((wrap64 (a1_1)) - (wrap64 (a0_1)))) * (wrap64 ((wrap64 (a2_0)) - (wrap64 (a0_0))))))))) = some r := h
 clear h
 obtain rfl := Option.some.inj H
 go_enter Tryz.func71, Tryz.ntmps71
 go_wp2_with (first | ((with_reducible refine gate_dst (N := 3) rfl ?_); refine boxM_ 3 #[.int .i16 a0_0, .int .i16 a0_1] 43 ?_; intro gb230 hg w4 hbox hb; have BK230 := Aside0.mk (hbox); have GW230 := Aside0.mk ((by rw [hg]; exact (below_size (kB_ HB)) : w.heap.size ≤ gb230)); have GE230 := Aside0.mk ((by rw [hg]; exact (below_size (kB_ HB)) : w.heap.size ≤ gb230)); replace HB := Aside0.mk (below_step (kB_ HB) hb); clear hb hbox hg) | ((with_reducible refine gate_dst (N := 4) rfl ?_); refine boxM_ 4 #[.int .i16 a1_0, .int .i16 a1_1] 43 ?_; intro gb231 hg w5 hbox hb; have BK231 := Aside0.mk (hbox); have GW231 := Aside0.mk ((by rw [hg]; exact (below_size (k1_ HB GE230)) : w.heap.size ≤ gb231)); have GE231 := Aside0.mk ((by rw [hg]; exact (below_size (k1_ HB GE230)) : w.heap.size ≤ gb231)); replace HB := Aside0.mk (below_step (k1_ HB GE230) hb); have NB230_231 := nl_ BK230 hg; have NB231_230 := ng_ BK230 hg; replace BK230 := bd_ BK230 hb; clear hb hbox hg) | ((with_reducible refine gate_dst (N := 5) rfl ?_); refine boxM_ 5 #[.int .i16 a2_0, .int .i16 a2_1] 43 ?_; intro gb232 hg w6 hbox hb; have BK232 := Aside0.mk (hbox); have GW232 := Aside0.mk ((by rw [hg]; exact (below_size (k2_ HB GE230 GE231)) : w.heap.size ≤ gb232)); have GE232 := Aside0.mk ((by rw [hg]; exact (below_size (k2_ HB GE230 GE231)) : w.heap.size ≤ gb232)); replace HB := Aside0.mk (below_step (k2_ HB GE230 GE231) hb); have NB230_232 := nl_ BK230 hg; have NB232_230 := ng_ BK230 hg; replace BK230 := bd_ BK230 hb; have NB231_232 := nl_ BK231 hg; have NB232_231 := ng_ BK231 hg; replace BK231 := bd_ BK231 hb; clear hb hbox hg; have hnb7 := NB231_230.out; have hnc7 := NB230_231.out; have hnb8 := NB231_232.out; have hnc8 := NB232_231.out; obtain ⟨⟨hcz9_0, hcz9_1⟩, hfz9_0, hfz9_1⟩ := bq_ BK231; have hnb10 := NB230_232.out; have hnc10 := NB232_230.out; obtain ⟨⟨hcz11_0, hcz11_1⟩, hfz11_0, hfz11_1⟩ := bq_ BK230; obtain ⟨⟨hcz12_0, hcz12_1⟩, hfz12_0, hfz12_1⟩ := bq_ BK232))
 go_ret
 exact ⟨rt_, k3_ HB GE230 GE231 GE232⟩

/-! ### impl_within: function 41 -/
def impl_within.f (a0 : Int) (a1 : Int) (a2 : Int) : Option (Bool) := if a1 ≤ a0 then (some (decide (a0 ≤ a2))) else (some false)
set_option maxHeartbeats 8000000 in
set_option maxRecDepth 100000 in
theorem impl_within.calls (a0 : Int) (a1 : Int) (a2 : Int) (r : Bool) (w : World) (h : impl_within.f a0 a1 a2 = some r) :
  Calls Tryz.prog 41 #[.int .i64 a0, .int .i64 a1, .int .i64 a2] w fun e w' => e = .returned (.bool r) ∧ Drawn0 w w' := by
 have H : (if a1 ≤ a0 then (some (decide (a0 ≤ a2))) else (some false)) = some r := h
 clear h
 by_cases c4 : a1 ≤ a0
 ·
  rw [if_pos c4] at H
  have c4b0 : decide (a1 ≤ a0) = true := decide_eq_true c4
  clear c4
  obtain rfl := Option.some.inj H
  go_enter Tryz.func41, Tryz.ntmps41
  go_wp2
  go_ret
  exact ⟨by first | rfl | (simp; done) | (simp [*]; done), by repeat (first | exact Drawn0.refl _ | apply Drawn0.step)⟩
 rw [if_neg c4] at H
 have c4b0 : decide (a1 ≤ a0) = false := decide_eq_false c4
 clear c4
 obtain rfl := Option.some.inj H
 go_enter Tryz.func41, Tryz.ntmps41
 go_wp2
 go_ret
 exact ⟨by first | rfl | (simp; done) | (simp [*]; done), by repeat (first | exact Drawn0.refl _ | apply Drawn0.step)⟩

/-! ### impl_isPlaced: function 42 -/
def impl_isPlaced.f (a0_0 : Int) (a0_1 : Int) : Option (Bool) := (impl_within.f (wrap64 (a0_0)) (-1000) 1000).bind fun t234 => (if t234 = true then ((impl_within.f (wrap64 (a0_1)) (-1000) 1000).bind fun t235 => (some t235)) else (some false))
set_option maxHeartbeats 8000000 in
set_option maxRecDepth 100000 in
theorem impl_isPlaced.calls (a0_0 : Int) (a0_1 : Int) (r : Bool) (w : World) (h : impl_isPlaced.f a0_0 a0_1 = some r) :
  Calls Tryz.prog 42 #[.agg #[.int .i16 a0_0, .int .i16 a0_1]] w fun e w' => e = .returned (.bool r) ∧ Below w.heap.size w w' := by
 have hu43 := Tryz.underlying43
 have HB := Aside0.mk (Below.refl w.heap.size w)
 have H : ((impl_within.f (wrap64 (a0_0)) (-1000) 1000).bind fun t234 => (if t234 = true then ((impl_within.f (wrap64 (a0_1)) (-1000) 1000).bind fun t235 => (some t235)) else (some false))) = some r := h
 clear h
 obtain ⟨t234, A2, H⟩ := be_ H
 (try dsimp only at H)
 rcases (Decidable.em (t234 = true)).symm with c3 | c3
 ·
  replace c3 := Bool.eq_false_iff.mpr c3
  subst c3
  replace H := gf_ H
  obtain rfl := Option.some.inj H
  go_enter Tryz.func42, Tryz.ntmps42
  go_wp2_with (first | ((with_reducible refine gate_dst (N := 1) rfl ?_); refine boxM_ 1 #[.int .i16 a0_0, .int .i16 a0_1] 43 ?_; intro gb233 hg w7 hbox hb; have BK233 := Aside0.mk (hbox); have GW233 := Aside0.mk ((by rw [hg]; exact (below_size (kB_ HB)) : w.heap.size ≤ gb233)); have GE233 := Aside0.mk ((by rw [hg]; exact (below_size (kB_ HB)) : w.heap.size ≤ gb233)); replace HB := Aside0.mk (below_step (kB_ HB) hb); clear hb hbox hg; obtain ⟨⟨hcz8_0, hcz8_1⟩, hfz8_0, hfz8_1⟩ := bq_ BK233) | ((with_reducible refine gate_callee (f := 41) rfl ?_); refine goM_ (some 6) Tryz.func41 #[.int .i64 (wrap64 (a0_0)), .int .i64 (-1000), .int .i64 1000] ?_; (with_reducible refine (impl_within.calls (wrap64 (a0_0)) (-1000) 1000 false _ A2.out).mono ?_); rintro e w' ⟨rfl, ⟨nd, rfl⟩⟩; refine ⟨_, rfl, ?_⟩))
  go_ret
  exact ⟨rt_, k1_ HB GE233⟩

 subst c3
 replace H := gt_ H
 obtain ⟨t235, A4, H⟩ := be_ H
 (try dsimp only at H)
 obtain rfl := Option.some.inj H
 go_enter Tryz.func42, Tryz.ntmps42
 go_wp2_with (first | ((with_reducible refine gate_dst (N := 1) rfl ?_); refine boxM_ 1 #[.int .i16 a0_0, .int .i16 a0_1] 43 ?_; intro gb233 hg w5 hbox hb; have BK233 := Aside0.mk (hbox); have GW233 := Aside0.mk ((by rw [hg]; exact (below_size (kB_ HB)) : w.heap.size ≤ gb233)); have GE233 := Aside0.mk ((by rw [hg]; exact (below_size (kB_ HB)) : w.heap.size ≤ gb233)); replace HB := Aside0.mk (below_step (kB_ HB) hb); clear hb hbox hg; obtain ⟨⟨hcz6_0, hcz6_1⟩, hfz6_0, hfz6_1⟩ := bq_ BK233) | ((with_reducible refine gate_callee (f := 41) rfl ?_); refine goM_ (some 6) Tryz.func41 #[.int .i64 (wrap64 (a0_0)), .int .i64 (-1000), .int .i64 1000] ?_; (with_reducible refine (impl_within.calls (wrap64 (a0_0)) (-1000) 1000 true _ A2.out).mono ?_); rintro e w' ⟨rfl, ⟨nd, rfl⟩⟩; refine ⟨_, rfl, ?_⟩) | (go_at_call 41; (with_reducible refine (impl_within.calls (wrap64 (a0_1)) (-1000) 1000 t235 _ A4.out).mono ?_); rintro e w' ⟨rfl, ⟨nd, rfl⟩⟩))
 go_ret
 exact ⟨rt_, k1_ HB GE233⟩
/-! ### impl_isConvex_1: function 72 -/
def impl_isConvex_1.f (a0_0 : Int) (a0_1 : Int) : Option (Bool) := (impl_isPlaced.f a0_0 a0_1).bind fun t237 => (some (!t237))
set_option maxHeartbeats 8000000 in
set_option maxRecDepth 100000 in
theorem impl_isConvex_1.calls (a0_0 : Int) (a0_1 : Int) (r : Bool) (w : World) (h : impl_isConvex_1.f a0_0 a0_1 = some r) :
  Calls Tryz.prog 72 #[.agg #[.int .i16 a0_0, .int .i16 a0_1]] w fun e w' => e = .returned (.bool r) ∧ Below w.heap.size w w' := by
 have hu43 := Tryz.underlying43
 have HB := Aside0.mk (Below.refl w.heap.size w)
 have H : ((impl_isPlaced.f a0_0 a0_1).bind fun t237 => (some (!t237))) = some r := h
 clear h
 obtain ⟨t237, A2, H⟩ := be_ H
 (try dsimp only at H)
 obtain rfl := Option.some.inj H
 go_enter Tryz.func72, Tryz.ntmps72
 go_wp2_with (first | ((with_reducible refine gate_dst (N := 1) rfl ?_); refine boxM_ 1 #[.int .i16 a0_0, .int .i16 a0_1] 43 ?_; intro gb236 hg w3 hbox hb; have BK236 := Aside0.mk (hbox); have GW236 := Aside0.mk ((by rw [hg]; exact (below_size (kB_ HB)) : w.heap.size ≤ gb236)); have GE236 := Aside0.mk ((by rw [hg]; exact (below_size (kB_ HB)) : w.heap.size ≤ gb236)); replace HB := Aside0.mk (below_step (kB_ HB) hb); clear hb hbox hg; obtain ⟨⟨hcz4_0, hcz4_1⟩, hfz4_0, hfz4_1⟩ := bq_ BK236) | ((with_reducible refine gate_callee (f := 42) rfl ?_); refine goM_ (some 4) Tryz.func42 #[.agg #[.int .i16 a0_0, .int .i16 a0_1]] ?_; (with_reducible refine (impl_isPlaced.calls a0_0 a0_1 t237 _ A2.out).mono ?_); rintro e w5 ⟨rfl, hb⟩; refine ⟨_, rfl, ?_⟩; replace BK236 := bd_ BK236 hb; replace HB := Aside0.mk (below_step (k1_ HB GE236) hb); clear hb))
 go_ret
 exact ⟨rt_, k1_ HB GE236⟩

/-! ### impl_isConvex_1_any: function 72 -/
def impl_isConvex_1_any.f (l0 : List (S43)) : Option Bool := (Base.idxO (fun x : S43 => impl_isConvex_1.f x.f0 x.f1) l0 0).bind fun i => some (decide (0 ≤ i))
theorem impl_isConvex_1_any.calls (A0 : Option Addr) (c0 : Nat) (l0 : List (S43)) (r : Bool) (w : World) (hr0 : Kd.C k43 w A0 l0.length l0) (hc0 : l0.length ≤ c0) (h : impl_isConvex_1_any.f l0 = some r) :
  Calls Tryz.prog 48 #[.slice A0 l0.length c0, .func (.func 72) #[] #[]] w fun e w' => e = .returned (.bool r) ∧ Below w.heap.size w w' :=
 impl_Corner_48.anyB 72 #[] (enters_of Tryz.func72 (by kernel_rfl) rfl) (fun x : S43 => impl_isConvex_1.f x.f0 x.f1) A0 c0 l0 r w hr0 hc0 h (fun W x b hb _ hx => (impl_isConvex_1.calls x.f0 x.f1 b W hx).mono fun e w' h => ⟨h.1, below_then hb hb.size h.2⟩)

/-! ### impl_isConvex: function 39 -/
mutual
def impl_isConvex.l0 : Nat → List (S43) → Int → List (S43) → Int → Int → Option (Bool)
 | 0, _, _, _, _, _ => none
 | k + 1, x0, x3, x11, x12, x13 => if x13 < x12 then (if 0 ≤ x13 then (if x13 < (x11.length : Int) then (if x3 = 0 then (none) else (if 0 ≤ (Int.tmod (wrap64 (x13 + 1)) x3) then (if (Int.tmod (wrap64 (x13 + 1)) x3) < (x0.length : Int) then (impl_isConvex.l1 k x0 x3 x13 x11 x12 x13 x0 (x0.length : Int) 0 ((rd_T43 x11 x13).f0) ((rd_T43 x11 x13).f1) ((rd_T43 x0 (Int.tmod (wrap64 (x13 + 1)) x3)).f0) ((rd_T43 x0 (Int.tmod (wrap64 (x13 + 1)) x3)).f1)) else (none)) else (none))) else (none)) else (none)) else (if x3 ≥ 3 then ((impl_isConvex_1_any.f x0).bind fun t238 => (some (!t238))) else (some false))
def impl_isConvex.l1 : Nat → List (S43) → Int → Int → List (S43) → Int → Int → List (S43) → Int → Int → Int → Int → Int → Int → Option (Bool)
 | 0, _, _, _, _, _, _, _, _, _, _, _, _, _ => none
 | k + 1, x0, x3, x4, x11, x12, x13, x25, x26, x27, x241000, x241001, x243000, x243001 => if x27 < x26 then (if 0 ≤ x27 then (if x27 < (x25.length : Int) then (if x27 = x4 then (impl_isConvex.l1 k x0 x3 x4 x11 x12 x13 x25 x26 (wrap64 (x27 + 1)) x241000 x241001 x243000 x243001) else (if x3 = 0 then (none) else (if x27 = (Int.tmod (wrap64 (x4 + 1)) x3) then (impl_isConvex.l1 k x0 x3 x4 x11 x12 x13 x25 x26 (wrap64 (x27 + 1)) x241000 x241001 x243000 x243001) else ((impl_side.f x241000 x241001 x243000 x243001 ((rd_T43 x25 x27).f0) ((rd_T43 x25 x27).f1)).bind fun t245 => (if t245 ≤ 0 then (some false) else (impl_isConvex.l1 k x0 x3 x4 x11 x12 x13 x25 x26 (wrap64 (x27 + 1)) x241000 x241001 x243000 x243001)))))) else (none)) else (none)) else (impl_isConvex.l0 k x0 x3 x11 x12 (wrap64 (x13 + 1)))
end
def impl_isConvex.f (k : Nat) (l0 : List (S43)) : Option (Bool) := impl_isConvex.l0 k l0 (l0.length : Int) l0 (l0.length : Int) 0
theorem impl_isConvex.mono_l : ∀ k, (∀ y0 y1 y2 y3 y4, LeO (impl_isConvex.l0 k y0 y1 y2 y3 y4) (impl_isConvex.l0 (k + 1) y0 y1 y2 y3 y4)) ∧ (∀ y0 y1 y2 y3 y4 y5 y6 y7 y8 y9 y10 y11 y12, LeO (impl_isConvex.l1 k y0 y1 y2 y3 y4 y5 y6 y7 y8 y9 y10 y11 y12) (impl_isConvex.l1 (k + 1) y0 y1 y2 y3 y4 y5 y6 y7 y8 y9 y10 y11 y12))
 | 0 => ⟨fun _ _ _ _ _ r h => by simp [impl_isConvex.l0] at h, fun _ _ _ _ _ _ _ _ _ _ _ _ _ r h => by simp [impl_isConvex.l1] at h⟩
 | k + 1 => by
  obtain ⟨ih0, ih1⟩ := impl_isConvex.mono_l k
  refine ⟨?_, ?_⟩ <;> intros
  all_goals first | unfold impl_isConvex.l0 | unfold impl_isConvex.l1
  all_goals repeat' first | (with_reducible first | exact ih0 _ _ _ _ _ | exact ih1 _ _ _ _ _ _ _ _ _ _ _ _ _ | exact LeO.refl _ | exact LeO.none _ | refine LeO.ite ?_ ?_ | refine LeO.bind ?_ (fun _ => ?_))
theorem impl_isConvex.mono : ∀ a0 k, LeO (impl_isConvex.f k a0) (impl_isConvex.f (k + 1) a0) := by
 intro a0 k
 obtain ⟨ih0, ih1⟩ := impl_isConvex.mono_l k
 unfold impl_isConvex.f
 repeat' first | (with_reducible first | exact ih0 _ _ _ _ _ | exact ih1 _ _ _ _ _ _ _ _ _ _ _ _ _ | exact LeO.refl _ | exact LeO.none _ | refine LeO.ite ?_ ?_ | refine LeO.bind ?_ (fun _ => ?_))
set_option maxHeartbeats 8000000 in
set_option maxRecDepth 100000 in
theorem impl_isConvex.calls (k : Nat) (A0 : Option Addr) (c0 : Nat) (l0 : List (S43)) (r : Bool) (w : World) (hr0 : Kd.C k43 w A0 l0.length l0) (hc0 : l0.length ≤ c0) (h : impl_isConvex.f k l0 = some r) :
  Calls Tryz.prog 39 #[.slice A0 l0.length c0] w fun e w' => e = .returned (.bool r) ∧ Below w.heap.size w w' := by
 have hu43 := Tryz.underlying43
 have HR0 := Aside0.mk hr0
 have HC0 := Aside0.mk hc0
 clear hr0 hc0
 have HB := Aside0.mk (Below.refl w.heap.size w)
 have H : (impl_isConvex.l0 k l0 (l0.length : Int) l0 (l0.length : Int) 0) = some r := h
 clear h
 have H' := Aside0.mk H
 clear H
 go_enter Tryz.func39, Tryz.ntmps39
 go_wp2
 go_loopg [13] k (fun kq v13 w' => ∃ (x13_1 : Int), v13 = .int .i64 x13_1 ∧ Aside0 (impl_isConvex.l0 kq l0 (l0.length : Int) l0 (l0.length : Int) x13_1 = some r) ∧ Aside0 (kq ≤ k) ∧ Aside0 (Below w.heap.size w w'))
 case atStart => exact ⟨(0), (by first | rfl | (simp; done) | (simp [*]; done)), H', ⟨Nat.le_refl _⟩, ⟨kB_ HB⟩⟩
 case round =>
  clear H'
  obtain ⟨x13_1, rfl, HA, HK1, HB⟩ := hrel
  rcases gk with _ | k1
  · exact absurd HA.out (by simp [impl_isConvex.l0])
  have H := HA.out
  clear HA
  simp only [impl_isConvex.l0] at H
  rcases (Decidable.em (x13_1 < (l0.length : Int))).symm with c2 | c2
  ·
   rw [if_neg c2] at H
   have c2b0 : decide (x13_1 < (l0.length : Int)) = false := decide_eq_false c2
   clear c2
   rcases (Decidable.em ((l0.length : Int) ≥ 3)).symm with c46 | c46
   ·
    rw [if_neg c46] at H
    have c46b0 : decide (3 ≤ (l0.length : Int)) = false := decide_eq_false c46
    have c46b1 : decide (3 ≤ l0.length) = false := decide_eq_false (by omega)
    clear c46
    obtain rfl := Option.some.inj H
    go_wp2
    go_ret
    exact ⟨rt_, kB_ HB⟩

   rw [if_pos c46] at H
   have c46b0 : decide (3 ≤ (l0.length : Int)) = true := decide_eq_true c46
   have c46b1 : decide (3 ≤ l0.length) = true := decide_eq_true (by omega)
   clear c46
   obtain ⟨t238, A47, H⟩ := be_ H
   (try dsimp only at H)
   obtain rfl := Option.some.inj H
   go_wp2_with (first | (go_at_call 48; (with_reducible refine (impl_isConvex_1_any.calls _ _ l0  t238 _ ?side1 ?side2 A47.out).mono ?_); (case side1 => exact kc_ (Kd.C_below HR0.out HB.out)); (case side2 => exact HC0.out); rintro e w48 ⟨rfl, hb⟩; replace HB := Aside0.mk (below_step (kB_ HB) hb); clear hb))
   go_ret
   exact ⟨rt_, kB_ HB⟩
  rw [if_pos c2] at H
  have c2b0 : decide (x13_1 < (l0.length : Int)) = true := decide_eq_true c2
  clear c2
  obtain ⟨c3b0, H⟩ := gx_ H
  obtain ⟨c4b0, H⟩ := gx_ H
  by_cases c5 : (l0.length : Int) = 0
  ·
   rw [if_pos c5] at H
   exact absurd H (by simp)
  rw [if_neg c5] at H
  have c5b0 : ((l0.length : Int) == 0) = false := beq_eq_false_iff_ne.mpr c5
  have c5b1 : ((l0.length : Int) != 0) = true := bne_iff_ne.mpr c5
  have c5b2 : ¬ (l0 = []) := fun h_ => c5 (by rw [h_]; rfl)
  obtain ⟨ji6, hji6⟩ : ∃ j_ : Int, (Int.tmod (wrap64 (x13_1 + 1)) (l0.length : Int)) = j_ := ⟨_, rfl⟩
  replace H : (if 0 ≤ (ji6) then (if (ji6) < (l0.length : Int) then (impl_isConvex.l1 k1 l0 (l0.length : Int) x13_1 l0 (l0.length : Int) x13_1 l0 (l0.length : Int) 0 ((rd_T43 l0 x13_1).f0) ((rd_T43 l0 x13_1).f1) ((rd_T43 l0 (ji6)).f0) ((rd_T43 l0 (ji6)).f1)) else (none)) else (none)) = some r := by first | (rw [hji6] at H; exact H) | (simp only [hji6] at H ⊢; exact H)
  obtain ⟨c7b0, H⟩ := gx_ H
  obtain ⟨c8b0, H⟩ := gx_ H
  have H' := Aside0.mk H
  clear H
  have p239 : 0 ≤ (x13_1 : Int) := od_
  have q239 : x13_1 < (l0.length : Int) := od_
  obtain ⟨ad239, e239, hx239_0, hx239_1⟩ := af_ HB (at_T43 HR0.out x13_1 p239 q239)
  cases e239
  replace p239 := eq_true p239
  replace q239 := eq_true q239
  go_wp2_with (first | ((with_reducible refine gate_dst (N := 5) rfl ?_); refine boxM_ 5 #[.int .i16 0, .int .i16 0] 43 ?_; intro gb240 hg w9 hbox hb; have BK240 := Aside0.mk (hbox); have GW240 := Aside0.mk ((by rw [hg]; exact (below_size (kB_ HB)) : w.heap.size ≤ gb240)); have GE240 := Aside0.mk ((by rw [hg]; exact (below_size (kB_ HB)) : w.heap.size ≤ gb240)); replace HB := Aside0.mk (below_step (kB_ HB) hb); clear hb hbox hg; obtain ⟨⟨hcz10_0, hcz10_1⟩, hfz10_0, hfz10_1⟩ := bq_ BK240; have p241 : 0 ≤ ((ji6) : Int) := od_; have q241 : (ji6) < (l0.length : Int) := od_; obtain ⟨ad241, e241, hx241_0, hx241_1⟩ := at_T43 HR0.out (ji6) p241 q241; obtain rfl : ad239 = ad241 := (by injection e241); have hn241_0 : ad239.block ≠ gb240 := Nat.ne_of_lt (Nat.lt_of_lt_of_le (by have := World.block_lt_of_cell? _ _ hx241_0; first | rwa [add_block] at this | exact this) GW240.out); have hn241_1 : ad239.block ≠ gb240 := Nat.ne_of_lt (Nat.lt_of_lt_of_le (by have := World.block_lt_of_cell? _ _ hx241_0; first | rwa [add_block] at this | exact this) GW240.out); replace hx241_0 := (hw_ HB hx241_0 :); replace hx241_1 := (hw_ HB hx241_1 :); replace hx241_0 := (cell_far (p := ⟨gb240, 0, none⟩) (by first | (rw [add_block]; exact hn241_0) | (show (Addr.add _ _).block ≠ _; rw [add_block]; exact hn241_0) | exact hn241_0) (.int .i16 ((rd_T43 l0 x13_1).f0))).trans hx241_0; replace hx241_1 := (cell_far (p := ⟨gb240, 0, none⟩) (by first | (rw [add_block]; exact hn241_0) | (show (Addr.add _ _).block ≠ _; rw [add_block]; exact hn241_0) | exact hn241_0) (.int .i16 ((rd_T43 l0 x13_1).f0))).trans hx241_1; replace hx241_0 := (cell_far (p := ⟨gb240, 1, none⟩) (by first | (rw [add_block]; exact hn241_1) | (show (Addr.add _ _).block ≠ _; rw [add_block]; exact hn241_1) | exact hn241_1) (.int .i16 ((rd_T43 l0 x13_1).f1))).trans hx241_0; replace hx241_1 := (cell_far (p := ⟨gb240, 1, none⟩) (by first | (rw [add_block]; exact hn241_1) | (show (Addr.add _ _).block ≠ _; rw [add_block]; exact hn241_1) | exact hn241_1) (.int .i16 ((rd_T43 l0 x13_1).f1))).trans hx241_1; clear hn241_0; clear hn241_1; replace p241 := eq_true p241; replace q241 := eq_true q241) | ((with_reducible refine gate_dst (N := 6) rfl ?_); refine boxM_ 6 #[.int .i16 0, .int .i16 0] 43 ?_; intro gb242 hg w11 hbox hb; have BK242 := Aside0.mk (hbox); have GW242 := Aside0.mk ((by rw [hg]; exact (below_size (k1_ HB GE240)) : w.heap.size ≤ gb242)); have GE242 := Aside0.mk ((by rw [hg]; exact (below_size (k1_ HB GE240)) : w.heap.size ≤ gb242)); replace HB := Aside0.mk (below_step (k1_ HB GE240) hb); have NB240_242 := Aside0.mk ((by rw [hg]; exact Nat.ne_of_lt (blk_lt (g := gb240) (o := .cells #[.int .i16 ((rd_T43 l0 x13_1).f0), .int .i16 ((rd_T43 l0 x13_1).f1)] 43 (0, 0)) (by (with_reducible repeat (first | refine blk_drewN ?_ _ | refine blk_drew ?_ | refine blk_alloc ?_ _)); refine blk_put (cs := #[.int .i16 ((rd_T43 l0 x13_1).f0), .int .i16 0]) ?_ 1 _ rfl; (with_reducible repeat (first | refine blk_drewN ?_ _ | refine blk_drew ?_ | refine blk_alloc ?_ _)); refine blk_put (cs := #[.int .i16 0, .int .i16 0]) ?_ 0 _ rfl; (with_reducible repeat (first | refine blk_drewN ?_ _ | refine blk_drew ?_ | refine blk_alloc ?_ _)); exact BK240.out)) : gb240 ≠ gb242)); have NB242_240 := Aside0.mk ((by rw [hg]; exact Nat.ne_of_gt (blk_lt (g := gb240) (o := .cells #[.int .i16 ((rd_T43 l0 x13_1).f0), .int .i16 ((rd_T43 l0 x13_1).f1)] 43 (0, 0)) (by (with_reducible repeat (first | refine blk_drewN ?_ _ | refine blk_drew ?_ | refine blk_alloc ?_ _)); refine blk_put (cs := #[.int .i16 ((rd_T43 l0 x13_1).f0), .int .i16 0]) ?_ 1 _ rfl; (with_reducible repeat (first | refine blk_drewN ?_ _ | refine blk_drew ?_ | refine blk_alloc ?_ _)); refine blk_put (cs := #[.int .i16 0, .int .i16 0]) ?_ 0 _ rfl; (with_reducible repeat (first | refine blk_drewN ?_ _ | refine blk_drew ?_ | refine blk_alloc ?_ _)); exact BK240.out)) : gb242 ≠ gb240)); replace BK240 := Aside0.mk (blk_below (g := gb240) (o := .cells #[.int .i16 ((rd_T43 l0 x13_1).f0), .int .i16 ((rd_T43 l0 x13_1).f1)] 43 (0, 0)) (by (with_reducible repeat (first | refine blk_drewN ?_ _ | refine blk_drew ?_ | refine blk_alloc ?_ _)); refine blk_put (cs := #[.int .i16 ((rd_T43 l0 x13_1).f0), .int .i16 0]) ?_ 1 _ rfl; (with_reducible repeat (first | refine blk_drewN ?_ _ | refine blk_drew ?_ | refine blk_alloc ?_ _)); refine blk_put (cs := #[.int .i16 0, .int .i16 0]) ?_ 0 _ rfl; (with_reducible repeat (first | refine blk_drewN ?_ _ | refine blk_drew ?_ | refine blk_alloc ?_ _)); exact BK240.out) hb); clear hb hbox hg; have hnb12 := NB242_240.out; have hnc12 := NB240_242.out; obtain ⟨⟨hcz13_0, hcz13_1⟩, hfz13_0, hfz13_1⟩ := bq_ BK242))
  go_loopg [27] k1 (fun kq v27 w' => ∃ (x27_2 : Int), v27 = .int .i64 x27_2 ∧ Aside0 (impl_isConvex.l1 kq l0 (l0.length : Int) x13_1 l0 (l0.length : Int) x13_1 l0 (l0.length : Int) x27_2 ((rd_T43 l0 x13_1).f0) ((rd_T43 l0 x13_1).f1) ((rd_T43 l0 (ji6)).f0) ((rd_T43 l0 (ji6)).f1) = some r) ∧ Aside0 (kq ≤ k1) ∧ Aside0 (w'.heap[gb240]? = some (.cells #[.int .i16 ((rd_T43 l0 x13_1).f0), .int .i16 ((rd_T43 l0 x13_1).f1)] 43 (0, 0))) ∧ Aside0 (w'.heap[gb242]? = some (.cells #[.int .i16 ((rd_T43 l0 (ji6)).f0), .int .i16 ((rd_T43 l0 (ji6)).f1)] 43 (0, 0))) ∧ Aside0 (Below w.heap.size w w'))
  case atStart => exact ⟨(0), (by first | rfl | (simp; done) | (simp [*]; done)), H', ⟨Nat.le_refl _⟩, ⟨by (with_reducible repeat (first | refine blk_drewN ?_ _ | refine blk_drew ?_ | refine blk_alloc ?_ _)); refine blk_far ?_ NB240_242.out _; (with_reducible repeat (first | refine blk_drewN ?_ _ | refine blk_drew ?_ | refine blk_alloc ?_ _)); refine blk_far ?_ NB240_242.out _; (with_reducible repeat (first | refine blk_drewN ?_ _ | refine blk_drew ?_ | refine blk_alloc ?_ _)); exact BK240.out⟩, ⟨by (with_reducible repeat (first | refine blk_drewN ?_ _ | refine blk_drew ?_ | refine blk_alloc ?_ _)); refine blk_put (cs := #[.int .i16 ((rd_T43 l0 (ji6)).f0), .int .i16 0]) ?_ 1 _ rfl; (with_reducible repeat (first | refine blk_drewN ?_ _ | refine blk_drew ?_ | refine blk_alloc ?_ _)); refine blk_put (cs := #[.int .i16 0, .int .i16 0]) ?_ 0 _ rfl; (with_reducible repeat (first | refine blk_drewN ?_ _ | refine blk_drew ?_ | refine blk_alloc ?_ _)); exact BK242.out⟩, ⟨k2_ HB GE240 GE242⟩⟩
  case round =>
   clear H'
   obtain ⟨x27_2, rfl, HA, HK2, BK240, BK242, HB⟩ := hrel
   rcases gk with _ | k2
   · exact absurd HA.out (by simp [impl_isConvex.l1])
   have H := HA.out
   clear HA
   simp only [impl_isConvex.l1] at H
   simp only [hji6] at H
   rcases (Decidable.em (x27_2 < (l0.length : Int))).symm with c14 | c14
   ·
    rw [if_neg c14] at H
    have c14b0 : decide (x27_2 < (l0.length : Int)) = false := decide_eq_false c14
    clear c14
    have H' := Aside0.mk H
    clear H
    go_wp2
    go_roundg k2
    case measure => have := HK1.out; have := HK2.out; omega
    case rel => exact ⟨(wrap64 (x13_1 + 1)), (by first | rfl | (simp; done) | (simp [*]; done)), H', ⟨by have := HK1.out; have := HK2.out; omega⟩, ⟨k2_ HB GE240 GE242⟩⟩
   rw [if_pos c14] at H
   have c14b0 : decide (x27_2 < (l0.length : Int)) = true := decide_eq_true c14
   clear c14
   obtain ⟨c15b0, H⟩ := gx_ H
   obtain ⟨c16b0, H⟩ := gx_ H
   by_cases c17 : x27_2 = x13_1
   ·
    rw [if_pos c17] at H
    have c17b0 : (x27_2 == x13_1) = true := beq_iff_eq.mpr c17
    have c17b1 : (x27_2 != x13_1) = false := bne_eq_false_iff_eq.mpr c17
    clear c17
    have H' := Aside0.mk H
    clear H
    have p243 : 0 ≤ (x27_2 : Int) := od_
    have q243 : x27_2 < (l0.length : Int) := od_
    obtain ⟨ad243, e243, hx243_0, hx243_1⟩ := af_ HB (at_T43 HR0.out x27_2 p243 q243)
    obtain rfl : ad239 = ad243 := (by injection e243)
    replace p243 := eq_true p243
    replace q243 := eq_true q243
    go_wp2_with (first | ((with_reducible refine gate_dst (N := 8) rfl ?_); refine boxM_ 8 #[.int .i16 0, .int .i16 0] 43 ?_; intro gb244 hg w18 hbox hb; have BK244 := Aside0.mk (hbox); have GW244 := Aside0.mk ((by rw [hg]; exact (below_size (k2_ HB GE240 GE242)) : w.heap.size ≤ gb244)); have GE244 := Aside0.mk ((by rw [hg]; exact (below_size (k2_ HB GE240 GE242)) : w.heap.size ≤ gb244)); replace HB := Aside0.mk (below_step (k2_ HB GE240 GE242) hb); have NB240_244 := nl_ BK240 hg; have NB244_240 := ng_ BK240 hg; replace BK240 := bd_ BK240 hb; have NB242_244 := nl_ BK242 hg; have NB244_242 := ng_ BK242 hg; replace BK242 := bd_ BK242 hb; clear hb hbox hg; have hnb19 := NB244_240.out; have hnc19 := NB240_244.out; have hnb20 := NB244_242.out; have hnc20 := NB242_244.out; obtain ⟨⟨hcz21_0, hcz21_1⟩, hfz21_0, hfz21_1⟩ := bq_ BK244))
    go_roundg k2
    case measure => have := HK1.out; have := HK2.out; omega
    case rel => exact ⟨(wrap64 (x27_2 + 1)), (by first | rfl | (simp; done) | (simp [*]; done)), H', ⟨by have := HK1.out; have := HK2.out; omega⟩, ⟨by (with_reducible repeat (first | refine blk_drewN ?_ _ | refine blk_drew ?_ | refine blk_alloc ?_ _)); refine blk_far ?_ NB240_244.out _; (with_reducible repeat (first | refine blk_drewN ?_ _ | refine blk_drew ?_ | refine blk_alloc ?_ _)); refine blk_far ?_ NB240_244.out _; (with_reducible repeat (first | refine blk_drewN ?_ _ | refine blk_drew ?_ | refine blk_alloc ?_ _)); exact BK240.out⟩, ⟨by (with_reducible repeat (first | refine blk_drewN ?_ _ | refine blk_drew ?_ | refine blk_alloc ?_ _)); refine blk_far ?_ NB242_244.out _; (with_reducible repeat (first | refine blk_drewN ?_ _ | refine blk_drew ?_ | refine blk_alloc ?_ _)); refine blk_far ?_ NB242_244.out _; (with_reducible repeat (first | refine blk_drewN ?_ _ | refine blk_drew ?_ | refine blk_alloc ?_ _)); exact BK242.out⟩, ⟨k3_ HB GE240 GE242 GE244⟩⟩
   rw [if_neg c17] at H
   have c17b0 : (x27_2 == x13_1) = false := beq_eq_false_iff_ne.mpr c17
   have c17b1 : (x27_2 != x13_1) = true := bne_iff_ne.mpr c17
   by_cases c22 : (l0.length : Int) = 0
   ·
    rw [if_pos c22] at H
    exact absurd H (by simp)
   rw [if_neg c22] at H
   have c22b0 : ((l0.length : Int) == 0) = false := beq_eq_false_iff_ne.mpr c22
   have c22b1 : ((l0.length : Int) != 0) = true := bne_iff_ne.mpr c22
   have c22b2 : ¬ (l0 = []) := fun h_ => c22 (by rw [h_]; rfl)
   by_cases c23 : x27_2 = (ji6)
   ·
    rw [if_pos c23] at H
    have c23b0 : (x27_2 == (ji6)) = true := beq_iff_eq.mpr c23
    have c23b1 : (x27_2 != (ji6)) = false := bne_eq_false_iff_eq.mpr c23
    clear c23
    have H' := Aside0.mk H
    clear H
    have p243 : 0 ≤ (x27_2 : Int) := od_
    have q243 : x27_2 < (l0.length : Int) := od_
    obtain ⟨ad243, e243, hx243_0, hx243_1⟩ := af_ HB (at_T43 HR0.out x27_2 p243 q243)
    obtain rfl : ad239 = ad243 := (by injection e243)
    replace p243 := eq_true p243
    replace q243 := eq_true q243
    go_wp2_with (first | ((with_reducible refine gate_dst (N := 8) rfl ?_); refine boxM_ 8 #[.int .i16 0, .int .i16 0] 43 ?_; intro gb244 hg w24 hbox hb; have BK244 := Aside0.mk (hbox); have GW244 := Aside0.mk ((by rw [hg]; exact (below_size (k2_ HB GE240 GE242)) : w.heap.size ≤ gb244)); have GE244 := Aside0.mk ((by rw [hg]; exact (below_size (k2_ HB GE240 GE242)) : w.heap.size ≤ gb244)); replace HB := Aside0.mk (below_step (k2_ HB GE240 GE242) hb); have NB240_244 := nl_ BK240 hg; have NB244_240 := ng_ BK240 hg; replace BK240 := bd_ BK240 hb; have NB242_244 := nl_ BK242 hg; have NB244_242 := ng_ BK242 hg; replace BK242 := bd_ BK242 hb; clear hb hbox hg; have hnb25 := NB244_240.out; have hnc25 := NB240_244.out; have hnb26 := NB244_242.out; have hnc26 := NB242_244.out; obtain ⟨⟨hcz27_0, hcz27_1⟩, hfz27_0, hfz27_1⟩ := bq_ BK244))
    go_roundg k2
    case measure => have := HK1.out; have := HK2.out; omega
    case rel => exact ⟨(wrap64 (x27_2 + 1)), (by first | rfl | (simp; done) | (simp [*]; done)), H', ⟨by have := HK1.out; have := HK2.out; omega⟩, ⟨by (with_reducible repeat (first | refine blk_drewN ?_ _ | refine blk_drew ?_ | refine blk_alloc ?_ _)); refine blk_far ?_ NB240_244.out _; (with_reducible repeat (first | refine blk_drewN ?_ _ | refine blk_drew ?_ | refine blk_alloc ?_ _)); refine blk_far ?_ NB240_244.out _; (with_reducible repeat (first | refine blk_drewN ?_ _ | refine blk_drew ?_ | refine blk_alloc ?_ _)); exact BK240.out⟩, ⟨by (with_reducible repeat (first | refine blk_drewN ?_ _ | refine blk_drew ?_ | refine blk_alloc ?_ _)); refine blk_far ?_ NB242_244.out _; (with_reducible repeat (first | refine blk_drewN ?_ _ | refine blk_drew ?_ | refine blk_alloc ?_ _)); refine blk_far ?_ NB242_244.out _; (with_reducible repeat (first | refine blk_drewN ?_ _ | refine blk_drew ?_ | refine blk_alloc ?_ _)); exact BK242.out⟩, ⟨k3_ HB GE240 GE242 GE244⟩⟩
   rw [if_neg c23] at H
   have c23b0 : (x27_2 == (ji6)) = false := beq_eq_false_iff_ne.mpr c23
   have c23b1 : (x27_2 != (ji6)) = true := bne_iff_ne.mpr c23
   obtain ⟨t245, A28, H⟩ := be_ H
   (try dsimp only at H)
   by_cases c29 : t245 ≤ 0
   ·
    rw [if_pos c29] at H
    have c29b0 : decide (t245 ≤ 0) = true := decide_eq_true c29
    clear c29
    obtain rfl := Option.some.inj H
    have p243 : 0 ≤ (x27_2 : Int) := od_
    have q243 : x27_2 < (l0.length : Int) := od_
    obtain ⟨ad243, e243, hx243_0, hx243_1⟩ := af_ HB (at_T43 HR0.out x27_2 p243 q243)
    obtain rfl : ad239 = ad243 := (by injection e243)
    replace p243 := eq_true p243
    replace q243 := eq_true q243
    go_wp2_with (first | ((with_reducible refine gate_dst (N := 8) rfl ?_); refine boxM_ 8 #[.int .i16 0, .int .i16 0] 43 ?_; intro gb244 hg w30 hbox hb; have BK244 := Aside0.mk (hbox); have GW244 := Aside0.mk ((by rw [hg]; exact (below_size (k2_ HB GE240 GE242)) : w.heap.size ≤ gb244)); have GE244 := Aside0.mk ((by rw [hg]; exact (below_size (k2_ HB GE240 GE242)) : w.heap.size ≤ gb244)); replace HB := Aside0.mk (below_step (k2_ HB GE240 GE242) hb); have NB240_244 := nl_ BK240 hg; have NB244_240 := ng_ BK240 hg; replace BK240 := bd_ BK240 hb; have NB242_244 := nl_ BK242 hg; have NB244_242 := ng_ BK242 hg; replace BK242 := bd_ BK242 hb; clear hb hbox hg; have hnb31 := NB244_240.out; have hnc31 := NB240_244.out; have hnb32 := NB244_242.out; have hnc32 := NB242_244.out; obtain ⟨⟨hcz33_0, hcz33_1⟩, hfz33_0, hfz33_1⟩ := bq_ BK244; have hnb34 := NB240_242.out; have hnc34 := NB242_240.out; obtain ⟨⟨hcz35_0, hcz35_1⟩, hfz35_0, hfz35_1⟩ := bq_ BK240; obtain ⟨⟨hcz36_0, hcz36_1⟩, hfz36_0, hfz36_1⟩ := bq_ BK242) | (go_at_call 71; (with_reducible refine (impl_side.calls ((rd_T43 l0 x13_1).f0) ((rd_T43 l0 x13_1).f1) ((rd_T43 l0 (ji6)).f0) ((rd_T43 l0 (ji6)).f1) ((rd_T43 l0 x27_2).f0) ((rd_T43 l0 x27_2).f1) t245 _ A28.out).mono ?_); rintro e w37 ⟨rfl, hb⟩; replace BK240 := Aside0.mk (blk_below (g := gb240) (o := .cells #[.int .i16 ((rd_T43 l0 x13_1).f0), .int .i16 ((rd_T43 l0 x13_1).f1)] 43 (0, 0)) (by (with_reducible repeat (first | refine blk_drewN ?_ _ | refine blk_drew ?_ | refine blk_alloc ?_ _)); refine blk_far ?_ NB240_244.out _; (with_reducible repeat (first | refine blk_drewN ?_ _ | refine blk_drew ?_ | refine blk_alloc ?_ _)); refine blk_far ?_ NB240_244.out _; (with_reducible repeat (first | refine blk_drewN ?_ _ | refine blk_drew ?_ | refine blk_alloc ?_ _)); exact BK240.out) hb); replace BK242 := Aside0.mk (blk_below (g := gb242) (o := .cells #[.int .i16 ((rd_T43 l0 (ji6)).f0), .int .i16 ((rd_T43 l0 (ji6)).f1)] 43 (0, 0)) (by (with_reducible repeat (first | refine blk_drewN ?_ _ | refine blk_drew ?_ | refine blk_alloc ?_ _)); refine blk_far ?_ NB242_244.out _; (with_reducible repeat (first | refine blk_drewN ?_ _ | refine blk_drew ?_ | refine blk_alloc ?_ _)); refine blk_far ?_ NB242_244.out _; (with_reducible repeat (first | refine blk_drewN ?_ _ | refine blk_drew ?_ | refine blk_alloc ?_ _)); exact BK242.out) hb); replace BK244 := Aside0.mk (blk_below (g := gb244) (o := .cells #[.int .i16 ((rd_T43 l0 x27_2).f0), .int .i16 ((rd_T43 l0 x27_2).f1)] 43 (0, 0)) (by (with_reducible repeat (first | refine blk_drewN ?_ _ | refine blk_drew ?_ | refine blk_alloc ?_ _)); refine blk_put (cs := #[.int .i16 ((rd_T43 l0 x27_2).f0), .int .i16 0]) ?_ 1 _ rfl; (with_reducible repeat (first | refine blk_drewN ?_ _ | refine blk_drew ?_ | refine blk_alloc ?_ _)); refine blk_put (cs := #[.int .i16 0, .int .i16 0]) ?_ 0 _ rfl; (with_reducible repeat (first | refine blk_drewN ?_ _ | refine blk_drew ?_ | refine blk_alloc ?_ _)); exact BK244.out) hb); replace HB := Aside0.mk (below_step (k3_ HB GE240 GE242 GE244) hb); clear hb))
    go_ret
    exact ⟨by first | rfl | (simp [errW_none, errW_some] <;> rfl) | (simp only [← hji6]; first | rfl | (simp [errW_none, errW_some] <;> rfl)) | (simp [*, errW_none, errW_some] <;> rfl), k3_ HB GE240 GE242 GE244⟩
   rw [if_neg c29] at H
   have c29b0 : decide (t245 ≤ 0) = false := decide_eq_false c29
   clear c29
   have H' := Aside0.mk H
   clear H
   have p243 : 0 ≤ (x27_2 : Int) := od_
   have q243 : x27_2 < (l0.length : Int) := od_
   obtain ⟨ad243, e243, hx243_0, hx243_1⟩ := af_ HB (at_T43 HR0.out x27_2 p243 q243)
   obtain rfl : ad239 = ad243 := (by injection e243)
   replace p243 := eq_true p243
   replace q243 := eq_true q243
   go_wp2_with (first | ((with_reducible refine gate_dst (N := 8) rfl ?_); refine boxM_ 8 #[.int .i16 0, .int .i16 0] 43 ?_; intro gb244 hg w38 hbox hb; have BK244 := Aside0.mk (hbox); have GW244 := Aside0.mk ((by rw [hg]; exact (below_size (k2_ HB GE240 GE242)) : w.heap.size ≤ gb244)); have GE244 := Aside0.mk ((by rw [hg]; exact (below_size (k2_ HB GE240 GE242)) : w.heap.size ≤ gb244)); replace HB := Aside0.mk (below_step (k2_ HB GE240 GE242) hb); have NB240_244 := nl_ BK240 hg; have NB244_240 := ng_ BK240 hg; replace BK240 := bd_ BK240 hb; have NB242_244 := nl_ BK242 hg; have NB244_242 := ng_ BK242 hg; replace BK242 := bd_ BK242 hb; clear hb hbox hg; have hnb39 := NB244_240.out; have hnc39 := NB240_244.out; have hnb40 := NB244_242.out; have hnc40 := NB242_244.out; obtain ⟨⟨hcz41_0, hcz41_1⟩, hfz41_0, hfz41_1⟩ := bq_ BK244; have hnb42 := NB240_242.out; have hnc42 := NB242_240.out; obtain ⟨⟨hcz43_0, hcz43_1⟩, hfz43_0, hfz43_1⟩ := bq_ BK240; obtain ⟨⟨hcz44_0, hcz44_1⟩, hfz44_0, hfz44_1⟩ := bq_ BK242) | (go_at_call 71; (with_reducible refine (impl_side.calls ((rd_T43 l0 x13_1).f0) ((rd_T43 l0 x13_1).f1) ((rd_T43 l0 (ji6)).f0) ((rd_T43 l0 (ji6)).f1) ((rd_T43 l0 x27_2).f0) ((rd_T43 l0 x27_2).f1) t245 _ A28.out).mono ?_); rintro e w45 ⟨rfl, hb⟩; replace BK240 := Aside0.mk (blk_below (g := gb240) (o := .cells #[.int .i16 ((rd_T43 l0 x13_1).f0), .int .i16 ((rd_T43 l0 x13_1).f1)] 43 (0, 0)) (by (with_reducible repeat (first | refine blk_drewN ?_ _ | refine blk_drew ?_ | refine blk_alloc ?_ _)); refine blk_far ?_ NB240_244.out _; (with_reducible repeat (first | refine blk_drewN ?_ _ | refine blk_drew ?_ | refine blk_alloc ?_ _)); refine blk_far ?_ NB240_244.out _; (with_reducible repeat (first | refine blk_drewN ?_ _ | refine blk_drew ?_ | refine blk_alloc ?_ _)); exact BK240.out) hb); replace BK242 := Aside0.mk (blk_below (g := gb242) (o := .cells #[.int .i16 ((rd_T43 l0 (ji6)).f0), .int .i16 ((rd_T43 l0 (ji6)).f1)] 43 (0, 0)) (by (with_reducible repeat (first | refine blk_drewN ?_ _ | refine blk_drew ?_ | refine blk_alloc ?_ _)); refine blk_far ?_ NB242_244.out _; (with_reducible repeat (first | refine blk_drewN ?_ _ | refine blk_drew ?_ | refine blk_alloc ?_ _)); refine blk_far ?_ NB242_244.out _; (with_reducible repeat (first | refine blk_drewN ?_ _ | refine blk_drew ?_ | refine blk_alloc ?_ _)); exact BK242.out) hb); replace BK244 := Aside0.mk (blk_below (g := gb244) (o := .cells #[.int .i16 ((rd_T43 l0 x27_2).f0), .int .i16 ((rd_T43 l0 x27_2).f1)] 43 (0, 0)) (by (with_reducible repeat (first | refine blk_drewN ?_ _ | refine blk_drew ?_ | refine blk_alloc ?_ _)); refine blk_put (cs := #[.int .i16 ((rd_T43 l0 x27_2).f0), .int .i16 0]) ?_ 1 _ rfl; (with_reducible repeat (first | refine blk_drewN ?_ _ | refine blk_drew ?_ | refine blk_alloc ?_ _)); refine blk_put (cs := #[.int .i16 0, .int .i16 0]) ?_ 0 _ rfl; (with_reducible repeat (first | refine blk_drewN ?_ _ | refine blk_drew ?_ | refine blk_alloc ?_ _)); exact BK244.out) hb); replace HB := Aside0.mk (below_step (k3_ HB GE240 GE242 GE244) hb); clear hb))
   go_roundg k2
   case measure => have := HK1.out; have := HK2.out; omega
   case rel => exact ⟨(wrap64 (x27_2 + 1)), (by first | rfl | (simp; done) | (simp [*]; done)), H', ⟨by have := HK1.out; have := HK2.out; omega⟩, ⟨bk_ BK240⟩, ⟨bk_ BK242⟩, ⟨k3_ HB GE240 GE242 GE244⟩⟩
/-! ### impl_ValidStone: function 14 -/
def impl_ValidStone.f (k : Nat) (l0 : List (S43)) : Option (Bool) := if (l0.length : Int) ≤ 8 then ((impl_isConvex.f k l0).bind fun t246 => (some t246)) else (some false)
theorem impl_ValidStone.mono : ∀ a0 k, LeO (impl_ValidStone.f k a0) (impl_ValidStone.f (k + 1) a0) := by
 intro a0 k
 unfold impl_ValidStone.f
 repeat' first | (with_reducible first | exact impl_isConvex.mono _ _ | exact LeO.refl _ | exact LeO.none _ | refine LeO.ite ?_ ?_ | refine LeO.bind ?_ (fun _ => ?_))
set_option maxHeartbeats 8000000 in
set_option maxRecDepth 100000 in
theorem impl_ValidStone.calls (k : Nat) (A0 : Option Addr) (c0 : Nat) (l0 : List (S43)) (r : Bool) (w : World) (hr0 : Kd.C k43 w A0 l0.length l0) (hc0 : l0.length ≤ c0) (h : impl_ValidStone.f k l0 = some r) :
  Calls Tryz.prog 14 #[.slice A0 l0.length c0] w fun e w' => e = .returned (.bool r) ∧ Below w.heap.size w w' := by
 have HR0 := Aside0.mk hr0
 have HC0 := Aside0.mk hc0
 clear hr0 hc0
 have HB := Aside0.mk (Below.refl w.heap.size w)
 have H : (if (l0.length : Int) ≤ 8 then ((impl_isConvex.f k l0).bind fun t246 => (some t246)) else (some false)) = some r := h
 clear h
 rcases (Decidable.em ((l0.length : Int) ≤ 8)).symm with c2 | c2
 ·
  rw [if_neg c2] at H
  have c2b0 : decide ((l0.length : Int) ≤ 8) = false := decide_eq_false c2
  have c2b1 : decide (l0.length ≤ 8) = false := decide_eq_false (by omega)
  clear c2
  obtain rfl := Option.some.inj H
  go_enter Tryz.func14, Tryz.ntmps14
  go_wp2
  go_ret
  exact ⟨rt_, kB_ HB⟩

 rw [if_pos c2] at H
 have c2b0 : decide ((l0.length : Int) ≤ 8) = true := decide_eq_true c2
 have c2b1 : decide (l0.length ≤ 8) = true := decide_eq_true (by omega)
 clear c2
 obtain ⟨t246, A3, H⟩ := be_ H
 (try dsimp only at H)
 obtain rfl := Option.some.inj H
 go_enter Tryz.func14, Tryz.ntmps14
 go_wp2_with (first | (go_at_call 39; (with_reducible refine (impl_isConvex.calls k _ _ l0 t246 _ ?side1 ?side2 A3.out).mono ?_); (case side1 => exact kc_ HR0.out); (case side2 => exact HC0.out); rintro e w4 ⟨rfl, hb⟩; replace HB := Aside0.mk (below_step (kB_ HB) hb); clear hb))
 go_ret
 exact ⟨rt_, kB_ HB⟩
/-! ### impl_codeOf: function 40 -/
def impl_codeOf.f (a0 : Bool) (a1 : Bool) : Option (Int) := if a0 = true then (if a1 = true then (some 0) else (some 2)) else (some 1)
set_option maxHeartbeats 8000000 in
set_option maxRecDepth 100000 in
theorem impl_codeOf.calls (a0 : Bool) (a1 : Bool) (r : Int) (w : World) (h : impl_codeOf.f a0 a1 = some r) :
  Calls Tryz.prog 40 #[.bool a0, .bool a1] w fun e w' => e = .returned (.int .i64 r) ∧ Drawn0 w w' := by
 have H : (if a0 = true then (if a1 = true then (some 0) else (some 2)) else (some 1)) = some r := h
 clear h
 rcases (Decidable.em (a0 = true)).symm with c3 | c3
 ·
  replace c3 := Bool.eq_false_iff.mpr c3
  subst c3
  replace H := gf_ H
  obtain rfl := Option.some.inj H
  go_enter Tryz.func40, Tryz.ntmps40
  go_wp2
  go_ret
  exact ⟨by first | rfl | (simp; done) | (simp [*]; done), by repeat (first | exact Drawn0.refl _ | apply Drawn0.step)⟩

 subst c3
 replace H := gt_ H
 by_cases c4 : a1 = true
 ·
  subst c4
  replace H := gt_ H
  obtain rfl := Option.some.inj H
  go_enter Tryz.func40, Tryz.ntmps40
  go_wp2
  go_ret
  exact ⟨by first | rfl | (simp; done) | (simp [*]; done), by repeat (first | exact Drawn0.refl _ | apply Drawn0.step)⟩
 replace c4 := Bool.eq_false_iff.mpr c4
 subst c4
 replace H := gf_ H
 obtain rfl := Option.some.inj H
 go_enter Tryz.func40, Tryz.ntmps40
 go_wp2
 go_ret
 exact ⟨by first | rfl | (simp; done) | (simp [*]; done), by repeat (first | exact Drawn0.refl _ | apply Drawn0.step)⟩
end Go.Proofs.YthbogbaaikjhbaaGreatDoor.PA
