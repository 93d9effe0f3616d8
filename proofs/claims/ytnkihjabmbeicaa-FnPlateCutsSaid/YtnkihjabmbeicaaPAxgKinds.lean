/- Pure functions, and that Go's functions come to them. -/
import Derived.Test.YtnkihjabmbeicaaPAx0
import Derived.Test.YtnkihjabmbeicaaPAxm6
namespace Go.Proofs.Ytnkihjabmbeicaa.PA
open Go.RowKit Go.Proofs.YtnkihjabmbeicaaW.PrintWords Go.Proofs.YtnkihjabmbeicaaW.PrintLast Go.Proofs.YtnkihjabmbeicaaW.PrintMore
set_option linter.unusedVariables false
set_option linter.unusedSimpArgs false

/-! ### impl_Kind_40: function 40 -/
set_option maxHeartbeats 4000000 in
theorem impl_Kind_40.anyB (g : Nat) (lb : Array Value) (eg : ∀ args w, (callFunc g args).run Try.prog w = .ok (.enter g args) w) (p : S46 → Option Bool) (A : Option Addr) (c : Nat) (l : List (S46)) (r : Int) (w : World) (hr : Kd.C k46 w A l.length l) (hc : l.length ≤ c) (h : Base.idxO p l 0 = some r)
  (hp : ∀ W (x : S46) (b : Bool), Below w.heap.size w W → x ∈ l → p x = some b → Calls Try.prog g (#[.agg #[.int .i8 x.f0, .int .i8 x.f1, .int .i16 x.f2]] ++ lb) W fun e w' => e = .returned (.bool b) ∧ Below w.heap.size w w') :
  Calls Try.prog 40 #[.slice A l.length c, .func (.func g) #[] lb] w fun e w' => e = .returned (.int .i64 r) ∧ Below w.heap.size w w' := by
 have hn := hr.2.1
 have h0 := Aside0.mk h
 clear h
 go_enter Try.func40, Try.ntmps40
 go_wp2
 go_loopg [5, 8] l.length (fun gg _ s8 wr => ∃ kk : Nat, kk ≤ l.length ∧ l.length - kk ≤ gg ∧ s8 = .int .i64 kk ∧ Aside0 (Base.idxO p (l.drop kk) (kk : Int) = some r) ∧ Aside0 (Below w.heap.size w wr))
 case atStart => exact ⟨0, Nat.zero_le _, by omega, rfl, ⟨by rw [List.drop_zero]; exact h0.out⟩, ⟨Below.refl _ w⟩⟩
 case round =>
  clear h0
  obtain ⟨kk, hkk, hg, rfl, HA, HB⟩ := hrel
  by_cases hlt : kk < l.length
  ·
   have hltz : (kk : Int) < (l.length : Int) := by omega
   obtain ⟨ad, ea, hx0, hx1, hx2⟩ := at_T46 (Kd.C_below hr HB.out) (kk : Int) (by omega) hltz
   cases ea
   rw [Int.toNat_natCast] at hx0
   rw [Int.toNat_natCast] at hx1
   rw [Int.toNat_natCast] at hx2
   have hm : rd_T46 l (kk : Int) = l[kk] := Base.getD_nat l _ kk hlt
   obtain ⟨b, hb, ht, hf⟩ := Base.idxO_step hlt HA.out
   have hcall := hp wr (rd_T46 l (kk : Int)) b HB.out (by rw [hm]; exact List.getElem_mem _) (by rw [hm]; exact hb)
   have HT := Aside0.mk ht
   have HF := Aside0.mk hf
   clear hp hr hm hb ht hf HA
   cases b with
   | true =>
    have hT := Aside0.mk (HT.out rfl)
    clear HT HF
    go_wp2_with (go_at_fn g; refine hcall.mono ?_; rintro e w' ⟨rfl, hb'⟩)
    go_ret
    exact ⟨by rw [← hT.out]; rfl, hb'⟩
   | false =>
    have hF := Aside0.mk (HF.out rfl)
    clear HT HF
    go_wp2_with (go_at_fn g; refine hcall.mono ?_; rintro e w' ⟨rfl, hb'⟩)
    go_roundg (l.length - (kk + 1))
    case measure => omega
    case rel => exact ⟨kk + 1, by omega, by omega, by go_num, hF, ⟨hb'⟩⟩
  ·
   have hltz : ¬ (kk : Int) < (l.length : Int) := by omega
   have hE := Aside0.mk (Base.idxO_end hlt HA.out)
   clear hp hr HA
   go_wp2
   go_ret
   exact ⟨by rw [hE.out]; rfl, HB.out⟩

/-! ### impl_Kind_30: function 30 -/
set_option maxHeartbeats 4000000 in
theorem impl_Kind_30.anyB (g : Nat) (lb : Array Value) (eg : ∀ args w, (callFunc g args).run Try.prog w = .ok (.enter g args) w) (p : S46 → Option Bool) (A : Option Addr) (c : Nat) (l : List (S46)) (r : Bool) (w : World) (hr : Kd.C k46 w A l.length l) (hc : l.length ≤ c) (h : ((Base.idxO p l 0).bind fun i => some (decide (0 ≤ i))) = some r)
  (hp : ∀ W (x : S46) (b : Bool), Below w.heap.size w W → x ∈ l → p x = some b → Calls Try.prog g (#[.agg #[.int .i8 x.f0, .int .i8 x.f1, .int .i16 x.f2]] ++ lb) W fun e w' => e = .returned (.bool b) ∧ Below w.heap.size w w') :
  Calls Try.prog 30 #[.slice A l.length c, .func (.func g) #[] lb] w fun e w' => e = .returned (.bool r) ∧ Below w.heap.size w w' := by
 obtain ⟨i, hi, he⟩ := Option.bind_eq_some_iff.1 h
 obtain rfl := Option.some.inj he
 have hcon := impl_Kind_40.anyB g lb eg p A c l i w hr hc hi hp
 clear hp hr h hi he
 go_enter Try.func30, Try.ntmps30
 go_wp2_with (go_at_call 40; refine hcon.mono ?_; rintro e w' ⟨rfl, hb'⟩)
 go_ret
 exact ⟨rfl, hb'⟩

/-! ### impl_ValidKinds_1: function 31 -/
def impl_ValidKinds_1.f (a0_0 : Int) (a0_1 : Int) (a0_2 : Int) : Option (Bool) := (impl_within.f (wrap64 (a0_0)) 1 24).bind fun t140 => (if t140 = true then ((impl_within.f (wrap64 (a0_1)) 1 24).bind fun t141 => (if t141 = true then ((impl_within.f (wrap64 (a0_2)) 0 1000).bind fun t142 => (some (!t142))) else (some true))) else (some true))
set_option maxHeartbeats 8000000 in
set_option maxRecDepth 100000 in
theorem impl_ValidKinds_1.calls (a0_0 : Int) (a0_1 : Int) (a0_2 : Int) (r : Bool) (w : World) (h : impl_ValidKinds_1.f a0_0 a0_1 a0_2 = some r) :
  Calls Try.prog 31 #[.agg #[.int .i8 a0_0, .int .i8 a0_1, .int .i16 a0_2]] w fun e w' => e = .returned (.bool r) ∧ Below w.heap.size w w' := by
 have hu46 := Try.underlying46
 have HB := Aside0.mk (Below.refl w.heap.size w)
 have H : ((impl_within.f (wrap64 (a0_0)) 1 24).bind fun t140 => (if t140 = true then ((impl_within.f (wrap64 (a0_1)) 1 24).bind fun t141 => (if t141 = true then ((impl_within.f (wrap64 (a0_2)) 0 1000).bind fun t142 => (some (!t142))) else (some true))) else (some true))) = some r := h
 clear h
 obtain ⟨t140, A2, H⟩ := be_ H
 (try dsimp only at H)
 rcases (Decidable.em (t140 = true)).symm with c3 | c3
 ·
  replace c3 := Bool.eq_false_iff.mpr c3
  subst c3
  replace H := gf_ H
  obtain rfl := Option.some.inj H
  go_enter Try.func31, Try.ntmps31
  go_wp2_with (first | ((with_reducible refine gate_dst (N := 1) rfl ?_); refine boxM_ 1 #[.int .i8 a0_0, .int .i8 a0_1, .int .i16 a0_2] 46 ?_; intro gb139 hg w11 hbox hb; have BK139 := Aside0.mk (hbox); have GW139 := ge_ HB hg; have GE139 := ge_ HB hg; replace HB := bs_ HB hb; clear hb hbox hg; have hcz12_0 : w11.cell? ⟨gb139, 0, none⟩ = some (.int .i8 a0_0) := (blk_cell BK139.out 0).trans rfl; have hcz12_1 : w11.cell? ⟨gb139, 1, none⟩ = some (.int .i8 a0_1) := (blk_cell BK139.out 1).trans rfl; have hcz12_2 : w11.cell? ⟨gb139, 2, none⟩ = some (.int .i16 a0_2) := (blk_cell BK139.out 2).trans rfl; have hfz12_0 := blk_frozen BK139.out 0; have hfz12_1 := blk_frozen BK139.out 1; have hfz12_2 := blk_frozen BK139.out 2) | ((with_reducible refine gate_callee (f := 32) rfl ?_); refine goM_ (some 6) Try.func32 #[.int .i64 (wrap64 (a0_0)), .int .i64 1, .int .i64 24] ?_; (with_reducible refine (impl_within.calls (wrap64 (a0_0)) 1 24 false _ A2.out).mono ?_); rintro e w' ⟨rfl, ⟨nd, rfl⟩⟩; refine ⟨_, rfl, ?_⟩))
  go_ret
  exact ⟨rt_, k1_ HB GE139⟩

 subst c3
 replace H := gt_ H
 obtain ⟨t141, A4, H⟩ := be_ H
 (try dsimp only at H)
 rcases (Decidable.em (t141 = true)).symm with c5 | c5
 ·
  replace c5 := Bool.eq_false_iff.mpr c5
  subst c5
  replace H := gf_ H
  obtain rfl := Option.some.inj H
  go_enter Try.func31, Try.ntmps31
  go_wp2_with (first | ((with_reducible refine gate_dst (N := 1) rfl ?_); refine boxM_ 1 #[.int .i8 a0_0, .int .i8 a0_1, .int .i16 a0_2] 46 ?_; intro gb139 hg w9 hbox hb; have BK139 := Aside0.mk (hbox); have GW139 := ge_ HB hg; have GE139 := ge_ HB hg; replace HB := bs_ HB hb; clear hb hbox hg; have hcz10_0 : w9.cell? ⟨gb139, 0, none⟩ = some (.int .i8 a0_0) := (blk_cell BK139.out 0).trans rfl; have hcz10_1 : w9.cell? ⟨gb139, 1, none⟩ = some (.int .i8 a0_1) := (blk_cell BK139.out 1).trans rfl; have hcz10_2 : w9.cell? ⟨gb139, 2, none⟩ = some (.int .i16 a0_2) := (blk_cell BK139.out 2).trans rfl; have hfz10_0 := blk_frozen BK139.out 0; have hfz10_1 := blk_frozen BK139.out 1; have hfz10_2 := blk_frozen BK139.out 2) | ((with_reducible refine gate_callee (f := 32) rfl ?_); refine goM_ (some 6) Try.func32 #[.int .i64 (wrap64 (a0_0)), .int .i64 1, .int .i64 24] ?_; (with_reducible refine (impl_within.calls (wrap64 (a0_0)) 1 24 true _ A2.out).mono ?_); rintro e w' ⟨rfl, ⟨nd, rfl⟩⟩; refine ⟨_, rfl, ?_⟩) | (go_at_call 32; (with_reducible refine (impl_within.calls (wrap64 (a0_1)) 1 24 false _ A4.out).mono ?_); rintro e w' ⟨rfl, ⟨nd, rfl⟩⟩))
  go_ret
  exact ⟨rt_, k1_ HB GE139⟩
 subst c5
 replace H := gt_ H
 obtain ⟨t142, A6, H⟩ := be_ H
 (try dsimp only at H)
 obtain rfl := Option.some.inj H
 go_enter Try.func31, Try.ntmps31
 go_wp2_with (first | ((with_reducible refine gate_dst (N := 1) rfl ?_); refine boxM_ 1 #[.int .i8 a0_0, .int .i8 a0_1, .int .i16 a0_2] 46 ?_; intro gb139 hg w7 hbox hb; have BK139 := Aside0.mk (hbox); have GW139 := ge_ HB hg; have GE139 := ge_ HB hg; replace HB := bs_ HB hb; clear hb hbox hg; have hcz8_0 : w7.cell? ⟨gb139, 0, none⟩ = some (.int .i8 a0_0) := (blk_cell BK139.out 0).trans rfl; have hcz8_1 : w7.cell? ⟨gb139, 1, none⟩ = some (.int .i8 a0_1) := (blk_cell BK139.out 1).trans rfl; have hcz8_2 : w7.cell? ⟨gb139, 2, none⟩ = some (.int .i16 a0_2) := (blk_cell BK139.out 2).trans rfl; have hfz8_0 := blk_frozen BK139.out 0; have hfz8_1 := blk_frozen BK139.out 1; have hfz8_2 := blk_frozen BK139.out 2) | ((with_reducible refine gate_callee (f := 32) rfl ?_); refine goM_ (some 6) Try.func32 #[.int .i64 (wrap64 (a0_0)), .int .i64 1, .int .i64 24] ?_; (with_reducible refine (impl_within.calls (wrap64 (a0_0)) 1 24 true _ A2.out).mono ?_); rintro e w' ⟨rfl, ⟨nd, rfl⟩⟩; refine ⟨_, rfl, ?_⟩) | (go_at_call 32; (with_reducible refine (impl_within.calls (wrap64 (a0_1)) 1 24 true _ A4.out).mono ?_); rintro e w' ⟨rfl, ⟨nd, rfl⟩⟩) | (go_at_call 32; (with_reducible refine (impl_within.calls (wrap64 (a0_2)) 0 1000 t142 _ A6.out).mono ?_); rintro e w' ⟨rfl, ⟨nd, rfl⟩⟩))
 go_ret
 exact ⟨rt_, k1_ HB GE139⟩
/-! ### impl_ValidKinds_1_any: function 31 -/
def impl_ValidKinds_1_any.f (l0 : List (S46)) : Option Bool := (Base.idxO (fun x : S46 => impl_ValidKinds_1.f x.f0 x.f1 x.f2) l0 0).bind fun i => some (decide (0 ≤ i))
theorem impl_ValidKinds_1_any.calls (A0 : Option Addr) (c0 : Nat) (l0 : List (S46)) (r : Bool) (w : World) (hr0 : Kd.C k46 w A0 l0.length l0) (hc0 : l0.length ≤ c0) (h : impl_ValidKinds_1_any.f l0 = some r) :
  Calls Try.prog 30 #[.slice A0 l0.length c0, .func (.func 31) #[] #[]] w fun e w' => e = .returned (.bool r) ∧ Below w.heap.size w w' :=
 impl_Kind_30.anyB 31 #[] (enters_of Try.func31 (by kernel_rfl) rfl) (fun x : S46 => impl_ValidKinds_1.f x.f0 x.f1 x.f2) A0 c0 l0 r w hr0 hc0 h (fun W x b hb _ hx => (impl_ValidKinds_1.calls x.f0 x.f1 x.f2 b W hx).mono fun e w' h => ⟨h.1, below_then hb hb.size h.2⟩)

/-! ### impl_ValidKinds: function 12 -/
def impl_ValidKinds.f (l0 : List (S46)) : Option (Bool) := if (l0.length : Int) ≤ 8 then ((impl_ValidKinds_1_any.f l0).bind fun t143 => (some (!t143))) else (some false)
set_option maxHeartbeats 8000000 in
set_option maxRecDepth 100000 in
theorem impl_ValidKinds.calls (A0 : Option Addr) (c0 : Nat) (l0 : List (S46)) (r : Bool) (w : World) (hr0 : Kd.C k46 w A0 l0.length l0) (hc0 : l0.length ≤ c0) (h : impl_ValidKinds.f l0 = some r) :
  Calls Try.prog 12 #[.slice A0 l0.length c0] w fun e w' => e = .returned (.bool r) ∧ Below w.heap.size w w' := by
 have HR0 := Aside0.mk hr0
 have HC0 := Aside0.mk hc0
 clear hr0 hc0
 have HB := Aside0.mk (Below.refl w.heap.size w)
 have H : (if (l0.length : Int) ≤ 8 then ((impl_ValidKinds_1_any.f l0).bind fun t143 => (some (!t143))) else (some false)) = some r := h
 clear h
 rcases (Decidable.em ((l0.length : Int) ≤ 8)).symm with c2 | c2
 ·
  rw [if_neg c2] at H
  have c2b0 : decide ((l0.length : Int) ≤ 8) = false := decide_eq_false c2
  have c2b1 : decide (l0.length ≤ 8) = false := decide_eq_false (by omega)
  clear c2
  obtain rfl := Option.some.inj H
  go_enter Try.func12, Try.ntmps12
  go_wp2
  go_ret
  exact ⟨rt_, bl_ HB⟩

 rw [if_pos c2] at H
 have c2b0 : decide ((l0.length : Int) ≤ 8) = true := decide_eq_true c2
 have c2b1 : decide (l0.length ≤ 8) = true := decide_eq_true (by omega)
 clear c2
 obtain ⟨t143, A3, H⟩ := be_ H
 (try dsimp only at H)
 obtain rfl := Option.some.inj H
 go_enter Try.func12, Try.ntmps12
 go_wp2_with (first | (go_at_call 30; (with_reducible refine (impl_ValidKinds_1_any.calls _ _ l0  t143 _ ?side1 ?side2 A3.out).mono ?_); (case side1 => exact kc_ HR0.out); (case side2 => exact HC0.out); rintro e w4 ⟨rfl, hb⟩; replace HB := bs_ HB hb; clear hb))
 go_ret
 exact ⟨rt_, bl_ HB⟩
/-! ### impl_isPlate: function 24 -/
def impl_isPlate.f (a0 : Int) (a1 : Int) : Option (Bool) := (impl_within.f a0 1 24).bind fun t144 => (if t144 = true then ((impl_within.f a1 1 24).bind fun t145 => (some t145)) else (some false))
set_option maxHeartbeats 8000000 in
set_option maxRecDepth 100000 in
theorem impl_isPlate.calls (a0 : Int) (a1 : Int) (r : Bool) (w : World) (h : impl_isPlate.f a0 a1 = some r) :
  Calls Try.prog 24 #[.int .i64 a0, .int .i64 a1] w fun e w' => e = .returned (.bool r) ∧ Drawn0 w w' := by
 have H : ((impl_within.f a0 1 24).bind fun t144 => (if t144 = true then ((impl_within.f a1 1 24).bind fun t145 => (some t145)) else (some false))) = some r := h
 clear h
 obtain ⟨t144, A3, H⟩ := be_ H
 (try dsimp only at H)
 rcases (Decidable.em (t144 = true)).symm with c4 | c4
 ·
  replace c4 := Bool.eq_false_iff.mpr c4
  subst c4
  replace H := gf_ H
  obtain rfl := Option.some.inj H
  go_enter Try.func24, Try.ntmps24
  go_wp2_with (first | ((with_reducible refine gate_callee (f := 32) rfl ?_); refine goM_ (some 6) Try.func32 #[.int .i64 a0, .int .i64 1, .int .i64 24] ?_; (with_reducible refine (impl_within.calls a0 1 24 false _ A3.out).mono ?_); rintro e w' ⟨rfl, ⟨nd, rfl⟩⟩; refine ⟨_, rfl, ?_⟩))
  go_ret
  exact ⟨by first | rfl | (simp; done) | (simp [*]; done), by repeat (first | exact Drawn0.refl _ | apply Drawn0.step)⟩

 subst c4
 replace H := gt_ H
 obtain ⟨t145, A5, H⟩ := be_ H
 (try dsimp only at H)
 obtain rfl := Option.some.inj H
 go_enter Try.func24, Try.ntmps24
 go_wp2_with (first | ((with_reducible refine gate_callee (f := 32) rfl ?_); refine goM_ (some 6) Try.func32 #[.int .i64 a0, .int .i64 1, .int .i64 24] ?_; (with_reducible refine (impl_within.calls a0 1 24 true _ A3.out).mono ?_); rintro e w' ⟨rfl, ⟨nd, rfl⟩⟩; refine ⟨_, rfl, ?_⟩) | (go_at_call 32; (with_reducible refine (impl_within.calls a1 1 24 t145 _ A5.out).mono ?_); rintro e w' ⟨rfl, ⟨nd, rfl⟩⟩))
 go_ret
 exact ⟨by first | rfl | (simp; done) | (simp [*]; done), by repeat (first | exact Drawn0.refl _ | apply Drawn0.step)⟩
end Go.Proofs.Ytnkihjabmbeicaa.PA
