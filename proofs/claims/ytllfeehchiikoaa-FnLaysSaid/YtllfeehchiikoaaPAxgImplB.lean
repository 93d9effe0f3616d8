/- Pure functions, and that Go's functions come to them. -/
import Derived.Test.YtllfeehchiikoaaPAx0
import Derived.Test.YtllfeehchiikoaaPAxgImpl
import Derived.Test.YtllfeehchiikoaaPAxgImplO
namespace Go.Proofs.Ytllfeehchiikoaa.PA
open Go.RowKit Go.Proofs.YtllfeehchiikoaaW.PrintWords Go.Proofs.YtllfeehchiikoaaW.PrintLast Go.Proofs.YtllfeehchiikoaaW.PrintMore
set_option linter.unusedVariables false
set_option linter.unusedSimpArgs false

/-! ### impl_isFrame: function 30 -/
def impl_isFrame.f (a0_0 : Int) (a0_1 : Int) : Option (Bool) := (impl_within.f (wrap64 (a0_0)) 1 1000).bind fun t337 => (if t337 = true then ((impl_within.f (wrap64 (a0_1)) 1 1000).bind fun t338 => (some t338)) else (some false))
set_option maxHeartbeats 8000000 in
set_option maxRecDepth 100000 in
theorem impl_isFrame.calls (a0_0 : Int) (a0_1 : Int) (r : Bool) (w : World) (h : impl_isFrame.f a0_0 a0_1 = some r) :
  Calls Try.prog 30 #[.agg #[.int .i16 a0_0, .int .i16 a0_1]] w fun e w' => e = .returned (.bool r) ∧ Below w.heap.size w w' := by
 have hu26 := Try.underlying26
 have HB := Aside0.mk (Below.refl w.heap.size w)
 have H : ((impl_within.f (wrap64 (a0_0)) 1 1000).bind fun t337 => (if t337 = true then ((impl_within.f (wrap64 (a0_1)) 1 1000).bind fun t338 => (some t338)) else (some false))) = some r := h
 clear h
 replace H := Option.bind_eq_some_iff.mp H
 obtain ⟨t337, A20, H⟩ := H
 (try dsimp only at H)
 have A2 := Aside0.mk A20
 clear A20
 rcases (Decidable.em (t337 = true)).symm with c3 | c3
 ·
  replace c3 := Bool.eq_false_iff.mpr c3
  subst c3
  replace H := gf_ H
  obtain rfl := Option.some.inj H
  go_enter Try.func30, Try.ntmps30
  go_wp2_with (first | ((with_reducible refine gate_dst (N := 1) rfl ?_); refine boxM_ 1 #[.int .i16 a0_0, .int .i16 a0_1] 26 ?_; intro gb336 hg w7 hbox hb; have BK336 := Aside0.mk (hbox); have GW336 := ge_ HB hg; have GE336 := ge_ HB hg; replace HB := bs_ HB hb; clear hb hbox hg; obtain ⟨⟨hcz8_0, hcz8_1⟩, hfz8_0, hfz8_1⟩ := bq_ BK336) | ((with_reducible refine gate_callee (f := 36) rfl ?_); refine goM_ (some 6) Try.func36 #[.int .i64 (wrap64 (a0_0)), .int .i64 1, .int .i64 1000] ?_; (with_reducible refine (impl_within.calls (wrap64 (a0_0)) 1 1000 false _ A2.out).mono ?_); rintro e w' ⟨rfl, ⟨nd, rfl⟩⟩; refine ⟨_, rfl, ?_⟩))
  go_ret
  exact ⟨rt_, bl_ HB⟩

 subst c3
 replace H := gt_ H
 replace H := Option.bind_eq_some_iff.mp H
 obtain ⟨t338, A40, H⟩ := H
 (try dsimp only at H)
 have A4 := Aside0.mk A40
 clear A40
 obtain rfl := Option.some.inj H
 go_enter Try.func30, Try.ntmps30
 go_wp2_with (first | ((with_reducible refine gate_dst (N := 1) rfl ?_); refine boxM_ 1 #[.int .i16 a0_0, .int .i16 a0_1] 26 ?_; intro gb336 hg w5 hbox hb; have BK336 := Aside0.mk (hbox); have GW336 := ge_ HB hg; have GE336 := ge_ HB hg; replace HB := bs_ HB hb; clear hb hbox hg; obtain ⟨⟨hcz6_0, hcz6_1⟩, hfz6_0, hfz6_1⟩ := bq_ BK336) | ((with_reducible refine gate_callee (f := 36) rfl ?_); refine goM_ (some 6) Try.func36 #[.int .i64 (wrap64 (a0_0)), .int .i64 1, .int .i64 1000] ?_; (with_reducible refine (impl_within.calls (wrap64 (a0_0)) 1 1000 true _ A2.out).mono ?_); rintro e w' ⟨rfl, ⟨nd, rfl⟩⟩; refine ⟨_, rfl, ?_⟩) | (go_at_call 36; (with_reducible refine (impl_within.calls (wrap64 (a0_1)) 1 1000 t338 _ A4.out).mono ?_); rintro e w' ⟨rfl, ⟨nd, rfl⟩⟩))
 go_ret
 exact ⟨rt_, bl_ HB⟩
/-! ### impl_Stone_37: function 37 -/
set_option maxHeartbeats 4000000 in
theorem impl_Stone_37.anyB (g : Nat) (lb : Array Value) (eg : ∀ args w, (callFunc g args).run Try.prog w = .ok (.enter g args) w) (p : List (S43) → Option Bool) (A : Option Addr) (c : Nat) (l : List (List (S43))) (r : Int) (w : World) (hr : Kd.C (Kd.slice 43 k43) w A l.length l) (hc : l.length ≤ c) (h : Base.idxO p l 0 = some r)
  (hp : ∀ W (x : List (S43)) (A : Option Addr) (c : Nat) (b : Bool), Below w.heap.size w W → x ∈ l → p x = some b → Kd.C k43 W A x.length x → x.length ≤ c → Calls Try.prog g (#[.slice A x.length c] ++ lb) W fun e w' => e = .returned (.bool b) ∧ Below w.heap.size w w') :
  Calls Try.prog 37 #[.slice A l.length c, .func (.func g) #[] lb] w fun e w' => e = .returned (.int .i64 r) ∧ Below w.heap.size w w' := by
 have hn := hr.2.1
 have h0 := Aside0.mk h
 clear h
 go_enter Try.func37, Try.ntmps37
 go_wp2
 go_loopg [5, 8] l.length (fun gg _ s8 wr => ∃ kk : Nat, kk ≤ l.length ∧ l.length - kk ≤ gg ∧ s8 = .int .i64 kk ∧ Aside0 (Base.idxO p (l.drop kk) (kk : Int) = some r) ∧ Aside0 (Below w.heap.size w wr))
 case atStart => exact ⟨0, Nat.zero_le _, by omega, rfl, ⟨by rw [List.drop_zero]; exact h0.out⟩, ⟨Below.refl _ w⟩⟩
 case round =>
  clear h0
  obtain ⟨kk, hkk, hg, rfl, HA, HB⟩ := hrel
  by_cases hlt : kk < l.length
  ·
   have hltz : (kk : Int) < (l.length : Int) := by omega
   obtain ⟨ad, A1, c1, ea, hx, hl1, hi1⟩ := at_L3 (Kd.C_below hr HB.out) (kk : Int) (by omega) hltz
   cases ea
   rw [Int.toNat_natCast] at hx
   have hm : rd_L3 l (kk : Int) = l[kk] := Base.getD_nat l _ kk hlt
   obtain ⟨b, hb, ht, hf⟩ := Base.idxO_step hlt HA.out
   have hcall := hp wr (rd_L3 l (kk : Int)) A1 c1 b HB.out (by rw [hm]; exact List.getElem_mem _) (by rw [hm]; exact hb) hi1 hl1
   have HT := Aside0.mk ht
   have HF := Aside0.mk hf
   clear hp hr hm hb ht hf HA
   cases b with
   | true =>
    have hT := Aside0.mk (HT.out rfl)
    clear HT HF
    go_wp2_with (go_at_fn g; refine hcall.mono ?_; rintro e w' ⟨rfl, hb'⟩)
    go_ret
    exact ⟨by rw [← hT.out]; rfl, hb'⟩
   | false =>
    have hF := Aside0.mk (HF.out rfl)
    clear HT HF
    go_wp2_with (go_at_fn g; refine hcall.mono ?_; rintro e w' ⟨rfl, hb'⟩)
    go_roundg (l.length - (kk + 1))
    case measure => omega
    case rel => exact ⟨kk + 1, by omega, by omega, by go_num, hF, ⟨hb'⟩⟩
  ·
   have hltz : ¬ (kk : Int) < (l.length : Int) := by omega
   have hE := Aside0.mk (Base.idxO_end hlt HA.out)
   clear hp hr HA
   go_wp2
   go_ret
   exact ⟨by rw [hE.out]; rfl, HB.out⟩

/-! ### impl_Stone_49: function 49 -/
set_option maxHeartbeats 4000000 in
theorem impl_Stone_49.anyB (g : Nat) (lb : Array Value) (eg : ∀ args w, (callFunc g args).run Try.prog w = .ok (.enter g args) w) (p : List (S43) → Option Bool) (A : Option Addr) (c : Nat) (l : List (List (S43))) (r : Bool) (w : World) (hr : Kd.C (Kd.slice 43 k43) w A l.length l) (hc : l.length ≤ c) (h : ((Base.idxO p l 0).bind fun i => some (decide (0 ≤ i))) = some r)
  (hp : ∀ W (x : List (S43)) (A : Option Addr) (c : Nat) (b : Bool), Below w.heap.size w W → x ∈ l → p x = some b → Kd.C k43 W A x.length x → x.length ≤ c → Calls Try.prog g (#[.slice A x.length c] ++ lb) W fun e w' => e = .returned (.bool b) ∧ Below w.heap.size w w') :
  Calls Try.prog 49 #[.slice A l.length c, .func (.func g) #[] lb] w fun e w' => e = .returned (.bool r) ∧ Below w.heap.size w w' := by
 obtain ⟨i, hi, he⟩ := Option.bind_eq_some_iff.1 h
 obtain rfl := Option.some.inj he
 have hcon := impl_Stone_37.anyB g lb eg p A c l i w hr hc hi hp
 clear hp hr h hi he
 go_enter Try.func49, Try.ntmps49
 go_wp2_with (go_at_call 37; refine hcon.mono ?_; rintro e w' ⟨rfl, hb'⟩)
 go_ret
 exact ⟨rfl, hb'⟩

/-! ### impl_areStones_1: function 50 -/
def impl_areStones_1.f (k : Nat) (l0 : List (S43)) : Option (Bool) := (impl_ValidStone.f k l0).bind fun t356 => (some (!t356))
theorem impl_areStones_1.mono : ∀ a0 k, LeO (impl_areStones_1.f k a0) (impl_areStones_1.f (k + 1) a0) := by
 intro a0 k
 unfold impl_areStones_1.f
 repeat' first
   | (with_reducible exact impl_ValidStone.mono _ _)
   | (with_reducible exact LeO.refl _)
   | (with_reducible exact LeO.none _)
   | (with_reducible refine LeO.ite ?_ ?_)
   | (with_reducible refine LeO.bind ?_ (fun _ => ?_))
set_option maxHeartbeats 8000000 in
set_option maxRecDepth 100000 in
theorem impl_areStones_1.calls (k : Nat) (A0 : Option Addr) (c0 : Nat) (l0 : List (S43)) (r : Bool) (w : World) (hr0 : Kd.C k43 w A0 l0.length l0) (hc0 : l0.length ≤ c0) (h : impl_areStones_1.f k l0 = some r) :
  Calls Try.prog 50 #[.slice A0 l0.length c0] w fun e w' => e = .returned (.bool r) ∧ Below w.heap.size w w' := by
 have HR0 := Aside0.mk hr0
 have HC0 := Aside0.mk hc0
 clear hr0 hc0
 have HB := Aside0.mk (Below.refl w.heap.size w)
 have H : ((impl_ValidStone.f k l0).bind fun t356 => (some (!t356))) = some r := h
 clear h
 replace H := Option.bind_eq_some_iff.mp H
 obtain ⟨t356, A20, H⟩ := H
 (try dsimp only at H)
 have A2 := Aside0.mk A20
 clear A20
 obtain rfl := Option.some.inj H
 go_enter Try.func50, Try.ntmps50
 go_wp2_with (first | ((with_reducible refine gate_callee (f := 31) rfl ?_); refine goM_ (some 4) Try.func31 #[.slice A0 l0.length c0] ?_; (with_reducible refine (impl_ValidStone.calls k _ _ l0 t356 _ ?side1 ?side2 A2.out).mono ?_); (case side1 => exact kc_ HR0.out); (case side2 => exact HC0.out); rintro e w3 ⟨rfl, hb⟩; refine ⟨_, rfl, ?_⟩; replace HB := bs_ HB hb; clear hb))
 go_ret
 exact ⟨rt_, bl_ HB⟩

/-! ### impl_areStones_1_any: function 50 -/
def impl_areStones_1_any.f (k : Nat) (l0 : List (List (S43))) : Option Bool := (Base.idxO (fun x : List (S43) => impl_areStones_1.f k x) l0 0).bind fun i => some (decide (0 ≤ i))
theorem impl_areStones_1_any.mono : ∀ a0 k, LeO (impl_areStones_1_any.f k a0) (impl_areStones_1_any.f (k + 1) a0) := by
 intro a0 k
 unfold impl_areStones_1_any.f
 exact LeO.bind (Base.idxO_mono (fun x => impl_areStones_1.mono x k) _ _) (fun _ => LeO.refl _)
theorem impl_areStones_1_any.calls (k : Nat) (A0 : Option Addr) (c0 : Nat) (l0 : List (List (S43))) (r : Bool) (w : World) (hr0 : Kd.C (Kd.slice 43 k43) w A0 l0.length l0) (hc0 : l0.length ≤ c0) (h : impl_areStones_1_any.f k l0 = some r) :
  Calls Try.prog 49 #[.slice A0 l0.length c0, .func (.func 50) #[] #[]] w fun e w' => e = .returned (.bool r) ∧ Below w.heap.size w w' :=
 impl_Stone_49.anyB 50 #[] (enters_of Try.func50 (by kernel_rfl) rfl) (fun x : List (S43) => impl_areStones_1.f k x) A0 c0 l0 r w hr0 hc0 h (fun W x A c b hb _ hx hi hl => (impl_areStones_1.calls k _ _ x b W hi hl hx).mono fun e w' h => ⟨h.1, below_then hb hb.size h.2⟩)

/-! ### impl_areStones: function 26 -/
def impl_areStones.f (k : Nat) (a0_0 : Int) (a0_1 : Int) (l1 : List (List (S43))) : Option (Bool) := (impl_isFrame.f a0_0 a0_1).bind fun t358 => (if t358 = true then (if (l1.length : Int) ≤ 40 then ((impl_areStones_1_any.f k l1).bind fun t359 => (some (!t359))) else (some false)) else (some false))
theorem impl_areStones.mono : ∀ a0 a1 a2 k, LeO (impl_areStones.f k a0 a1 a2) (impl_areStones.f (k + 1) a0 a1 a2) := by
 intro a0 a1 a2 k
 unfold impl_areStones.f
 repeat' first
   | (with_reducible exact impl_areStones_1_any.mono _ _)
   | (with_reducible exact LeO.refl _)
   | (with_reducible exact LeO.none _)
   | (with_reducible refine LeO.ite ?_ ?_)
   | (with_reducible refine LeO.bind ?_ (fun _ => ?_))
set_option maxHeartbeats 8000000 in
set_option maxRecDepth 100000 in
theorem impl_areStones.calls (k : Nat) (a0_0 : Int) (a0_1 : Int) (A1 : Option Addr) (c1 : Nat) (l1 : List (List (S43))) (r : Bool) (w : World) (hr1 : Kd.C (Kd.slice 43 k43) w A1 l1.length l1) (hc1 : l1.length ≤ c1) (h : impl_areStones.f k a0_0 a0_1 l1 = some r) :
  Calls Try.prog 26 #[.agg #[.int .i16 a0_0, .int .i16 a0_1], .slice A1 l1.length c1] w fun e w' => e = .returned (.bool r) ∧ Below w.heap.size w w' := by
 have hu26 := Try.underlying26
 have HR1 := Aside0.mk hr1
 have HC1 := Aside0.mk hc1
 clear hr1 hc1
 have HB := Aside0.mk (Below.refl w.heap.size w)
 have H : ((impl_isFrame.f a0_0 a0_1).bind fun t358 => (if t358 = true then (if (l1.length : Int) ≤ 40 then ((impl_areStones_1_any.f k l1).bind fun t359 => (some (!t359))) else (some false)) else (some false))) = some r := h
 clear h
 replace H := Option.bind_eq_some_iff.mp H
 obtain ⟨t358, A30, H⟩ := H
 (try dsimp only at H)
 have A3 := Aside0.mk A30
 clear A30
 rcases (Decidable.em (t358 = true)).symm with c4 | c4
 ·
  replace c4 := Bool.eq_false_iff.mpr c4
  subst c4
  replace H := gf_ H
  obtain rfl := Option.some.inj H
  go_enter Try.func26, Try.ntmps26
  go_wp2_with (first | ((with_reducible refine gate_dst (N := 2) rfl ?_); (try (refine gate_guard (by rfl) ?_; dsimp only)); refine boxM_ 2 #[.int .i16 a0_0, .int .i16 a0_1] 26 ?_; intro gb357 hg w14 hbox hb; have BK357 := Aside0.mk (hbox); have GW357 := ge_ HB hg; have GE357 := ge_ HB hg; replace HB := bs_ HB hb; clear hb hbox hg; obtain ⟨⟨hcz15_0, hcz15_1⟩, hfz15_0, hfz15_1⟩ := bq_ BK357) | ((with_reducible refine gate_callee (f := 30) rfl ?_); refine goM_ (some 6) Try.func30 #[.agg #[.int .i16 a0_0, .int .i16 a0_1]] ?_; (with_reducible refine (impl_isFrame.calls a0_0 a0_1 false _ A3.out).mono ?_); rintro e w16 ⟨rfl, hb⟩; refine ⟨_, rfl, ?_⟩; replace BK357 := bd_ BK357 hb; replace HB := bs_ HB hb; clear hb))
  go_ret
  exact ⟨rt_, bl_ HB⟩

 subst c4
 replace H := gt_ H
 rcases (Decidable.em ((l1.length : Int) ≤ 40)).symm with c5 | c5
 ·
  rw [if_neg c5] at H
  have c5b0 : decide ((l1.length : Int) ≤ 40) = false := decide_eq_false c5
  have c5b1 : decide (l1.length ≤ 40) = false := decide_eq_false (by omega)
  clear c5
  obtain rfl := Option.some.inj H
  go_enter Try.func26, Try.ntmps26
  go_wp2_with (first | ((with_reducible refine gate_dst (N := 2) rfl ?_); (try (refine gate_guard (by rfl) ?_; dsimp only)); refine boxM_ 2 #[.int .i16 a0_0, .int .i16 a0_1] 26 ?_; intro gb357 hg w11 hbox hb; have BK357 := Aside0.mk (hbox); have GW357 := ge_ HB hg; have GE357 := ge_ HB hg; replace HB := bs_ HB hb; clear hb hbox hg; obtain ⟨⟨hcz12_0, hcz12_1⟩, hfz12_0, hfz12_1⟩ := bq_ BK357) | ((with_reducible refine gate_callee (f := 30) rfl ?_); refine goM_ (some 6) Try.func30 #[.agg #[.int .i16 a0_0, .int .i16 a0_1]] ?_; (with_reducible refine (impl_isFrame.calls a0_0 a0_1 true _ A3.out).mono ?_); rintro e w13 ⟨rfl, hb⟩; refine ⟨_, rfl, ?_⟩; replace BK357 := bd_ BK357 hb; replace HB := bs_ HB hb; clear hb))
  go_ret
  exact ⟨rt_, bl_ HB⟩
 rw [if_pos c5] at H
 have c5b0 : decide ((l1.length : Int) ≤ 40) = true := decide_eq_true c5
 have c5b1 : decide (l1.length ≤ 40) = true := decide_eq_true (by omega)
 clear c5
 replace H := Option.bind_eq_some_iff.mp H
 obtain ⟨t359, A60, H⟩ := H
 (try dsimp only at H)
 have A6 := Aside0.mk A60
 clear A60
 obtain rfl := Option.some.inj H
 go_enter Try.func26, Try.ntmps26
 go_wp2_with (first | ((with_reducible refine gate_dst (N := 2) rfl ?_); (try (refine gate_guard (by rfl) ?_; dsimp only)); refine boxM_ 2 #[.int .i16 a0_0, .int .i16 a0_1] 26 ?_; intro gb357 hg w7 hbox hb; have BK357 := Aside0.mk (hbox); have GW357 := ge_ HB hg; have GE357 := ge_ HB hg; replace HB := bs_ HB hb; clear hb hbox hg; obtain ⟨⟨hcz8_0, hcz8_1⟩, hfz8_0, hfz8_1⟩ := bq_ BK357) | ((with_reducible refine gate_callee (f := 30) rfl ?_); refine goM_ (some 6) Try.func30 #[.agg #[.int .i16 a0_0, .int .i16 a0_1]] ?_; (with_reducible refine (impl_isFrame.calls a0_0 a0_1 true _ A3.out).mono ?_); rintro e w9 ⟨rfl, hb⟩; refine ⟨_, rfl, ?_⟩; replace BK357 := bd_ BK357 hb; replace HB := bs_ HB hb; clear hb) | (go_at_call 49; (with_reducible refine (impl_areStones_1_any.calls k _ _ l1  t359 _ ?side1 ?side2 A6.out).mono ?_); (case side1 => exact kc_ (Kd.C_below HR1.out HB.out)); (case side2 => exact HC1.out); rintro e w10 ⟨rfl, hb⟩; replace BK357 := bd_ BK357 hb; replace HB := bs_ HB hb; clear hb))
 go_ret
 exact ⟨rt_, bl_ HB⟩
/-! ### impl_Frame_holds: function 57 -/
def impl_Frame_holds.f (a0_0 : Int) (a0_1 : Int) (a1_0 : Int) (a1_1 : Int) : Option (Bool) := if a1_0 ≥ 0 then (if a1_0 ≤ a0_0 then (if a1_1 ≥ 0 then (some (decide (a1_1 ≤ a0_1))) else (some false)) else (some false)) else (some false)
set_option maxHeartbeats 8000000 in
set_option maxRecDepth 100000 in
theorem impl_Frame_holds.calls (a0_0 : Int) (a0_1 : Int) (a1_0 : Int) (a1_1 : Int) (r : Bool) (w : World) (h : impl_Frame_holds.f a0_0 a0_1 a1_0 a1_1 = some r) :
  Calls Try.prog 57 #[.agg #[.int .i16 a0_0, .int .i16 a0_1], .agg #[.int .i16 a1_0, .int .i16 a1_1]] w fun e w' => e = .returned (.bool r) ∧ Below w.heap.size w w' := by
 have hu26 := Try.underlying26
 have hu43 := Try.underlying43
 have HB := Aside0.mk (Below.refl w.heap.size w)
 have H : (if a1_0 ≥ 0 then (if a1_0 ≤ a0_0 then (if a1_1 ≥ 0 then (some (decide (a1_1 ≤ a0_1))) else (some false)) else (some false)) else (some false)) = some r := h
 clear h
 rcases (Decidable.em (a1_0 ≥ 0)).symm with c3 | c3
 ·
  rw [if_neg c3] at H
  have c3b0 : decide (0 ≤ a1_0) = false := decide_eq_false c3
  clear c3
  obtain rfl := Option.some.inj H
  go_enter Try.func57, Try.ntmps57
  go_wp2_with (first | ((with_reducible refine gate_dst (N := 2) rfl ?_); refine boxM_ 2 #[.int .i16 a0_0, .int .i16 a0_1] 26 ?_; intro gb360 hg w21 hbox hb; have BK360 := Aside0.mk (hbox); have GW360 := ge_ HB hg; have GE360 := ge_ HB hg; replace HB := bs_ HB hb; clear hb hbox hg) | ((with_reducible refine gate_dst (N := 3) rfl ?_); refine boxM_ 3 #[.int .i16 a1_0, .int .i16 a1_1] 43 ?_; intro gb361 hg w22 hbox hb; have BK361 := Aside0.mk (hbox); have GW361 := ge_ HB hg; have GE361 := ge_ HB hg; replace HB := bs_ HB hb; have NB360_361 := nl_ BK360 hg; have NB361_360 := ng_ BK360 hg; replace BK360 := bd_ BK360 hb; clear hb hbox hg; have hnb23 := NB361_360.out; have hnc23 := NB360_361.out; obtain ⟨⟨hcz24_0, hcz24_1⟩, hfz24_0, hfz24_1⟩ := bq_ BK361))
  go_ret
  exact ⟨rt_, bl_ HB⟩

 rw [if_pos c3] at H
 have c3b0 : decide (0 ≤ a1_0) = true := decide_eq_true c3
 clear c3
 rcases (Decidable.em (a1_0 ≤ a0_0)).symm with c4 | c4
 ·
  rw [if_neg c4] at H
  have c4b0 : decide (a1_0 ≤ a0_0) = false := decide_eq_false c4
  clear c4
  obtain rfl := Option.some.inj H
  go_enter Try.func57, Try.ntmps57
  go_wp2_with (first | ((with_reducible refine gate_dst (N := 2) rfl ?_); refine boxM_ 2 #[.int .i16 a0_0, .int .i16 a0_1] 26 ?_; intro gb360 hg w16 hbox hb; have BK360 := Aside0.mk (hbox); have GW360 := ge_ HB hg; have GE360 := ge_ HB hg; replace HB := bs_ HB hb; clear hb hbox hg) | ((with_reducible refine gate_dst (N := 3) rfl ?_); refine boxM_ 3 #[.int .i16 a1_0, .int .i16 a1_1] 43 ?_; intro gb361 hg w17 hbox hb; have BK361 := Aside0.mk (hbox); have GW361 := ge_ HB hg; have GE361 := ge_ HB hg; replace HB := bs_ HB hb; have NB360_361 := nl_ BK360 hg; have NB361_360 := ng_ BK360 hg; replace BK360 := bd_ BK360 hb; clear hb hbox hg; have hnb18 := NB361_360.out; have hnc18 := NB360_361.out; obtain ⟨⟨hcz19_0, hcz19_1⟩, hfz19_0, hfz19_1⟩ := bq_ BK361; obtain ⟨⟨hcz20_0, hcz20_1⟩, hfz20_0, hfz20_1⟩ := bq_ BK360))
  go_ret
  exact ⟨rt_, bl_ HB⟩
 rw [if_pos c4] at H
 have c4b0 : decide (a1_0 ≤ a0_0) = true := decide_eq_true c4
 clear c4
 by_cases c5 : a1_1 ≥ 0
 ·
  rw [if_pos c5] at H
  have c5b0 : decide (0 ≤ a1_1) = true := decide_eq_true c5
  clear c5
  obtain rfl := Option.some.inj H
  go_enter Try.func57, Try.ntmps57
  go_wp2_with (first | ((with_reducible refine gate_dst (N := 2) rfl ?_); refine boxM_ 2 #[.int .i16 a0_0, .int .i16 a0_1] 26 ?_; intro gb360 hg w6 hbox hb; have BK360 := Aside0.mk (hbox); have GW360 := ge_ HB hg; have GE360 := ge_ HB hg; replace HB := bs_ HB hb; clear hb hbox hg) | ((with_reducible refine gate_dst (N := 3) rfl ?_); refine boxM_ 3 #[.int .i16 a1_0, .int .i16 a1_1] 43 ?_; intro gb361 hg w7 hbox hb; have BK361 := Aside0.mk (hbox); have GW361 := ge_ HB hg; have GE361 := ge_ HB hg; replace HB := bs_ HB hb; have NB360_361 := nl_ BK360 hg; have NB361_360 := ng_ BK360 hg; replace BK360 := bd_ BK360 hb; clear hb hbox hg; have hnb8 := NB361_360.out; have hnc8 := NB360_361.out; obtain ⟨⟨hcz9_0, hcz9_1⟩, hfz9_0, hfz9_1⟩ := bq_ BK361; obtain ⟨⟨hcz10_0, hcz10_1⟩, hfz10_0, hfz10_1⟩ := bq_ BK360))
  go_ret
  exact ⟨rt_, bl_ HB⟩
 ·
  rw [if_neg c5] at H
  have c5b0 : decide (0 ≤ a1_1) = false := decide_eq_false c5
  clear c5
  obtain rfl := Option.some.inj H
  go_enter Try.func57, Try.ntmps57
  go_wp2_with (first | ((with_reducible refine gate_dst (N := 2) rfl ?_); refine boxM_ 2 #[.int .i16 a0_0, .int .i16 a0_1] 26 ?_; intro gb360 hg w11 hbox hb; have BK360 := Aside0.mk (hbox); have GW360 := ge_ HB hg; have GE360 := ge_ HB hg; replace HB := bs_ HB hb; clear hb hbox hg) | ((with_reducible refine gate_dst (N := 3) rfl ?_); refine boxM_ 3 #[.int .i16 a1_0, .int .i16 a1_1] 43 ?_; intro gb361 hg w12 hbox hb; have BK361 := Aside0.mk (hbox); have GW361 := ge_ HB hg; have GE361 := ge_ HB hg; replace HB := bs_ HB hb; have NB360_361 := nl_ BK360 hg; have NB361_360 := ng_ BK360 hg; replace BK360 := bd_ BK360 hb; clear hb hbox hg; have hnb13 := NB361_360.out; have hnc13 := NB360_361.out; obtain ⟨⟨hcz14_0, hcz14_1⟩, hfz14_0, hfz14_1⟩ := bq_ BK361; obtain ⟨⟨hcz15_0, hcz15_1⟩, hfz15_0, hfz15_1⟩ := bq_ BK360))
  go_ret
  exact ⟨rt_, bl_ HB⟩
/-! ### impl_Frame_holdsAll_1: function 56 -/
def impl_Frame_holdsAll_1.f (x0 x1 fw fh : Int) : Option Bool := (impl_Frame_holds.f fw fh x0 x1).bind fun t => some (!t)
set_option maxHeartbeats 1600000 in
set_option maxRecDepth 100000 in
theorem impl_Frame_holdsAll_1.calls (x0 x1 fw fh : Int) (g : Nat) (r : Bool) (w : World) (h1 : w.heap[g]? = some (.cells #[.int .i16 fw, .int .i16 fh] 26 (0, 0))) (h : impl_Frame_holdsAll_1.f x0 x1 fw fh = some r) :
  Calls Try.prog 56 #[.agg #[.int .i16 x0, .int .i16 x1], .pointer (some ⟨g, 0, none⟩)] w fun e w' => e = .returned (.bool r) ∧ Below w.heap.size w w' := by
 have hu1 := Try.underlying26
 have hu2 := Try.underlying43
 obtain ⟨t, ht, hr⟩ := Option.bind_eq_some_iff.1 h
 obtain rfl := Option.some.inj hr
 have A2 := Aside0.mk ht
 have BF := Aside0.mk h1
 clear ht h hr h1
 go_enter Try.func56, Try.ntmps56
 go_wp2_with (first
  | ((with_reducible refine gate_dst (N := 2) rfl ?_); refine boxM_ 2 #[.int .i16 x0, .int .i16 x1] 43 ?_; intro g1 hg1 w1 hbox hb; have hX0 : w1.cell? ⟨g1, 0, none⟩ = some (.int .i16 x0) := (blk_cell hbox 0).trans rfl; have hX1 : w1.cell? ⟨g1, 1, none⟩ = some (.int .i16 x1) := (blk_cell hbox 1).trans rfl; have hF0 : w1.cell? ⟨g, 0, none⟩ = some (.int .i16 fw) := (blk_cell (blk_below BF.out hb) 0).trans rfl; have hF1 : w1.cell? ⟨g, 1, none⟩ = some (.int .i16 fh) := (blk_cell (blk_below BF.out hb) 1).trans rfl; have HB := Aside0.mk hb; clear hg1 hbox hb)
  | (go_at_call 57; (with_reducible refine (impl_Frame_holds.calls fw fh x0 x1 t _ A2.out).mono ?_); rintro e w' ⟨rfl, hb'⟩))
 go_ret
 exact ⟨by first | rfl | (simp; done) | (simp [*]; done), below_step (by repeat (first | exact HB.out | apply pw_below_drewN | apply below_drew1)) hb'⟩

/-! ### impl_Frame_holdsAll: function 32 -/
def impl_Frame_holdsAll.f (a0_0 a0_1 : Int) (l1 : List S43) : Option Bool := ((Base.idxO (fun x : S43 => impl_Frame_holdsAll_1.f x.f0 x.f1 a0_0 a0_1) l1 0).bind fun i => some (decide (0 ≤ i))).bind fun t => some (!t)
set_option maxHeartbeats 1600000 in
set_option maxRecDepth 100000 in
theorem impl_Frame_holdsAll.calls (a0_0 a0_1 : Int) (A1 : Option Addr) (c1 : Nat) (l1 : List S43) (r : Bool) (w : World) (hr1 : Kd.C k43 w A1 l1.length l1) (hc1 : l1.length ≤ c1) (h : impl_Frame_holdsAll.f a0_0 a0_1 l1 = some r) :
  Calls Try.prog 32 #[.agg #[.int .i16 a0_0, .int .i16 a0_1], .slice A1 l1.length c1] w fun e w' => e = .returned (.bool r) ∧ Below w.heap.size w w' := by
 have hu1 := Try.underlying26
 obtain ⟨t, ht, hr⟩ := Option.bind_eq_some_iff.1 h
 obtain rfl := Option.some.inj hr
 have HR1 := Aside0.mk hr1
 have HC1 := Aside0.mk hc1
 have A2 := Aside0.mk ht
 clear ht h hr hr1 hc1
 have eg : ∀ args w, (callFunc 56 args).run Try.prog w = .ok (.enter 56 args) w := enters_of Try.func56 (by kernel_rfl) rfl
 go_enter Try.func32, Try.ntmps32
 go_wp2_with (first
  | ((with_reducible refine gate_dst (N := 2) rfl ?_); refine boxM_ 2 #[.int .i16 a0_0, .int .i16 a0_1] 26 ?_; intro g1 hg1 w1 hbox hb; have hb1 := Aside0.mk hb; have BK1 := Aside0.mk hbox; clear hg1 hbox hb)
  | (go_at_call 55; ((with_reducible refine (impl_Corner_55.anyB 56 #[.pointer (some ⟨g1, 0, none⟩)] eg (fun x : S43 => impl_Frame_holdsAll_1.f x.f0 x.f1 a0_0 a0_1) _ _ l1 t _ ?side1 HC1.out A2.out ?side2).mono ?_); (case side1 => exact Kd.C_below HR1.out hb1.out); (case side2 => exact fun W x u hb _ hx => (impl_Frame_holdsAll_1.calls x.f0 x.f1 a0_0 a0_1 g1 u W (blk_below BK1.out hb) hx).mono fun e w' h => ⟨h.1, below_then hb hb.size h.2⟩); rintro e w3 ⟨rfl, hb3⟩)))
 go_ret
 exact ⟨by first | rfl | (simp; done) | (simp [*]; done), below_step hb1.out hb3⟩

/-! ### impl_fault: function 27 -/
mutual
def impl_fault.l0 : Nat → List (List (S43)) → List (List (S43)) → Int → Int → Int → Int → Option (Int × Int × Bool)
 | 0, _, _, _, _, _, _ => none
 | k + 1, x1, x12, x13, x14, x365000, x365001 => if x14 < x13 then (if 0 ≤ x14 then (if x14 < (x12.length : Int) then ((impl_Frame_holdsAll.f x365000 x365001 (rd_L3 x12 x14)).bind fun t366 => (if t366 = true then (impl_fault.l0 k x1 x12 x13 (wrap64 (x14 + 1)) x365000 x365001) else (some (x14, (-1), true)))) else (none)) else (none)) else (impl_fault.l1 k x1 x1 (x1.length : Int) 0)
def impl_fault.l1 : Nat → List (List (S43)) → List (List (S43)) → Int → Int → Option (Int × Int × Bool)
 | 0, _, _, _, _ => none
 | k + 1, x1, x25, x26, x27 => if x27 < x26 then (if 0 ≤ x27 then (if x27 < (x25.length : Int) then (impl_fault.l2 k x1 x27 (rd_L3 x25 x27) (wrap64 (x27 + 1)) x25 x26 x27) else (none)) else (none)) else (some (0, 0, false))
def impl_fault.l2 : Nat → List (List (S43)) → Int → List (S43) → Int → List (List (S43)) → Int → Int → Option (Int × Int × Bool)
 | 0, _, _, _, _, _, _, _ => none
 | k + 1, x1, x9, x10, x11, x25, x26, x27 => if x11 < (x1.length : Int) then (if 0 ≤ x11 then ((impl_overlap.f x10 (rd_L3 x1 x11)).bind fun t369 => (if t369 = true then (some (x9, x11, true)) else (impl_fault.l2 k x1 x9 x10 (wrap64 (x11 + 1)) x25 x26 x27))) else (none)) else (impl_fault.l1 k x1 x25 x26 (wrap64 (x27 + 1)))
end
def impl_fault.f (k : Nat) (a0_0 : Int) (a0_1 : Int) (l1 : List (List (S43))) : Option (Int × Int × Bool) := impl_fault.l0 k l1 l1 (l1.length : Int) 0 a0_0 a0_1
theorem impl_fault.mono_l : ∀ k, (∀ y0 y1 y2 y3 y4 y5, LeO (impl_fault.l0 k y0 y1 y2 y3 y4 y5) (impl_fault.l0 (k + 1) y0 y1 y2 y3 y4 y5)) ∧ (∀ y0 y1 y2 y3, LeO (impl_fault.l1 k y0 y1 y2 y3) (impl_fault.l1 (k + 1) y0 y1 y2 y3)) ∧ (∀ y0 y1 y2 y3 y4 y5 y6, LeO (impl_fault.l2 k y0 y1 y2 y3 y4 y5 y6) (impl_fault.l2 (k + 1) y0 y1 y2 y3 y4 y5 y6))
 | 0 => ⟨fun _ _ _ _ _ _ r h => by simp [impl_fault.l0] at h, fun _ _ _ _ r h => by simp [impl_fault.l1] at h, fun _ _ _ _ _ _ _ r h => by simp [impl_fault.l2] at h⟩
 | k + 1 => by
  obtain ⟨ih0, ih1, ih2⟩ := impl_fault.mono_l k
  refine ⟨?_, ?_, ?_⟩ <;> intros
  all_goals first | unfold impl_fault.l0 | unfold impl_fault.l1 | unfold impl_fault.l2
  all_goals repeat' first
  | (with_reducible exact ih0 _ _ _ _ _ _)
  | (with_reducible exact ih1 _ _ _ _)
  | (with_reducible exact ih2 _ _ _ _ _ _ _)
  | (with_reducible exact LeO.refl _)
  | (with_reducible exact LeO.none _)
  | (with_reducible refine LeO.ite ?_ ?_)
  | (with_reducible refine LeO.bind ?_ (fun _ => ?_))
theorem impl_fault.mono : ∀ a0 a1 a2 k, LeO (impl_fault.f k a0 a1 a2) (impl_fault.f (k + 1) a0 a1 a2) := by
 intro a0 a1 a2 k
 obtain ⟨ih0, ih1, ih2⟩ := impl_fault.mono_l k
 unfold impl_fault.f
 repeat' first
   | (with_reducible exact ih0 _ _ _ _ _ _)
   | (with_reducible exact ih1 _ _ _ _)
   | (with_reducible exact ih2 _ _ _ _ _ _ _)
   | (with_reducible exact LeO.refl _)
   | (with_reducible exact LeO.none _)
   | (with_reducible refine LeO.ite ?_ ?_)
   | (with_reducible refine LeO.bind ?_ (fun _ => ?_))
set_option maxHeartbeats 8000000 in
set_option maxRecDepth 100000 in
theorem impl_fault.calls (k : Nat) (a0_0 : Int) (a0_1 : Int) (A1 : Option Addr) (c1 : Nat) (l1 : List (List (S43))) (r1 : Int) (r2 : Int) (r3 : Bool) (w : World) (hr1 : Kd.C (Kd.slice 43 k43) w A1 l1.length l1) (hc1 : l1.length ≤ c1) (h : impl_fault.f k a0_0 a0_1 l1 = some (r1, r2, r3)) :
  Calls Try.prog 27 #[.agg #[.int .i16 a0_0, .int .i16 a0_1], .slice A1 l1.length c1] w fun e w' => e = .returned (.tuple #[.int .i64 r1, .int .i64 r2, .bool r3]) ∧ Below w.heap.size w w' := by
 have hu26 := Try.underlying26
 have HR1 := Aside0.mk hr1
 have HC1 := Aside0.mk hc1
 clear hr1 hc1
 have HB := Aside0.mk (Below.refl w.heap.size w)
 have H : (impl_fault.l0 k l1 l1 (l1.length : Int) 0 a0_0 a0_1) = some (r1, r2, r3) := h
 clear h
 have H' := Aside0.mk H
 clear H
 go_enter Try.func27, Try.ntmps27
 go_wp2_with (first | ((with_reducible refine gate_dst (N := 2) rfl ?_); refine boxM_ 2 #[.int .i16 a0_0, .int .i16 a0_1] 26 ?_; intro gb364 hg w3 hbox hb; have BK364 := Aside0.mk (hbox); have GW364 := ge_ HB hg; have GE364 := ge_ HB hg; replace HB := bs_ HB hb; clear hb hbox hg))
 go_loopg [14] k (fun kq v14 w' => ∃ (x14_1 : Int), v14 = .int .i64 x14_1 ∧ Aside0 (impl_fault.l0 kq l1 l1 (l1.length : Int) x14_1 a0_0 a0_1 = some (r1, r2, r3)) ∧ Aside0 (kq ≤ k) ∧ Aside0 (w'.heap[gb364]? = some (.cells #[.int .i16 a0_0, .int .i16 a0_1] 26 (0, 0))) ∧ Aside0 (Below w.heap.size w w'))
 case atStart => exact ⟨(0), (by first | rfl | (simp; done) | (simp [*]; done)), H', ⟨Nat.le_refl _⟩, ⟨bk_ BK364⟩, ⟨bl_ HB⟩⟩
 case round =>
  clear H'
  obtain ⟨x14_1, rfl, HA, HK1, BK364, HB⟩ := hrel
  rcases gk with _ | k1
  · exact absurd HA.out (by simp [impl_fault.l0])
  have H := HA.out
  clear HA
  simp only [impl_fault.l0] at H
  by_cases c4 : x14_1 < (l1.length : Int)
  ·
   rw [if_pos c4] at H
   have c4b0 : decide (x14_1 < (l1.length : Int)) = true := decide_eq_true c4
   clear c4
   obtain ⟨(c5 : 0 ≤ x14_1), H⟩ := gd_ H
   have c5b0 : decide (0 ≤ x14_1) = true := decide_eq_true c5
   clear c5
   obtain ⟨(c6 : x14_1 < (l1.length : Int)), H⟩ := gd_ H
   have c6b0 : decide (x14_1 < (l1.length : Int)) = true := decide_eq_true c6
   clear c6
   replace H := Option.bind_eq_some_iff.mp H
   obtain ⟨t366, A70, H⟩ := H
   (try dsimp only at H)
   have A7 := Aside0.mk A70
   clear A70
   rcases (Decidable.em (t366 = true)).symm with c8 | c8
   ·
    replace c8 := Bool.eq_false_iff.mpr c8
    subst c8
    replace H := gf_ H
    simp only [Option.some.injEq, Prod.mk.injEq] at H
    obtain ⟨rfl, rfl, rfl⟩ := H
    have p365 : 0 ≤ (x14_1 : Int) := od_
    have q365 : x14_1 < (l1.length : Int) := od_
    obtain ⟨ad365, A365_0, c365_0, e365, hx365_0, hl365_0, hi365_0⟩ := at_L3 HR1.out x14_1 p365 q365
    cases e365
    replace hx365_0 := (hw_ HB hx365_0 :)
    have HR365_0 := Aside0.mk hi365_0
    have HC365_0 := Aside0.mk hl365_0
    clear hi365_0 hl365_0
    replace p365 := eq_true p365
    replace q365 := eq_true q365
    obtain ⟨⟨hcz11_0, hcz11_1⟩, hfz11_0, hfz11_1⟩ := bq_ BK364
    go_wp2_with (first | ((with_reducible refine gate_callee (f := 32) rfl ?_); refine goM_ (some 21) Try.func32 #[.agg #[.int .i16 a0_0, .int .i16 a0_1], .slice A365_0 (rd_L3 l1 x14_1).length c365_0] ?_; (with_reducible refine (impl_Frame_holdsAll.calls a0_0 a0_1 _ _ (rd_L3 l1 x14_1) false _ ?side1 ?side2 A7.out).mono ?_); (case side1 => exact kc_ (Kd.C_below HR365_0.out HB.out)); (case side2 => exact HC365_0.out); rintro e w12 ⟨rfl, hb⟩; refine ⟨_, rfl, ?_⟩; replace BK364 := bd_ BK364 hb; replace HB := bs_ HB hb; clear hb))
    go_ret3
    exact ⟨rt_, bl_ HB⟩
   subst c8
   replace H := gt_ H
   have H' := Aside0.mk H
   clear H
   have p365 : 0 ≤ (x14_1 : Int) := od_
   have q365 : x14_1 < (l1.length : Int) := od_
   obtain ⟨ad365, A365_0, c365_0, e365, hx365_0, hl365_0, hi365_0⟩ := at_L3 HR1.out x14_1 p365 q365
   cases e365
   replace hx365_0 := (hw_ HB hx365_0 :)
   have HR365_0 := Aside0.mk hi365_0
   have HC365_0 := Aside0.mk hl365_0
   clear hi365_0 hl365_0
   replace p365 := eq_true p365
   replace q365 := eq_true q365
   obtain ⟨⟨hcz9_0, hcz9_1⟩, hfz9_0, hfz9_1⟩ := bq_ BK364
   go_wp2_with (first | ((with_reducible refine gate_callee (f := 32) rfl ?_); refine goM_ (some 21) Try.func32 #[.agg #[.int .i16 a0_0, .int .i16 a0_1], .slice A365_0 (rd_L3 l1 x14_1).length c365_0] ?_; (with_reducible refine (impl_Frame_holdsAll.calls a0_0 a0_1 _ _ (rd_L3 l1 x14_1) true _ ?side1 ?side2 A7.out).mono ?_); (case side1 => exact kc_ (Kd.C_below HR365_0.out HB.out)); (case side2 => exact HC365_0.out); rintro e w10 ⟨rfl, hb⟩; refine ⟨_, rfl, ?_⟩; replace BK364 := bd_ BK364 hb; replace HB := bs_ HB hb; clear hb))
   go_roundg k1
   case measure => have := HK1.out; omega
   case rel => exact ⟨(wrap64 (x14_1 + 1)), (by first | rfl | (simp; done) | (simp [*]; done)), H', ⟨by have := HK1.out; omega⟩, ⟨bk_ BK364⟩, ⟨bl_ HB⟩⟩
  rw [if_neg c4] at H
  have c4b0 : decide (x14_1 < (l1.length : Int)) = false := decide_eq_false c4
  clear c4
  have H' := Aside0.mk H
  clear H
  go_wp2
  go_loopg [27] k1 (fun kq v27 w' => ∃ (x27_2 : Int), v27 = .int .i64 x27_2 ∧ Aside0 (impl_fault.l1 kq l1 l1 (l1.length : Int) x27_2 = some (r1, r2, r3)) ∧ Aside0 (kq ≤ k1) ∧ Aside0 (w'.heap[gb364]? = some (.cells #[.int .i16 a0_0, .int .i16 a0_1] 26 (0, 0))) ∧ Aside0 (Below w.heap.size w w'))
  case atStart => exact ⟨(0), (by first | rfl | (simp; done) | (simp [*]; done)), H', ⟨Nat.le_refl _⟩, ⟨bk_ BK364⟩, ⟨bl_ HB⟩⟩
  case round =>
   clear H'
   obtain ⟨x27_2, rfl, HA, HK2, BK364, HB⟩ := hrel
   rcases gk with _ | k2
   · exact absurd HA.out (by simp [impl_fault.l1])
   have H := HA.out
   clear HA
   simp only [impl_fault.l1] at H
   rcases (Decidable.em (x27_2 < (l1.length : Int))).symm with c13 | c13
   ·
    rw [if_neg c13] at H
    have c13b0 : decide (x27_2 < (l1.length : Int)) = false := decide_eq_false c13
    clear c13
    simp only [Option.some.injEq, Prod.mk.injEq] at H
    obtain ⟨rfl, rfl, rfl⟩ := H
    go_wp2
    go_ret3
    exact ⟨rt_, bl_ HB⟩

   rw [if_pos c13] at H
   have c13b0 : decide (x27_2 < (l1.length : Int)) = true := decide_eq_true c13
   clear c13
   obtain ⟨(c14 : 0 ≤ x27_2), H⟩ := gd_ H
   have c14b0 : decide (0 ≤ x27_2) = true := decide_eq_true c14
   clear c14
   obtain ⟨(c15 : x27_2 < (l1.length : Int)), H⟩ := gd_ H
   have c15b0 : decide (x27_2 < (l1.length : Int)) = true := decide_eq_true c15
   clear c15
   have H' := Aside0.mk H
   clear H
   have p367 : 0 ≤ (x27_2 : Int) := od_
   have q367 : x27_2 < (l1.length : Int) := od_
   obtain ⟨ad367, A367_0, c367_0, e367, hx367_0, hl367_0, hi367_0⟩ := at_L3 HR1.out x27_2 p367 q367
   cases e367
   replace hx367_0 := (hw_ HB hx367_0 :)
   have HR367_0 := Aside0.mk hi367_0
   have HC367_0 := Aside0.mk hl367_0
   clear hi367_0 hl367_0
   replace p367 := eq_true p367
   replace q367 := eq_true q367
   go_wp2
   go_loopg [11] k2 (fun kq v11 w' => ∃ (x11_3 : Int), v11 = .int .i64 x11_3 ∧ Aside0 (impl_fault.l2 kq l1 x27_2 (rd_L3 l1 x27_2) x11_3 l1 (l1.length : Int) x27_2 = some (r1, r2, r3)) ∧ Aside0 (kq ≤ k2) ∧ Aside0 (w'.heap[gb364]? = some (.cells #[.int .i16 a0_0, .int .i16 a0_1] 26 (0, 0))) ∧ Aside0 (Below w.heap.size w w'))
   case atStart => exact ⟨(wrap64 (x27_2 + 1)), (by first | rfl | (simp; done) | (simp [*]; done)), H', ⟨Nat.le_refl _⟩, ⟨bk_ BK364⟩, ⟨bl_ HB⟩⟩
   case round =>
    clear H'
    obtain ⟨x11_3, rfl, HA, HK3, BK364, HB⟩ := hrel
    rcases gk with _ | k3
    · exact absurd HA.out (by simp [impl_fault.l2])
    have H := HA.out
    clear HA
    simp only [impl_fault.l2] at H
    rcases (Decidable.em (x11_3 < (l1.length : Int))).symm with c16 | c16
    ·
     rw [if_neg c16] at H
     have c16b0 : decide (x11_3 < (l1.length : Int)) = false := decide_eq_false c16
     clear c16
     have H' := Aside0.mk H
     clear H
     go_wp2
     go_roundg k3
     case measure => have := HK1.out; have := HK2.out; have := HK3.out; omega
     case rel => exact ⟨(wrap64 (x27_2 + 1)), (by first | rfl | (simp; done) | (simp [*]; done)), H', ⟨by have := HK1.out; have := HK2.out; have := HK3.out; omega⟩, ⟨bk_ BK364⟩, ⟨bl_ HB⟩⟩
    rw [if_pos c16] at H
    have c16b0 : decide (x11_3 < (l1.length : Int)) = true := decide_eq_true c16
    clear c16
    obtain ⟨(c17 : 0 ≤ x11_3), H⟩ := gd_ H
    have c17b0 : decide (0 ≤ x11_3) = true := decide_eq_true c17
    clear c17
    replace H := Option.bind_eq_some_iff.mp H
    obtain ⟨t369, A180, H⟩ := H
    (try dsimp only at H)
    have A18 := Aside0.mk A180
    clear A180
    by_cases c19 : t369 = true
    ·
     subst c19
     replace H := gt_ H
     simp only [Option.some.injEq, Prod.mk.injEq] at H
     obtain ⟨rfl, rfl, rfl⟩ := H
     have p368 : 0 ≤ (x11_3 : Int) := od_
     have q368 : x11_3 < (l1.length : Int) := od_
     obtain ⟨ad368, A368_0, c368_0, e368, hx368_0, hl368_0, hi368_0⟩ := at_L3 HR1.out x11_3 p368 q368
     obtain rfl : ad367 = ad368 := (by injection e368)
     replace hx368_0 := (hw_ HB hx368_0 :)
     have HR368_0 := Aside0.mk hi368_0
     have HC368_0 := Aside0.mk hl368_0
     clear hi368_0 hl368_0
     replace p368 := eq_true p368
     replace q368 := eq_true q368
     go_wp2_with (first | ((with_reducible refine gate_callee (f := 33) rfl ?_); refine goM_ (some 45) Try.func33 #[.slice A367_0 (rd_L3 l1 x27_2).length c367_0, .slice A368_0 (rd_L3 l1 x11_3).length c368_0] ?_; (with_reducible refine (impl_overlap.calls _ _ (rd_L3 l1 x27_2) _ _ (rd_L3 l1 x11_3) true _ ?side1 ?side2 ?side3 ?side4 A18.out).mono ?_); (case side1 => exact kc_ (Kd.C_below HR367_0.out HB.out)); (case side2 => exact HC367_0.out); (case side3 => exact kc_ (Kd.C_below HR368_0.out HB.out)); (case side4 => exact HC368_0.out); rintro e w20 ⟨rfl, hb⟩; refine ⟨_, rfl, ?_⟩; replace BK364 := bd_ BK364 hb; replace HB := bs_ HB hb; clear hb))
     go_ret3
     exact ⟨rt_, bl_ HB⟩
    replace c19 := Bool.eq_false_iff.mpr c19
    subst c19
    replace H := gf_ H
    have H' := Aside0.mk H
    clear H
    have p368 : 0 ≤ (x11_3 : Int) := od_
    have q368 : x11_3 < (l1.length : Int) := od_
    obtain ⟨ad368, A368_0, c368_0, e368, hx368_0, hl368_0, hi368_0⟩ := at_L3 HR1.out x11_3 p368 q368
    obtain rfl : ad367 = ad368 := (by injection e368)
    replace hx368_0 := (hw_ HB hx368_0 :)
    have HR368_0 := Aside0.mk hi368_0
    have HC368_0 := Aside0.mk hl368_0
    clear hi368_0 hl368_0
    replace p368 := eq_true p368
    replace q368 := eq_true q368
    go_wp2_with (first | ((with_reducible refine gate_callee (f := 33) rfl ?_); refine goM_ (some 45) Try.func33 #[.slice A367_0 (rd_L3 l1 x27_2).length c367_0, .slice A368_0 (rd_L3 l1 x11_3).length c368_0] ?_; (with_reducible refine (impl_overlap.calls _ _ (rd_L3 l1 x27_2) _ _ (rd_L3 l1 x11_3) false _ ?side1 ?side2 ?side3 ?side4 A18.out).mono ?_); (case side1 => exact kc_ (Kd.C_below HR367_0.out HB.out)); (case side2 => exact HC367_0.out); (case side3 => exact kc_ (Kd.C_below HR368_0.out HB.out)); (case side4 => exact HC368_0.out); rintro e w21 ⟨rfl, hb⟩; refine ⟨_, rfl, ?_⟩; replace BK364 := bd_ BK364 hb; replace HB := bs_ HB hb; clear hb))
    go_roundg k3
    case measure => have := HK1.out; have := HK2.out; have := HK3.out; omega
    case rel => exact ⟨(wrap64 (x11_3 + 1)), (by first | rfl | (simp; done) | (simp [*]; done)), H', ⟨by have := HK1.out; have := HK2.out; have := HK3.out; omega⟩, ⟨bk_ BK364⟩, ⟨bl_ HB⟩⟩
end Go.Proofs.Ytllfeehchiikoaa.PA
