/- Pure functions, and that Go's functions come to them. -/
import Derived.Test.YtmglnofmmgokkaaPAx0
import Derived.Test.YtmglnofmmgokkaaPAxgImpl
namespace Go.Proofs.Ytmglnofmmgokkaa.PA
open Go.RowKit Go.Proofs.YtmglnofmmgokkaaW.PrintWords Go.Proofs.YtmglnofmmgokkaaW.PrintLast Go.Proofs.YtmglnofmmgokkaaW.PrintMore
set_option linter.unusedVariables false
set_option linter.unusedSimpArgs false

/-! ### impl_Corner_69: function 69 -/
set_option maxHeartbeats 4000000 in
theorem impl_Corner_69.anyB (g : Nat) (lb : Array Value) (eg : ∀ args w, (callFunc g args).run Try.prog w = .ok (.enter g args) w) (p : S34 → Option Bool) (A : Option Addr) (c : Nat) (l : List (S34)) (r : Int) (w : World) (hr : Kd.C k34 w A l.length l) (hc : l.length ≤ c) (h : Base.idxO p l 0 = some r)
  (hp : ∀ W (x : S34) (b : Bool), Below w.heap.size w W → x ∈ l → p x = some b → Calls Try.prog g (#[.agg #[.int .i16 x.f0, .int .i16 x.f1]] ++ lb) W fun e w' => e = .returned (.bool b) ∧ Below w.heap.size w w') :
  Calls Try.prog 69 #[.slice A l.length c, .func (.func g) #[] lb] w fun e w' => e = .returned (.int .i64 r) ∧ Below w.heap.size w w' := by
 have hn := hr.2.1
 have h0 := Aside0.mk h
 clear h
 go_enter Try.func69, Try.ntmps69
 go_wp2
 go_loopg [5, 8] l.length (fun gg _ s8 wr => ∃ kk : Nat, kk ≤ l.length ∧ l.length - kk ≤ gg ∧ s8 = .int .i64 kk ∧ Aside0 (Base.idxO p (l.drop kk) (kk : Int) = some r) ∧ Aside0 (Below w.heap.size w wr))
 case atStart => exact ⟨0, Nat.zero_le _, by omega, rfl, ⟨by rw [List.drop_zero]; exact h0.out⟩, ⟨Below.refl _ w⟩⟩
 case round =>
  clear h0
  obtain ⟨kk, hkk, hg, rfl, HA, HB⟩ := hrel
  by_cases hlt : kk < l.length
  ·
   have hltz : (kk : Int) < (l.length : Int) := by omega
   obtain ⟨ad, ea, hx0, hx1⟩ := at_T34 (Kd.C_below hr HB.out) (kk : Int) (by omega) hltz
   cases ea
   rw [Int.toNat_natCast] at hx0
   rw [Int.toNat_natCast] at hx1
   have hm : rd_T34 l (kk : Int) = l[kk] := Base.getD_nat l _ kk hlt
   obtain ⟨b, hb, ht, hf⟩ := Base.idxO_step hlt HA.out
   have hcall := hp wr (rd_T34 l (kk : Int)) b HB.out (by rw [hm]; exact List.getElem_mem _) (by rw [hm]; exact hb)
   have HT := Aside0.mk ht
   have HF := Aside0.mk hf
   clear hp hr hm hb ht hf HA
   cases b with
   | true =>
    have hT := Aside0.mk (HT.out rfl)
    clear HT HF
    go_wp2_with (go_at_fn g; refine hcall.mono ?_; rintro e w' ⟨rfl, hb'⟩)
    go_ret
    exact ⟨by rw [← hT.out]; rfl, hb'⟩
   | false =>
    have hF := Aside0.mk (HF.out rfl)
    clear HT HF
    go_wp2_with (go_at_fn g; refine hcall.mono ?_; rintro e w' ⟨rfl, hb'⟩)
    go_roundg (l.length - (kk + 1))
    case measure => omega
    case rel => exact ⟨kk + 1, by omega, by omega, by go_num, hF, ⟨hb'⟩⟩
  ·
   have hltz : ¬ (kk : Int) < (l.length : Int) := by omega
   have hE := Aside0.mk (Base.idxO_end hlt HA.out)
   clear hp hr HA
   go_wp2
   go_ret
   exact ⟨by rw [hE.out]; rfl, HB.out⟩

/-! ### impl_Corner_54: function 54 -/
set_option maxHeartbeats 4000000 in
theorem impl_Corner_54.anyB (g : Nat) (lb : Array Value) (eg : ∀ args w, (callFunc g args).run Try.prog w = .ok (.enter g args) w) (p : S34 → Option Bool) (A : Option Addr) (c : Nat) (l : List (S34)) (r : Bool) (w : World) (hr : Kd.C k34 w A l.length l) (hc : l.length ≤ c) (h : ((Base.idxO p l 0).bind fun i => some (decide (0 ≤ i))) = some r)
  (hp : ∀ W (x : S34) (b : Bool), Below w.heap.size w W → x ∈ l → p x = some b → Calls Try.prog g (#[.agg #[.int .i16 x.f0, .int .i16 x.f1]] ++ lb) W fun e w' => e = .returned (.bool b) ∧ Below w.heap.size w w') :
  Calls Try.prog 54 #[.slice A l.length c, .func (.func g) #[] lb] w fun e w' => e = .returned (.bool r) ∧ Below w.heap.size w w' := by
 obtain ⟨i, hi, he⟩ := Option.bind_eq_some_iff.1 h
 obtain rfl := Option.some.inj he
 have hcon := impl_Corner_69.anyB g lb eg p A c l i w hr hc hi hp
 clear hp hr h hi he
 go_enter Try.func54, Try.ntmps54
 go_wp2_with (go_at_call 69; refine hcon.mono ?_; rintro e w' ⟨rfl, hb'⟩)
 go_ret
 exact ⟨rfl, hb'⟩

/-! ### impl_parts_1: function 55 -/
def impl_parts_1.f (x0 x1 p0 p1 q0 q1 : Int) (st : Bool) : Option Bool := (impl_side.f p0 p1 q0 q1 x0 x1).bind fun t => some (decide (0 < t) || (st && decide (t = 0)))
set_option maxHeartbeats 4000000 in
set_option maxRecDepth 100000 in
theorem impl_parts_1.calls (x0 x1 p0 p1 q0 q1 : Int) (st : Bool) (gp gq gb : Nat) (r : Bool) (w : World) (h1 : w.heap[gp]? = some (.cells #[.int .i16 p0, .int .i16 p1] 34 (0, 0))) (h2 : w.heap[gq]? = some (.cells #[.int .i16 q0, .int .i16 q1] 34 (0, 0))) (h3 : w.heap[gb]? = some (.cells #[.bool st] 4 (0, 0))) (h : impl_parts_1.f x0 x1 p0 p1 q0 q1 st = some r) :
  Calls Try.prog 55 #[.agg #[.int .i16 x0, .int .i16 x1], .pointer (some ⟨gp, 0, none⟩), .pointer (some ⟨gq, 0, none⟩), .pointer (some ⟨gb, 0, none⟩)] w fun e w' => e = .returned (.bool r) ∧ Below w.heap.size w w' := by
 have hu2 := Try.underlying34
 obtain ⟨t, ht, hr⟩ := Option.bind_eq_some_iff.1 h
 have HS := Aside0.mk (Option.some.inj hr)
 have A2 := Aside0.mk ht
 have BP := Aside0.mk h1
 have BQ := Aside0.mk h2
 have BB := Aside0.mk h3
 clear ht h hr h1 h2 h3
 by_cases c : 0 < t
 ·
  have cb : decide (0 < t) = true := decide_eq_true c
  have hr : r = true := by have := HS.out; rw [cb, Bool.true_or] at this; exact this.symm
  subst hr
  clear HS c
  go_enter Try.func55, Try.ntmps55
  go_wp2_with (first
   | ((with_reducible refine gate_dst (N := 4) rfl ?_); refine boxM_ 4 #[.int .i16 x0, .int .i16 x1] 34 ?_; intro g1 hg1 w1 hbox hb; have hX0 : w1.cell? ⟨g1, 0, none⟩ = some (.int .i16 x0) := (blk_cell hbox 0).trans rfl; have hX1 : w1.cell? ⟨g1, 1, none⟩ = some (.int .i16 x1) := (blk_cell hbox 1).trans rfl; have hP0 : w1.cell? ⟨gp, 0, none⟩ = some (.int .i16 p0) := (blk_cell (blk_below BP.out hb) 0).trans rfl; have hP1 : w1.cell? ⟨gp, 1, none⟩ = some (.int .i16 p1) := (blk_cell (blk_below BP.out hb) 1).trans rfl; have hQ0 : w1.cell? ⟨gq, 0, none⟩ = some (.int .i16 q0) := (blk_cell (blk_below BQ.out hb) 0).trans rfl; have hQ1 : w1.cell? ⟨gq, 1, none⟩ = some (.int .i16 q1) := (blk_cell (blk_below BQ.out hb) 1).trans rfl; have HB := Aside0.mk hb; clear hg1 hbox hb)
   | (go_at_call 56; (with_reducible refine (impl_side.calls p0 p1 q0 q1 x0 x1 t _ A2.out).mono ?_); rintro e w' ⟨rfl, hb'⟩))
  go_ret
  exact ⟨by first | rfl | (simp; done) | (simp [*]; done), below_step (by repeat (first | exact HB.out | apply pw_below_drewN | apply below_drew1)) hb'⟩
 ·
  have cb : decide (0 < t) = false := decide_eq_false c
  cases st with
  | false =>
   have hr : r = false := by have := HS.out; rw [cb, Bool.false_or, Bool.false_and] at this; exact this.symm
   subst hr
   clear HS c
   go_enter Try.func55, Try.ntmps55
   go_wp2_with (first
    | ((with_reducible refine gate_dst (N := 4) rfl ?_); refine boxM_ 4 #[.int .i16 x0, .int .i16 x1] 34 ?_; intro g1 hg1 w1 hbox hb; have hX0 : w1.cell? ⟨g1, 0, none⟩ = some (.int .i16 x0) := (blk_cell hbox 0).trans rfl; have hX1 : w1.cell? ⟨g1, 1, none⟩ = some (.int .i16 x1) := (blk_cell hbox 1).trans rfl; have hP0 : w1.cell? ⟨gp, 0, none⟩ = some (.int .i16 p0) := (blk_cell (blk_below BP.out hb) 0).trans rfl; have hP1 : w1.cell? ⟨gp, 1, none⟩ = some (.int .i16 p1) := (blk_cell (blk_below BP.out hb) 1).trans rfl; have hQ0 : w1.cell? ⟨gq, 0, none⟩ = some (.int .i16 q0) := (blk_cell (blk_below BQ.out hb) 0).trans rfl; have hQ1 : w1.cell? ⟨gq, 1, none⟩ = some (.int .i16 q1) := (blk_cell (blk_below BQ.out hb) 1).trans rfl; have BBw := Aside0.mk (blk_below BB.out hb); have HB := Aside0.mk hb; clear hg1 hbox hb)
    | (go_at_call 56; (with_reducible refine (impl_side.calls p0 p1 q0 q1 x0 x1 t _ A2.out).mono ?_); rintro e w' ⟨rfl, hb'⟩; have hS0 : w'.cell? ⟨gb, 0, none⟩ = some (.bool false) := (blk_cell (blk_below BBw.out hb') 0).trans rfl))
   go_ret
   exact ⟨by first | rfl | (simp; done) | (simp [*]; done), below_step (by repeat (first | exact HB.out | apply pw_below_drewN | apply below_drew1)) hb'⟩
  | true =>
   have hr : r = (t == 0) := by have := HS.out; rw [cb, Bool.false_or, Bool.true_and] at this; rw [← this]; by_cases e : t = 0 <;> simp [e]
   subst hr
   clear HS c
   go_enter Try.func55, Try.ntmps55
   go_wp2_with (first
    | ((with_reducible refine gate_dst (N := 4) rfl ?_); refine boxM_ 4 #[.int .i16 x0, .int .i16 x1] 34 ?_; intro g1 hg1 w1 hbox hb; have hX0 : w1.cell? ⟨g1, 0, none⟩ = some (.int .i16 x0) := (blk_cell hbox 0).trans rfl; have hX1 : w1.cell? ⟨g1, 1, none⟩ = some (.int .i16 x1) := (blk_cell hbox 1).trans rfl; have hP0 : w1.cell? ⟨gp, 0, none⟩ = some (.int .i16 p0) := (blk_cell (blk_below BP.out hb) 0).trans rfl; have hP1 : w1.cell? ⟨gp, 1, none⟩ = some (.int .i16 p1) := (blk_cell (blk_below BP.out hb) 1).trans rfl; have hQ0 : w1.cell? ⟨gq, 0, none⟩ = some (.int .i16 q0) := (blk_cell (blk_below BQ.out hb) 0).trans rfl; have hQ1 : w1.cell? ⟨gq, 1, none⟩ = some (.int .i16 q1) := (blk_cell (blk_below BQ.out hb) 1).trans rfl; have BBw := Aside0.mk (blk_below BB.out hb); have BPw := Aside0.mk (blk_below BP.out hb); have BQw := Aside0.mk (blk_below BQ.out hb); have BXw := Aside0.mk hbox; have HB := Aside0.mk hb; clear hg1 hbox hb)
    | (go_at_call 56; (with_reducible refine (impl_side.calls p0 p1 q0 q1 x0 x1 t _ A2.out).mono ?_); rintro e w2 ⟨rfl, hb2⟩; have hS0 : w2.cell? ⟨gb, 0, none⟩ = some (.bool true) := (blk_cell (blk_below BBw.out hb2) 0).trans rfl; have hP0' : w2.cell? ⟨gp, 0, none⟩ = some (.int .i16 p0) := (blk_cell (blk_below BPw.out hb2) 0).trans rfl; have hP1' : w2.cell? ⟨gp, 1, none⟩ = some (.int .i16 p1) := (blk_cell (blk_below BPw.out hb2) 1).trans rfl; have hQ0' : w2.cell? ⟨gq, 0, none⟩ = some (.int .i16 q0) := (blk_cell (blk_below BQw.out hb2) 0).trans rfl; have hQ1' : w2.cell? ⟨gq, 1, none⟩ = some (.int .i16 q1) := (blk_cell (blk_below BQw.out hb2) 1).trans rfl; have hX0' : w2.cell? ⟨g1, 0, none⟩ = some (.int .i16 x0) := (blk_cell (blk_below BXw.out hb2) 0).trans rfl; have hX1' : w2.cell? ⟨g1, 1, none⟩ = some (.int .i16 x1) := (blk_cell (blk_below BXw.out hb2) 1).trans rfl)
    | (go_at_call 56; (with_reducible refine (impl_side.calls p0 p1 q0 q1 x0 x1 t _ A2.out).mono ?_); rintro e w3 ⟨rfl, hb3⟩))
   go_ret
   exact ⟨by first | rfl | (simp; done) | (simp [*]; done), below_step (by repeat (first | exact below_step HB.out hb2 | apply pw_below_drewN | apply below_drew1)) hb3⟩

/-! ### impl_parts: function 29 -/
def impl_parts.p (a b : List S34) (st : Bool) (i j : Int) : Option Bool := (Base.idxO (fun x : S34 => impl_parts_1.f x.f0 x.f1 (rd_T34 a i).f0 (rd_T34 a i).f1 (rd_T34 a j).f0 (rd_T34 a j).f1 st) b 0).bind fun i => some (decide (0 ≤ i))
def impl_parts.l (a b : List S34) (st : Bool) : Nat → Nat → Option Bool
 | 0, _ => some false
 | d + 1, i => (impl_parts.p a b st (i : Int) (((i + 1) % a.length : Nat) : Int)).bind fun t => if t = true then impl_parts.l a b st d (i + 1) else some true
def impl_parts.f (l0 l1 : List S34) (a2 : Bool) : Option Bool := impl_parts.l l0 l1 a2 l0.length 0
theorem impl_parts.succ (i n : Nat) (h : i < n) (hn : n ≤ maxLen) : wrap64 ((i : Int) + 1) = ((i + 1 : Nat) : Int) := by
 have hm : maxLen ≤ 9223372036854775807 := by decide
 rw [IntWalk.wrap64_in _ ⟨by omega, by omega⟩]; rfl
theorem impl_parts.next (i n : Nat) (h : i < n) (hn : n ≤ maxLen) : Int.tmod (wrap64 ((i : Int) + 1)) (n : Int) = (((i + 1) % n : Nat) : Int) := by
 have hm : maxLen ≤ 9223372036854775807 := by decide
 rw [IntWalk.wrap64_in _ ⟨by omega, by omega⟩, Int.tmod_eq_emod_of_nonneg (by omega), Int.natCast_emod]
 rfl
set_option maxHeartbeats 8000000 in
set_option maxRecDepth 100000 in
theorem impl_parts.calls (A0 : Option Addr) (c0 : Nat) (l0 : List S34) (A1 : Option Addr) (c1 : Nat) (l1 : List S34) (a2 : Bool) (r : Bool) (w : World) (hr0 : Kd.C k34 w A0 l0.length l0) (hc0 : l0.length ≤ c0) (hr1 : Kd.C k34 w A1 l1.length l1) (hc1 : l1.length ≤ c1) (h : impl_parts.f l0 l1 a2 = some r) :
  Calls Try.prog 29 #[.slice A0 l0.length c0, .slice A1 l1.length c1, .bool a2] w fun e w' => e = .returned (.bool r) ∧ Below w.heap.size w w' := by
 have hu2 := Try.underlying34
 have HR0 := Aside0.mk hr0
 have HC0 := Aside0.mk hc0
 have HR1 := Aside0.mk hr1
 have HC1 := Aside0.mk hc1
 have H := Aside0.mk h
 clear h hr0 hc0 hr1 hc1
 have eg : ∀ args w, (callFunc 55 args).run Try.prog w = .ok (.enter 55 args) w := enters_of Try.func55 (by kernel_rfl) rfl
 go_enter Try.func29, Try.ntmps29
 go_wp2_with (first
  | ((with_reducible refine gate_dst (N := 5) rfl ?_); refine boxM_ 5 #[.bool a2] 4 ?_; intro gb hgb w1 hbox hb; have BB := Aside0.mk hbox; have HW := Aside0.mk hb; have HRa := Aside0.mk (Kd.C_below HR0.out hb); have HRb := Aside0.mk (Kd.C_below HR1.out hb); clear HR0 HR1 hgb hbox hb))
 go_loopg [12] l0.length (fun gg s12 wr => ∃ kk : Nat, kk ≤ l0.length ∧ l0.length - kk ≤ gg ∧ s12 = .int .i64 kk ∧ Aside0 (impl_parts.l l0 l1 a2 (l0.length - kk) kk = some r) ∧ Aside0 (Below w1.heap.size w1 wr))
 case atStart => exact ⟨0, Nat.zero_le _, by omega, rfl, ⟨by rw [Nat.sub_zero]; exact H.out⟩, ⟨by repeat (first | exact Below.refl _ w1 | apply pw_below_drewN | apply below_drew1)⟩⟩
 case round =>
  clear H
  obtain ⟨kk, hkk, hg, rfl, HA, HB⟩ := hrel
  by_cases hlt : kk < l0.length
  ·
   have hltz : (kk : Int) < (l0.length : Int) := by omega
   have hn := HRa.out.2.1
   obtain ⟨ad, ea, hx0, hx1⟩ := at_T34 HRa.out (kk : Int) (by omega) hltz
   cases ea
   rw [Int.toNat_natCast] at hx0
   rw [Int.toNat_natCast] at hx1
   replace hx0 := (HB.out.cell (World.block_lt_of_cell? _ _ hx0)).trans hx0
   replace hx1 := (HB.out.cell (World.block_lt_of_cell? _ _ hx1)).trans hx1
   have HWR := Aside0.mk (impl_parts.succ kk l0.length hlt hn)
   have HV := Aside0.mk (impl_parts.next kk l0.length hlt hn)
   obtain ⟨ji, hji⟩ : ∃ j_ : Int, (Int.tmod (wrap64 ((kk : Int) + 1)) (l0.length : Int)) = j_ := ⟨_, rfl⟩
   have HJ := Aside0.mk (hji.symm.trans HV.out)
   have hp := HA.out
   rw [show l0.length - kk = (l0.length - (kk + 1)) + 1 by omega, impl_parts.l, ← HJ.out] at hp
   obtain ⟨t, ht, hp⟩ := Option.bind_eq_some_iff.1 hp
   unfold impl_parts.p at ht
   have HT := Aside0.mk ht
   have HP := Aside0.mk hp
   have hj0 : 0 ≤ ji := by rw [HJ.out]; omega
   have hj1 : ji < (l0.length : Int) := by rw [HJ.out]; have := Nat.mod_lt (kk + 1) (by omega : 0 < l0.length); omega
   have hj0b : decide (0 ≤ ji) = true := decide_eq_true hj0
   have hj1b : decide (ji < (l0.length : Int)) = true := decide_eq_true hj1
   have ne0 : ((l0.length : Int) == 0) = false := by rw [beq_eq_false_iff_ne]; omega
   have ne1 : ((l0.length : Int) != 0) = true := by rw [bne_iff_ne]; omega
   have ne2 : ¬ (l0 = []) := fun h_ => by rw [h_] at hlt; simp at hlt
   have HJ0 := Aside0.mk hj0
   have HJ1 := Aside0.mk hj1
   have pj := eq_true hj0
   have qj := eq_true hj1
   clear HA HV ht hp hj0 hj1 hn
   cases t with
   | true =>
    have HG := Aside0.mk (by have := HP.out; rwa [if_pos rfl] at this : impl_parts.l l0 l1 a2 (l0.length - (kk + 1)) (kk + 1) = some r)
    clear HP
    go_wp2_with (first
     | ((with_reducible refine gate_dst (N := 8) rfl ?_); refine boxM_ 8 #[.int .i16 0, .int .i16 0] 34 ?_; intro g1 hg1 w2 hbox hb; have HB2 := Aside0.mk (below_step (by repeat (first | exact HB.out | apply pw_below_drewN | apply below_drew1 )) hb); have BP0 := Aside0.mk hbox; have G1 := Aside0.mk ((by rw [hg1]; exact ((by repeat (first | exact HB.out | apply pw_below_drewN | apply below_drew1 )) : Below w1.heap.size w1 _).size) : w1.heap.size ≤ g1); clear hg1 hbox hb; have hcp0 : w2.cell? ⟨g1, 0, none⟩ = some (.int .i16 0) := (blk_cell BP0.out 0).trans rfl; have hcp1 : w2.cell? ⟨g1, 1, none⟩ = some (.int .i16 0) := (blk_cell BP0.out 1).trans rfl; have hfp0 := blk_frozen BP0.out 0; have hfp1 := blk_frozen BP0.out 1; obtain ⟨ad', ea', hy0, hy1⟩ := at_T34 HRa.out ji HJ0.out HJ1.out; obtain rfl : ad = ad' := (by injection ea'); have hn0 : ad.block ≠ g1 := Nat.ne_of_lt (Nat.lt_of_lt_of_le (by have := World.block_lt_of_cell? _ _ hy0; first | rwa [add_block] at this | exact this) G1.out); replace hy0 := (HB2.out.cell (World.block_lt_of_cell? _ _ hy0)).trans hy0; replace hy1 := (HB2.out.cell (World.block_lt_of_cell? _ _ hy1)).trans hy1; replace hy0 := (cell_far (p := ⟨g1, 0, none⟩) (by first | (rw [add_block]; exact hn0) | (show (Addr.add _ _).block ≠ _; rw [add_block]; exact hn0) | exact hn0) (.int .i16 ((rd_T34 l0 (kk : Int)).f0))).trans hy0; replace hy0 := (cell_far (p := ⟨g1, 1, none⟩) (by first | (rw [add_block]; exact hn0) | (show (Addr.add _ _).block ≠ _; rw [add_block]; exact hn0) | exact hn0) (.int .i16 ((rd_T34 l0 (kk : Int)).f1))).trans hy0; replace hy1 := (cell_far (p := ⟨g1, 0, none⟩) (by first | (rw [add_block]; exact hn0) | (show (Addr.add _ _).block ≠ _; rw [add_block]; exact hn0) | exact hn0) (.int .i16 ((rd_T34 l0 (kk : Int)).f0))).trans hy1; replace hy1 := (cell_far (p := ⟨g1, 1, none⟩) (by first | (rw [add_block]; exact hn0) | (show (Addr.add _ _).block ≠ _; rw [add_block]; exact hn0) | exact hn0) (.int .i16 ((rd_T34 l0 (kk : Int)).f1))).trans hy1; clear hn0)
     | ((with_reducible refine gate_dst (N := 9) rfl ?_); refine boxM_ 9 #[.int .i16 0, .int .i16 0] 34 ?_; intro g2 hg2 w3 hbox hb; have BP := Aside0.mk (blk_below (g := g1) (o := (.cells #[.int .i16 ((rd_T34 l0 (kk : Int)).f0), .int .i16 ((rd_T34 l0 (kk : Int)).f1)] 34 (0, 0))) (by (with_reducible repeat (first | refine blk_drewN ?_ _ | refine blk_drew ?_ | refine blk_alloc ?_ _)); refine blk_put (cs := #[.int .i16 ((rd_T34 l0 (kk : Int)).f0), .int .i16 0]) ?_ 1 _ rfl; (with_reducible repeat (first | refine blk_drewN ?_ _ | refine blk_drew ?_ | refine blk_alloc ?_ _)); refine blk_put (cs := #[.int .i16 0, .int .i16 0]) ?_ 0 _ rfl; (with_reducible repeat (first | refine blk_drewN ?_ _ | refine blk_drew ?_ | refine blk_alloc ?_ _)); exact BP0.out) hb); have HB3 := Aside0.mk (below_step (by repeat (first | exact HB2.out | apply pw_below_drewN | apply below_drew1 | refine below_set ?_ G1.out)) hb); have BQ0 := Aside0.mk hbox; have G2 := Aside0.mk ((by rw [hg2]; exact ((by repeat (first | exact HB2.out | apply pw_below_drewN | apply below_drew1 | refine below_set ?_ G1.out)) : Below w1.heap.size w1 _).size) : w1.heap.size ≤ g2); have NE := Aside0.mk ((by rw [hg2]; exact Nat.ne_of_lt (blk_lt (g := g1) (o := (.cells #[.int .i16 ((rd_T34 l0 (kk : Int)).f0), .int .i16 ((rd_T34 l0 (kk : Int)).f1)] 34 (0, 0))) (by (with_reducible repeat (first | refine blk_drewN ?_ _ | refine blk_drew ?_ | refine blk_alloc ?_ _)); refine blk_put (cs := #[.int .i16 ((rd_T34 l0 (kk : Int)).f0), .int .i16 0]) ?_ 1 _ rfl; (with_reducible repeat (first | refine blk_drewN ?_ _ | refine blk_drew ?_ | refine blk_alloc ?_ _)); refine blk_put (cs := #[.int .i16 0, .int .i16 0]) ?_ 0 _ rfl; (with_reducible repeat (first | refine blk_drewN ?_ _ | refine blk_drew ?_ | refine blk_alloc ?_ _)); exact BP0.out))) : g1 ≠ g2); clear hg2 hbox hb; have hcq0 : w3.cell? ⟨g2, 0, none⟩ = some (.int .i16 0) := (blk_cell BQ0.out 0).trans rfl; have hcq1 : w3.cell? ⟨g2, 1, none⟩ = some (.int .i16 0) := (blk_cell BQ0.out 1).trans rfl; have hfq0 := blk_frozen BQ0.out 0; have hfq1 := blk_frozen BQ0.out 1)
     | (go_at_call 54; ((with_reducible refine (impl_Corner_54.anyB 55 #[.pointer (some ⟨g1, 0, none⟩), .pointer (some ⟨g2, 0, none⟩), .pointer (some ⟨gb, 0, none⟩)] eg (fun x : S34 => impl_parts_1.f x.f0 x.f1 ((rd_T34 l0 (kk : Int)).f0) ((rd_T34 l0 (kk : Int)).f1) ((rd_T34 l0 ji).f0) ((rd_T34 l0 ji).f1) a2) _ _ l1 _ _ ?side1 HC1.out HT.out ?side2).mono ?_); (case side1 => exact Kd.C_below HRb.out (by repeat (first | exact HB3.out | apply pw_below_drewN | apply below_drew1 | refine below_set ?_ G2.out))); (case side2 => exact fun W x u hb _ hx => (impl_parts_1.calls x.f0 x.f1 ((rd_T34 l0 (kk : Int)).f0) ((rd_T34 l0 (kk : Int)).f1) ((rd_T34 l0 ji).f0) ((rd_T34 l0 ji).f1) a2 g1 g2 gb u W (blk_below (g := g1) (o := (.cells #[.int .i16 ((rd_T34 l0 (kk : Int)).f0), .int .i16 ((rd_T34 l0 (kk : Int)).f1)] 34 (0, 0))) (by repeat (first | exact BP.out | refine blk_drewN ?_ _ | refine blk_drew ?_ | refine blk_far ?_ NE.out _)) hb) (blk_below (g := g2) (o := (.cells #[.int .i16 ((rd_T34 l0 ji).f0), .int .i16 ((rd_T34 l0 ji).f1)] 34 (0, 0))) (by (with_reducible repeat (first | refine blk_drewN ?_ _ | refine blk_drew ?_ | refine blk_alloc ?_ _)); refine blk_put (cs := #[.int .i16 ((rd_T34 l0 ji).f0), .int .i16 0]) ?_ 1 _ rfl; (with_reducible repeat (first | refine blk_drewN ?_ _ | refine blk_drew ?_ | refine blk_alloc ?_ _)); refine blk_put (cs := #[.int .i16 0, .int .i16 0]) ?_ 0 _ rfl; (with_reducible repeat (first | refine blk_drewN ?_ _ | refine blk_drew ?_ | refine blk_alloc ?_ _)); exact BQ0.out) hb) (blk_below (blk_below BB.out (by repeat (first | exact HB3.out | apply pw_below_drewN | apply below_drew1 | refine below_set ?_ G2.out))) hb) hx).mono fun e w' h => ⟨h.1, below_then hb hb.size h.2⟩); rintro e w4 ⟨rfl, hb4⟩; have HB4 := Aside0.mk (below_step (by repeat (first | exact HB3.out | apply pw_below_drewN | apply below_drew1 | refine below_set ?_ G2.out)) hb4))))
    go_roundg (l0.length - (kk + 1))
    case measure => omega
    case rel => exact ⟨kk + 1, by omega, by omega, by rw [HWR.out], HG, ⟨by repeat (first | exact HB4.out | apply pw_below_drewN | apply below_drew1)⟩⟩
   | false =>
    have hr : r = true := by have := HP.out; rw [if_neg (by decide)] at this; exact (Option.some.inj this).symm
    subst hr
    clear HP
    go_wp2_with (first
     | ((with_reducible refine gate_dst (N := 8) rfl ?_); refine boxM_ 8 #[.int .i16 0, .int .i16 0] 34 ?_; intro g1 hg1 w2 hbox hb; have HB2 := Aside0.mk (below_step (by repeat (first | exact HB.out | apply pw_below_drewN | apply below_drew1 )) hb); have BP0 := Aside0.mk hbox; have G1 := Aside0.mk ((by rw [hg1]; exact ((by repeat (first | exact HB.out | apply pw_below_drewN | apply below_drew1 )) : Below w1.heap.size w1 _).size) : w1.heap.size ≤ g1); clear hg1 hbox hb; have hcp0 : w2.cell? ⟨g1, 0, none⟩ = some (.int .i16 0) := (blk_cell BP0.out 0).trans rfl; have hcp1 : w2.cell? ⟨g1, 1, none⟩ = some (.int .i16 0) := (blk_cell BP0.out 1).trans rfl; have hfp0 := blk_frozen BP0.out 0; have hfp1 := blk_frozen BP0.out 1; obtain ⟨ad', ea', hy0, hy1⟩ := at_T34 HRa.out ji HJ0.out HJ1.out; obtain rfl : ad = ad' := (by injection ea'); have hn0 : ad.block ≠ g1 := Nat.ne_of_lt (Nat.lt_of_lt_of_le (by have := World.block_lt_of_cell? _ _ hy0; first | rwa [add_block] at this | exact this) G1.out); replace hy0 := (HB2.out.cell (World.block_lt_of_cell? _ _ hy0)).trans hy0; replace hy1 := (HB2.out.cell (World.block_lt_of_cell? _ _ hy1)).trans hy1; replace hy0 := (cell_far (p := ⟨g1, 0, none⟩) (by first | (rw [add_block]; exact hn0) | (show (Addr.add _ _).block ≠ _; rw [add_block]; exact hn0) | exact hn0) (.int .i16 ((rd_T34 l0 (kk : Int)).f0))).trans hy0; replace hy0 := (cell_far (p := ⟨g1, 1, none⟩) (by first | (rw [add_block]; exact hn0) | (show (Addr.add _ _).block ≠ _; rw [add_block]; exact hn0) | exact hn0) (.int .i16 ((rd_T34 l0 (kk : Int)).f1))).trans hy0; replace hy1 := (cell_far (p := ⟨g1, 0, none⟩) (by first | (rw [add_block]; exact hn0) | (show (Addr.add _ _).block ≠ _; rw [add_block]; exact hn0) | exact hn0) (.int .i16 ((rd_T34 l0 (kk : Int)).f0))).trans hy1; replace hy1 := (cell_far (p := ⟨g1, 1, none⟩) (by first | (rw [add_block]; exact hn0) | (show (Addr.add _ _).block ≠ _; rw [add_block]; exact hn0) | exact hn0) (.int .i16 ((rd_T34 l0 (kk : Int)).f1))).trans hy1; clear hn0)
     | ((with_reducible refine gate_dst (N := 9) rfl ?_); refine boxM_ 9 #[.int .i16 0, .int .i16 0] 34 ?_; intro g2 hg2 w3 hbox hb; have BP := Aside0.mk (blk_below (g := g1) (o := (.cells #[.int .i16 ((rd_T34 l0 (kk : Int)).f0), .int .i16 ((rd_T34 l0 (kk : Int)).f1)] 34 (0, 0))) (by (with_reducible repeat (first | refine blk_drewN ?_ _ | refine blk_drew ?_ | refine blk_alloc ?_ _)); refine blk_put (cs := #[.int .i16 ((rd_T34 l0 (kk : Int)).f0), .int .i16 0]) ?_ 1 _ rfl; (with_reducible repeat (first | refine blk_drewN ?_ _ | refine blk_drew ?_ | refine blk_alloc ?_ _)); refine blk_put (cs := #[.int .i16 0, .int .i16 0]) ?_ 0 _ rfl; (with_reducible repeat (first | refine blk_drewN ?_ _ | refine blk_drew ?_ | refine blk_alloc ?_ _)); exact BP0.out) hb); have HB3 := Aside0.mk (below_step (by repeat (first | exact HB2.out | apply pw_below_drewN | apply below_drew1 | refine below_set ?_ G1.out)) hb); have BQ0 := Aside0.mk hbox; have G2 := Aside0.mk ((by rw [hg2]; exact ((by repeat (first | exact HB2.out | apply pw_below_drewN | apply below_drew1 | refine below_set ?_ G1.out)) : Below w1.heap.size w1 _).size) : w1.heap.size ≤ g2); have NE := Aside0.mk ((by rw [hg2]; exact Nat.ne_of_lt (blk_lt (g := g1) (o := (.cells #[.int .i16 ((rd_T34 l0 (kk : Int)).f0), .int .i16 ((rd_T34 l0 (kk : Int)).f1)] 34 (0, 0))) (by (with_reducible repeat (first | refine blk_drewN ?_ _ | refine blk_drew ?_ | refine blk_alloc ?_ _)); refine blk_put (cs := #[.int .i16 ((rd_T34 l0 (kk : Int)).f0), .int .i16 0]) ?_ 1 _ rfl; (with_reducible repeat (first | refine blk_drewN ?_ _ | refine blk_drew ?_ | refine blk_alloc ?_ _)); refine blk_put (cs := #[.int .i16 0, .int .i16 0]) ?_ 0 _ rfl; (with_reducible repeat (first | refine blk_drewN ?_ _ | refine blk_drew ?_ | refine blk_alloc ?_ _)); exact BP0.out))) : g1 ≠ g2); clear hg2 hbox hb; have hcq0 : w3.cell? ⟨g2, 0, none⟩ = some (.int .i16 0) := (blk_cell BQ0.out 0).trans rfl; have hcq1 : w3.cell? ⟨g2, 1, none⟩ = some (.int .i16 0) := (blk_cell BQ0.out 1).trans rfl; have hfq0 := blk_frozen BQ0.out 0; have hfq1 := blk_frozen BQ0.out 1)
     | (go_at_call 54; ((with_reducible refine (impl_Corner_54.anyB 55 #[.pointer (some ⟨g1, 0, none⟩), .pointer (some ⟨g2, 0, none⟩), .pointer (some ⟨gb, 0, none⟩)] eg (fun x : S34 => impl_parts_1.f x.f0 x.f1 ((rd_T34 l0 (kk : Int)).f0) ((rd_T34 l0 (kk : Int)).f1) ((rd_T34 l0 ji).f0) ((rd_T34 l0 ji).f1) a2) _ _ l1 _ _ ?side1 HC1.out HT.out ?side2).mono ?_); (case side1 => exact Kd.C_below HRb.out (by repeat (first | exact HB3.out | apply pw_below_drewN | apply below_drew1 | refine below_set ?_ G2.out))); (case side2 => exact fun W x u hb _ hx => (impl_parts_1.calls x.f0 x.f1 ((rd_T34 l0 (kk : Int)).f0) ((rd_T34 l0 (kk : Int)).f1) ((rd_T34 l0 ji).f0) ((rd_T34 l0 ji).f1) a2 g1 g2 gb u W (blk_below (g := g1) (o := (.cells #[.int .i16 ((rd_T34 l0 (kk : Int)).f0), .int .i16 ((rd_T34 l0 (kk : Int)).f1)] 34 (0, 0))) (by repeat (first | exact BP.out | refine blk_drewN ?_ _ | refine blk_drew ?_ | refine blk_far ?_ NE.out _)) hb) (blk_below (g := g2) (o := (.cells #[.int .i16 ((rd_T34 l0 ji).f0), .int .i16 ((rd_T34 l0 ji).f1)] 34 (0, 0))) (by (with_reducible repeat (first | refine blk_drewN ?_ _ | refine blk_drew ?_ | refine blk_alloc ?_ _)); refine blk_put (cs := #[.int .i16 ((rd_T34 l0 ji).f0), .int .i16 0]) ?_ 1 _ rfl; (with_reducible repeat (first | refine blk_drewN ?_ _ | refine blk_drew ?_ | refine blk_alloc ?_ _)); refine blk_put (cs := #[.int .i16 0, .int .i16 0]) ?_ 0 _ rfl; (with_reducible repeat (first | refine blk_drewN ?_ _ | refine blk_drew ?_ | refine blk_alloc ?_ _)); exact BQ0.out) hb) (blk_below (blk_below BB.out (by repeat (first | exact HB3.out | apply pw_below_drewN | apply below_drew1 | refine below_set ?_ G2.out))) hb) hx).mono fun e w' h => ⟨h.1, below_then hb hb.size h.2⟩); rintro e w4 ⟨rfl, hb4⟩; have HB4 := Aside0.mk (below_step (by repeat (first | exact HB3.out | apply pw_below_drewN | apply below_drew1 | refine below_set ?_ G2.out)) hb4))))
    go_ret
    exact ⟨by first | rfl | (simp; done) | (simp [*]; done), by repeat (first | exact below_step HW.out HB4.out | apply pw_below_drewN | apply below_drew1)⟩
  ·
   have hltz : ¬ (kk : Int) < (l0.length : Int) := by omega
   have hr : r = false := by
    have := HA.out
    rw [show l0.length - kk = 0 by omega, impl_parts.l] at this
    exact (Option.some.inj this).symm
   subst hr
   clear HA
   go_wp2
   go_ret
   exact ⟨by first | rfl | (simp; done) | (simp [*]; done), by repeat (first | exact below_step HW.out HB.out | apply pw_below_drewN | apply below_drew1)⟩

/-! ### impl_overlap: function 26 -/
def impl_overlap.f (l0 : List (S34)) (l1 : List (S34)) : Option (Bool) := (impl_parts.f l0 l1 false).bind fun t247 => (if t247 = true then (some false) else ((impl_parts.f l1 l0 false).bind fun t248 => (some (!t248))))
set_option maxHeartbeats 8000000 in
set_option maxRecDepth 100000 in
theorem impl_overlap.calls (A0 : Option Addr) (c0 : Nat) (l0 : List (S34)) (A1 : Option Addr) (c1 : Nat) (l1 : List (S34)) (r : Bool) (w : World) (hr0 : Kd.C k34 w A0 l0.length l0) (hc0 : l0.length ≤ c0) (hr1 : Kd.C k34 w A1 l1.length l1) (hc1 : l1.length ≤ c1) (h : impl_overlap.f l0 l1 = some r) :
  Calls Try.prog 26 #[.slice A0 l0.length c0, .slice A1 l1.length c1] w fun e w' => e = .returned (.bool r) ∧ Below w.heap.size w w' := by
 have HR0 := Aside0.mk hr0
 have HC0 := Aside0.mk hc0
 clear hr0 hc0
 have HR1 := Aside0.mk hr1
 have HC1 := Aside0.mk hc1
 clear hr1 hc1
 have HB := Aside0.mk (Below.refl w.heap.size w)
 have H : ((impl_parts.f l0 l1 false).bind fun t247 => (if t247 = true then (some false) else ((impl_parts.f l1 l0 false).bind fun t248 => (some (!t248))))) = some r := h
 clear h
 obtain ⟨t247, A3, H⟩ := be_ H
 (try dsimp only at H)
 by_cases c4 : t247 = true
 ·
  subst c4
  replace H := gt_ H
  obtain rfl := Option.some.inj H
  go_enter Try.func26, Try.ntmps26
  go_wp2_with (first | ((with_reducible refine gate_callee (f := 29) rfl ?_); refine goM_ (some 7) Try.func29 #[.slice A0 l0.length c0, .slice A1 l1.length c1, .bool false] ?_; (with_reducible refine (impl_parts.calls _ _ l0 _ _ l1 false true _ ?side1 ?side2 ?side3 ?side4 A3.out).mono ?_); (case side1 => exact kc_ HR0.out); (case side2 => exact HC0.out); (case side3 => exact kc_ HR1.out); (case side4 => exact HC1.out); rintro e w5 ⟨rfl, hb⟩; refine ⟨_, rfl, ?_⟩; replace HB := Aside0.mk (below_step (kB_ HB) hb); clear hb))
  go_ret
  exact ⟨rt_, kB_ HB⟩
 replace c4 := Bool.eq_false_iff.mpr c4
 subst c4
 replace H := gf_ H
 obtain ⟨t248, A6, H⟩ := be_ H
 (try dsimp only at H)
 obtain rfl := Option.some.inj H
 go_enter Try.func26, Try.ntmps26
 go_wp2_with (first | ((with_reducible refine gate_callee (f := 29) rfl ?_); refine goM_ (some 7) Try.func29 #[.slice A0 l0.length c0, .slice A1 l1.length c1, .bool false] ?_; (with_reducible refine (impl_parts.calls _ _ l0 _ _ l1 false false _ ?side1 ?side2 ?side3 ?side4 A3.out).mono ?_); (case side1 => exact kc_ HR0.out); (case side2 => exact HC0.out); (case side3 => exact kc_ HR1.out); (case side4 => exact HC1.out); rintro e w7 ⟨rfl, hb⟩; refine ⟨_, rfl, ?_⟩; replace HB := Aside0.mk (below_step (kB_ HB) hb); clear hb) | (go_at_call 29; (with_reducible refine (impl_parts.calls _ _ l1 _ _ l0 false t248 _ ?side1 ?side2 ?side3 ?side4 A6.out).mono ?_); (case side1 => exact kc_ (Kd.C_below HR1.out HB.out)); (case side2 => exact HC1.out); (case side3 => exact kc_ (Kd.C_below HR0.out HB.out)); (case side4 => exact HC0.out); rintro e w8 ⟨rfl, hb⟩; replace HB := Aside0.mk (below_step (kB_ HB) hb); clear hb))
 go_ret
 exact ⟨rt_, kB_ HB⟩

end Go.Proofs.Ytmglnofmmgokkaa.PA
