/- Pure functions, and that Go's functions come to them. -/
import Derived.Test.YthbogbaaikjhbaaGreatDoorPAx0
import Derived.Test.YthbogbaaikjhbaaGreatDoorPAxm20
import Derived.Test.YthbogbaaikjhbaaGreatDoorPAxm25
import Derived.Test.YthbogbaaikjhbaaGreatDoorPAxm29
import Derived.Test.YthbogbaaikjhbaaGreatDoorShelf
import Derived.Test.YthbogbaaikjhbaaGreatDoorPAxm27
import Derived.Test.YthbogbaaikjhbaaGreatDoorShelfB
import Derived.Test.YthbogbaaikjhbaaGreatDoorPAxgImpl
namespace Go.Proofs.YthbogbaaikjhbaaGreatDoor.PA
open Go.RowKit Go.Proofs.YthbogbaaikjhbaaGreatDoorW.PrintWords Go.Proofs.YthbogbaaikjhbaaGreatDoorW.PrintLast Go.Proofs.YthbogbaaikjhbaaGreatDoorW.PrintMore
set_option linter.unusedVariables false
set_option linter.unusedSimpArgs false

/-! ### spec_l03Near: function 47 -/
def spec_l03Near.f (s0_0 : List Int) (s0_1 : Int) (s0_2 : Int) (a1 : Int) (a2 : Int) (a3 : Int) : Option (Int × Int × Int × Int) := (spec_l00Src_pick.f s0_0 s0_1 s0_2 a3).bind fun bt162 => ((spec_l00Src_pick.f s0_0 bt162.2.1 bt162.2.2 a3).bind fun bt165 => (some (IntKind.i16.wrap (wrap64 (a1 + bt162.1)), IntKind.i16.wrap (wrap64 (a2 + bt165.1)), bt165.2.1, bt165.2.2)))
set_option maxHeartbeats 8000000 in
set_option maxRecDepth 100000 in
theorem spec_l03Near.calls (g : Nat) (s0_0 : List Int) (s0_1 : Int) (s0_2 : Int) (a1 : Int) (a2 : Int) (a3 : Int) (r1 : Int) (r2 : Int) (r3 : Int) (r4 : Int) (w0 w : World) (hI : IsS80 w0 w g s0_0 s0_1 s0_2) (hB : Below w0.heap.size w0 w) (h : spec_l03Near.f s0_0 s0_1 s0_2 a1 a2 a3 = some (r1, r2, r3, r4)) :
  Calls Tryz.prog 47 #[.pointer (some ⟨g, 0, none⟩), .int .i64 a1, .int .i64 a2, .int .i64 a3] w fun e w' => e = .returned (.agg #[.int .i16 r1, .int .i16 r2]) ∧ IsS80 w0 w' g s0_0 r3 r4 ∧ Below w0.heap.size w0 w' ∧ KeepBut w w' g none := by
 have hu43 := Tryz.underlying43
 have HI0 := Aside0.mk hI
 have HK := Aside0.mk (KeepBut.refl w g none)
 have HL := Aside0.mk hB.size
 clear hI
 have HW0 := Aside0.mk hB.size
 have HB := Aside0.mk hB
 clear hB
 have H : ((spec_l00Src_pick.f s0_0 s0_1 s0_2 a3).bind fun bt162 => ((spec_l00Src_pick.f s0_0 bt162.2.1 bt162.2.2 a3).bind fun bt165 => (some (IntKind.i16.wrap (wrap64 (a1 + bt162.1)), IntKind.i16.wrap (wrap64 (a2 + bt165.1)), bt165.2.1, bt165.2.2)))) = some (r1, r2, r3, r4) := h
 clear h
 obtain ⟨⟨t162, t163, t164⟩, A5, H⟩ := be_ H
 (try dsimp only at H)
 obtain ⟨⟨t165, t166, t167⟩, A6, H⟩ := be_ H
 (try dsimp only at H)
 simp only [Option.some.injEq, Prod.mk.injEq] at H
 obtain ⟨rfl, rfl, rfl, rfl⟩ := H
 go_enter Tryz.func47, Tryz.ntmps47
 go_wp2_with (first | ((with_reducible refine gate_dst (N := 8) rfl ?_); refine boxM_ 8 #[.int .i16 0, .int .i16 0] 43 ?_; intro gb161 hg w7 hbox hb; replace HB := Aside0.mk (below_step (by repeat (first | (with_reducible first | exact HB.out | apply below_alloc | apply pw_below_drewN | apply below_drew1 | refine below_set ?_ (IsS80.ge HI0.out)) | exact HB.out)) hb); have BK161 := Aside0.mk (hbox); have GW161 := Aside0.mk ((by rw [hg]; exact (keep_size (w := w) (g := g) (row := none) (kk_ HK)) : w.heap.size ≤ gb161)); have GE161 := Aside0.mk ((Nat.le_trans HW0.out (by rw [hg]; exact (keep_size (w := w) (g := g) (row := none) (kk_ HK)) : w.heap.size ≤ gb161) : w0.heap.size ≤ gb161)); replace HK := Aside0.mk (KeepBut.trans (kk_ HK) (KeepBut.of_below hb g none) (.inl rfl)); have NB0_161 := Aside0.mk ((by rw [hg]; exact Nat.ne_of_lt (IsS80.lt (show IsS80 w0 _ g s0_0 s0_1 s0_2 from by repeat (first | (with_reducible first | exact HI0.out | apply IsS80.alloc | apply IsS80.drewN | apply IsS80.drew | apply IsS80.set_1 | apply IsS80.set_2) | exact HI0.out))) : g ≠ gb161)); have NB161_0 := Aside0.mk ((by rw [hg]; exact Nat.ne_of_gt (IsS80.lt (show IsS80 w0 _ g s0_0 s0_1 s0_2 from by repeat (first | (with_reducible first | exact HI0.out | apply IsS80.alloc | apply IsS80.drewN | apply IsS80.drew | apply IsS80.set_1 | apply IsS80.set_2) | exact HI0.out))) : gb161 ≠ g)); replace HI0 := Aside0.mk (IsS80.below (by repeat (first | (with_reducible first | exact HI0.out | apply IsS80.alloc | apply IsS80.drewN | apply IsS80.drew | apply IsS80.set_1 | apply IsS80.set_2) | exact HI0.out)) hb); clear hb hbox hg) | ((with_reducible refine gate_callee (f := 27) rfl ?_); refine goM_ (some 13) Tryz.func27 #[.pointer (some ⟨g, 0, none⟩), .int .i64 a3] ?_; (with_reducible refine (spec_l00Src_pick.calls g s0_0 s0_1 s0_2 a3 t162 t163 t164 w0 _ ?side1 ?side2 A5.out).mono ?_); (case side1 => repeat (first | (with_reducible first | exact HI0.out | apply IsS80.alloc | apply IsS80.drewN | apply IsS80.drew | apply IsS80.set_1 | apply IsS80.set_2 | refine IsS80.far ?_ NB0_161.out _) | exact HI0.out)); (case side2 => repeat (first | (with_reducible first | exact HB.out | apply below_alloc | apply pw_below_drewN | apply below_drew1 | refine below_set ?_ (IsS80.ge HI0.out) | refine below_set ?_ GE161.out) | exact HB.out)); rintro e w8 ⟨rfl, hi, hb, hk⟩; refine ⟨_, rfl, ?_⟩; replace BK161 := Aside0.mk (KeepBut.blk hk (g' := gb161) (o := .cells #[.int .i16 0, .int .i16 0] 43 (0, 0)) (kb_ BK161) NB161_0.out (by simp)); replace HK := Aside0.mk (KeepBut.trans (by repeat (first | (with_reducible first | exact HK.out | apply KeepBut.set_ | apply keep_drewN | apply keep_drew | apply keep_alloc | refine keep_far ?_ GW161.out _) | exact HK.out)) hk (.inl rfl)); replace HB := Aside0.mk (hb); replace HI0 := Aside0.mk (hi); clear hb; clear hk; clear hi) | ((with_reducible refine gate_callee (f := 27) rfl ?_); refine goM_ (some 20) Tryz.func27 #[.pointer (some ⟨g, 0, none⟩), .int .i64 a3] ?_; (with_reducible refine (spec_l00Src_pick.calls g s0_0 t163 t164 a3 t165 t166 t167 w0 _ ?side1 ?side2 A6.out).mono ?_); (case side1 => repeat (first | (with_reducible first | exact HI0.out | apply IsS80.alloc | apply IsS80.drewN | apply IsS80.drew | apply IsS80.set_1 | apply IsS80.set_2 | refine IsS80.far ?_ NB0_161.out _) | exact HI0.out)); (case side2 => repeat (first | (with_reducible first | exact HB.out | apply below_alloc | apply pw_below_drewN | apply below_drew1 | refine below_set ?_ (IsS80.ge HI0.out) | refine below_set ?_ GE161.out) | exact HB.out)); rintro e w9 ⟨rfl, hi, hb, hk⟩; refine ⟨_, rfl, ?_⟩; replace BK161 := Aside0.mk (KeepBut.blk hk (g' := gb161) (o := .cells #[.int .i16 0, .int .i16 0] 43 (0, 0)) (kb_ BK161) NB161_0.out (by simp)); replace HK := Aside0.mk (KeepBut.trans (by repeat (first | (with_reducible first | exact HK.out | apply KeepBut.set_ | apply keep_drewN | apply keep_drew | apply keep_alloc | refine keep_far ?_ GW161.out _) | exact HK.out)) hk (.inl rfl)); replace HB := Aside0.mk (hb); replace HI0 := Aside0.mk (hi); clear hb; clear hk; clear hi; have hnb10 := NB161_0.out; have hnc10 := NB0_161.out; obtain ⟨⟨hcz11_0, hcz11_1⟩, hfz11_0, hfz11_1⟩ := bq_ BK161))
 refine bodyPost_ret (results_cell_row rfl _ _ gb161 43 #[.int .i16 (IntKind.i16.wrap (wrap64 (a1 + t162))), .int .i16 (IntKind.i16.wrap (wrap64 (a2 + t165)))] (0, 0) _ rfl (by (with_reducible repeat (first | refine blk_drewN ?_ _ | refine blk_drew ?_ | refine blk_alloc ?_ _)); refine blk_put (cs := #[.int .i16 (IntKind.i16.wrap (wrap64 (a1 + t162))), .int .i16 0]) ?_ 1 _ rfl; (with_reducible repeat (first | refine blk_drewN ?_ _ | refine blk_drew ?_ | refine blk_alloc ?_ _)); refine blk_put (cs := #[.int .i16 0, .int .i16 0]) ?_ 0 _ rfl; (with_reducible repeat (first | refine blk_drewN ?_ _ | refine blk_drew ?_ | refine blk_alloc ?_ _)); exact BK161.out) Tryz.underlying43 rfl (by kernel_rfl)) rfl ?_
 exact ⟨rt_, by repeat (first | (with_reducible first | exact HI0.out | apply IsS80.alloc | apply IsS80.drewN | apply IsS80.drew | apply IsS80.set_1 | apply IsS80.set_2 | refine IsS80.far ?_ NB0_161.out _) | exact HI0.out), by repeat (first | (with_reducible first | exact HB.out | apply below_alloc | apply pw_below_drewN | apply below_drew1 | refine below_set ?_ (IsS80.ge HI0.out) | refine below_set ?_ GE161.out) | exact HB.out), by repeat (first | (with_reducible first | exact HK.out | apply KeepBut.set_ | apply keep_drewN | apply keep_drew | apply keep_alloc | refine keep_far ?_ GW161.out _) | exact HK.out)⟩


/-! ### strings_Join: function 33 -/
def strings_Join.f (l0 : List ByteArray) (a1 : ByteArray) : Option ByteArray := if l0.length ≤ 1048576 then (if (Lib.join (l0.map (·.data.toList)) a1.data.toList).length ≤ 140737488355328 then some ⟨(Lib.join (l0.map (·.data.toList)) a1.data.toList).toArray⟩ else none) else none
theorem strings_Join.calls (A0 : Option Addr) (c0 : Nat) (l0 : List ByteArray) (a1 : ByteArray) (r : ByteArray) (w : World) {base : Nat} {ok : Nat → Prop} (hr0 : Kd.R Kd.string 9 w base ok (.slice A0 l0.length c0) l0) (h : strings_Join.f l0 a1 = some r) :
  Calls Tryz.prog 33 #[.slice A0 l0.length c0, .string a1] w fun e w' => e = .returned (.string r) ∧ Below w.heap.size w w' := by
 unfold strings_Join.f at h
 rcases (Decidable.em (l0.length ≤ 1048576)).symm with c1 | c1
 ·
  rw [if_neg c1] at h
  exact absurd h (by simp)

 rw [if_pos c1] at h
 rcases (Decidable.em ((Lib.join (l0.map (·.data.toList)) a1.data.toList).length ≤ 140737488355328)).symm with c2 | c2
 ·
  rw [if_neg c2] at h
  exact absurd h (by simp)
 rw [if_pos c2] at h
 obtain rfl := Option.some.inj h
 have hn := (Kd.R_reads' hr0).2.1
 obtain ⟨h1, h2⟩ := Kd.own_of_R hr0
 rcases h2 with ⟨hv, hl⟩ | ⟨g, cap, cur, hv, hb, hg, hn', hc, hs, ht⟩
 ·
  injection hv with e1 e2 e3
  subst e1
  have e0 : l0 = [] := List.eq_nil_of_length_eq_zero hl
  subst e0
  exact (Any.strings_Join_none Tryz.lays156 Tryz.Builder_Extra_156 none c0 a1 w).mono fun e w' ⟨he, hw⟩ => ⟨he, hw ▸ Below.refl _ _⟩
 ·
  injection hv with e1 e2 e3
  subst e1
  have hcells : ∀ (j : Nat) x, l0[j]? = some x → w.cell? ⟨g, 0 + j, none⟩ = some (.string x) := by
   intro j x hx
   have hj : j < l0.length := (List.getElem?_eq_some_iff.1 hx).1
   have := (Kd.R_celln ByteArray.empty hr0 (j : Int) (by omega) (by omega)).1
   rw [Int.toNat_natCast] at this
   rw [Nat.zero_add, this]
   congr 2
   simp only [rdOf, Int.toNat_natCast, List.getD_eq_getElem?_getD, hx, Option.getD_some]
  exact Any.strings_Join Tryz.lays156 Tryz.Builder_Extra_156 g 0 c0 l0 a1 w hcells (blk_lt hg) (by omega) hn c2

/-! ### spec_SameStone: function 12 -/
def spec_SameStone.f (k : Nat) (l0 : List (S43)) (l1 : List (S43)) : Option (Bool) := (spec_l03Same.f k l0 l1).bind fun t358 => (some t358)
theorem spec_SameStone.mono : ∀ a0 a1 k, LeO (spec_SameStone.f k a0 a1) (spec_SameStone.f (k + 1) a0 a1) := by
 intro a0 a1 k
 unfold spec_SameStone.f
 repeat' first | (with_reducible first | exact spec_l03Same.mono _ _ _ | exact LeO.refl _ | exact LeO.none _ | refine LeO.ite ?_ ?_ | refine LeO.bind ?_ (fun _ => ?_))
set_option maxHeartbeats 8000000 in
set_option maxRecDepth 100000 in
theorem spec_SameStone.calls (k : Nat) (A0 : Option Addr) (c0 : Nat) (l0 : List (S43)) (A1 : Option Addr) (c1 : Nat) (l1 : List (S43)) (r : Bool) (w : World) (hr0 : Kd.C k43 w A0 l0.length l0) (hc0 : l0.length ≤ c0) (hr1 : Kd.C k43 w A1 l1.length l1) (hc1 : l1.length ≤ c1) (h : spec_SameStone.f k l0 l1 = some r) :
  Calls Tryz.prog 12 #[.slice A0 l0.length c0, .slice A1 l1.length c1] w fun e w' => e = .returned (.bool r) ∧ Drawn0 w w' := by
 have HR0 := Aside0.mk hr0
 have HC0 := Aside0.mk hc0
 clear hr0 hc0
 have HR1 := Aside0.mk hr1
 have HC1 := Aside0.mk hc1
 clear hr1 hc1
 have H : ((spec_l03Same.f k l0 l1).bind fun t358 => (some t358)) = some r := h
 clear h
 obtain ⟨t358, A3, H⟩ := be_ H
 (try dsimp only at H)
 obtain rfl := Option.some.inj H
 go_enter Tryz.func12, Tryz.ntmps12
 go_wp2_with (first | ((with_reducible refine gate_callee (f := 37) rfl ?_); refine goM_ (some 7) Tryz.func37 #[.slice A0 l0.length c0, .slice A1 l1.length c1] ?_; (with_reducible refine (spec_l03Same.calls k _ _ l0 _ _ l1 t358 _ ?side1 ?side2 ?side3 ?side4 A3.out).mono ?_); (case side1 => exact kc_ HR0.out); (case side2 => exact HC0.out); (case side3 => exact kc_ HR1.out); (case side4 => exact HC1.out); rintro e w' ⟨rfl, ⟨nd, rfl⟩⟩; refine ⟨_, rfl, ?_⟩))
 go_ret
 exact ⟨by first | rfl | (simp; done) | (simp [*]; done), by repeat (first | exact Drawn0.refl _ | apply Drawn0.step)⟩


/-! ### impl_SameStone: function 13 -/
def impl_SameStone.f (k : Nat) (l0 : List (S43)) (l1 : List (S43)) : Option (Bool) := (impl_Corner_38.f k l0 l1).bind fun t361 => (some t361)
theorem impl_SameStone.mono : ∀ a0 a1 k, LeO (impl_SameStone.f k a0 a1) (impl_SameStone.f (k + 1) a0 a1) := by
 intro a0 a1 k
 unfold impl_SameStone.f
 repeat' first | (with_reducible first | exact impl_Corner_38.mono _ _ _ | exact LeO.refl _ | exact LeO.none _ | refine LeO.ite ?_ ?_ | refine LeO.bind ?_ (fun _ => ?_))
set_option maxHeartbeats 8000000 in
set_option maxRecDepth 100000 in
theorem impl_SameStone.calls (k : Nat) (A0 : Option Addr) (c0 : Nat) (l0 : List (S43)) (A1 : Option Addr) (c1 : Nat) (l1 : List (S43)) (r : Bool) (w : World) (hr0 : Kd.C k43 w A0 l0.length l0) (hc0 : l0.length ≤ c0) (hr1 : Kd.C k43 w A1 l1.length l1) (hc1 : l1.length ≤ c1) (h : impl_SameStone.f k l0 l1 = some r) :
  Calls Tryz.prog 13 #[.slice A0 l0.length c0, .slice A1 l1.length c1] w fun e w' => e = .returned (.bool r) ∧ Drawn0 w w' := by
 have HR0 := Aside0.mk hr0
 have HC0 := Aside0.mk hc0
 clear hr0 hc0
 have HR1 := Aside0.mk hr1
 have HC1 := Aside0.mk hc1
 clear hr1 hc1
 have H : ((impl_Corner_38.f k l0 l1).bind fun t361 => (some t361)) = some r := h
 clear h
 obtain ⟨t361, A3, H⟩ := be_ H
 (try dsimp only at H)
 obtain rfl := Option.some.inj H
 go_enter Tryz.func13, Tryz.ntmps13
 go_wp2_with (first | ((with_reducible refine gate_callee (f := 38) rfl ?_); refine goM_ (some 7) Tryz.func38 #[.slice A0 l0.length c0, .slice A1 l1.length c1] ?_; (with_reducible refine (impl_Corner_38.calls k _ _ l0 _ _ l1 t361 _ ?side1 ?side2 ?side3 ?side4 A3.out).mono ?_); (case side1 => exact kc_ HR0.out); (case side2 => exact HC0.out); (case side3 => exact kc_ HR1.out); (case side4 => exact HC1.out); rintro e w' ⟨rfl, ⟨nd, rfl⟩⟩; refine ⟨_, rfl, ?_⟩))
 go_ret
 exact ⟨by first | rfl | (simp; done) | (simp [*]; done), by repeat (first | exact Drawn0.refl _ | apply Drawn0.step)⟩


/-! ### impl_Corner_55: function 55 -/
def impl_Corner_55.f (l0 : List (S43)) : Option (List (S43)) := if l0.length < 1048576 then some l0.reverse else none
theorem impl_Corner_55.calls (P0_ : Nat → Prop) (u9000_ : Value) (l0 : List (S43)) (r : List (S43)) (w0 w : World) (hB : Below w0.heap.size w0 w) (ho0 : Kd.R k43 43 w w0.heap.size P0_ u9000_ l0) (h : impl_Corner_55.f l0 = some r) :
  Calls Tryz.prog 55 #[u9000_] w fun e w' => e = .returned (.tuple #[]) ∧ Kd.R k43 43 w' w0.heap.size (fun k_ => (P0_ k_ ∨ w.heap.size ≤ k_)) u9000_ r ∧ Below w0.heap.size w0 w' ∧ Kept w w' (fun k_ => P0_ k_) := by
 unfold impl_Corner_55.f at h
 by_cases hl : l0.length < 1048576
 rotate_left
 ·
  rw [if_neg hl] at h; exact absurd h (by simp)
 rw [if_pos hl] at h
 obtain rfl := Option.some.inj h
 by_cases hne : l0 = []
 ·
  subst hne
  obtain ⟨A, c, e⟩ := Kd.R_slice ho0
  subst e
  refine (AnyQ.slices_Reverse_empty Tryz.revC A c w).mono ?_
  rintro e w' ⟨rfl, rfl⟩
  exact ⟨rfl, Kd.R_mono ho0 (fun k_ hk => .inl hk), hB, Kept.refl _ _⟩
 ·
  have hp : 0 < l0.length := List.length_pos_iff.2 hne
  obtain ⟨g, cap, e, hg, hgl, _⟩ := Kd.R_form ho0 hp
  subst e
  have hP : P0_ g := ho0.1 g rfl
  have key := AnyQ.slices_Reverse Tryz.revC 2 Tryz.isAgg43 Tryz.sizeOf43 CS.enc CS.enc_len CS.enc_one g 0 cap l0.toArray w (CS.holds ho0) (by simp; omega)
  have hsz : l0.toArray.size = l0.length := by simp
  rw [hsz] at key
  refine key.mono ?_
  rintro e w' ⟨rfl, q, rfl⟩
  have hm : l0.toArray.reverse = l0.reverse.toArray := by simp
  rw [hm]
  have e2 : Sort.putRowK CS.enc 2 (Sort.ahead w q) g 0 l0.reverse.toArray = sortWorldK CS.enc 2 w g 0 q l0.reverse.toArray #[] := by
   unfold sortWorldK; rw [Sort.grow_empty]
  rw [e2]
  obtain ⟨h1, h2⟩ := CS.back (q := q) (os := #[]) (ys := l0.reverse) ho0 List.length_reverse
  exact ⟨rfl, Kd.R_mono h1 (fun k_ hk => .inl hk), hB.grown h2 (below_size hB) (fun k_ e_ => by injection e_ with e_; rw [← e_]; exact hg), Kept.of_grown (S := fun k_ => P0_ k_) h2 (Kept.refl _ _) (fun k_ e_ => by injection e_ with e_; rw [← e_]; exact .inl hP)⟩


/-! ### impl_StoneText: function 7 -/
def impl_StoneText.l0 : Nat → List ByteArray → List (S43) → Int → Int → Option (ByteArray)
 | 0, _, _, _, _ => none
 | k + 1, x3, x10, x11, x12 => if x12 < x11 then (if 0 ≤ x12 then (if x12 < (x10.length : Int) then ((impl_decimal.f (wrap64 ((rd_T43 x10 x12).f0))).bind fun t307 => (if t307.size + 1 ≤ 9223372036854775807 then ((impl_decimal.f (wrap64 ((rd_T43 x10 x12).f1))).bind fun t308 => (if (t307 ++ (⟨#[44]⟩ : ByteArray)).size + t308.size ≤ 9223372036854775807 then (if x3.length < 8796093022208 then (impl_StoneText.l0 k (x3 ++ [(t307 ++ (⟨#[44]⟩ : ByteArray)) ++ t308]) x10 x11 (wrap64 (x12 + 1))) else (none)) else (none))) else (none))) else (none)) else (none)) else ((strings_Join.f x3 (⟨#[32]⟩ : ByteArray)).bind fun t312 => (some t312))
def impl_StoneText.f (k : Nat) (l0 : List (S43)) : Option (ByteArray) := (impl_ValidStone.f k l0).bind fun t301 => (if t301 = true then (impl_StoneText.l0 k (([] : List ByteArray)) l0 (l0.length : Int) 0) else (some (⟨#[]⟩ : ByteArray)))
theorem impl_StoneText.mono_l : ∀ k, (∀ y0 y1 y2 y3, LeO (impl_StoneText.l0 k y0 y1 y2 y3) (impl_StoneText.l0 (k + 1) y0 y1 y2 y3))
 | 0 => fun _ _ _ _ r h => by simp [impl_StoneText.l0] at h
 | k + 1 => by
  have ih0 := impl_StoneText.mono_l k
  ·
   intro y0 y1 y2 y3
   unfold impl_StoneText.l0
   repeat' first | (with_reducible first | exact ih0 _ _ _ _ | exact impl_ValidStone.mono _ _ | exact LeO.refl _ | exact LeO.none _ | refine LeO.ite ?_ ?_ | refine LeO.bind ?_ (fun _ => ?_))
theorem impl_StoneText.mono : ∀ a0 k, LeO (impl_StoneText.f k a0) (impl_StoneText.f (k + 1) a0) := by
 intro a0 k
 have ih0 := impl_StoneText.mono_l k
 unfold impl_StoneText.f
 repeat' first | (with_reducible first | exact ih0 _ _ _ _ | exact impl_ValidStone.mono _ _ | exact LeO.refl _ | exact LeO.none _ | refine LeO.ite ?_ ?_ | refine LeO.bind ?_ (fun _ => ?_))
def impl_StoneText.T7 : Bool × List (List Nat × List Nat) := (true, [([], []), ([], []), ([1], [1]), ([2], [2]), ([3], [3]), ([4], [4]), ([], []), ([6], [6]), ([7], [7]), ([8, 4], [8]), ([5, 9], [5, 9]), ([10], [10]), ([0, 11, 9], [0, 11]), ([12, 12, 0, 1, 2, 3, 4, 5, 6, 7, 8, 9, 10, 11, 12], [0, 12])])
def impl_StoneText.B7 : List Nat := [0, 0, 2, 6, 14, 30, 0, 64, 192, 478, 1022, 2046, 4095, 8191]
theorem impl_StoneText.tab7 : rtab .any (opsOf Tryz.f7 7) = impl_StoneText.T7 := by kernel_rfl
theorem impl_StoneText.bits7 : waitsOk impl_StoneText.T7.2 impl_StoneText.B7 = true := by kernel_rfl
set_option maxHeartbeats 8000000 in
set_option maxRecDepth 100000 in
theorem impl_StoneText.calls (k : Nat) (A0 : Option Addr) (c0 : Nat) (l0 : List (S43)) (r : ByteArray) (w : World) (hT : Tables.TabT w) (hr0 : Kd.C k43 w A0 l0.length l0) (hc0 : l0.length ≤ c0) (h : impl_StoneText.f k l0 = some r) :
  Calls Tryz.prog 7 #[.slice A0 l0.length c0] w fun e w' => e = .returned (.string r) ∧ Below w.heap.size w w' := by
 have hu43 := Tryz.underlying43
 have HR0 := Aside0.mk hr0
 have HC0 := Aside0.mk hc0
 clear hr0 hc0
 have HT := Aside0.mk hT
 clear hT
 have HB := Aside0.mk (Below.refl w.heap.size w)
 have H : ((impl_ValidStone.f k l0).bind fun t301 => (if t301 = true then (impl_StoneText.l0 k (([] : List ByteArray)) l0 (l0.length : Int) 0) else (some (⟨#[]⟩ : ByteArray)))) = some r := h
 clear h
 obtain ⟨t301, A2, H⟩ := be_ H
 (try dsimp only at H)
 rcases (Decidable.em (t301 = true)).symm with c3 | c3
 ·
  replace c3 := Bool.eq_false_iff.mpr c3
  subst c3
  replace H := gf_ H
  obtain rfl := Option.some.inj H
  go_enter Tryz.func7, Tryz.ntmps7
  go_wp2_with (first | ((with_reducible refine gate_callee (f := 14) rfl ?_); refine goM_ (some 7) Tryz.func14 #[.slice A0 l0.length c0] ?_; (with_reducible refine (impl_ValidStone.calls k _ _ l0 false _ ?side1 ?side2 A2.out).mono ?_); (case side1 => exact kc_ HR0.out); (case side2 => exact HC0.out); rintro e w25 ⟨rfl, hb⟩; refine ⟨_, rfl, ?_⟩; replace HB := Aside0.mk (below_step (kB_ HB) hb); clear hb))
  go_ret
  exact ⟨rt_, kB_ HB⟩

 subst c3
 replace H := gt_ H
 obtain ⟨y302, hy302⟩ : ∃ y_ : List ByteArray, y_ = (([] : List ByteArray)) := ⟨_, rfl⟩
 replace H : (impl_StoneText.l0 k y302 l0 (l0.length : Int) 0) = some r := by first | (rw [hy302]; with_reducible exact H) | (have H2_ := (Option.bind_some _ _).symm.trans H; rw [hy302]; with_reducible exact H2_) | (have H2_ := (Option.bind_some _ _).symm.trans H; with_reducible exact H2_) | with_reducible exact H | (rw [hy302]; exact H) | exact H
 have Ny302 := Aside0.mk hy302
 clear hy302
 have H' := Aside0.mk H
 clear H
 go_enter Tryz.func7, Tryz.ntmps7
 go_wp2_with (first | ((with_reducible refine gate_callee (f := 14) rfl ?_); refine goM_ (some 7) Tryz.func14 #[.slice A0 l0.length c0] ?_; (with_reducible refine (impl_ValidStone.calls k _ _ l0 true _ ?side1 ?side2 A2.out).mono ?_); (case side1 => exact kc_ HR0.out); (case side2 => exact HC0.out); rintro e w4 ⟨rfl, hb⟩; refine ⟨_, rfl, ?_⟩; replace HB := Aside0.mk (below_step (kB_ HB) hb); clear hb) | ((with_reducible refine gate_dst (N := 9) rfl ?_); refine Kd.R_lit Kd.string _ 9 ?hg (N := 9) ?hd (xs := ([] : List ByteArray)) (inner := []) (ok := fun _ => True) (okp := fun _ => True) ?hr ?hp (fun _ hk => hk) trivial (Below.refl _ _) (Nat.le_refl _) (by simp) ?_; (case hd => rfl); (case hg => rfl); (case hr => first | (go_simp; done) | (go_simp; rfl)); (case hp => exact (Reps.none _ _)); intro v303 w5 ho6 hb hg_ hnew_; clear hg_ hnew_; (first | rw [← Ny302.out] at ho6 | (simp only [Int.reduceToNat] at ho6; rw [← Ny302.out] at ho6)); have HO304 := Aside0.mk (Kd.R_lower ho6 (below_size (kB_ HB))); replace HB := Aside0.mk (below_step (kB_ HB) hb); clear hb ho6))
 go_loopg [3, 12] k (fun kq v3 v12 w' => ∃ (x3_1 : List ByteArray) (x12_1 : Int), v12 = .int .i64 x12_1 ∧ Aside0 (impl_StoneText.l0 kq x3_1 l0 (l0.length : Int) x12_1 = some r) ∧ Aside0 (kq ≤ k) ∧ Aside0 (Kd.R Kd.string 9 w' w.heap.size (fun _ => True) v3 x3_1) ∧ Aside0 (Below w.heap.size w w'))
 case atStart => exact ⟨(y302), (0), (by first | rfl | (simp; done) | (simp [*]; done)), H', ⟨Nat.le_refl _⟩, ⟨kp_ HO304⟩, ⟨kB_ HB⟩⟩
 case round =>
  clear H'
  obtain ⟨x3_1, x12_1, rfl, HA, HK1, HO_3, HB⟩ := hrel
  rcases gk with _ | k1
  · exact absurd HA.out (by simp [impl_StoneText.l0])
  have H := HA.out
  clear HA
  simp only [impl_StoneText.l0] at H
  rcases (Decidable.em (x12_1 < (l0.length : Int))).symm with c7 | c7
  ·
   rw [if_neg c7] at H
   have c7b0 : decide (x12_1 < (l0.length : Int)) = false := decide_eq_false c7
   clear c7
   obtain ⟨t312, A22, H⟩ := be_ H
   (try dsimp only at H)
   obtain rfl := Option.some.inj H
   obtain ⟨Ao23, co23, eo23⟩ := Kd.R_slice HO_3.out
   subst eo23
   go_wp2_with (first | ((with_reducible refine gate_callee (f := 33) rfl ?_); refine goM_ (some 31) Tryz.func33 #[.slice Ao23 x3_1.length co23, .string (⟨#[32]⟩ : ByteArray)] ?_; (with_reducible refine (strings_Join.calls _ _ x3_1 (⟨#[32]⟩ : ByteArray) t312 _ (base := w.heap.size) (ok := fun _ => True) ?side1 A22.out).mono ?_); (case side1 => (with_reducible repeat (first | apply Kd.R_alloc | apply Kd.R_drewN | apply Kd.R_drew)); exact HO_3.out); rintro e w24 ⟨rfl, hb⟩; refine ⟨_, rfl, ?_⟩; replace HO_3 := Aside0.mk (Kd.R_below (kp_ HO_3) hb); replace HB := Aside0.mk (below_step (kB_ HB) hb); clear hb))
   go_ret
   exact ⟨rt_, kB_ HB⟩
  rw [if_pos c7] at H
  have c7b0 : decide (x12_1 < (l0.length : Int)) = true := decide_eq_true c7
  clear c7
  obtain ⟨c8b0, H⟩ := gx_ H
  obtain ⟨c9b0, H⟩ := gx_ H
  obtain ⟨t307, A10, H⟩ := be_ H
  (try dsimp only at H)
  obtain ⟨(c11 : t307.size + 1 ≤ 9223372036854775807), H⟩ := gd_ H
  have c11b0 := eq_true c11
  have c11b1 : decide (t307.size + 1 ≤ 9223372036854775807) = true := decide_eq_true c11
  try have c11b2 : (9223372036854775807 < t307.size + 1) = False := eq_false (Nat.not_lt.2 c11)
  obtain ⟨t308, A12, H⟩ := be_ H
  (try dsimp only at H)
  obtain ⟨(c13 : (t307 ++ (⟨#[44]⟩ : ByteArray)).size + t308.size ≤ 9223372036854775807), H⟩ := gd_ H
  have c13b0 := eq_true c13
  have c13b1 : decide ((t307 ++ (⟨#[44]⟩ : ByteArray)).size + t308.size ≤ 9223372036854775807) = true := decide_eq_true c13
  try have c13b2 : (9223372036854775807 < (t307 ++ (⟨#[44]⟩ : ByteArray)).size + t308.size) = False := eq_false (Nat.not_lt.2 c13)
  have c13b3 : (9223372036854775807 < t307.size + 1 + t308.size) = False := eq_false (by have h_ := c13; simp only [ByteArray.size_append, show (⟨#[44]⟩ : ByteArray).size = 1 from rfl, show (⟨#[32]⟩ : ByteArray).size = 1 from rfl] at h_; omega)
  obtain ⟨(c14 : x3_1.length < 8796093022208), H⟩ := gd_ H
  have LMc14 := Aside0.mk c14
  clear c14
  obtain ⟨y309, hy309⟩ : ∃ y_ : List ByteArray, y_ = (x3_1 ++ [(t307 ++ (⟨#[44]⟩ : ByteArray)) ++ t308]) := ⟨_, rfl⟩
  replace H : (impl_StoneText.l0 k1 y309 l0 (l0.length : Int) (wrap64 (x12_1 + 1))) = some r := by first | (rw [hy309]; with_reducible exact H) | (have H2_ := (Option.bind_some _ _).symm.trans H; rw [hy309]; with_reducible exact H2_) | (have H2_ := (Option.bind_some _ _).symm.trans H; with_reducible exact H2_) | with_reducible exact H | (rw [hy309]; exact H) | exact H
  have Ny309 := Aside0.mk hy309
  clear hy309
  have H' := Aside0.mk H
  clear H
  have p305 : 0 ≤ (x12_1 : Int) := od_
  have q305 : x12_1 < (l0.length : Int) := od_
  obtain ⟨ad305, e305, hx305_0, hx305_1⟩ := af_ HB (at_T43 HR0.out x12_1 p305 q305)
  cases e305
  replace p305 := eq_true p305
  replace q305 := eq_true q305
  try go_wp2_with (first | ((with_reducible refine gate_dst (N := 5) rfl ?_); refine boxM_ 5 #[.int .i16 0, .int .i16 0] 43 ?_; intro gb306 hg w15 hbox hb; replace HO_3 := Aside0.mk (Kd.R_below (kp_ HO_3) hb); have BK306 := Aside0.mk (hbox); have GW306 := Aside0.mk ((by rw [hg]; exact (below_size (kB_ HB)) : w.heap.size ≤ gb306)); have GE306 := Aside0.mk ((by rw [hg]; exact (below_size (kB_ HB)) : w.heap.size ≤ gb306)); replace HB := Aside0.mk (below_step (kB_ HB) hb); clear hb hbox hg; obtain ⟨⟨hcz16_0, hcz16_1⟩, hfz16_0, hfz16_1⟩ := bq_ BK306))
  have n0_ : Aside0 (Kd.R Kd.string 9 ((w15.setCell ⟨gb306, 0, none⟩ (.int .i16 ((rd_T43 l0 x12_1).f0))).setCell ⟨gb306, 1, none⟩ (.int .i16 ((rd_T43 l0 x12_1).f1))) w.heap.size (fun _ => True) u3 x3_1) := ⟨by (with_reducible repeat (first | apply Kd.R_alloc | apply Kd.R_drewN | apply Kd.R_drew)); exact Kd.R_mono (Kd.R_far (p := ⟨gb306, 1, none⟩) (Kd.R_far (p := ⟨gb306, 0, none⟩) (Kd.R_types HO_3.out BK306.out (by decide)) (fun _ hk => hk.2) (.int .i16 ((rd_T43 l0 x12_1).f0))) (fun _ hk => hk.2) (.int .i16 ((rd_T43 l0 x12_1).f1))) (fun _ hk => trivial)⟩
  have n1_ : Aside0 (((w15.setCell ⟨gb306, 0, none⟩ (.int .i16 ((rd_T43 l0 x12_1).f0))).setCell ⟨gb306, 1, none⟩ (.int .i16 ((rd_T43 l0 x12_1).f1))).heap[gb306]? = some (.cells #[.int .i16 ((rd_T43 l0 x12_1).f0), .int .i16 ((rd_T43 l0 x12_1).f1)] 43 (0, 0))) := ⟨by (with_reducible repeat (first | refine blk_drewN ?_ _ | refine blk_drew ?_ | refine blk_alloc ?_ _)); refine blk_put (cs := #[.int .i16 ((rd_T43 l0 x12_1).f0), .int .i16 0]) ?_ 1 _ rfl; (with_reducible repeat (first | refine blk_drewN ?_ _ | refine blk_drew ?_ | refine blk_alloc ?_ _)); refine blk_put (cs := #[.int .i16 0, .int .i16 0]) ?_ 0 _ rfl; (with_reducible repeat (first | refine blk_drewN ?_ _ | refine blk_drew ?_ | refine blk_alloc ?_ _)); exact BK306.out⟩
  have n2_ : Aside0 (Below w.heap.size w ((w15.setCell ⟨gb306, 0, none⟩ (.int .i16 ((rd_T43 l0 x12_1).f0))).setCell ⟨gb306, 1, none⟩ (.int .i16 ((rd_T43 l0 x12_1).f1)))) := ⟨k1_ HB GE306⟩
  generalize ((w15.setCell ⟨gb306, 0, none⟩ (.int .i16 ((rd_T43 l0 x12_1).f0))).setCell ⟨gb306, 1, none⟩ (.int .i16 ((rd_T43 l0 x12_1).f1))) = w17 at n0_ n1_ n2_ ⊢
  have HO_3 := n0_
  have BK306 := n1_
  have HB := n2_
  clear n0_ n1_ n2_
  have n0_ := Aside0.mk (Kd.R_drew HO_3.out)
  have n1_ := Aside0.mk (blk_drew BK306.out)
  have n2_ := Aside0.mk (below_drew1 HB.out)
  clear HO_3
  clear BK306
  clear HB
  have HO_3 := n0_
  have BK306 := n1_
  have HB := n2_
  clear n0_ n1_ n2_
  refine start_ (n := 14) (S := fun w' => w'.cell? ⟨gb306, 0, none⟩ = some (.int .i16 ((rd_T43 l0 x12_1).f0)) ∧ w'.cell? ⟨gb306, 1, none⟩ = some (.int .i16 ((rd_T43 l0 x12_1).f1))) (ds := []) #[false, false, false, false, false, false, false, false, false, false, false, false, false, false] (by kernel_rfl) rfl rfl ⟨(blk_cell BK306.out 0).trans rfl, (blk_cell BK306.out 1).trans rfl⟩ (fun hHeld => ?_); refine with_tabW impl_StoneText.tab7 impl_StoneText.bits7 (fun HT_ HW_ => ?_)
  generalize w17.drew = w18 at HO_3 BK306 HB hHeld ⊢
  refine pu_ 0 16 (lA 14 1) ?_ ?_ HT_ ?_
  refine pu_ 1 17 (lA 14 3) ?_ ?_ HT_ ?_
  refine pu_ 6 22 (lA 14 67) ?_ ?_ HT_ ?_
  refine tk_ 2 18 (lA 14 71) ?_ ?_ HT_ HW_ hHeld ?_
  refine pu_ 3 19 (lA 14 79) ?_ ?_ HT_ ?_
  refine tk_ 7 23 (lA 14 207) ?_ ?_ HT_ HW_ hHeld ?_
  refine pu_ 8 24 (lA 14 463) ?_ ?_ HT_ ?_
  refine one_ (i := 4) (N := some 20) #[true, true, true, true, true, false, true, true, true, false, false, false, false, false] rfl rfl (one_of HT_.out (by kernel_rfl)) (by decide) (fun K hK => ?_)
  refine goes_ Tryz.func32 (by kernel_rfl) rfl #[.int .i64 (wrap64 ((rd_T43 l0 x12_1).f0))] (by rfl) rfl rfl (by (try simp only [List.map_toArray, List.map_cons, List.map_nil]); first | done | rfl | (simp only [List.length_drop, List.length_take]; rfl)) ?_
  with_reducible refine (impl_decimal.calls (wrap64 ((rd_T43 l0 x12_1).f0)) t307 _ (Tables.tabT_below HT.out (kB_ HB)) A10.out).mono ?_
  rintro e w19 ⟨rfl, hb⟩
  refine ⟨_, rfl, ?_⟩
  have n0_ := Aside0.mk (Kd.R_below (kp_ HO_3) hb)
  have n1_ := bd_ BK306 hb
  have n2_ := Aside0.mk (below_step (k1_ HB GE306) hb)
  clear HO_3
  clear BK306
  clear HB
  have HO_3 := n0_
  have BK306 := n1_
  have HB := n2_
  clear n0_ n1_ n2_
  refine hK.out _ _ ⟨(blk_cell BK306.out 0).trans rfl, (blk_cell BK306.out 1).trans rfl⟩ (fun hHeld => ?_)
  clear hK K
  refine norm_ (a' := ?_) ?_ ?_
  rotate_left
  ·
   show Act.put _ (some 20) _ = _
   simp only [Act.put, List.setIfInBounds_toArray, List.set_cons_zero, List.set_cons_succ, i64_w, i32_w]
   rfl
  refine pu_ 5 21 (lA 14 511) ?_ ?_ HT_ ?_
  refine one_ (i := 9) (N := some 25) #[true, true, true, true, true, true, true, true, true, true, false, false, false, false] rfl rfl (one_of HT_.out (by kernel_rfl)) (by decide) (fun K hK => ?_)
  refine goes_ Tryz.func32 (by kernel_rfl) rfl #[.int .i64 (wrap64 ((rd_T43 l0 x12_1).f1))] (by rfl) rfl rfl (by (try simp only [List.map_toArray, List.map_cons, List.map_nil]); first | done | rfl | (simp only [List.length_drop, List.length_take]; rfl)) ?_
  with_reducible refine (impl_decimal.calls (wrap64 ((rd_T43 l0 x12_1).f1)) t308 _ (Tables.tabT_below HT.out (kB_ HB)) A12.out).mono ?_
  rintro e w20 ⟨rfl, hb⟩
  refine ⟨_, rfl, ?_⟩
  have n0_ := Aside0.mk (Kd.R_below (kp_ HO_3) hb)
  have n1_ := bd_ BK306 hb
  have n2_ := Aside0.mk (below_step (k1_ HB GE306) hb)
  clear HO_3
  clear BK306
  clear HB
  have HO_3 := n0_
  have BK306 := n1_
  have HB := n2_
  clear n0_ n1_ n2_
  refine hK.out _ _ ⟨(blk_cell BK306.out 0).trans rfl, (blk_cell BK306.out 1).trans rfl⟩ (fun hHeld => ?_)
  clear hK K
  refine norm_ (a' := ?_) ?_ ?_
  rotate_left
  ·
   show Act.put _ (some 25) _ = _
   simp only [Act.put, List.setIfInBounds_toArray, List.set_cons_zero, List.set_cons_succ, i64_w, i32_w]
   rfl
  refine pu_ 10 26 (lA 14 2047) ?_ ?_ HT_ ?_
  refine one_ (i := 11) (N := some 27) #[true, true, true, true, true, true, true, true, true, true, true, true, false, false] rfl rfl (one_of HT_.out (by kernel_rfl)) (by decide) (fun K hK => ?_)
  refine value_ (w1 := ?_) (v := ?_) (by rfl) rfl ?_ ?_
  rotate_left 2
  ·
   go_simp
   constructor
   ·
    rfl
   ·
    rfl
  refine hK.out _ _ ⟨(blk_cell (blk_alloc BK306.out _) 0).trans rfl, (blk_cell (blk_alloc BK306.out _) 1).trans rfl⟩ (fun hHeld => ?_)
  clear hK K
  refine norm_ (a' := ?_) ?_ ?_
  rotate_left
  ·
   show Act.put _ (some 27) _ = _
   simp only [Act.put, List.setIfInBounds_toArray, List.set_cons_zero, List.set_cons_succ, i64_w, i32_w]
   rfl
  refine one_ (i := 12) (N := some 28) #[true, true, true, true, true, true, true, true, true, true, true, true, true, false] rfl rfl (one_of HT_.out (by kernel_rfl)) (by decide) (fun K hK => ?_)
  refine Kd.R_append_step Kd.string (w0 := w) w.heap.size (by rfl) (.tmp 16) (.tmp 27) 51 9 (.string ⟨#[]⟩) 16 rfl Tryz.underlying51 info9 rfl (by decide) (by omega) u3 x3_1 ((t307 ++ (⟨#[44]⟩ : ByteArray)) ++ t308) [.string ((t307 ++ (⟨#[44]⟩ : ByteArray)) ++ t308)] (fun _ => True) (fun _ => False) rfl rfl ?aP (fun _ hk => hk.elim) ?aF ?aO ?aB ?aS ?aL ?_
  (case aP => exact rfl)
  (case aB => exact (k1_ HB GE306))
  (case aF => exact (fun _ _ => trivial))
  (case aO => exact (kp_ HO_3))
  (case aS => exact (below_size (k1_ HB GE306)))
  (case aL => have := LMc14.out; omega)
  intro v310 w21 ho hb hg hat
  rw [← Ny309.out] at ho
  have n0_ := Aside0.mk (blk_grown (g := gb306) (o := .cells #[.int .i16 ((rd_T43 l0 x12_1).f0), .int .i16 ((rd_T43 l0 x12_1).f1)] 43 (0, 0)) (kb_ BK306) hg (Kd.R_ne HO_3.out BK306.out (by decide)))
  have n1_ := Aside0.mk (hb)
  have n2_ := Aside0.mk (ho)
  clear BK306
  clear HB
  clear HO_3
  have BK306 := n0_
  have HB := n1_
  have HO311 := n2_
  clear n0_ n1_ n2_
  clear ho hb hg hat
  refine hK.out _ _ ⟨(blk_cell BK306.out 0).trans rfl, (blk_cell BK306.out 1).trans rfl⟩ (fun hHeld => ?_)
  clear hK K
  refine norm_ (a' := ?_) ?_ ?_
  rotate_left
  ·
   show Act.put _ (some 28) _ = _
   simp only [Act.put, List.setIfInBounds_toArray, List.set_cons_zero, List.set_cons_succ, i64_w, i32_w]
   rfl
  refine pu_ 13 3 (lA 14 16383) ?_ ?_ HT_ ?_
  refine done_ (done_of HT_.out (by kernel_rfl)) ?_
  try go_wp2
  go_roundg k1
  case measure => have := HK1.out; omega
  case rel => exact ⟨(y309), (wrap64 (x12_1 + 1)), (by first | rfl | (simp; done) | (simp [*]; done)), H', ⟨by have := HK1.out; omega⟩, ⟨kp_ HO311⟩, ⟨k1_ HB GE306⟩⟩
end Go.Proofs.YthbogbaaikjhbaaGreatDoor.PA
