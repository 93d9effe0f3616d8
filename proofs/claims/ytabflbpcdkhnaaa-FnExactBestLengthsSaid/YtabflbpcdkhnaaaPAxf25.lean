/- Written by a program of this session out of the translation: pure functions, and that Go's functions come to them. -/
import Derived.Test.YtabflbpcdkhnaaaPAx0
import Derived.Test.YtabflbpcdkhnaaaPAxf37
import Derived.Test.YtabflbpcdkhnaaaPAxf38
import Derived.Test.YtabflbpcdkhnaaaPAxf39
namespace Go.Proofs.Ytabflbpcdkhnaaa.PA
open Go.RowKit Go.Proofs.YtabflbpcdkhnaaaW.PrintWords Go.Proofs.YtabflbpcdkhnaaaW.PrintLast Go.Proofs.YtabflbpcdkhnaaaW.PrintMore
attribute [local go_sem] max2_int min2_int max_two min_two max_three min_three max_four min_four   -- for this text's walks alone
set_option linter.unusedVariables false
set_option linter.unusedSimpArgs false

/-! ### impl_areBars: function 25 -/
def impl_areBars.f (a0 a1 : Int) (l2 : List Int) : Option Bool := (impl_within.f a0 1 10000).bind fun t1 => if t1 = true then ((impl_within.f a1 0 10000).bind fun t2 => if t2 = true then (if (l2.length : Int) ≤ 14 then (((Base.idxO (fun x : Int => impl_areBars_1.f x a0) l2 0).bind fun i => some (decide (0 ≤ i))).bind fun t => some (!t)) else some false) else some false) else some false
set_option maxHeartbeats 1600000 in
set_option maxRecDepth 100000 in
theorem impl_areBars.c1 (a0 a1 : Int) (A0 : Option Addr) (c0 : Nat) (l2 : List Int) (w : World) (hr0 : Kd.C (Kd.int .i64) w A0 l2.length l2) (hc0 : l2.length ≤ c0) (A1 : Aside0 (impl_within.f a0 1 10000 = some false)) :
    Calls Try.prog 25 #[.int .i64 a0, .int .i64 a1, .slice A0 l2.length c0] w fun e w' => e = .returned (.bool false) ∧ Below w.heap.size w w' := by
  have HR0 := Aside0.mk hr0
  have HC0 := Aside0.mk hc0
  clear hr0 hc0
  have eg : ∀ args w, (callFunc 39 args).run Try.prog w = .ok (.enter 39 args) w := enters_of Try.func39 (by kernel_rfl) rfl
  go_enter Try.func25, Try.ntmps25
  go_wp2_with (first | ((with_reducible refine gate_dst (N := 3) rfl ?_); refine box_event ?hg (N := 3) ?hd (cs := #[.int .i64 a0]) (t := 2) ?hr ?_; (case hd => rfl); (case hg => rfl); (case hr => first | (go_simp; done) | (go_simp; rfl)); intro g1 hg1 w1 hbox hb; have hb1 := Aside0.mk hb; have BK1 := Aside0.mk hbox; have hcz1 : w1.cell? ⟨g1, 0, none⟩ = some (.int .i64 a0) := (blk_cell hbox 0).trans rfl; clear hg1 hbox hb) | ((with_reducible refine gate_dst (N := 8) rfl ?_); refine goesL_ (some 8) rfl rfl Try.func37 (by kernel_rfl) rfl #[.int .i64 a0, .int .i64 1, .int .i64 10000] rfl (by (try simp only [List.map_toArray, List.map_cons, List.map_nil]); first | done | rfl) ?_; (with_reducible refine (impl_within.calls a0 1 10000 false _ A1.out).mono ?_); rintro e w' ⟨rfl, ⟨nd, rfl⟩⟩; refine ⟨_, rfl, ?_⟩))
  go_ret
  exact ⟨by first | rfl | (simp; done) | (simp [*]; done), by repeat (first | exact hb1.out | apply pw_below_drewN | apply below_drew1)⟩
set_option maxHeartbeats 1600000 in
set_option maxRecDepth 100000 in
theorem impl_areBars.c2 (a0 a1 : Int) (A0 : Option Addr) (c0 : Nat) (l2 : List Int) (w : World) (hr0 : Kd.C (Kd.int .i64) w A0 l2.length l2) (hc0 : l2.length ≤ c0) (A1 : Aside0 (impl_within.f a0 1 10000 = some true)) (A2 : Aside0 (impl_within.f a1 0 10000 = some false)) :
    Calls Try.prog 25 #[.int .i64 a0, .int .i64 a1, .slice A0 l2.length c0] w fun e w' => e = .returned (.bool false) ∧ Below w.heap.size w w' := by
  have HR0 := Aside0.mk hr0
  have HC0 := Aside0.mk hc0
  clear hr0 hc0
  have eg : ∀ args w, (callFunc 39 args).run Try.prog w = .ok (.enter 39 args) w := enters_of Try.func39 (by kernel_rfl) rfl
  go_enter Try.func25, Try.ntmps25
  go_wp2_with (first | ((with_reducible refine gate_dst (N := 3) rfl ?_); refine box_event ?hg (N := 3) ?hd (cs := #[.int .i64 a0]) (t := 2) ?hr ?_; (case hd => rfl); (case hg => rfl); (case hr => first | (go_simp; done) | (go_simp; rfl)); intro g1 hg1 w1 hbox hb; have hb1 := Aside0.mk hb; have BK1 := Aside0.mk hbox; have hcz1 : w1.cell? ⟨g1, 0, none⟩ = some (.int .i64 a0) := (blk_cell hbox 0).trans rfl; clear hg1 hbox hb) | ((with_reducible refine gate_dst (N := 8) rfl ?_); refine goesL_ (some 8) rfl rfl Try.func37 (by kernel_rfl) rfl #[.int .i64 a0, .int .i64 1, .int .i64 10000] rfl (by (try simp only [List.map_toArray, List.map_cons, List.map_nil]); first | done | rfl) ?_; (with_reducible refine (impl_within.calls a0 1 10000 true _ A1.out).mono ?_); rintro e w' ⟨rfl, ⟨nd, rfl⟩⟩; refine ⟨_, rfl, ?_⟩) | (go_at_call 37; (with_reducible refine (impl_within.calls a1 0 10000 false _ A2.out).mono ?_); rintro e w' ⟨rfl, ⟨nd, rfl⟩⟩))
  go_ret
  exact ⟨by first | rfl | (simp; done) | (simp [*]; done), by repeat (first | exact hb1.out | apply pw_below_drewN | apply below_drew1)⟩
set_option maxHeartbeats 1600000 in
set_option maxRecDepth 100000 in
theorem impl_areBars.c3 (a0 a1 : Int) (A0 : Option Addr) (c0 : Nat) (l2 : List Int) (w : World) (hr0 : Kd.C (Kd.int .i64) w A0 l2.length l2) (hc0 : l2.length ≤ c0) (A1 : Aside0 (impl_within.f a0 1 10000 = some true)) (A2 : Aside0 (impl_within.f a1 0 10000 = some true)) (c4 : ¬ (l2.length : Int) ≤ 14) :
    Calls Try.prog 25 #[.int .i64 a0, .int .i64 a1, .slice A0 l2.length c0] w fun e w' => e = .returned (.bool false) ∧ Below w.heap.size w w' := by
  have HR0 := Aside0.mk hr0
  have HC0 := Aside0.mk hc0
  clear hr0 hc0
  have c4b0 : decide ((l2.length : Int) ≤ 14) = false := decide_eq_false c4
  have eg : ∀ args w, (callFunc 39 args).run Try.prog w = .ok (.enter 39 args) w := enters_of Try.func39 (by kernel_rfl) rfl
  go_enter Try.func25, Try.ntmps25
  go_wp2_with (first | ((with_reducible refine gate_dst (N := 3) rfl ?_); refine box_event ?hg (N := 3) ?hd (cs := #[.int .i64 a0]) (t := 2) ?hr ?_; (case hd => rfl); (case hg => rfl); (case hr => first | (go_simp; done) | (go_simp; rfl)); intro g1 hg1 w1 hbox hb; have hb1 := Aside0.mk hb; have BK1 := Aside0.mk hbox; have hcz1 : w1.cell? ⟨g1, 0, none⟩ = some (.int .i64 a0) := (blk_cell hbox 0).trans rfl; clear hg1 hbox hb) | ((with_reducible refine gate_dst (N := 8) rfl ?_); refine goesL_ (some 8) rfl rfl Try.func37 (by kernel_rfl) rfl #[.int .i64 a0, .int .i64 1, .int .i64 10000] rfl (by (try simp only [List.map_toArray, List.map_cons, List.map_nil]); first | done | rfl) ?_; (with_reducible refine (impl_within.calls a0 1 10000 true _ A1.out).mono ?_); rintro e w' ⟨rfl, ⟨nd, rfl⟩⟩; refine ⟨_, rfl, ?_⟩) | (go_at_call 37; (with_reducible refine (impl_within.calls a1 0 10000 true _ A2.out).mono ?_); rintro e w' ⟨rfl, ⟨nd, rfl⟩⟩))
  go_ret
  exact ⟨by first | rfl | (simp; done) | (simp [*]; done), by repeat (first | exact hb1.out | apply pw_below_drewN | apply below_drew1)⟩
set_option maxHeartbeats 1600000 in
set_option maxRecDepth 100000 in
theorem impl_areBars.c4 (a0 a1 : Int) (A0 : Option Addr) (c0 : Nat) (l2 : List Int) (w : World) (hr0 : Kd.C (Kd.int .i64) w A0 l2.length l2) (hc0 : l2.length ≤ c0) (t : Bool) (A1 : Aside0 (impl_within.f a0 1 10000 = some true)) (A2 : Aside0 (impl_within.f a1 0 10000 = some true)) (c4 : (l2.length : Int) ≤ 14) (A4 : Aside0 (((Base.idxO (fun x : Int => impl_areBars_1.f x a0) l2 0).bind fun i => some (decide (0 ≤ i))) = some t)) :
    Calls Try.prog 25 #[.int .i64 a0, .int .i64 a1, .slice A0 l2.length c0] w fun e w' => e = .returned (.bool (!t)) ∧ Below w.heap.size w w' := by
  have HR0 := Aside0.mk hr0
  have HC0 := Aside0.mk hc0
  clear hr0 hc0
  have c4b0 : decide ((l2.length : Int) ≤ 14) = true := decide_eq_true c4
  have eg : ∀ args w, (callFunc 39 args).run Try.prog w = .ok (.enter 39 args) w := enters_of Try.func39 (by kernel_rfl) rfl
  go_enter Try.func25, Try.ntmps25
  go_wp2_with (first | ((with_reducible refine gate_dst (N := 3) rfl ?_); refine box_event ?hg (N := 3) ?hd (cs := #[.int .i64 a0]) (t := 2) ?hr ?_; (case hd => rfl); (case hg => rfl); (case hr => first | (go_simp; done) | (go_simp; rfl)); intro g1 hg1 w1 hbox hb; have hb1 := Aside0.mk hb; have BK1 := Aside0.mk hbox; have hcz1 : w1.cell? ⟨g1, 0, none⟩ = some (.int .i64 a0) := (blk_cell hbox 0).trans rfl; clear hg1 hbox hb) | ((with_reducible refine gate_dst (N := 8) rfl ?_); refine goesL_ (some 8) rfl rfl Try.func37 (by kernel_rfl) rfl #[.int .i64 a0, .int .i64 1, .int .i64 10000] rfl (by (try simp only [List.map_toArray, List.map_cons, List.map_nil]); first | done | rfl) ?_; (with_reducible refine (impl_within.calls a0 1 10000 true _ A1.out).mono ?_); rintro e w' ⟨rfl, ⟨nd, rfl⟩⟩; refine ⟨_, rfl, ?_⟩) | (go_at_call 37; (with_reducible refine (impl_within.calls a1 0 10000 true _ A2.out).mono ?_); rintro e w' ⟨rfl, ⟨nd, rfl⟩⟩) | (go_at_call 38; ((with_reducible refine (slices_ContainsFunc_int64_int64.any 39 #[.pointer (some ⟨g1, 0, none⟩)] eg (fun x : Int => impl_areBars_1.f x a0) _ _ l2 t _ ?side1 HC0.out A4.out ?side2).mono ?_); (case side1 => repeat (first | exact Kd.C_below HR0.out hb1.out | (with_reducible refine Kd.C_drewN ?_ _) | (with_reducible refine Kd.C_drew ?_))); (case side2 => exact fun n x u _ hx => impl_areBars_1.calls x a0 _ u _ ((blk_cell (by repeat (first | exact BK1.out | apply blk_drewN)) 0).trans rfl) hx); rintro e w3 ⟨rfl, ⟨nd, rfl⟩⟩)))
  go_ret
  exact ⟨by first | rfl | (simp; done) | (simp [*]; done), by repeat (first | exact hb1.out | apply pw_below_drewN | apply below_drew1)⟩
theorem impl_areBars.calls (a0 a1 : Int) (A0 : Option Addr) (c0 : Nat) (l2 : List Int) (r : Bool) (w : World) (hr0 : Kd.C (Kd.int .i64) w A0 l2.length l2) (hc0 : l2.length ≤ c0) (h : impl_areBars.f a0 a1 l2 = some r) :
    Calls Try.prog 25 #[.int .i64 a0, .int .i64 a1, .slice A0 l2.length c0] w fun e w' => e = .returned (.bool r) ∧ Below w.heap.size w w' := by
  unfold impl_areBars.f at h
  obtain ⟨t1, h1, h⟩ := Option.bind_eq_some_iff.1 h
  cases t1 with
  | false => obtain rfl := Option.some.inj h; exact impl_areBars.c1 a0 a1 A0 c0 l2 w hr0 hc0 ⟨h1⟩
  | true =>
    rw [if_pos rfl] at h
    obtain ⟨t2, h2, h⟩ := Option.bind_eq_some_iff.1 h
    cases t2 with
    | false => obtain rfl := Option.some.inj h; exact impl_areBars.c2 a0 a1 A0 c0 l2 w hr0 hc0 ⟨h1⟩ ⟨h2⟩
    | true =>
      rw [if_pos rfl] at h
      by_cases c : (l2.length : Int) ≤ 14
      · rw [if_pos c] at h
        obtain ⟨t, h4, h⟩ := Option.bind_eq_some_iff.1 h
        obtain rfl := Option.some.inj h
        exact impl_areBars.c4 a0 a1 A0 c0 l2 w hr0 hc0 t ⟨h1⟩ ⟨h2⟩ c ⟨h4⟩
      · rw [if_neg c] at h
        obtain rfl := Option.some.inj h
        exact impl_areBars.c3 a0 a1 A0 c0 l2 w hr0 hc0 ⟨h1⟩ ⟨h2⟩ c

end Go.Proofs.Ytabflbpcdkhnaaa.PA
