/- Written by a program of this session out of the translation: pure functions, and that Go's functions come to them. -/
import Derived.Test.YtgbfbnlmnodpaaaDoorPAx0
import Derived.Test.YtgbfbnlmnodpaaaDoorPAxf32
import Derived.Test.YtgbfbnlmnodpaaaDoorPAxgImpl
namespace Go.Proofs.YtgbfbnlmnodpaaaDoor.PA
open Go.RowKit Go.Proofs.YtgbfbnlmnodpaaaDoorW.PrintWords Go.Proofs.YtgbfbnlmnodpaaaDoorW.PrintLast Go.Proofs.YtgbfbnlmnodpaaaDoorW.PrintMore
attribute [local go_sem] max2_int min2_int max_two min_two max_three min_three max_four min_four   -- for this text's walks alone
set_option linter.unusedVariables false
set_option linter.unusedSimpArgs false

/-! ### impl_readDecimal: function 19 -/
def impl_readDecimal.fin (v : Int) (a0 : ByteArray) (a1 a2 : Int) : Option (Int × Bool) := (impl_decimal.f v).bind fun t => if t.toList = a0.toList then (impl_within.f v a1 a2).bind fun u => some (v, u) else some (v, false)
def impl_readDecimal.f (a0 : ByteArray) (a1 a2 : Int) : Option (Int × Bool) := if a0.size ≤ 281474976710656 then (match Lib.parseIntB 64 a0.data.toList with | .ok v => impl_readDecimal.fin v a0 a1 a2 | .syntax => some (0, false) | .range => some (Lib.intSat 64 a0.data.toList, false)) else none
theorem impl_readDecimal.parse_ok (a0 : ByteArray) (v : Int) (w : World) (hs : a0.size ≤ 281474976710656) (h : Lib.parseIntB 64 a0.data.toList = .ok v) :
    Calls Tryd.prog 31 #[.string a0, .int .i64 10, .int .i64 64] w fun e w' => e = .returned (.tuple #[.int .i64 v, .nilIface]) ∧ Below w.heap.size w w' :=
  (Any.strconv_ParseInt_10_at64_ok Tryd.laysC174 a0 (by omega) v h w).mono fun e w' ⟨he, hw⟩ => ⟨he, by
    rcases hw with rfl | ⟨t, rfl⟩
    · exact Below.refl _ _
    · exact Lib.bytesWorld_below _ _ _⟩
theorem impl_readDecimal.parse_bad (a0 : ByteArray) (v : Int) (w : World) (hT : Tables.TabT w) (hs : a0.size ≤ 281474976710656) (h : (Lib.parseIntB 64 a0.data.toList = .«syntax» ∧ v = 0) ∨ (Lib.parseIntB 64 a0.data.toList = .range ∧ v = Lib.intSat 64 a0.data.toList)) :
    Calls Tryd.prog 31 #[.string a0, .int .i64 10, .int .i64 64] w fun e w' => ∃ N, e = .returned (.tuple #[.int .i64 v, .iface 78 (.pointer (some ⟨N, 0, none⟩))]) ∧ Below w.heap.size w w' := by
  rcases h with ⟨h, rfl⟩ | ⟨h, rfl⟩
  · obtain ⟨tp, p, hv⟩ := hT.syn
    exact (Any.strconv_ParseInt_10_at64_syntax Tryd.laysC174 a0 hs h _ w hv (.inr ⟨tp, p, rfl⟩)).mono fun e w' ⟨N, he, _, _, hb⟩ => ⟨N, he, hb⟩
  · obtain ⟨tp, p, hv⟩ := hT.rng
    exact (Any.strconv_ParseInt_10_at64_range Tryd.laysC174 a0 hs h _ w hv (.inr ⟨tp, p, rfl⟩)).mono fun e w' ⟨N, he, _, _, hb⟩ => ⟨N, he, hb⟩
set_option maxHeartbeats 4000000 in
set_option maxRecDepth 100000 in
theorem impl_readDecimal.bad (a0 : ByteArray) (a1 a2 : Int) (v : Int) (w : World) (hT : Tables.TabT w) (hs : a0.size ≤ 281474976710656) (h : (Lib.parseIntB 64 a0.data.toList = .«syntax» ∧ v = 0) ∨ (Lib.parseIntB 64 a0.data.toList = .range ∧ v = Lib.intSat 64 a0.data.toList)) :
    Calls Tryd.prog 19 #[.string a0, .int .i64 a1, .int .i64 a2] w fun e w' => e = .returned (.tuple #[.int .i64 v, .bool false]) ∧ Below w.heap.size w w' := by
  have HP := Aside0.mk (impl_readDecimal.parse_bad a0 v w hT hs h)
  clear h hT
  go_enter Tryd.func19, Tryd.ntmps19
  go_wp2_with (go_at_call 31; refine HP.out.mono ?_; rintro e w1 ⟨N, rfl, hb⟩; have HB := Aside0.mk hb; clear hb)
  go_ret2
  exact ⟨rfl, by repeat (first | (with_reducible first | exact HB.out | apply below_alloc | apply pw_below_drewN | apply below_drew1) | exact HB.out)⟩
set_option maxHeartbeats 4000000 in
set_option maxRecDepth 100000 in
theorem impl_readDecimal.good (a0 : ByteArray) (a1 a2 : Int) (v : Int) (r1 : Int) (r2 : Bool) (w : World) (hT : Tables.TabT w) (hs : a0.size ≤ 281474976710656) (hp : Lib.parseIntB 64 a0.data.toList = .ok v) (h : impl_readDecimal.fin v a0 a1 a2 = some (r1, r2)) :
    Calls Tryd.prog 19 #[.string a0, .int .i64 a1, .int .i64 a2] w fun e w' => e = .returned (.tuple #[.int .i64 r1, .bool r2]) ∧ Below w.heap.size w w' := by
  have HP := Aside0.mk (impl_readDecimal.parse_ok a0 v w hs hp)
  have HT := Aside0.mk hT
  clear hp hT
  unfold impl_readDecimal.fin at h
  obtain ⟨t, A0, h⟩ := Option.bind_eq_some_iff.1 h
  have A1 := Aside0.mk A0
  clear A0
  by_cases ce : t.toList = a0.toList
  · rw [if_pos ce] at h
    obtain ⟨u, B0, h⟩ := Option.bind_eq_some_iff.1 h
    have B1 := Aside0.mk B0
    clear B0
    have h := Option.some.inj h
    rw [Prod.mk.injEq] at h
    obtain ⟨rfl, rfl⟩ := h
    have c8b0 : (t.toList == a0.toList) = true := beq_iff_eq.mpr ce
    have c8b1 : (t.toList != a0.toList) = false := bne_eq_false_iff_eq.mpr ce
    clear ce
    go_enter Tryd.func19, Tryd.ntmps19
    go_wp2_with (first | (go_at_call 31; refine HP.out.mono ?_; rintro e w1 ⟨rfl, hb⟩; have HB := Aside0.mk hb; clear hb) | (go_at_call 32; refine (impl_decimal.calls v t _ (Tables.tabT_below HT.out (by repeat (first | (with_reducible first | exact HB.out | apply below_alloc | apply pw_below_drewN | apply below_drew1) | exact HB.out))) A1.out).mono ?_; rintro e w2 ⟨rfl, hb⟩; have n1_ := Aside0.mk (below_step (by repeat (first | (with_reducible first | exact HB.out | apply below_alloc | apply pw_below_drewN | apply below_drew1) | exact HB.out)) hb); clear HB; have HB := n1_; clear n1_; clear hb) | (go_at_call 33; refine (impl_within.calls v a1 a2 u _ B1.out).mono ?_; rintro e w3 ⟨rfl, nd, rfl⟩))
    go_ret2
    exact ⟨by first | rfl | (simp; done) | (simp [*]; done), by repeat (first | (with_reducible first | exact HB.out | apply below_alloc | apply pw_below_drewN | apply below_drew1) | exact HB.out)⟩
  · rw [if_neg ce] at h
    have h := Option.some.inj h
    rw [Prod.mk.injEq] at h
    obtain ⟨rfl, rfl⟩ := h
    have c8b0 : (t.toList == a0.toList) = false := beq_eq_false_iff_ne.mpr ce
    have c8b1 : (t.toList != a0.toList) = true := bne_iff_ne.mpr ce
    clear ce
    go_enter Tryd.func19, Tryd.ntmps19
    go_wp2_with (first | (go_at_call 31; refine HP.out.mono ?_; rintro e w1 ⟨rfl, hb⟩; have HB := Aside0.mk hb; clear hb) | (go_at_call 32; refine (impl_decimal.calls v t _ (Tables.tabT_below HT.out (by repeat (first | (with_reducible first | exact HB.out | apply below_alloc | apply pw_below_drewN | apply below_drew1) | exact HB.out))) A1.out).mono ?_; rintro e w2 ⟨rfl, hb⟩; have n1_ := Aside0.mk (below_step (by repeat (first | (with_reducible first | exact HB.out | apply below_alloc | apply pw_below_drewN | apply below_drew1) | exact HB.out)) hb); clear HB; have HB := n1_; clear n1_; clear hb))
    go_ret2
    exact ⟨by first | rfl | (simp; done) | (simp [*]; done), by repeat (first | (with_reducible first | exact HB.out | apply below_alloc | apply pw_below_drewN | apply below_drew1) | exact HB.out)⟩
theorem impl_readDecimal.calls (a0 : ByteArray) (a1 a2 : Int) (r1 : Int) (r2 : Bool) (w : World) (hT : Tables.TabT w) (h : impl_readDecimal.f a0 a1 a2 = some (r1, r2)) :
    Calls Tryd.prog 19 #[.string a0, .int .i64 a1, .int .i64 a2] w fun e w' => e = .returned (.tuple #[.int .i64 r1, .bool r2]) ∧ Below w.heap.size w w' := by
  unfold impl_readDecimal.f at h
  by_cases c0 : a0.size ≤ 281474976710656
  · rw [if_pos c0] at h
    cases hp : Lib.parseIntB 64 a0.data.toList with
    | ok v => rw [hp] at h; exact impl_readDecimal.good a0 a1 a2 v r1 r2 w hT c0 hp h
    | «syntax» =>
      rw [hp] at h
      have h := Option.some.inj h
      rw [Prod.mk.injEq] at h
      obtain ⟨rfl, rfl⟩ := h
      exact impl_readDecimal.bad a0 a1 a2 0 w hT c0 (.inl ⟨hp, rfl⟩)
    | range =>
      rw [hp] at h
      have h := Option.some.inj h
      rw [Prod.mk.injEq] at h
      obtain ⟨rfl, rfl⟩ := h
      exact impl_readDecimal.bad a0 a1 a2 _ w hT c0 (.inr ⟨hp, rfl⟩)
  · rw [if_neg c0] at h
    exact absurd h (by simp)

end Go.Proofs.YtgbfbnlmnodpaaaDoor.PA
