/- Written by a program of this session out of the translation: pure functions, and that Go's functions come to them. -/
import Derived.Test.YtjkjelfhdhcplaaPAx0
import Derived.Test.YtjkjelfhdhcplaaPAxf64
import Derived.Test.YtjkjelfhdhcplaaPAxgImpl
namespace Go.Proofs.Ytjkjelfhdhcplaa.PA
open Go.RowKit Go.Proofs.YtjkjelfhdhcplaaW.PrintWords Go.Proofs.YtjkjelfhdhcplaaW.PrintLast Go.Proofs.YtjkjelfhdhcplaaW.PrintMore
attribute [local go_sem] max2_int min2_int max_two min_two max_three min_three max_four min_four   -- for this text's walks alone
set_option linter.unusedVariables false
set_option linter.unusedSimpArgs false

/-! ### impl_Row_isBetween: function 42 -/
def impl_Row_isBetween.f (l0 : List Int) (a b : Int) : Option Bool := ((Base.idxO (fun x : Int => impl_Row_isBetween_1.f x a b) l0 0).bind fun i => some (decide (0 ≤ i))).bind fun t => some (!t)
set_option maxHeartbeats 800000 in
set_option maxRecDepth 100000 in
theorem impl_Row_isBetween.calls (A0 : Option Addr) (c0 : Nat) (l0 : List Int) (a b : Int) (r : Bool) (w : World) (hr0 : Kd.C (Kd.int .i16) w A0 l0.length l0) (hc0 : l0.length ≤ c0) (h : impl_Row_isBetween.f l0 a b = some r) :
    Calls Try.prog 42 #[.slice A0 l0.length c0, .int .i64 a, .int .i64 b] w fun e w' => e = .returned (.bool r) ∧ Below w.heap.size w w' := by
  obtain ⟨t, ht, hr⟩ := Option.bind_eq_some_iff.1 h
  obtain rfl := Option.some.inj hr
  have HR0 := Aside0.mk hr0
  have HC0 := Aside0.mk hc0
  have A2 := Aside0.mk ht
  have HB := Aside0.mk (Below.refl w.heap.size w)
  clear ht h hr hr0 hc0
  have eg : ∀ args w, (callFunc 64 args).run Try.prog w = .ok (.enter 64 args) w := enters_of Try.func64 (by kernel_rfl) rfl
  go_enter Try.func42, Try.ntmps42
  go_wp2_with (first
    | ((with_reducible refine gate_dst (N := 4) rfl ?_); refine box_event ?hg (N := 4) ?hd (cs := #[.int .i64 a]) (t := 2) ?hr ?_; (case hd => rfl); (case hg => rfl); (case hr => first | (go_simp; done) | (go_simp; rfl)); intro g1 hg1 w1 hbox hb; have hb1 := Aside0.mk hb; have BK1 := Aside0.mk hbox; have G1 := Aside0.mk hg1; clear hg1 hbox hb)
    | ((with_reducible refine gate_dst (N := 5) rfl ?_); refine box_event ?hg (N := 5) ?hd (cs := #[.int .i64 b]) (t := 2) ?hr ?_; (case hd => rfl); (case hg => rfl); (case hr => first | (go_simp; done) | (go_simp; rfl)); intro g2 hg2 w2 hbox hb; have hb2 := Aside0.mk hb; have BK2 := Aside0.mk hbox; have G2 := Aside0.mk hg2; clear hg2 hbox hb)
    | (go_at_call 58; ((with_reducible refine (impl_Row_int16_58.any 64 #[.pointer (some ⟨g1, 0, none⟩), .pointer (some ⟨g2, 0, none⟩)] eg (fun x : Int => impl_Row_isBetween_1.f x a b) _ _ l0 t _ ?side1 HC0.out A2.out ?side2).mono ?_); (case side1 => exact Kd.C_below (Kd.C_below HR0.out hb1.out) hb2.out); (case side2 => exact fun n x u _ hx => impl_Row_isBetween_1.calls x a b _ _ u _ ((blk_cell (blk_drewN (blk_below BK1.out hb2.out) n) 0).trans rfl) ((blk_cell (blk_drewN BK2.out n) 0).trans rfl) hx); rintro e w3 ⟨rfl, ⟨nd, rfl⟩⟩)))
  go_ret
  exact ⟨by first | rfl | (simp; done) | (simp [*]; done), by exact pw_below_drewN (below_step hb1.out hb2.out) _⟩

end Go.Proofs.Ytjkjelfhdhcplaa.PA
