/- Written by a program of this session out of the translation: pure functions, and that Go's functions come to them. -/
import Derived.Test.YtjkjelfhdhcplaaPAx0
import Derived.Test.YtjkjelfhdhcplaaPAxgImpl
namespace Go.Proofs.Ytjkjelfhdhcplaa.PA
open Go.RowKit Go.Proofs.YtjkjelfhdhcplaaW.PrintWords Go.Proofs.YtjkjelfhdhcplaaW.PrintLast Go.Proofs.YtjkjelfhdhcplaaW.PrintMore
attribute [local go_sem] max2_int min2_int max_two min_two max_three min_three max_four min_four   -- for this text's walks alone
set_option linter.unusedVariables false
set_option linter.unusedSimpArgs false

/-! ### impl_Row_isBetween_1: function 64 -/
def impl_Row_isBetween_1.f (x a b : Int) : Option Bool := (impl_within.f (wrap64 x) a b).bind fun t => some (!t)
set_option maxHeartbeats 800000 in
set_option maxRecDepth 100000 in
theorem impl_Row_isBetween_1.calls (x a b : Int) (p q : Addr) (r : Bool) (w : World) (h1 : w.cell? p = some (.int .i64 a)) (h2 : w.cell? q = some (.int .i64 b)) (h : impl_Row_isBetween_1.f x a b = some r) :
    Calls Try.prog 64 #[.int .i16 x, .pointer (some p), .pointer (some q)] w fun e w' => e = .returned (.bool r) ∧ Drawn0 w w' := by
  obtain ⟨t, ht, hr⟩ := Option.bind_eq_some_iff.1 h
  obtain rfl := Option.some.inj hr
  have A2 := Aside0.mk ht
  clear ht h hr
  go_enter Try.func64, Try.ntmps64
  go_wp2_with (first | ((with_reducible refine gate_callee (f := 31) rfl ?_); refine goesL_ (some 9) rfl rfl Try.func31 (by kernel_rfl) rfl #[.int .i64 (wrap64 x), .int .i64 a, .int .i64 b] rfl (by (try simp only [List.map_toArray, List.map_cons, List.map_nil]); first | done | rfl) ?_; (with_reducible refine (impl_within.calls (wrap64 x) a b t _ A2.out).mono ?_); rintro e w' ⟨rfl, ⟨nd, rfl⟩⟩; refine ⟨_, rfl, ?_⟩))
  go_ret
  exact ⟨by first | rfl | (simp; done) | (simp [*]; done), by repeat (first | exact Drawn0.refl _ | apply Drawn0.step)⟩

end Go.Proofs.Ytjkjelfhdhcplaa.PA
