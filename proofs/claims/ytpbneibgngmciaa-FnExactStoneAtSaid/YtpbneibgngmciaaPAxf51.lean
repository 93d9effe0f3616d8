/- Written by a program of this session out of the translation: pure functions, and that Go's functions come to them. -/
import Derived.Test.YtpbneibgngmciaaPAx0
import Derived.Test.YtpbneibgngmciaaPAxf52
namespace Go.Proofs.Ytpbneibgngmciaa.PA
open Go.RowKit Go.Proofs.YtpbneibgngmciaaW.PrintWords Go.Proofs.YtpbneibgngmciaaW.PrintLast Go.Proofs.YtpbneibgngmciaaW.PrintMore
attribute [local go_sem] max2_int min2_int max_two min_two max_three min_three max_four min_four   -- for this text's walks alone
set_option linter.unusedVariables false
set_option linter.unusedSimpArgs false

/-! ### impl_StoneAt_1: function 51 -/
def impl_StoneAt_1.f (k : Nat) (l0 : List (S58)) (x y : Int) : Option Bool := (impl_Stone_where.f k l0 (IntKind.i16.wrap x) (IntKind.i16.wrap y)).bind fun t => some (decide (t > 0))
theorem impl_StoneAt_1.mono : ∀ a0 x y k, LeO (impl_StoneAt_1.f k a0 x y) (impl_StoneAt_1.f (k + 1) a0 x y) := by
  intro a0 x y k
  unfold impl_StoneAt_1.f
  exact LeO.bind (impl_Stone_where.mono _ _ _ _) (fun _ => LeO.refl _)
set_option maxHeartbeats 1600000 in
set_option maxRecDepth 100000 in
theorem impl_StoneAt_1.calls (k : Nat) (A0 : Option Addr) (c0 : Nat) (l0 : List (S58)) (x y : Int) (gx gy : Nat) (r : Bool) (w : World) (hr0 : Kd.C k58 w A0 l0.length l0) (hc0 : l0.length ≤ c0) (h1 : w.heap[gx]? = some (.cells #[.int .i64 x] 2 (0, 0))) (h2 : w.heap[gy]? = some (.cells #[.int .i64 y] 2 (0, 0))) (h : impl_StoneAt_1.f k l0 x y = some r) :
    Calls Try.prog 51 #[.slice A0 l0.length c0, .pointer (some ⟨gx, 0, none⟩), .pointer (some ⟨gy, 0, none⟩)] w fun e w' => e = .returned (.bool r) ∧ Below w.heap.size w w' := by
  have hu0 := Try.underlying58
  obtain ⟨t, ht, hr⟩ := Option.bind_eq_some_iff.1 h
  obtain rfl := Option.some.inj hr
  have A2 := Aside0.mk ht
  have HR0 := Aside0.mk hr0
  have HC0 := Aside0.mk hc0
  have hX : w.cell? ⟨gx, 0, none⟩ = some (.int .i64 x) := (blk_cell h1 0).trans rfl
  have hY : w.cell? ⟨gy, 0, none⟩ = some (.int .i64 y) := (blk_cell h2 0).trans rfl
  clear ht h hr h1 h2 hr0 hc0
  go_enter Try.func51, Try.ntmps51
  go_wp2_with (go_at_call 52; (with_reducible refine (impl_Stone_where.calls k A0 c0 l0 _ _ t _ HR0.out HC0.out A2.out).mono ?_); rintro e w' ⟨rfl, hb'⟩)
  go_ret
  exact ⟨by first | rfl | (simp; done) | (simp [*]; done), hb'⟩

end Go.Proofs.Ytpbneibgngmciaa.PA
