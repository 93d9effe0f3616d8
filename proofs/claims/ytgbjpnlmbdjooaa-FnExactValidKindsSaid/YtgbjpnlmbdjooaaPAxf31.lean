/- Written by a program of this session out of the translation: pure functions, and that Go's functions come to them. -/
import Derived.Test.YtgbjpnlmbdjooaaPAx0
import Derived.Test.YtgbjpnlmbdjooaaPAxf42
namespace Go.Proofs.Ytgbjpnlmbdjooaa.PA
open Go.RowKit Go.Proofs.YtgbjpnlmbdjooaaW.PrintWords Go.Proofs.YtgbjpnlmbdjooaaW.PrintLast Go.Proofs.YtgbjpnlmbdjooaaW.PrintMore
attribute [local go_sem] max2_int min2_int max_two min_two max_three min_three max_four min_four   -- for this text's walks alone
set_option linter.unusedVariables false
set_option linter.unusedSimpArgs false

/-! ### impl_Kind_31: function 31 -/
set_option maxHeartbeats 4000000 in
theorem impl_Kind_31.anyB (g : Nat) (lb : Array Value) (eg : ∀ args w, (callFunc g args).run Try.prog w = .ok (.enter g args) w) (p : S51 → Option Bool) (A : Option Addr) (c : Nat) (l : List (S51)) (r : Bool) (w : World) (hr : Kd.C k51 w A l.length l) (hc : l.length ≤ c) (h : ((Base.idxO p l 0).bind fun i => some (decide (0 ≤ i))) = some r)
    (hp : ∀ W (x : S51) (b : Bool), Below w.heap.size w W → x ∈ l → p x = some b → Calls Try.prog g (#[.agg #[.int .i8 x.f0, .int .i8 x.f1, .int .i16 x.f2]] ++ lb) W fun e w' => e = .returned (.bool b) ∧ Below w.heap.size w w') :
    Calls Try.prog 31 #[.slice A l.length c, .func (.func g) #[] lb] w fun e w' => e = .returned (.bool r) ∧ Below w.heap.size w w' := by
  obtain ⟨i, hi, he⟩ := Option.bind_eq_some_iff.1 h
  obtain rfl := Option.some.inj he
  have hcon := impl_Kind_42.anyB g lb eg p A c l i w hr hc hi hp
  clear hp hr h hi he
  go_enter Try.func31, Try.ntmps31
  go_wp2_with (go_at_call 42; refine hcon.mono ?_; rintro e w' ⟨rfl, hb'⟩)
  go_ret
  exact ⟨rfl, hb'⟩

end Go.Proofs.Ytgbjpnlmbdjooaa.PA
