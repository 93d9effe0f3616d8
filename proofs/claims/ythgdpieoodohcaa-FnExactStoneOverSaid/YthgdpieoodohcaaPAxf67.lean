/- Written by a program of this session out of the translation: pure functions, and that Go's functions come to them. -/
import Derived.Test.YthgdpieoodohcaaPAx0
import Derived.Test.YthgdpieoodohcaaPAxf106
import Derived.Test.YthgdpieoodohcaaPAxf107
import Derived.Test.YthgdpieoodohcaaPAxf64
namespace Go.Proofs.Ythgdpieoodohcaa.PA
open Go.RowKit Go.Proofs.YthgdpieoodohcaaW.PrintWords Go.Proofs.YthgdpieoodohcaaW.PrintLast Go.Proofs.YthgdpieoodohcaaW.PrintMore
attribute [local go_sem] max2_int min2_int max_two min_two max_three min_three max_four min_four   -- for this text's walks alone
set_option linter.unusedVariables false
set_option linter.unusedSimpArgs false

/-! ### impl_isWidth: function 67 -/
def impl_isWidth.f (l0 : List Int) : Option Bool := some (!(l0.any fun x => !(decide (1 ≤ x) && decide (x ≤ 200))))
theorem impl_isWidth.calls (A0 : Option Addr) (c0 : Nat) (l0 : List Int) (r : Bool) (w : World) (hr0 : Kd.C (Kd.int .i64) w A0 l0.length l0) (hc0 : l0.length ≤ c0) (h : impl_isWidth.f l0 = some r) :
    Calls Try.prog 67 #[.slice A0 l0.length c0] w fun e w' => e = .returned (.bool r) ∧ Drawn0 w w' := by
  obtain rfl := Option.some.inj h
  have hcon := slices_ContainsFunc_int64_int64.any 107 #[] (enters_of Try.func107 (by kernel_rfl) rfl) (fun x => !(decide (1 ≤ x) && decide (x ≤ 200))) A0 c0 l0 w hr0 hc0 (fun n x _ => (impl_isWidth_1.calls x _ (w.drewN n) (by unfold impl_isWidth_1.f impl_within.f; split <;> simp_all <;> omega)))
  clear h
  generalize (l0.any fun x => !(decide (1 ≤ x) && decide (x ≤ 200))) = t at hcon ⊢
  go_enter Try.func67, Try.ntmps67
  go_wp2_with (go_at_call 106; refine hcon.mono ?_; rintro e w' ⟨rfl, ⟨q, rfl⟩⟩)
  go_ret
  exact ⟨rfl, by repeat (first | exact Drawn0.refl _ | apply Drawn0.step)⟩

end Go.Proofs.Ythgdpieoodohcaa.PA
