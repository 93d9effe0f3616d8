/- Written by a program of this session out of the translation: pure functions, and that Go's functions come to them. -/
import Derived.Test.YthgdpieoodohcaaPAx0
import Derived.Test.YthgdpieoodohcaaPAxf64
import Derived.Test.YthgdpieoodohcaaPAxf65
import Derived.Test.YthgdpieoodohcaaPAxf66
import Derived.Test.YthgdpieoodohcaaPAxf67
namespace Go.Proofs.Ythgdpieoodohcaa.PA
open Go.RowKit Go.Proofs.YthgdpieoodohcaaW.PrintWords Go.Proofs.YthgdpieoodohcaaW.PrintLast Go.Proofs.YthgdpieoodohcaaW.PrintMore
attribute [local go_sem] max2_int min2_int max_two min_two max_three min_three max_four min_four   -- for this text's walks alone
set_option linter.unusedVariables false
set_option linter.unusedSimpArgs false

/-! ### impl_ValidRow: function 22 -/
def impl_ValidRow.f (l0 : List Int) : Option Bool := some (decide (1 ≤ (l0.length : Int)) && decide ((l0.length : Int) ≤ 60) && !(l0.any fun x => !(decide (1 ≤ wrap64 x) && decide (wrap64 x ≤ 200))))
theorem impl_ValidRow.calls (A0 : Option Addr) (c0 : Nat) (l0 : List Int) (r : Bool) (w : World) (hr0 : Kd.C (Kd.int .i16) w A0 l0.length l0) (hc0 : l0.length ≤ c0) (h : impl_ValidRow.f l0 = some r) :
    Calls Try.prog 22 #[.slice A0 l0.length c0] w fun e w' => e = .returned (.bool r) ∧ Below w.heap.size w w' := by
  obtain rfl := Option.some.inj h
  clear h
  have hlit : ∀ x, impl_ValidRow_1.f x = some (!(decide (1 ≤ wrap64 x) && decide (wrap64 x ≤ 200))) := fun x => by
    unfold impl_ValidRow_1.f impl_isWidth.f
    simp
  have hcon := fun n => impl_Row_int16_65.anyB 66 #[] (enters_of Try.func66 (by kernel_rfl) rfl) (fun x => !(decide (1 ≤ wrap64 x) && decide (wrap64 x ≤ 200))) A0 c0 l0 (w.drewN n) (by repeat (first | exact hr0 | (with_reducible refine Kd.C_drewN ?_ _))) hc0
    (fun W x hb _ => ((impl_ValidRow_1.calls x _ W (hlit x)).mono fun e w' h => ⟨h.1, below_then hb hb.size h.2⟩))
  clear hlit
  generalize (l0.any fun x => !(decide (1 ≤ wrap64 x) && decide (wrap64 x ≤ 200))) = t at hcon ⊢
  have hw : impl_within.f (l0.length : Int) 1 60 = some (decide (1 ≤ (l0.length : Int)) && decide ((l0.length : Int) ≤ 60)) := by
    unfold impl_within.f; split <;> simp_all <;> omega
  have hwc := impl_within.calls (l0.length : Int) 1 60 _ w hw
  clear hw hr0 hc0
  generalize (decide (1 ≤ (l0.length : Int)) && decide ((l0.length : Int) ≤ 60)) = s at hwc ⊢
  cases s with
  | true =>
    go_enter Try.func22, Try.ntmps22
    go_wp2_with (first | (go_at_call 64; refine hwc.mono ?_; rintro e w' ⟨rfl, ⟨q, rfl⟩⟩) | (go_at_call 65; refine (hcon _).mono ?_; rintro e w' ⟨rfl, hb'⟩))
    go_ret
    exact ⟨rfl, below_step (pw_below_drewN (Below.refl _ _) _) hb'⟩
  | false =>
    go_enter Try.func22, Try.ntmps22
    go_wp2_with (first | (go_at_call 64; refine hwc.mono ?_; rintro e w' ⟨rfl, ⟨q, rfl⟩⟩))
    go_ret
    exact ⟨rfl, pw_below_drewN (Below.refl _ _) _⟩

end Go.Proofs.Ythgdpieoodohcaa.PA
