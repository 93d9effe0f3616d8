/- Written by a program of this session out of the translation: pure functions, and that Go's functions come to them. -/
import Derived.Test.YtgbfbnlmnodpaaaDoorPAx0
namespace Go.Proofs.YtgbfbnlmnodpaaaDoor.PA
open Go.RowKit Go.Proofs.YtgbfbnlmnodpaaaDoorW.PrintWords Go.Proofs.YtgbfbnlmnodpaaaDoorW.PrintLast Go.Proofs.YtgbfbnlmnodpaaaDoorW.PrintMore
attribute [local go_sem] max2_int min2_int max_two min_two max_three min_three max_four min_four   -- for this text's walks alone
set_option linter.unusedVariables false
set_option linter.unusedSimpArgs false

/-! ### strings_CutSuffix: function 17 -/
def strings_CutSuffix.f (a0 a1 : ByteArray) : Option (ByteArray × Bool) := if a0.size ≤ 9223372036854775807 then some (⟨(Lib.trimSuffix a0.data.toList a1.data.toList).toArray⟩, Lib.hasSuffix a0.data.toList a1.data.toList) else none
theorem strings_CutSuffix.calls (a0 a1 : ByteArray) (r1 : ByteArray) (r2 : Bool) (w : World) (h : strings_CutSuffix.f a0 a1 = some (r1, r2)) :
    Calls Tryd.prog 17 #[.string a0, .string a1] w fun e w' => e = .returned (.tuple #[.string r1, .bool r2]) ∧ Drawn0 w w' := by
  unfold strings_CutSuffix.f at h
  by_cases c0 : a0.size ≤ 9223372036854775807
  · rw [if_pos c0] at h
    have h := Option.some.inj h
    refine (Any.strings_CutSuffix Tryd.lays104 a0 a1 w c0).mono ?_
    rintro e w' ⟨he, hw⟩
    rw [Prod.mk.injEq] at h
    obtain ⟨h1, h2⟩ := h
    rw [h1, h2] at he
    exact ⟨he, 0, hw⟩
  · rw [if_neg c0] at h
    exact absurd h (by simp)

end Go.Proofs.YtgbfbnlmnodpaaaDoor.PA
