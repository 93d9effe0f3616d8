/- Written by a program of this session out of the translation: pure functions, and that Go's functions come to them. -/
import Derived.Test.YtgbfbnlmnodpaaaDoorPAx0
namespace Go.Proofs.YtgbfbnlmnodpaaaDoor.PA
open Go.RowKit Go.Proofs.YtgbfbnlmnodpaaaDoorW.PrintWords Go.Proofs.YtgbfbnlmnodpaaaDoorW.PrintLast Go.Proofs.YtgbfbnlmnodpaaaDoorW.PrintMore
attribute [local go_sem] max2_int min2_int max_two min_two max_three min_three max_four min_four   -- for this text's walks alone
set_option linter.unusedVariables false
set_option linter.unusedSimpArgs false

/-! ### strings_Cut: function 26 -/
def strings_Cut.f (a0 a1 : ByteArray) : Option (ByteArray × ByteArray × Bool) := if a0.size < 4294967281 then some (⟨(Lib.cut a0.data.toList a1.data.toList).1.toArray⟩, ⟨(Lib.cut a0.data.toList a1.data.toList).2.1.toArray⟩, (Lib.cut a0.data.toList a1.data.toList).2.2) else none
theorem strings_Cut.calls (a0 a1 : ByteArray) (r1 r2 : ByteArray) (r3 : Bool) (w : World) (hT : Tables.TabT w) (h : strings_Cut.f a0 a1 = some (r1, r2, r3)) :
    Calls Tryd.prog 26 #[.string a0, .string a1] w fun e w' => e = .returned (.tuple #[.string r1, .string r2, .bool r3]) ∧ Drawn0 w w' := by
  unfold strings_Cut.f at h
  by_cases c0 : a0.size < 4294967281
  · rw [if_pos c0] at h
    have h := Option.some.inj h
    obtain ⟨m, hm⟩ := hT.mx
    refine (Any.strings_Cut Tryd.lays145 a0 a1 m w c0 hm).mono ?_
    rintro e w' ⟨he, n, hw⟩
    rw [Prod.mk.injEq, Prod.mk.injEq] at h
    obtain ⟨h1, h2, h3⟩ := h
    rw [h1, h2, h3] at he
    exact ⟨he, n, hw⟩
  · rw [if_neg c0] at h
    exact absurd h (by simp)

end Go.Proofs.YtgbfbnlmnodpaaaDoor.PA
