/- Written by a program of this session out of the translation: pure functions, and that Go's functions come to them. -/
import Derived.Test.YtgbfbnlmnodpaaaDoorPAx0
namespace Go.Proofs.YtgbfbnlmnodpaaaDoor.PA
open Go.RowKit Go.Proofs.YtgbfbnlmnodpaaaDoorW.PrintWords Go.Proofs.YtgbfbnlmnodpaaaDoorW.PrintLast Go.Proofs.YtgbfbnlmnodpaaaDoorW.PrintMore
attribute [local go_sem] max2_int min2_int max_two min_two max_three min_three max_four min_four   -- for this text's walks alone
set_option linter.unusedVariables false
set_option linter.unusedSimpArgs false

/-! ### strings_Split: function 18 -/
def strings_Split.f (a0 a1 : ByteArray) : Option (List ByteArray) := if a0.size < 4294967281 then (if 1 ≤ a1.size then some (Lib.splitB a1 0 (Lib.countB a0 a1) a0) else none) else none
theorem strings_Split.calls (a0 a1 : ByteArray) (r : List ByteArray) (w : World) (hT : Tables.TabT w) (h : strings_Split.f a0 a1 = some r) :
    Calls Tryd.prog 18 #[.string a0, .string a1] w fun e w' => ∃ v0_ : Value, e = .returned (v0_) ∧ Kd.R Kd.string 9 w' w.heap.size (fun _ => True) v0_ r ∧ Below w.heap.size w w' := by
  unfold strings_Split.f at h
  by_cases c0 : a0.size < 4294967281
  · rw [if_pos c0] at h
    by_cases c1 : 1 ≤ a1.size
    · rw [if_pos c1] at h
      obtain rfl := Option.some.inj h
      obtain ⟨m, hm⟩ := hT.mx
      refine (Any.strings_Split Tryd.lays146 (by kernel_rfl) a0 a1 m w c0 hm c1).mono ?_
      rintro e w' ⟨he, rfl⟩
      have hlen := Lib.splitB_all a1 c1 0 (Lib.countB a0 a1) a0 rfl
      refine ⟨_, he, ?_, (Below.refl _ w).alloc (Nat.le_refl _) _⟩
      refine Kd.R_of_own ⟨by simp [encs], .inr ⟨w.heap.size, Lib.countB a0 a1 + 1, _, ?_, Nat.le_refl _, heap_alloc_new w _, ?_, ?_, ?_, ?_⟩⟩ (fun _ _ => trivial)
      · rw [hlen]
      · rw [hlen]; exact Nat.le_refl _
      · have := Lib.countB_le a1 c1 a0.size a0 (Nat.le_refl _)
        unfold maxLen
        omega
      · simp only [List.size_toArray, List.length_map, hlen, Nat.mul_one]
      · simp only [encs]
        exact List.take_of_length_le (by simp)
    · rw [if_neg c1] at h
      exact absurd h (by simp)
  · rw [if_neg c0] at h
    exact absurd h (by simp)

end Go.Proofs.YtgbfbnlmnodpaaaDoor.PA
