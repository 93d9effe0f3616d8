/- Written by a program of this session out of the translation: pure functions, and that Go's functions come to them. -/
import Derived.Test.YtaihombmmdnadaaDoorPAx0
namespace Go.Proofs.YtaihombmmdnadaaDoor.PA
open Go.RowKit Go.Proofs.YtaihombmmdnadaaDoorW.PrintWords Go.Proofs.YtaihombmmdnadaaDoorW.PrintLast Go.Proofs.YtaihombmmdnadaaDoorW.PrintMore
attribute [local go_sem] max2_int min2_int max_two min_two max_three min_three max_four min_four   -- for this text's walks alone
set_option linter.unusedVariables false
set_option linter.unusedSimpArgs false

/-! ### strings_Join: function 22 -/
def strings_Join.f (l0 : List ByteArray) (a1 : ByteArray) : Option ByteArray := if l0.length ≤ 1048576 then (if (Lib.join (l0.map (·.data.toList)) a1.data.toList).length ≤ 140737488355328 then some ⟨(Lib.join (l0.map (·.data.toList)) a1.data.toList).toArray⟩ else none) else none
theorem strings_Join.calls (A0 : Option Addr) (c0 : Nat) (l0 : List ByteArray) (a1 : ByteArray) (r : ByteArray) (w : World) {base : Nat} {ok : Nat → Prop} (hr0 : Kd.R Kd.string 9 w base ok (.slice A0 l0.length c0) l0) (h : strings_Join.f l0 a1 = some r) :
    Calls Tryd.prog 22 #[.slice A0 l0.length c0, .string a1] w fun e w' => e = .returned (.string r) ∧ Below w.heap.size w w' := by
  unfold strings_Join.f at h
  by_cases c1 : l0.length ≤ 1048576
  · rw [if_pos c1] at h
    by_cases c2 : (Lib.join (l0.map (·.data.toList)) a1.data.toList).length ≤ 140737488355328
    · rw [if_pos c2] at h
      obtain rfl := Option.some.inj h
      have hn := (Kd.R_reads' hr0).2.1
      obtain ⟨h1, h2⟩ := Kd.own_of_R hr0
      rcases h2 with ⟨hv, hl⟩ | ⟨g, cap, cur, hv, hb, hg, hn', hc, hs, ht⟩
      · injection hv with e1 e2 e3
        subst e1
        have e0 : l0 = [] := List.eq_nil_of_length_eq_zero hl
        subst e0
        exact (Any.strings_Join_none Tryd.lays156 Tryd.Builder_Extra_156 none c0 a1 w).mono fun e w' ⟨he, hw⟩ => ⟨he, hw ▸ Below.refl _ _⟩
      · injection hv with e1 e2 e3
        subst e1
        have hcells : ∀ (j : Nat) x, l0[j]? = some x → w.cell? ⟨g, 0 + j, none⟩ = some (.string x) := by
          intro j x hx
          have hj : j < l0.length := (List.getElem?_eq_some_iff.1 hx).1
          have := (Kd.R_celln ByteArray.empty hr0 (j : Int) (by omega) (by omega)).1
          rw [Int.toNat_natCast] at this
          rw [Nat.zero_add, this]
          congr 2
          simp only [rdOf, Int.toNat_natCast, List.getD_eq_getElem?_getD, hx, Option.getD_some]
        exact Any.strings_Join Tryd.lays156 Tryd.Builder_Extra_156 g 0 c0 l0 a1 w hcells (blk_lt hg) (by omega) hn c2
    · rw [if_neg c2] at h
      exact absurd h (by simp)
  · rw [if_neg c1] at h
    exact absurd h (by simp)

end Go.Proofs.YtaihombmmdnadaaDoor.PA
