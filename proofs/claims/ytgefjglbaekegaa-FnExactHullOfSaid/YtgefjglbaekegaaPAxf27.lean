/- Written by a program of this session out of the translation: pure functions, and that Go's functions come to them. -/
import Derived.Test.YtgefjglbaekegaaPAx0
import Derived.Test.YtgefjglbaekegaaPAxf22
namespace Go.Proofs.Ytgefjglbaekegaa.PA
open Go.RowKit Go.Proofs.YtgefjglbaekegaaW.PrintWords Go.Proofs.YtgefjglbaekegaaW.PrintLast Go.Proofs.YtgefjglbaekegaaW.PrintMore
attribute [local go_sem] max2_int min2_int max_two min_two max_three min_three max_four min_four   -- for this text's walks alone
set_option linter.unusedVariables false
set_option linter.unusedSimpArgs false

/-! ### impl_Corner_27: function 27 -/
def impl_Corner_27.f (l0 : List (S37)) : Option (List (S37)) := if l0.length < 1048576 then some l0.reverse else none
theorem impl_Corner_27.calls (P0_ : Nat → Prop) (u9000_ : Value) (l0 : List (S37)) (r : List (S37)) (w0 w : World) (hB : Below w0.heap.size w0 w) (ho0 : Kd.R k37 37 w w0.heap.size P0_ u9000_ l0) (h : impl_Corner_27.f l0 = some r) :
    Calls Try.prog 27 #[u9000_] w fun e w' => e = .returned (.tuple #[]) ∧ Kd.R k37 37 w' w0.heap.size (fun k_ => (P0_ k_ ∨ w.heap.size ≤ k_)) u9000_ r ∧ Below w0.heap.size w0 w' ∧ Kept w w' (fun k_ => P0_ k_) := by
  unfold impl_Corner_27.f at h
  by_cases hl : l0.length < 1048576
  rotate_left
  · rw [if_neg hl] at h; exact absurd h (by simp)
  rw [if_pos hl] at h
  obtain rfl := Option.some.inj h
  by_cases hne : l0 = []
  · subst hne
    obtain ⟨A, c, e⟩ := Kd.R_slice ho0
    subst e
    refine (AnyQ.slices_Reverse_empty Try.revC A c w).mono ?_
    rintro e w' ⟨rfl, rfl⟩
    exact ⟨rfl, Kd.R_mono ho0 (fun k_ hk => .inl hk), hB, Kept.refl _ _⟩
  · have hp : 0 < l0.length := List.length_pos_iff.2 hne
    obtain ⟨g, cap, e, hg, hgl, _⟩ := Kd.R_form ho0 hp
    subst e
    have hP : P0_ g := ho0.1 g rfl
    have key := AnyQ.slices_Reverse Try.revC 2 Try.isAgg37 Try.sizeOf37 CS.enc CS.enc_len CS.enc_one g 0 cap l0.toArray w (CS.holds ho0) (by simp; omega)
    have hsz : l0.toArray.size = l0.length := by simp
    rw [hsz] at key
    refine key.mono ?_
    rintro e w' ⟨rfl, q, rfl⟩
    have hm : l0.toArray.reverse = l0.reverse.toArray := by simp
    rw [hm]
    have e2 : Sort.putRowK CS.enc 2 (Sort.ahead w q) g 0 l0.reverse.toArray = sortWorldK CS.enc 2 w g 0 q l0.reverse.toArray #[] := by
      unfold sortWorldK; rw [Sort.grow_empty]
    rw [e2]
    obtain ⟨h1, h2⟩ := CS.back (q := q) (os := #[]) (ys := l0.reverse) ho0 List.length_reverse
    exact ⟨rfl, Kd.R_mono h1 (fun k_ hk => .inl hk), hB.grown h2 (below_size hB) (fun k_ e_ => by injection e_ with e_; rw [← e_]; exact hg), Kept.of_grown (S := fun k_ => P0_ k_) h2 (Kept.refl _ _) (fun k_ e_ => by injection e_ with e_; rw [← e_]; exact .inl hP)⟩

end Go.Proofs.Ytgefjglbaekegaa.PA
