/- Written by a program of this session out of the translation: pure functions, and that Go's functions come to them. -/
import Derived.Test.YtdklfcanifmnpaaPAx0
namespace Go.Proofs.Ytdklfcanifmnpaa.PA
open Go.RowKit Go.Proofs.YtdklfcanifmnpaaW.PrintWords Go.Proofs.YtdklfcanifmnpaaW.PrintLast Go.Proofs.YtdklfcanifmnpaaW.PrintMore
attribute [local go_sem] max2_int min2_int max_two min_two max_three min_three max_four min_four   -- for this text's walks alone
set_option linter.unusedVariables false
set_option linter.unusedSimpArgs false

/-! ### impl_Corner_78: function 78 -/
def impl_Corner_78.f (n : Int) : Option (List S56) := if 0 ≤ n then (if n < 1048576 then some [] else none) else none
set_option maxHeartbeats 4000000 in
set_option maxRecDepth 100000 in
theorem impl_Corner_78.calls (n : Int) (r : List S56) (w : World) (h : impl_Corner_78.f n = some r) :
    Calls Try.prog 78 #[.slice none 0 0, .int .i64 n] w fun e w' => ∃ v0_ : Value, e = .returned (v0_) ∧ Kd.R k56 56 w' w.heap.size (fun _ => True) v0_ r ∧ Below w.heap.size w w' := by
  unfold impl_Corner_78.f at h
  by_cases c0 : 0 ≤ n
  · rw [if_pos c0] at h
    by_cases c1 : n < 1048576
    · rw [if_pos c1] at h
      obtain rfl := Option.some.inj h
      clear h
      have b0 : decide (n < 0) = false := decide_eq_false (by omega)
      have b1 : wrap64 n = n := IntWalk.wrap64_in n ⟨by omega, by omega⟩
      replace c0 : 0 ≤ wrap64 n := by omega
      replace c1 : wrap64 n < 1048576 := by omega
      by_cases c2 : 0 < wrap64 n
      · have b2 : decide (0 < wrap64 n) = true := decide_eq_true c2
        have c0' := Aside0.mk c0
        have c1' := Aside0.mk c1
        have c2' := Aside0.mk c2
        clear b1
        obtain ⟨i0, hi0, _, hsz, _⟩ := info_parts info56
        clear c0 c1 c2
        go_enter Try.func78, Try.ntmps78
        go_wp2_with (first | (at_builtin; refine Kd.R_append_zeros k56 (w0 := w) w.heap.size rfl (.tmp 20) (.tmp 21) 32 3 56 (.agg #[.int .i16 0, .int .i16 0]) 4 rfl Try.underlying32 Try.underlying3 info56 rfl (by decide) (by omega) (.slice none 0 0) [] z56 (wrap64 n) (fun _ => True) rfl rfl (k56_mkM _ _ _ z56) (fun _ _ => trivial) (Kd.R_nil _ _ _ _ _) c0'.out (Below.refl _ _) (Nat.le_refl _) (by have := c1'.out; have := c0'.out; simp; omega) ?_; intro v1 w1 ho hb hg hat; clear hg hat; obtain ⟨g, cap, hv, hg1, hg2, hg3⟩ := Kd.R_form ho (by have := c2'.out; simp; omega); subst hv; have hn := (Kd.R_reads' ho).2.1; have HT := Kd.R_take (m := 0) ho (Nat.zero_le _); have hcut := cut_to (P := Try.prog) 32 56 .i64 Try.underlying32 hi0 (some ⟨g, 0, none⟩) _ cap 0 (Int.le_refl _) (Int.natCast_nonneg _) hn; have HT' := Aside0.mk HT; have HB' := Aside0.mk hb; clear ho hb hg1 hg2 hg3 hn HT))
        go_ret
        exact ⟨_, rfl, HT'.out, HB'.out⟩
      · have b2 : decide (0 < wrap64 n) = false := decide_eq_false c2
        clear c0 c1 c2 b1
        go_enter Try.func78, Try.ntmps78
        go_wp2
        go_ret
        exact ⟨_, rfl, Kd.R_nil _ _ _ _ _, Below.refl _ _⟩
    · rw [if_neg c1] at h; exact absurd h (by simp)
  · rw [if_neg c0] at h; exact absurd h (by simp)

end Go.Proofs.Ytdklfcanifmnpaa.PA
