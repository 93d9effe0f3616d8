/- Written by a program of this session out of the translation: pure functions, and that Go's functions come to them. -/
import Derived.Test.YtjkjelfhdhcplaaPAx0
namespace Go.Proofs.Ytjkjelfhdhcplaa.PA
open Go.RowKit Go.Proofs.YtjkjelfhdhcplaaW.PrintWords Go.Proofs.YtjkjelfhdhcplaaW.PrintLast Go.Proofs.YtjkjelfhdhcplaaW.PrintMore
attribute [local go_sem] max2_int min2_int max_two min_two max_three min_three max_four min_four   -- for this text's walks alone
set_option linter.unusedVariables false
set_option linter.unusedSimpArgs false

/-! ### impl_FewestStones_1: function 53 -/
def impl_FewestStones_1.f (fw : List Int) (seam whole n : Int) : Option Bool :=
  if wrap64 (n + seam) ≤ whole then (if 0 ≤ wrap64 (wrap64 (whole - n) - seam) then (if wrap64 (wrap64 (whole - n) - seam) < (fw.length : Int) then (if 0 ≤ whole then (if whole < (fw.length : Int) then some (rd fw (wrap64 (wrap64 (whole - n) - seam)) == wrap64 (rd fw whole - 1)) else none) else none) else none) else none) else some false
set_option maxHeartbeats 1600000 in
set_option maxRecDepth 100000 in
theorem impl_FewestStones_1.calls (fw : List Int) (seam whole n : Int) (gs gw gf : Nat) (A : Option Addr) (c : Nat) (r : Bool) (w : World) (h1 : w.heap[gs]? = some (.cells #[.int .i64 seam] 2 (0, 0))) (h2 : w.heap[gw]? = some (.cells #[.int .i64 whole] 2 (0, 0))) (h3 : w.heap[gf]? = some (.cells #[.slice A fw.length c] 63 (0, 0))) (hr : Kd.C (Kd.int .i64) w A fw.length fw) (h : impl_FewestStones_1.f fw seam whole n = some r) :
    Calls Try.prog 53 #[.int .i64 n, .pointer (some ⟨gs, 0, none⟩), .pointer (some ⟨gw, 0, none⟩), .pointer (some ⟨gf, 0, none⟩)] w fun e w' => e = .returned (.bool r) ∧ Drawn0 w w' := by
  have hS : w.cell? ⟨gs, 0, none⟩ = some (.int .i64 seam) := (blk_cell h1 0).trans rfl
  have hW : w.cell? ⟨gw, 0, none⟩ = some (.int .i64 whole) := (blk_cell h2 0).trans rfl
  have hF : w.cell? ⟨gf, 0, none⟩ = some (.slice A fw.length c) := (blk_cell h3 0).trans rfl
  clear h1 h2 h3
  unfold impl_FewestStones_1.f at h
  by_cases c1 : wrap64 (n + seam) ≤ whole
  · rw [if_pos c1] at h
    by_cases c2 : 0 ≤ wrap64 (wrap64 (whole - n) - seam)
    · rw [if_pos c2] at h
      by_cases c3 : wrap64 (wrap64 (whole - n) - seam) < (fw.length : Int)
      · rw [if_pos c3] at h
        by_cases c4 : 0 ≤ whole
        · rw [if_pos c4] at h
          by_cases c5 : whole < (fw.length : Int)
          · rw [if_pos c5] at h
            obtain rfl := Option.some.inj h
            clear h
            obtain ⟨ad, e1, hx⟩ := Kd.at_int hr _ c2 c3
            obtain ⟨ad', e2, hy⟩ := Kd.at_int hr _ c4 c5
            subst e1
            obtain rfl : ad = ad' := by injection e2
            clear e2 hr
            obtain ⟨ji, hji⟩ : ∃ j_ : Int, wrap64 (wrap64 (whole - n) - seam) = j_ := ⟨_, rfl⟩
            rw [hji] at c2 c3 hx ⊢
            have c1b := decide_eq_true c1
            replace c2 := eq_true c2
            replace c3 := eq_true c3
            replace c4 := eq_true c4
            replace c5 := eq_true c5
            clear c1
            go_enter Try.func53, Try.ntmps53
            go_wp2
            repeat (go_quiet (fail); try go_wp2)
            go_ret
            exact ⟨by first | rfl | (simp; done) | (simp [*]; done), by repeat (first | exact Drawn0.refl _ | apply Drawn0.step)⟩
          · rw [if_neg c5] at h; cases h
        · rw [if_neg c4] at h; cases h
      · rw [if_neg c3] at h; cases h
    · rw [if_neg c2] at h; cases h
  · rw [if_neg c1] at h
    obtain rfl := Option.some.inj h
    clear h
    have c1b : decide (wrap64 (n + seam) ≤ whole) = false := decide_eq_false c1
    clear c1 hr
    go_enter Try.func53, Try.ntmps53
    go_wp2
    repeat (go_quiet (fail); try go_wp2)
    go_ret
    exact ⟨by first | rfl | (simp; done) | (simp [*]; done), by repeat (first | exact Drawn0.refl _ | apply Drawn0.step)⟩

end Go.Proofs.Ytjkjelfhdhcplaa.PA
