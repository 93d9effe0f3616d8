/- Seams of stones: what the reference's and the program's functions come to. -/
import Derived.Test.YtgefjglbaekegaaStonesAll
import Derived.Test.YtgefjglbaekegaaGeoAll
import Derived.Test.YtgefjglbaekegaaLoopsAll
import Derived.Test.YtgefjglbaekegaaPAxf16
import Derived.Test.YtgefjglbaekegaaPAxf24
import Derived.Test.YtgefjglbaekegaaPAxgMM
namespace Go.Proofs.Ytgefjglbaekegaa.SeamKit
set_option linter.unusedSimpArgs false
set_option linter.unusedVariables false
open Go.RowKit Go.Proofs.Ytgefjglbaekegaa.PA Go.Proofs.Ytgefjglbaekegaa.Base Go.Proofs.Ytgefjglbaekegaa.StonesKit Go.Proofs.Ytgefjglbaekegaa.Geo Go.Proofs.YtgefjglbaekegaaW.PrintWords Go.Proofs.YtgefjglbaekegaaW.PrintLast Go.Proofs.YtgefjglbaekegaaW.PrintMore

theorem specMin (x y : Int) : spec_l00Min.f x y = some (min x y) := by
  unfold spec_l00Min.f
  by_cases c : x < y
  · rw [if_pos c]; congr 1; omega
  · rw [if_neg c]; congr 1; omega
theorem specMax (x y : Int) : spec_l00Max.f x y = some (max x y) := by
  unfold spec_l00Max.f
  by_cases c : x > y
  · rw [if_pos c]; congr 1; omega
  · rw [if_neg c]; congr 1; omega
theorem sm_range {a : S37} (h : Sm a) : (-1000 ≤ a.f0 ∧ a.f0 ≤ 1000) ∧ (-1000 ≤ a.f1 ∧ a.f1 ≤ 1000) := h
theorem sd_cr {p q c : S37} (hp : Sm p) (hq : Sm q) (hc : Sm c) : sd p q c = cr p q c := by
  unfold Sm at hp hq hc
  have h1 := prod_small (a := q.f0 - p.f0) (b := c.f1 - p.f1) (by omega) (by omega)
  have h2 := prod_small (a := q.f1 - p.f1) (b := c.f0 - p.f0) (by omega) (by omega)
  unfold sd impl_side.f cr
  rw [Option.getD_some, w64 (x := p.f0) (by omega) (by omega), w64 (x := p.f1) (by omega) (by omega), w64 (x := q.f0) (by omega) (by omega), w64 (x := q.f1) (by omega) (by omega), w64 (x := c.f0) (by omega) (by omega), w64 (x := c.f1) (by omega) (by omega),
    w64 (x := q.f0 - p.f0) (by omega) (by omega), w64 (x := c.f1 - p.f1) (by omega) (by omega), w64 (x := q.f1 - p.f1) (by omega) (by omega), w64 (x := c.f0 - p.f0) (by omega) (by omega), w64 (x := (q.f0 - p.f0) * (c.f1 - p.f1)) (by omega) (by omega), w64 (x := (q.f1 - p.f1) * (c.f0 - p.f0)) (by omega) (by omega), w64 (by omega) (by omega)]
theorem implLess (a b : S37) : impl_cornerLess.f a.f0 a.f1 b.f0 b.f1 = some (lt a b) := by
  unfold impl_cornerLess.f lt
  by_cases c : a.f0 < b.f0
  · rw [if_pos c, decide_eq_true c]; rfl
  · rw [if_neg c, decide_eq_false c]
    by_cases d : a.f0 = b.f0
    · rw [if_pos d, decide_eq_true d]; rfl
    · rw [if_neg d, decide_eq_false d]; rfl
/-! ### the program's way -/
/-! ### the reference's way -/
theorem specBetween {c u v : S37} (hc : Sm c) (hu : Sm u) (hv : Sm v) : spec_l03Between.f c.f0 c.f1 u.f0 u.f1 v.f0 v.f1 = some (decide (Box c u v)) := by
  unfold Sm at hc hu hv
  unfold spec_l03Between.f
  rw [w64 (x := c.f0) (by omega) (by omega), w64 (x := c.f1) (by omega) (by omega), w64 (x := u.f0) (by omega) (by omega), w64 (x := u.f1) (by omega) (by omega), w64 (x := v.f0) (by omega) (by omega), w64 (x := v.f1) (by omega) (by omega)]
  simp only [specMin, specMax, specIn, Option.bind_some]
  by_cases c0 : inB c.f0 (min u.f0 v.f0) (max u.f0 v.f0) = true
  · rw [if_pos c0]
    rw [inB_iff] at c0
    congr 1
    rw [Bool.eq_iff_iff, inB_iff, decide_eq_true_eq]
    exact ⟨fun h => (⟨c0, h⟩ : Box c u v), fun h => h.2⟩
  · rw [if_neg c0]
    congr 1
    rw [inB_iff] at c0
    exact (decide_eq_false (fun h : Box c u v => c0 h.1)).symm
/-! ### stones -/
end Go.Proofs.Ytgefjglbaekegaa.SeamKit
