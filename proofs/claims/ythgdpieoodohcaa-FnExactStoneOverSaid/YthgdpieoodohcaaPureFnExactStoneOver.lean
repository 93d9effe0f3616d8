/- The program's StoneOver answers what the reference's StoneOver answers, at all rows and numbers; no condition. -/
import Derived.Test.YthgdpieoodohcaaRowsKit
import Derived.Test.YthgdpieoodohcaaRowsFns
import Derived.Test.YthgdpieoodohcaaPAxf6
namespace Go.Proofs.Ythgdpieoodohcaa.Pure
set_option linter.unusedSimpArgs false
open Go.RowKit Go.Proofs.Ythgdpieoodohcaa.PA Go.Proofs.Ythgdpieoodohcaa.Base Go.Proofs.Ythgdpieoodohcaa.RowsKit Go.Proofs.Ythgdpieoodohcaa.RowsFns Go.Proofs.YthgdpieoodohcaaW.PrintWords Go.Proofs.YthgdpieoodohcaaW.PrintLast

/-- Which stone lies over a place: the loop's step. -/
def soF (a1 a2 : Int) (i x s : Int) : (Int × Int) ⊕ Int := if a2 ≥ s ∧ a2 < wrap64 (s + wrap64 x) then .inl (i, 0) else .inr (wrap64 (s + wrap64 (wrap64 x + a1)))
def so (l : List Int) (a1 a2 : Int) : Int × Int := if askRow l a1 = 0 then scan (soF a1 a2) (fun _ => (0, 6)) l 0 0 else (0, askRow l a1)
theorem specOver {l : List Int} (hf : Fit l) (a1 a2 : Int) (hl : l.length ≤ 9223372036854775806) : Ev (fun k => spec_StoneOver.f k l a1 a2) (so l a1 a2) := by
  unfold spec_StoneOver.f so
  refine Ev.bind (specAsked hf a1) (Ev.ite (fun h => ?_) (fun h => ?_))
  · rw [if_pos h]
    refine scan_loop0 l (soF a1 a2) (fun _ => (0, 6)) (spec_StoneOver.l0 · l a1 a2 · ·) 0 hl (fun k s i h0 h1 => ?_) (fun k s i h1 => ?_)
    · show spec_StoneOver.l0 (k + 1) l a1 a2 s i = _
      rw [spec_StoneOver.l0, if_pos h1, soF]; simp only [if_pos h0]
      by_cases h3 : a2 ≥ s
      · by_cases h4 : a2 < wrap64 (s + wrap64 (rd l i))
        · rw [if_pos h3, if_pos h4, if_pos ⟨h3, h4⟩]
        · rw [if_pos h3, if_neg h4, if_neg (fun h => h4 h.2)]
      · rw [if_neg h3, if_neg (fun h => h3 h.1)]
    · show spec_StoneOver.l0 (k + 1) l a1 a2 s i = _
      rw [spec_StoneOver.l0, if_neg h1]
  · rw [if_neg h]; exact Ev.now _
theorem implOver {l : List Int} (hf : Fit l) (a1 a2 : Int) (hl : l.length ≤ 9223372036854775806) : Ev (fun k => impl_StoneOver.f k l a1 a2) (so l a1 a2) := by
  unfold impl_StoneOver.f so
  refine Ev.nobind (implValid hf) (Ev.nobind (implSeam a1) (Ev.nobind (codeOf _ _) ?_))
  show Ev (fun k => if askRow l a1 = 0 then _ else _) _
  refine Ev.ite (fun h => ?_) (fun h => ?_)
  · rw [if_pos h]
    refine scan_loop0 l (soF a1 a2) (fun _ => (0, 6)) (fun k s i => impl_StoneOver.l0 k a1 a2 s l (l.length : Int) i) 0 hl (fun k s i h0 h1 => ?_) (fun k s i h1 => ?_)
    · show impl_StoneOver.l0 (k + 1) a1 a2 s l (l.length : Int) i = _
      rw [impl_StoneOver.l0, if_pos h1, if_pos h0, if_pos h1, soF]
      by_cases h3 : a2 ≥ s
      · by_cases h4 : a2 < wrap64 (s + wrap64 (rd l i))
        · rw [if_pos h3, if_pos h4, if_pos ⟨h3, h4⟩]
        · rw [if_pos h3, if_neg h4, if_neg (fun h => h4 h.2)]
      · rw [if_neg h3, if_neg (fun h => h3 h.1)]
    · show impl_StoneOver.l0 (k + 1) a1 a2 s l (l.length : Int) i = _
      rw [impl_StoneOver.l0, if_neg h1]
  · rw [if_neg h]; exact Ev.now _
theorem FnExactStoneOver : laws_FnExactStoneOver.Pure := by
  intro l0 a1 a2 m0 b0 w0 w1 w2
  have hf := fit_of w0
  refine Ev.rounds (g := fun k => laws_FnExactStoneOver.f k l0 a1 a2) ?_
  unfold laws_FnExactStoneOver.f
  refine Ev.ite (fun _ => Ev.fin rfl) (fun h0 => ?_)
  have t0 := toRow l0 (by omega)
  refine Ev.bind t0 (Ev.bind (specOver hf a1 a2 (by omega)) (Ev.bind t0 (Ev.bind (implOver hf a1 a2 (by omega)) ?_)))
  refine Ev.pos rfl (Ev.step (fun k => by rw [laws_FnExactStoneOver.j0]) (Ev.neg (by simp) ?_))
  exact Ev.bind t0 (Ev.bind (eqRow l0 l0 (by omega)) (Ev.pos (by simp) (Ev.fin rfl)))

end Go.Proofs.Ythgdpieoodohcaa.Pure
