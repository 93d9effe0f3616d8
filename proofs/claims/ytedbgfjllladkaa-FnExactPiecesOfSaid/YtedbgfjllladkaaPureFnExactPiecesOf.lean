/- The program's PiecesOf answers what the reference's PiecesOf answers, at all plates, lists of kinds and of cuts; no condition. -/
import Derived.Test.YtedbgfjllladkaaCutsInts
import Derived.Test.YtedbgfjllladkaaPAxf10
namespace Go.Proofs.Ytedbgfjllladkaa.Pure
set_option linter.unusedSimpArgs false
set_option linter.unusedVariables false
open Go.RowKit Go.Proofs.Ytedbgfjllladkaa.PA Go.Proofs.Ytedbgfjllladkaa.Base Go.Proofs.Ytedbgfjllladkaa.KindsKit Go.Proofs.Ytedbgfjllladkaa.CutsKit Go.Proofs.YtedbgfjllladkaaW.PrintWords Go.Proofs.YtedbgfjllladkaaW.PrintLast Go.Proofs.YtedbgfjllladkaaW.PrintMore

theorem pieces (l : List S75) (hl : l.length ≤ 1048576) (hc : ∀ c ∈ l, okC c) (n : Nat) (hp : ∀ (j : Nat) (h : j < l.length), l[j].f0 = 1 → 0 ≤ l[j].f2 ∧ l[j].f2 < (n : Int)) : ∀ (d i : Nat) (x : List Int), i + d = l.length → x.length = n →
    ∃ R : List Int × Int, Ev (fun k => spec_PiecesOf.l0 k l x (i : Int)) R ∧ Ev (fun k => impl_PiecesOf.l0 k x l (l.length : Int) (i : Int)) R ∧ R.1.length = n
  | 0, i, x, h, hx => by
    refine ⟨(x, 0), ?_, ?_, hx⟩
    · refine Ev.step (fun k => by rw [spec_PiecesOf.l0]) ?_
      exact Ev.neg (by omega) (Ev.fin rfl)
    · refine Ev.step (fun k => by rw [impl_PiecesOf.l0]) ?_
      exact Ev.neg (by omega) (Ev.fin rfl)
  | d + 1, i, x, h, hx => by
    have hi : i < l.length := by omega
    have hC := rdC l i hi
    have wi : Aside0 (wrap64 ((i : Int) + 1) = ((i + 1 : Nat) : Int)) := ⟨w64 (x := (i : Int) + 1) (by omega) (by omega)⟩
    by_cases q : l[i].f0 = 1
    · obtain ⟨p0, p1⟩ := hp i hi q
      obtain ⟨R, e1, e2, e3⟩ := pieces l hl hc n hp d (i + 1) (x.set (l[i].f2 : Int).toNat (wrap64 ((rd x l[i].f2) + 1))) (by omega) (by simpa using hx)
      refine ⟨R, ?_, ?_, e3⟩
      · refine Ev.step (fun k => by rw [spec_PiecesOf.l0]) ?_
        refine Ev.pos (by omega) ?_
        refine Ev.pos (by omega) ?_
        rw [hC, wi.out]
        refine Ev.pos q ?_
        refine Ev.pos p0 ?_
        exact Ev.pos (by omega) e1
      · refine Ev.step (fun k => by rw [impl_PiecesOf.l0]) ?_
        refine Ev.pos (by omega) ?_
        refine Ev.pos (by omega) ?_
        refine Ev.pos (by omega) ?_
        rw [hC, wi.out]
        refine Ev.pos q ?_
        refine Ev.pos p0 ?_
        exact Ev.pos (by omega) e2
    · obtain ⟨R, e1, e2, e3⟩ := pieces l hl hc n hp d (i + 1) x (by omega) hx
      refine ⟨R, ?_, ?_, e3⟩
      · refine Ev.step (fun k => by rw [spec_PiecesOf.l0]) ?_
        refine Ev.pos (by omega) ?_
        refine Ev.pos (by omega) ?_
        rw [hC, wi.out]
        exact Ev.neg q e1
      · refine Ev.step (fun k => by rw [impl_PiecesOf.l0]) ?_
        refine Ev.pos (by omega) ?_
        refine Ev.pos (by omega) ?_
        refine Ev.pos (by omega) ?_
        rw [hC, wi.out]
        exact Ev.neg q e2
theorem bothPiecesOf (p q : Int) (ks : List S57) (l : List S75) (hks : ∀ x ∈ ks, B8 x.f0 ∧ B8 x.f1) (hkl : ks.length ≤ 1048576) (hll : l.length ≤ 1048576) (hc : ∀ c ∈ l, okC c) :
    ∃ R : List Int × Int, Ev (fun k => spec_PiecesOf.f k p q ks l) R ∧ Ev (fun k => impl_PiecesOf.f k p q ks l) R ∧ R.1.length ≤ 1048576 := by
  obtain ⟨r, e1, e2, e3⟩ := sizes p q ks l hks hkl hll hc
  have ev : Ev (fun k => impl_ValidCuts.f k p q ks l) r.2 := by
    unfold impl_ValidCuts.f
    exact Ev.bind e2 (Ev.fin rfl)
  by_cases h : r.2 = true
  · obtain ⟨h1, h2, h3⟩ := e3 h
    have hn : ((ks.length : Int)).toNat = ks.length := Int.toNat_natCast _
    obtain ⟨R, g1, g2, g3⟩ := pieces l hll hc ks.length (fun j hj => h3 j hj (by omega)) l.length 0 (List.replicate ks.length 0) (by omega) (by simp)
    refine ⟨R, ?_, ?_, by omega⟩
    · unfold spec_PiecesOf.f
      refine Ev.bind e1 (Ev.pos h ?_)
      refine Ev.pos (by omega) ?_
      refine Ev.pos (by omega) ?_
      rw [hn]
      exact g1
    · unfold impl_PiecesOf.f
      refine Ev.bind ev (Ev.pos h ?_)
      refine Ev.pos (by omega) ?_
      refine Ev.pos (by omega) ?_
      rw [hn]
      exact g2
  · refine ⟨([], 1), ?_, ?_, by simp⟩
    · unfold spec_PiecesOf.f
      exact Ev.bind e1 (Ev.neg h (Ev.fin rfl))
    · unfold impl_PiecesOf.f
      exact Ev.bind ev (Ev.neg h (Ev.fin rfl))
theorem FnExactPiecesOf : laws_FnExactPiecesOf.Pure := by
  intro a0 a1 l2 l3 u0 u1 u2 u3
  refine Ev.rounds (g := fun k => laws_FnExactPiecesOf.f k a0 a1 l2 l3) ?_
  unfold laws_FnExactPiecesOf.f
  refine Ev.nobind (szKinds l2 u2.1) ?_
  refine Ev.ite (fun _ => Ev.fin rfl) (fun h0 => ?_)
  obtain ⟨hl2, e0⟩ := few l2.length 0 h0
  rw [e0]
  refine Ev.nobind (szCuts l3 _ (by omega) (by omega) u3.1) ?_
  refine Ev.ite (fun _ => Ev.fin rfl) (fun h1 => ?_)
  have hl3 : l3.length ≤ 1048576 := by split at h1 <;> omega
  have tk := toKinds l2 hl2
  have tc := toCuts l3 hl3
  have hk : (l2.map conv).length ≤ 1048576 := by simpa using hl2
  have hc : (l3.map convC).length ≤ 1048576 := by simpa using hl3
  obtain ⟨R, hs, hi, hR⟩ := bothPiecesOf a0 a1 (l2.map conv) (l3.map convC) (okKs l2 u2.2) hk hc (okCs l3 u3.2)
  have hRR : (R.2 != R.2) = false := by simp
  refine Ev.bind tk ?_
  refine Ev.bind tc ?_
  refine Ev.bind hs ?_
  refine Ev.bind tk ?_
  refine Ev.bind tc ?_
  refine Ev.bind hi ?_
  refine Ev.bind (Ev.to (eqInts R.1 R.1 (by omega)) (decide_eq_true rfl)) ?_
  refine Ev.pos rfl ?_
  rw [hRR]
  refine Ev.step (fun k => by rw [laws_FnExactPiecesOf.j0]) ?_
  refine Ev.neg (by decide) ?_
  refine Ev.bind tk ?_
  refine Ev.bind (eqKinds _ hk) ?_
  refine Ev.pos rfl ?_
  refine Ev.bind tc ?_
  refine Ev.bind (eqCuts _ hc) ?_
  refine Ev.pos rfl ?_
  refine Ev.bind (markKinds _ hk) ?_
  refine Ev.bind (markCuts _ hc (1 + 3 * ((l2.map conv).length : Int)) (by omega) (by omega)) ?_
  refine Ev.neg (by show ¬ (1 + 3 * ((l2.map conv).length : Int) + 4 * ((l3.map convC).length : Int)) < 0; omega) ?_
  refine Ev.bind (Ev.to (eqInts R.1 R.1 (by omega)) (decide_eq_true rfl)) ?_
  refine Ev.pos rfl ?_
  rw [hRR]
  refine Ev.step (fun k => by rw [laws_FnExactPiecesOf.j1]) ?_
  refine Ev.neg (by decide) ?_
  refine Ev.bind (markInts R.1 (by omega)) ?_
  refine Ev.bind (heldInts R.1.length (by omega)) ?_
  refine Ev.neg (by show ¬ (1 + (R.1.length : Int) : Int) < 0; omega) ?_
  refine Ev.pos rfl ?_
  refine Ev.bind tk ?_
  refine Ev.bind tc ?_
  refine Ev.bind hi ?_
  refine Ev.bind (Ev.to (eqInts R.1 R.1 (by omega)) (decide_eq_true rfl)) ?_
  refine Ev.pos rfl ?_
  rw [hRR]
  refine Ev.step (fun k => by rw [laws_FnExactPiecesOf.j2]) ?_
  refine Ev.neg (by decide) ?_
  refine Ev.bind (heldInts R.1.length (by omega)) ?_
  refine Ev.neg (by show ¬ (1 + (R.1.length : Int) : Int) < 0; omega) ?_
  exact Ev.pos rfl (Ev.fin rfl)

end Go.Proofs.Ytedbgfjllladkaa.Pure
