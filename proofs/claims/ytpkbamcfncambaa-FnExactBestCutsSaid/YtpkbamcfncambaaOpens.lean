/- How arguments that are rows of structs, or rows of rows, read as lists. -/
import Derived.Test.YtpkbamcfncambaaWWords
import Derived.Test.YtpkbamcfncambaaWMore
import Derived.Deep.Slices
import Derived.ChangeSame
namespace Go.Proofs.Ytpkbamcfncambaa.Opens
open Go.Proofs.YtpkbamcfncambaaW Go.Deep Go.ChangeShapes Go.RowKit Go.Proofs.YtpkbamcfncambaaW.PrintWords Go.Proofs.YtpkbamcfncambaaW.PrintLast Go.Proofs.YtpkbamcfncambaaW.PrintMore
variable {H : Type} {enc : TypeId × Value → H} {P : Program} {W : World}

/-- What lies at a place of type e reads as a value of the kind d. -/
def Opn {H : Type} (enc : TypeId × Value → H) (P : Program) (W : World) (e : TypeId) {α : Type} (d : Kd α) (wf : α → Prop) : Prop :=
  ∀ fuel cs x, DataW.trod enc P W 0 (fun _ => true) true fuel e cs = some x → ∃ v : α, d.K W v cs ∧ wf v

theorem opn_int {e : TypeId} {k : IntKind} (he : P.underlying e = some (.int k)) : Opn enc P W e (Kd.int k) (fun n => (Lit.int k n).wf = true) := by
  intro fuel cs x h
  cases fuel with
  | zero => simp [DataW.trod] at h
  | succ fuel =>
    unfold DataW.trod at h
    rw [he] at h
    split at h
    all_goals first
      | (rename_i h1; cases h1; split at h
         · rename_i k' n hw; obtain ⟨rfl, hw⟩ := hw; exact ⟨_, rfl, hw⟩
         · cases h)
      | (rename_i h1; cases h1; done)
      | (cases h; done)
      | simp_all
theorem opn_slice {t e : TypeId} {α : Type} {d : Kd α} {wf : α → Prop} (ht : P.underlying t = some (.slice e)) (hc : P.cellsOf e = d.sz) (h : Opn enc P W e d wf) :
    Opn enc P W t (Kd.slice e d) (fun l => l.length ≤ maxLen ∧ ∀ x ∈ l, wf x) := by
  intro fuel cs x hx
  rcases open_slice ht hx with ⟨rfl, _⟩ | ⟨a, len, cap, m, n, D, Pl, rfl, _, hl, hm, hmm, hxe, hel⟩
  · exact ⟨[], ⟨none, 0, rfl, Nat.le_refl _, rfl, by simp, fun h => absurd h (by simp)⟩, by simp, fun x hx => by simp at hx⟩
  · clear hxe
    rw [if_pos rfl] at hmm
    subst hmm
    have each : ∀ i, i < len → ∃ v : α, (∃ cs', W.cells? 0 (a.add (i * P.cellsOf e)) (P.cellsOf e) = some cs' ∧ d.K W v cs') ∧ wf v := by
      intro i hi
      obtain ⟨cs', h1, h2⟩ := hel i (by omega)
      obtain ⟨v, h3, h4⟩ := h n cs' _ h2
      exact ⟨v, ⟨cs', h1, h3⟩, h4⟩
    obtain ⟨l, hll, hlv⟩ : ∃ l : List α, l.length = len ∧ ∀ i (hi : i < l.length), (∃ cs', W.cells? 0 (a.add (i * P.cellsOf e)) (P.cellsOf e) = some cs' ∧ d.K W l[i] cs') ∧ wf l[i] := by
      clear hx hel hl
      induction len with
      | zero => exact ⟨[], rfl, fun i hi => by simp at hi⟩
      | succ q ih =>
        obtain ⟨l, h1, h2⟩ := ih (fun i hi => each i (by omega))
        obtain ⟨v, hv⟩ := each q (by omega)
        refine ⟨l ++ [v], by simp [h1], fun i hi => ?_⟩
        by_cases hq : i < l.length
        · rw [List.getElem_append_left hq]; exact h2 i hq
        · have : i = l.length := by simp at hi; omega
          subst this
          simp only [List.getElem_append_right (Nat.le_refl _), Nat.sub_self, List.getElem_cons_zero]
          rw [h1]; exact hv
    subst hll
    refine ⟨l, ⟨some a, m, rfl, hl, rfl, by unfold maxLen at hm; omega, fun _ => ⟨a, rfl, fun j p hp => ?_⟩⟩, by omega, fun y hy => ?_⟩
    · obtain ⟨hj, rfl⟩ := List.getElem?_eq_some_iff.1 hp
      obtain ⟨⟨cs', h1, h2⟩, _⟩ := hlv j hj
      obtain ⟨_, h4, h5⟩ := World.cells?_some h1
      refine ⟨cs', by rw [h4, hc], h2, fun i u hu => ?_⟩
      have hi : i < P.cellsOf e := by rw [← h4]; exact (List.getElem?_eq_some_iff.1 hu).1
      have := h5 i hi
      rw [hu, hc, PrintWords.add_add] at this
      exact this
    · obtain ⟨i, hi, rfl⟩ := List.getElem_of_mem hy
      exact (hlv i hi).2
/-- A struct's cells, field by field. -/
theorem opn_cells2 {e : TypeId} {f0 f1 : Field} {k0 k1 : IntKind} (he : P.underlying e = some (.struct #[f0, f1])) (hC : P.cellsOf e = 2) (o0 : f0.offset = 0) (o1 : f1.offset = 1) (c0 : P.cellsOf f0.type = 1) (c1 : P.cellsOf f1.type = 1)
    (u0 : P.underlying f0.type = some (.int k0)) (u1 : P.underlying f1.type = some (.int k1)) {fuel : Nat} {cs : List Value} {x : DataW H × List MemPlace} (h : DataW.trod enc P W 0 (fun _ => true) true fuel e cs = some x) :
    ∃ n0 n1, cs = [.int k0 n0, .int k1 n1] ∧ (Lit.int k0 n0).wf = true ∧ (Lit.int k1 n1).wf = true := by
  obtain ⟨xs, n, _, _, hl, hlen, hf⟩ := DataW.trod_struct he h
  match xs, hlen, cs, hl.trans hC with
  | [y0, y1], _, [v0, v1], _ =>
    have g0 := hf 0 f0 rfl
    have g1 := hf 1 f1 rfl
    simp [o0, o1, c0, c1] at g0 g1
    obtain ⟨n0, e0, w0⟩ := opn_int u0 _ _ _ g0
    obtain ⟨n1, e1, w1⟩ := opn_int u1 _ _ _ g1
    cases e0; cases e1
    exact ⟨n0, n1, rfl, w0, w1⟩
theorem opn_cells3 {e : TypeId} {f0 f1 f2 : Field} {k0 k1 k2 : IntKind} (he : P.underlying e = some (.struct #[f0, f1, f2])) (hC : P.cellsOf e = 3) (o0 : f0.offset = 0) (o1 : f1.offset = 1) (o2 : f2.offset = 2) (c0 : P.cellsOf f0.type = 1) (c1 : P.cellsOf f1.type = 1) (c2 : P.cellsOf f2.type = 1)
    (u0 : P.underlying f0.type = some (.int k0)) (u1 : P.underlying f1.type = some (.int k1)) (u2 : P.underlying f2.type = some (.int k2)) {fuel : Nat} {cs : List Value} {x : DataW H × List MemPlace} (h : DataW.trod enc P W 0 (fun _ => true) true fuel e cs = some x) :
    ∃ n0 n1 n2, cs = [.int k0 n0, .int k1 n1, .int k2 n2] ∧ (Lit.int k0 n0).wf = true ∧ (Lit.int k1 n1).wf = true ∧ (Lit.int k2 n2).wf = true := by
  obtain ⟨xs, n, _, _, hl, hlen, hf⟩ := DataW.trod_struct he h
  match xs, hlen, cs, hl.trans hC with
  | [y0, y1, y2], _, [v0, v1, v2], _ =>
    have g0 := hf 0 f0 rfl
    have g1 := hf 1 f1 rfl
    have g2 := hf 2 f2 rfl
    simp [o0, o1, o2, c0, c1, c2] at g0 g1 g2
    obtain ⟨n0, e0, w0⟩ := opn_int u0 _ _ _ g0
    obtain ⟨n1, e1, w1⟩ := opn_int u1 _ _ _ g1
    obtain ⟨n2, e2, w2⟩ := opn_int u2 _ _ _ g2
    cases e0; cases e1; cases e2
    exact ⟨n0, n1, n2, rfl, w0, w1, w2⟩
theorem opn_cells4 {e : TypeId} {f0 f1 f2 f3 : Field} {k0 k1 k2 k3 : IntKind} (he : P.underlying e = some (.struct #[f0, f1, f2, f3])) (hC : P.cellsOf e = 4) (o0 : f0.offset = 0) (o1 : f1.offset = 1) (o2 : f2.offset = 2) (o3 : f3.offset = 3) (c0 : P.cellsOf f0.type = 1) (c1 : P.cellsOf f1.type = 1) (c2 : P.cellsOf f2.type = 1) (c3 : P.cellsOf f3.type = 1)
    (u0 : P.underlying f0.type = some (.int k0)) (u1 : P.underlying f1.type = some (.int k1)) (u2 : P.underlying f2.type = some (.int k2)) (u3 : P.underlying f3.type = some (.int k3)) {fuel : Nat} {cs : List Value} {x : DataW H × List MemPlace} (h : DataW.trod enc P W 0 (fun _ => true) true fuel e cs = some x) :
    ∃ n0 n1 n2 n3, cs = [.int k0 n0, .int k1 n1, .int k2 n2, .int k3 n3] ∧ (Lit.int k0 n0).wf = true ∧ (Lit.int k1 n1).wf = true ∧ (Lit.int k2 n2).wf = true ∧ (Lit.int k3 n3).wf = true := by
  obtain ⟨xs, n, _, _, hl, hlen, hf⟩ := DataW.trod_struct he h
  match xs, hlen, cs, hl.trans hC with
  | [y0, y1, y2, y3], _, [v0, v1, v2, v3], _ =>
    have g0 := hf 0 f0 rfl
    have g1 := hf 1 f1 rfl
    have g2 := hf 2 f2 rfl
    have g3 := hf 3 f3 rfl
    simp [o0, o1, o2, o3, c0, c1, c2, c3] at g0 g1 g2 g3
    obtain ⟨n0, e0, w0⟩ := opn_int u0 _ _ _ g0
    obtain ⟨n1, e1, w1⟩ := opn_int u1 _ _ _ g1
    obtain ⟨n2, e2, w2⟩ := opn_int u2 _ _ _ g2
    obtain ⟨n3, e3, w3⟩ := opn_int u3 _ _ _ g3
    cases e0; cases e1; cases e2; cases e3
    exact ⟨n0, n1, n2, n3, rfl, w0, w1, w2, w3⟩
end Go.Proofs.Ytpkbamcfncambaa.Opens
