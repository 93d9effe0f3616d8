/- The program's MoveStone answers what the reference's MoveStone answers, at all lists of corners and all numbers; no condition. -/
import Derived.Test.YtdklfcanifmnpaaStonesKit
import Derived.Test.YtdklfcanifmnpaaPAxf8
namespace Go.Proofs.Ytdklfcanifmnpaa.Pure
set_option linter.unusedSimpArgs false
set_option linter.unusedVariables false
open Go.RowKit Go.Proofs.Ytdklfcanifmnpaa.PA Go.Proofs.Ytdklfcanifmnpaa.Base Go.Proofs.Ytdklfcanifmnpaa.StonesKit Go.Proofs.YtdklfcanifmnpaaW.PrintWords Go.Proofs.YtdklfcanifmnpaaW.PrintLast Go.Proofs.YtdklfcanifmnpaaW.PrintMore

def mv (a b : Int) (c : S56) : S56 := ⟨IntKind.i16.wrap (c.f0 + IntKind.i16.wrap a), IntKind.i16.wrap (c.f1 + IntKind.i16.wrap b)⟩
theorem mv_fit (a b : Int) (c : S56) : (-32768 ≤ (mv a b c).f0 ∧ (mv a b c).f0 ≤ 32767) ∧ (-32768 ≤ (mv a b c).f1 ∧ (mv a b c).f1 ≤ 32767) := by
  unfold mv; simp only [w16_def]; omega
def mvF (a b : Int) (_ : Int) (c : S56) (s : List S56) : (List S56 × Int) ⊕ List S56 := if placed (mv a b c) = true then .inr (s ++ [mv a b c]) else .inl ([], 3)
def moved (l : List S56) (a b : Int) : List S56 × Int := scanG (mvF a b) (fun s => (s, 0)) l 0 []
def res (l : List S56) (a b : Int) : List S56 × Int := if okS l then (if inB a (-1000) 1000 && inB b (-1000) 1000 then moved l a b else ([], 2)) else ([], 1)
theorem moved_length (a b : Int) : ∀ (xs : List S56) (i : Int) (s : List S56), (scanG (mvF a b) (fun s => (s, (0 : Int))) xs i s).1.length ≤ s.length + xs.length
  | [], i, s => by simp [scanG]
  | x :: xs, i, s => by
    by_cases e : placed (mv a b x) = true
    · have he : mvF a b i x s = .inr (s ++ [mv a b x]) := by unfold mvF; rw [if_pos e]
      have := moved_length a b xs (i + 1) (s ++ [mv a b x])
      rw [scanG, he]
      simp at this ⊢; omega
    · have he : mvF a b i x s = .inl ([], 3) := by unfold mvF; rw [if_neg e]
      rw [scanG, he]; simp
theorem res_length (l : List S56) (a b : Int) (h : l.length ≤ 1048576) : (res l a b).1.length ≤ 1048576 := by
  unfold res
  split
  · split
    · have := moved_length a b l 0 []; unfold moved; simp at this; omega
    · simp
  · simp
theorem specMv (l : List S56) (a b : Int) (hl : l.length ≤ 1048576) : Ev (fun k => spec_MoveStone.l0 k l a b [] 0) (moved l a b) := by
  unfold moved
  refine scan_ev0 l (mvF a b) (fun s => (s, 0)) (fun k s i => spec_MoveStone.l0 k l a b s i) (fun i s => s.length ≤ i) [] (by simp) (fun s i h s' hi e => ?_) (fun s i h r hi h1 h2 => ?_) (fun s _ => ?_)
  · unfold mvF at e; split at e
    · cases e; simp; omega
    · cases e
  · have ha := w64 (x := (i : Int) + 1) (by omega) (by omega)
    refine Ev.step (fun k => by rw [spec_MoveStone.l0]) (Ev.pos (by omega) (Ev.pos (by omega) ?_))
    rw [rdC l i h, ha]
    refine Ev.nobind (specCorner (mv_fit a b l[i])) ?_
    unfold mvF at h1 h2
    refine Ev.ite (fun e => Ev.pos (by omega) ?_) (fun e => Ev.fin (h1 _ (by rw [if_neg e])))
    exact h2 _ (by rw [if_pos e]; rfl) (by simp; omega)
  · refine Ev.step (fun k => by rw [spec_MoveStone.l0]) ?_
    exact Ev.neg (by omega) (Ev.fin rfl)
theorem implMv (l : List S56) (a b : Int) (hl : l.length ≤ 1048576) : Ev (fun k => impl_MoveStone.l0 k a b [] l (l.length : Int) 0) (moved l a b) := by
  unfold moved
  refine scan_ev0 l (mvF a b) (fun s => (s, 0)) (fun k s i => impl_MoveStone.l0 k a b s l (l.length : Int) i) (fun i s => s.length ≤ i) [] (by simp) (fun s i h s' hi e => ?_) (fun s i h r hi h1 h2 => ?_) (fun s _ => ?_)
  · unfold mvF at e; split at e
    · cases e; simp; omega
    · cases e
  · have ha := w64 (x := (i : Int) + 1) (by omega) (by omega)
    refine Ev.step (fun k => by rw [impl_MoveStone.l0]) (Ev.pos (by omega) (Ev.pos (by omega) (Ev.pos (by omega) ?_)))
    rw [rdC l i h, ha]
    refine Ev.nobind (implPlaced (mv_fit a b l[i])) ?_
    unfold mvF at h1 h2
    refine Ev.ite (fun e => Ev.pos (by omega) ?_) (fun e => Ev.fin (h1 _ (by rw [if_neg e])))
    exact h2 _ (by rw [if_pos e]; rfl) (by simp; omega)
  · refine Ev.step (fun k => by rw [impl_MoveStone.l0]) ?_
    exact Ev.neg (by omega) (Ev.fin rfl)
theorem specRes {l : List S56} (hf : Fit l) (a b : Int) (hl : l.length ≤ 1048576) : Ev (fun k => spec_MoveStone.f k l a b) (res l a b) := by
  unfold spec_MoveStone.f res
  have bad : Ev (fun k => spec_MoveStone.j0 k l a b true) ([], 2) := by
    refine Ev.step (fun k => by rw [spec_MoveStone.j0]) ?_
    exact Ev.pos rfl (Ev.fin rfl)
  refine Ev.bind (specOk hf) ?_
  cases okS l with
  | false => exact Ev.neg (by simp) (Ev.fin rfl)
  | true =>
    refine Ev.pos rfl (Ev.nobind (specPlace a) ?_)
    cases inB a (-1000) 1000 with
    | false => exact Ev.neg (by simp) bad
    | true =>
      refine Ev.pos rfl (Ev.nobind (specPlace b) ?_)
      cases inB b (-1000) 1000 with
      | false => exact bad
      | true =>
        refine Ev.step (fun k => by rw [spec_MoveStone.j0]) ?_
        exact Ev.neg (by simp) (specMv l a b hl)
theorem implRes {l : List S56} (hf : Fit l) (a b : Int) (hl : l.length ≤ 1048576) : Ev (fun k => impl_MoveStone.f k l a b) (res l a b) := by
  unfold impl_MoveStone.f res
  have bad : ∀ c : Int, c ≠ 0 → Ev (fun k => impl_MoveStone.j0 k l a b c) ([], c) := by
    intro c hc
    refine Ev.step (fun k => by rw [impl_MoveStone.j0]) ?_
    exact Ev.neg hc (Ev.fin rfl)
  refine Ev.bind (implOk hf) (Ev.nobind (implIn a _ _) ?_)
  cases inB a (-1000) 1000 with
  | false =>
    refine Ev.neg (by simp) (Ev.nobind (codeOf _ _) ?_)
    cases okS l with
    | false => exact bad 1 (by decide)
    | true => exact bad 2 (by decide)
  | true =>
    refine Ev.pos rfl (Ev.nobind (implIn b _ _) (Ev.nobind (codeOf _ _) ?_))
    cases okS l with
    | false => exact bad 1 (by decide)
    | true =>
      cases inB b (-1000) 1000 with
      | false => exact bad 2 (by decide)
      | true =>
        refine Ev.step (fun k => by rw [impl_MoveStone.j0]) ?_
        exact Ev.pos rfl (implMv l a b hl)
theorem FnExactMoveStone : laws_FnExactMoveStone.Pure := by
  intro l0 a1 a2 w0 w1 w2
  have hf := fit_of w0
  refine Ev.rounds (g := fun k => laws_FnExactMoveStone.f k l0 a1 a2) ?_
  unfold laws_FnExactMoveStone.f
  refine Ev.nobind (szStone l0 w0.1) (Ev.ite (fun _ => Ev.fin rfl) (fun h0 => ?_))
  have hl : l0.length ≤ 1048576 := by split at h0 <;> omega
  have t0 := toStone l0 hl
  have hj := res_length (l0.map conv) a1 a2 (by simpa using hl)
  have hs := specRes hf a1 a2 (by simpa using hl)
  have hi := implRes hf a1 a2 (by simpa using hl)
  have hm : (l0.map conv).length ≤ 1048576 := by simpa using hl
  generalize l0.map conv = l at t0 hs hi hj hm
  generalize res l a1 a2 = v at hj hs hi
  have hq := eqStone v.1 hj
  refine Ev.bind t0 (Ev.bind hs (Ev.bind t0 (Ev.bind hi (Ev.bind hq (Ev.pos rfl ?_)))))
  refine Ev.step (fun k => by rw [laws_FnExactMoveStone.j0]) ?_
  refine Ev.neg (by simp) (Ev.bind t0 (Ev.bind (eqStone l hm) (Ev.pos rfl ?_)))
  refine Ev.bind (markStone l hm) (Ev.neg (by show ¬ (1 + 2 * (l.length : Int) < 0); omega) (Ev.bind hq (Ev.pos rfl ?_)))
  refine Ev.step (fun k => by rw [laws_FnExactMoveStone.j1]) ?_
  refine Ev.neg (by simp) ?_
  refine Ev.bind (markStone v.1 hj) (Ev.bind (heldStone v.1.length hj) ?_)
  refine Ev.neg (by omega) (Ev.pos rfl ?_)
  refine Ev.bind t0 (Ev.bind hi (Ev.bind hq (Ev.pos rfl ?_)))
  refine Ev.step (fun k => by rw [laws_FnExactMoveStone.j2]) ?_
  refine Ev.neg (by simp) (Ev.bind (heldStone v.1.length hj) ?_)
  refine Ev.neg (by omega) ?_
  exact Ev.pos rfl (Ev.fin rfl)

end Go.Proofs.Ytdklfcanifmnpaa.Pure
