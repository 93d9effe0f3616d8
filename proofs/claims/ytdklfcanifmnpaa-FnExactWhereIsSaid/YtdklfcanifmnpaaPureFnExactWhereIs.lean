/- The program's WhereIs answers what the reference's WhereIs answers, at all lists of corners and all numbers; no condition. -/
import Derived.Test.YtdklfcanifmnpaaStonesKit
import Derived.Test.YtdklfcanifmnpaaPAxf7
namespace Go.Proofs.Ytdklfcanifmnpaa.Pure
set_option linter.unusedSimpArgs false
set_option linter.unusedVariables false
open Go.RowKit Go.Proofs.Ytdklfcanifmnpaa.PA Go.Proofs.Ytdklfcanifmnpaa.Base Go.Proofs.Ytdklfcanifmnpaa.StonesKit Go.Proofs.YtdklfcanifmnpaaW.PrintWords Go.Proofs.YtdklfcanifmnpaaW.PrintLast Go.Proofs.YtdklfcanifmnpaaW.PrintMore

def whF (l : List S56) (p : S56) (i : Int) (c : S56) (s : Int) : Int ⊕ Int :=
  if sd c (at_ l ((i.toNat + 1) % l.length)) p < 0 then .inl 0 else if sd c (at_ l ((i.toNat + 1) % l.length)) p = 0 then .inr 1 else .inr s
def wh (l : List S56) (p : S56) : Int := scanG (whF l p) id l 0 2
theorem specWh (l : List S56) (p : S56) (hl : l.length ≤ 1048576) : Ev (fun k => spec_l03Where.f k l p.f0 p.f1) (wh l p) := by
  unfold spec_l03Where.f wh
  refine scan_ev0 l (whF l p) id (fun k s i => spec_l03Where.l0 k l s i p.f0 p.f1) (fun _ _ => True) 2 trivial (fun _ _ _ _ _ _ => trivial) (fun s i h r _ h1 h2 => ?_) (fun s _ => ?_)
  · have hn := nx_lt l i h
    have ht := tm i l.length h hl
    have ha := w64 (x := (i : Int) + 1) (by omega) (by omega)
    refine Ev.step (fun k => by rw [spec_l03Where.l0]) (Ev.pos (by omega) (Ev.pos (by omega) ?_))
    refine Ev.nobind (a := (((i + 1) % l.length : Nat) : Int)) (by unfold spec_l03Next.f; rw [if_neg (by omega), ht]) (Ev.pos (by omega) (Ev.pos (by omega) ?_))
    rw [rdC l i h, rdC', ha]
    refine Ev.nobind (specSide l[i] (l.getD ((i + 1) % l.length) z56) p) ?_
    unfold whF at_ at h1 h2
    rw [Int.toNat_natCast] at h1 h2
    refine Ev.ite (fun e => Ev.fin (h1 0 (by rw [if_pos e]))) (fun e => Ev.ite (fun e2 => ?_) (fun e2 => ?_))
    · exact h2 1 (by rw [if_neg e, if_pos e2]) trivial
    · exact h2 s (by rw [if_neg e, if_neg e2]) trivial
  · refine Ev.step (fun k => by rw [spec_l03Where.l0]) ?_
    exact Ev.neg (by omega) (Ev.fin rfl)
theorem implWh (l : List S56) (p : S56) (hl : l.length ≤ 1048576) : Ev (fun k => impl_Stone_where.f k l p.f0 p.f1) (wh l p) := by
  unfold impl_Stone_where.f wh
  refine scan_ev0 l (whF l p) id (fun k s i => impl_Stone_where.l0 k l s l (l.length : Int) i p.f0 p.f1) (fun _ _ => True) 2 trivial (fun _ _ _ _ _ _ => trivial) (fun s i h r _ h1 h2 => ?_) (fun s _ => ?_)
  · have hn := nx_lt l i h
    have ht := tm i l.length h hl
    have ha := w64 (x := (i : Int) + 1) (by omega) (by omega)
    refine Ev.step (fun k => by rw [impl_Stone_where.l0]) (Ev.pos (by omega) (Ev.pos (by omega) (Ev.pos (by omega) (Ev.neg (by omega) ?_))))
    rw [ht]
    refine Ev.pos (by omega) (Ev.pos (by omega) ?_)
    rw [rdC l i h, rdC', ha]
    refine Ev.nobind (implSide l[i] (l.getD ((i + 1) % l.length) z56) p) ?_
    unfold whF at_ at h1 h2
    rw [Int.toNat_natCast] at h1 h2
    refine Ev.ite (fun e => Ev.fin (h1 0 (by rw [if_pos e]))) (fun e => Ev.ite (fun e2 => ?_) (fun e2 => ?_))
    · exact h2 1 (by rw [if_neg e, if_pos e2]) trivial
    · exact h2 s (by rw [if_neg e, if_neg e2]) trivial
  · refine Ev.step (fun k => by rw [impl_Stone_where.l0]) ?_
    exact Ev.neg (by omega) (Ev.fin rfl)
def wi (l : List S56) (a b : Int) : Int × Int := if okS l then (if inB a (-1000) 1000 && inB b (-1000) 1000 then (wh l ⟨IntKind.i16.wrap a, IntKind.i16.wrap b⟩, 0) else (0, 2)) else (0, 1)
theorem specWi {l : List S56} (hf : Fit l) (a b : Int) (hl : l.length ≤ 1048576) : Ev (fun k => spec_WhereIs.f k l a b) (wi l a b) := by
  unfold spec_WhereIs.f wi
  refine Ev.bind (specOk hf) ?_
  cases okS l with
  | false => exact Ev.neg (by simp) (Ev.fin rfl)
  | true =>
    refine Ev.pos rfl (Ev.nobind (specPlace a) ?_)
    cases inB a (-1000) 1000 with
    | false => exact Ev.neg (by simp) (Ev.fin rfl)
    | true =>
      refine Ev.pos rfl (Ev.nobind (specPlace b) ?_)
      cases inB b (-1000) 1000 with
      | false => exact Ev.neg (by simp) (Ev.fin rfl)
      | true => exact Ev.pos rfl (Ev.bind (specWh l ⟨_, _⟩ hl) (Ev.now _))
theorem implWi {l : List S56} (hf : Fit l) (a b : Int) (hl : l.length ≤ 1048576) : Ev (fun k => impl_WhereIs.f k l a b) (wi l a b) := by
  unfold impl_WhereIs.f wi
  refine Ev.bind (implOk hf) (Ev.nobind (implIn a _ _) ?_)
  cases inB a (-1000) 1000 with
  | false =>
    refine Ev.neg (by simp) (Ev.nobind (codeOf _ _) ?_)
    cases okS l with
    | false => exact Ev.neg (by simp) (Ev.fin rfl)
    | true => exact Ev.neg (by simp) (Ev.fin rfl)
  | true =>
    refine Ev.pos rfl (Ev.nobind (implIn b _ _) (Ev.nobind (codeOf _ _) ?_))
    cases okS l with
    | false => exact Ev.neg (by simp) (Ev.fin rfl)
    | true =>
      cases inB b (-1000) 1000 with
      | false => exact Ev.neg (by simp) (Ev.fin rfl)
      | true => exact Ev.pos (by simp) (Ev.bind (implWh l ⟨_, _⟩ hl) (Ev.now _))
theorem FnExactWhereIs : laws_FnExactWhereIs.Pure := by
  intro l0 a1 a2 w0 w1 w2
  have hf := fit_of w0
  refine Ev.rounds (g := fun k => laws_FnExactWhereIs.f k l0 a1 a2) ?_
  unfold laws_FnExactWhereIs.f
  refine Ev.nobind (szStone l0 w0.1) (Ev.ite (fun _ => Ev.fin rfl) (fun h0 => ?_))
  have hl : l0.length ≤ 1048576 := by split at h0 <;> omega
  have t0 := toStone l0 hl
  refine Ev.bind t0 (Ev.bind (specWi hf a1 a2 (by simpa using hl)) (Ev.bind t0 (Ev.bind (implWi hf a1 a2 (by simpa using hl)) (Ev.pos rfl ?_))))
  refine Ev.step (fun k => by rw [laws_FnExactWhereIs.j0]) ?_
  refine Ev.neg (by simp) (Ev.bind t0 (Ev.bind (eqStone _ (by simpa using hl)) ?_))
  exact Ev.pos rfl (Ev.fin rfl)

end Go.Proofs.Ytdklfcanifmnpaa.Pure
