/- The program's BareTwice answers what the reference's BareTwice answers, at all frames and lists of stones; no condition. -/
import Derived.Test.YtpbneibgngmciaaLayKit
import Derived.Test.YtpbneibgngmciaaPAxf44
import Derived.Test.YtpbneibgngmciaaPAxf45
import Derived.Test.YtpbneibgngmciaaPAxf7
namespace Go.Proofs.Ytpbneibgngmciaa.Pure
set_option linter.unusedSimpArgs false
set_option linter.unusedVariables false
open Go.RowKit Go.Proofs.Ytpbneibgngmciaa.PA Go.Proofs.Ytpbneibgngmciaa.Base Go.Proofs.Ytpbneibgngmciaa.StonesKit Go.Proofs.Ytpbneibgngmciaa.LayKit Go.Proofs.YtpbneibgngmciaaW.PrintWords Go.Proofs.YtpbneibgngmciaaW.PrintLast Go.Proofs.YtpbneibgngmciaaW.PrintMore

theorem areas (l : List S58) (hl : l.length ≤ 1048576) : ∃ r, Ev (fun k => spec_l03Area.f k l) r ∧ Ev (fun k => impl_Stone_area.f k l) r := by
  unfold spec_l03Area.f impl_Stone_area.f
  have key : ∀ (d i : Nat) (s : Int), i + d = l.length → ∃ r, Ev (fun k => spec_l03Area.l0 k l s (i : Int)) r ∧ Ev (fun k => impl_Stone_area.l0 k l s l (l.length : Int) (i : Int)) r := by
    intro d
    induction d with
    | zero =>
      intro i s h
      refine ⟨s, ?_, ?_⟩
      · refine Ev.step (fun k => by rw [spec_l03Area.l0]) ?_
        exact Ev.neg (by omega) (Ev.fin rfl)
      · refine Ev.step (fun k => by rw [impl_Stone_area.l0]) ?_
        exact Ev.neg (by omega) (Ev.fin rfl)
    | succ d ih =>
      intro i s h
      have hi : i < l.length := by omega
      have hn := nx_lt l i hi
      have ht := tm i l.length hi hl
      have hw := w64 (x := (i : Int) + 1) (by omega) (by omega)
      obtain ⟨r, h1, h2⟩ := ih (i + 1) (wrap64 (s + (wrap64 ((wrap64 ((wrap64 ((rd_T58 l (i : Int)).f0)) * (wrap64 ((rd_T58 l (((i + 1) % l.length : Nat) : Int)).f1)))) - (wrap64 ((wrap64 ((rd_T58 l (((i + 1) % l.length : Nat) : Int)).f0)) * (wrap64 ((rd_T58 l (i : Int)).f1)))))))) (by omega)
      refine ⟨r, ?_, ?_⟩
      · refine Ev.step (fun k => by rw [spec_l03Area.l0]) (Ev.pos (by omega) ?_)
        refine Ev.nobind (a := (((i + 1) % l.length : Nat) : Int)) (by unfold spec_l03Next.f; rw [if_neg (by omega), ht]) (Ev.pos (by omega) (Ev.pos (by omega) (Ev.pos (by omega) ?_)))
        rw [hw]; exact h1
      · refine Ev.step (fun k => by rw [impl_Stone_area.l0]) (Ev.pos (by omega) (Ev.pos (by omega) (Ev.pos (by omega) (Ev.neg (by omega) ?_))))
        rw [ht, hw]
        exact Ev.pos (by omega) (Ev.pos (by omega) h2)
  exact key l.length 0 0 (by omega)
theorem both {a b : Int} (h : F16 a b) {ls : List (List S58)} (hf : FitL ls) : ∃ r, Ev (fun k => spec_BareTwice.f k a b ls) r ∧ Ev (fun k => impl_BareTwice.f k a b ls) r := by
  unfold spec_BareTwice.f impl_BareTwice.f
  have hl := hf.len
  obtain ⟨v, hs, hm⟩ := lays h hf
  have key : ∀ (d i : Nat) (s : Int), i + d = ls.length → ∃ r, Ev (fun k => spec_BareTwice.l0 k ls s (i : Int)) r ∧ Ev (fun k => impl_BareTwice.l0 k s ls (ls.length : Int) (i : Int)) r := by
    intro d
    induction d with
    | zero =>
      intro i s h
      refine ⟨(s, 0), ?_, ?_⟩
      · refine Ev.step (fun k => by rw [spec_BareTwice.l0]) ?_
        exact Ev.neg (by omega) (Ev.fin rfl)
      · refine Ev.step (fun k => by rw [impl_BareTwice.l0]) ?_
        exact Ev.neg (by omega) (Ev.fin rfl)
    | succ d ih =>
      intro i s h
      have hi : i < ls.length := by omega
      have hw := w64 (x := (i : Int) + 1) (by omega) (by omega)
      obtain ⟨q, q1, q2⟩ := areas (ls.getD i []) (hf.at hi).2
      obtain ⟨r, h1, h2⟩ := ih (i + 1) (wrap64 (s - q)) (by omega)
      refine ⟨r, ?_, ?_⟩
      · refine Ev.step (fun k => by rw [spec_BareTwice.l0]) (Ev.pos (by omega) (Ev.pos (by omega) ?_))
        rw [rdS ls i, hw]
        exact Ev.bind q1 h1
      · refine Ev.step (fun k => by rw [impl_BareTwice.l0]) (Ev.pos (by omega) (Ev.pos (by omega) (Ev.pos (by omega) ?_)))
        rw [rdS ls i, hw]
        exact Ev.bind q2 h2
  cases v with
  | false => exact ⟨(0, 1), Ev.bind hs (Ev.neg (by decide) (Ev.fin rfl)), Ev.bind hm (Ev.neg (by decide) (Ev.fin rfl))⟩
  | true =>
    obtain ⟨r, h1, h2⟩ := key ls.length 0 (wrap64 ((wrap64 (2 * (wrap64 (a)))) * (wrap64 (b)))) (by omega)
    exact ⟨r, Ev.bind hs (Ev.pos rfl h1), Ev.bind hm (Ev.pos rfl h2)⟩
theorem FnExactBareTwice : laws_FnExactBareTwice.Pure := by
  intro a b l1 wa wb w1
  have h16 := f16_of wa wb
  refine Ev.rounds (g := fun k => laws_FnExactBareTwice.f k a b l1) ?_
  unfold laws_FnExactBareTwice.f
  obtain ⟨v, hv, hv2⟩ := szStones w1
  refine Ev.bind hv (Ev.ite (fun _ => Ev.fin rfl) (fun h0 => ?_))
  have h2 : l1.length ≤ 1048576 ∧ ∀ l ∈ l1, l.length ≤ 1048576 := by
    rcases hv2 with h | h
    · exact absurd h h0
    · exact h
  have hf := fitL_of w1 h2.1 h2.2
  have t0 := toStones h2.1 h2.2
  obtain ⟨r, hs, hi⟩ := both h16 hf
  refine Ev.nobind (a := (a, b)) rfl (Ev.bind t0 (Ev.bind hs (Ev.bind t0 (Ev.nobind (a := (a, b)) rfl (Ev.bind hi (Ev.pos rfl ?_))))))
  refine Ev.step (fun k => by rw [laws_FnExactBareTwice.j0]) ?_
  exact Ev.neg (by simp) (Ev.bind t0 (Ev.bind (eqStones hf) (Ev.pos rfl (Ev.fin rfl))))

end Go.Proofs.Ytpbneibgngmciaa.Pure
