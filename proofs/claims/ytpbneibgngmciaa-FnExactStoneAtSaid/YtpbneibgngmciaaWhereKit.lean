-- cut down by wip/pk/prune.py from the words that the kit's print lays
import Derived.Test.YtpbneibgngmciaaStonesKit
import Derived.Test.YtpbneibgngmciaaPAxf47
import Derived.Test.YtpbneibgngmciaaPAxf52
namespace Go.Proofs.Ytpbneibgngmciaa.WhereKit
set_option linter.unusedSimpArgs false
set_option linter.unusedVariables false
open Go.RowKit Go.Proofs.Ytpbneibgngmciaa.PA Go.Proofs.Ytpbneibgngmciaa.Base Go.Proofs.Ytpbneibgngmciaa.StonesKit Go.Proofs.YtpbneibgngmciaaW.PrintWords Go.Proofs.YtpbneibgngmciaaW.PrintLast Go.Proofs.YtpbneibgngmciaaW.PrintMore
def whF (l : List S58) (p : S58) (i : Int) (c : S58) (s : Int) : Int ⊕ Int :=
  if sd c (at_ l ((i.toNat + 1) % l.length)) p < 0 then .inl 0 else if sd c (at_ l ((i.toNat + 1) % l.length)) p = 0 then .inr 1 else .inr s
def wh (l : List S58) (p : S58) : Int := scanG (whF l p) id l 0 2
theorem specWh (l : List S58) (p : S58) (hl : l.length ≤ 1048576) : Ev (fun k => spec_l03Where.f k l p.f0 p.f1) (wh l p) := by
  unfold spec_l03Where.f wh
  refine scan_ev0 l (whF l p) id (fun k s i => spec_l03Where.l0 k l s i p.f0 p.f1) (fun _ _ => True) 2 trivial (fun _ _ _ _ _ _ => trivial) (fun s i h r _ h1 h2 => ?_) (fun s _ => ?_)
  · have hn := nx_lt l i h
    have ht := tm i l.length h hl
    have ha := w64 (x := (i : Int) + 1) (by omega) (by omega)
    refine Ev.step (fun k => by rw [spec_l03Where.l0]) (Ev.pos (by omega) (Ev.pos (by omega) ?_))
    refine Ev.nobind (a := (((i + 1) % l.length : Nat) : Int)) (by unfold spec_l03Next.f; rw [if_neg (by omega), ht]) (Ev.pos (by omega) (Ev.pos (by omega) ?_))
    rw [rdC l i h, rdC', ha]
    refine Ev.nobind (specSide l[i] (l.getD ((i + 1) % l.length) z58) p) ?_
    unfold whF at_ at h1 h2
    rw [Int.toNat_natCast] at h1 h2
    refine Ev.ite (fun e => Ev.fin (h1 0 (by rw [if_pos e]))) (fun e => Ev.ite (fun e2 => ?_) (fun e2 => ?_))
    · exact h2 1 (by rw [if_neg e, if_pos e2]) trivial
    · exact h2 s (by rw [if_neg e, if_neg e2]) trivial
  · refine Ev.step (fun k => by rw [spec_l03Where.l0]) ?_
    exact Ev.neg (by omega) (Ev.fin rfl)
theorem implWh (l : List S58) (p : S58) (hl : l.length ≤ 1048576) : Ev (fun k => impl_Stone_where.f k l p.f0 p.f1) (wh l p) := by
  unfold impl_Stone_where.f wh
  refine scan_ev0 l (whF l p) id (fun k s i => impl_Stone_where.l0 k l s l (l.length : Int) i p.f0 p.f1) (fun _ _ => True) 2 trivial (fun _ _ _ _ _ _ => trivial) (fun s i h r _ h1 h2 => ?_) (fun s _ => ?_)
  · have hn := nx_lt l i h
    have ht := tm i l.length h hl
    have ha := w64 (x := (i : Int) + 1) (by omega) (by omega)
    refine Ev.step (fun k => by rw [impl_Stone_where.l0]) (Ev.pos (by omega) (Ev.pos (by omega) (Ev.pos (by omega) (Ev.neg (by omega) ?_))))
    rw [ht]
    refine Ev.pos (by omega) (Ev.pos (by omega) ?_)
    rw [rdC l i h, rdC', ha]
    refine Ev.nobind (implSide l[i] (l.getD ((i + 1) % l.length) z58) p) ?_
    unfold whF at_ at h1 h2
    rw [Int.toNat_natCast] at h1 h2
    refine Ev.ite (fun e => Ev.fin (h1 0 (by rw [if_pos e]))) (fun e => Ev.ite (fun e2 => ?_) (fun e2 => ?_))
    · exact h2 1 (by rw [if_neg e, if_pos e2]) trivial
    · exact h2 s (by rw [if_neg e, if_neg e2]) trivial
  · refine Ev.step (fun k => by rw [impl_Stone_where.l0]) ?_
    exact Ev.neg (by omega) (Ev.fin rfl)
end Go.Proofs.Ytpbneibgngmciaa.WhereKit
