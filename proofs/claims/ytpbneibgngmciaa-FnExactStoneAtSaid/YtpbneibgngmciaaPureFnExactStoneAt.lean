/- The program's StoneAt answers what the reference's StoneAt answers, at all frames, lists of stones and numbers; no condition. -/
import Derived.Test.YtpbneibgngmciaaLayKit
import Derived.Test.YtpbneibgngmciaaCodeKit
import Derived.Test.YtpbneibgngmciaaWhereKit
import Derived.Test.YtpbneibgngmciaaPAxf8
namespace Go.Proofs.Ytpbneibgngmciaa.Pure
set_option linter.unusedSimpArgs false
set_option linter.unusedVariables false
open Go.RowKit Go.Proofs.Ytpbneibgngmciaa.PA Go.Proofs.Ytpbneibgngmciaa.Base Go.Proofs.Ytpbneibgngmciaa.StonesKit Go.Proofs.Ytpbneibgngmciaa.LayKit Go.Proofs.Ytpbneibgngmciaa.WhereKit Go.Proofs.YtpbneibgngmciaaW.PrintWords Go.Proofs.YtpbneibgngmciaaW.PrintLast Go.Proofs.YtpbneibgngmciaaW.PrintMore

def inS (x y : Int) (l : List S58) : Bool := decide (wh l ⟨IntKind.i16.wrap x, IntKind.i16.wrap y⟩ > 0)
def found (ls : List (List S58)) (x y : Int) : Int × Int := if ls.any (inS x y) then ((ls.findIdx (inS x y) : Int), 0) else (0, 6)
theorem specLoop (ls : List (List S58)) (x y : Int) (hl : ls.length ≤ 1048576) (he : ∀ l ∈ ls, l.length ≤ 1048576) : ∀ (n i : Nat), i + n = ls.length →
    Ev (fun k => spec_StoneAt.l0 k ls x y (i : Int)) (if (ls.drop i).any (inS x y) then (((ls.drop i).findIdx (inS x y) : Int) + (i : Int), 0) else (0, 6))
  | 0, i, h => by
    rw [List.drop_of_length_le (by omega)]
    refine Ev.step (fun k => by rw [spec_StoneAt.l0]) ?_
    exact Ev.neg (by omega) (Ev.fin rfl)
  | n + 1, i, h => by
    have hi : i < ls.length := by omega
    have ih := specLoop ls x y hl he n (i + 1) (by omega)
    have ha := w64 (x := (i : Int) + 1) (by omega) (by omega)
    have hm := he ls[i] (List.getElem_mem _)
    refine Ev.step (fun k => by rw [spec_StoneAt.l0]) (Ev.pos (by omega) (Ev.pos (by omega) ?_))
    rw [rdS, getS hi, ha]
    refine Ev.bind (specWh ls[i] ⟨IntKind.i16.wrap x, IntKind.i16.wrap y⟩ hm) ?_
    rw [List.drop_eq_getElem_cons hi, List.any_cons, List.findIdx_cons]
    refine Ev.ite (fun e => ?_) (fun e => ?_)
    · have hq : inS x y ls[i] = true := decide_eq_true e
      rw [hq]
      exact Ev.fin (by simp)
    · have hq : inS x y ls[i] = false := decide_eq_false e
      rw [hq, Bool.false_or, cond_false]
      refine Ev.to ih ?_
      split
      · rw [Int.natCast_add, Int.natCast_add]; congr 1; omega
      · rfl
theorem implLoop (ls : List (List S58)) (x y : Int) (he : ∀ l ∈ ls, l.length ≤ 1048576) : Ev (fun k => impl_StoneAt.w k ls x y) (if ls.any (inS x y) then (ls.findIdx (inS x y) : Int) + 0 else -1) := by
  refine idxO_ev (fun k s => impl_StoneAt_1.f k s x y) (inS x y) ls 0 (fun l hl => ?_)
  unfold impl_StoneAt_1.f
  exact Ev.bind (implWh l ⟨IntKind.i16.wrap x, IntKind.i16.wrap y⟩ (he l hl)) (Ev.fin rfl)
theorem specPt {a b : Int} (h : F16 a b) (x y : Int) : spec_l03Point.f a b x y = some (inF a b ⟨x, y⟩) := by
  unfold spec_l03Point.f inF
  unfold F16 at h
  rw [w64 (x := a) (by omega) (by omega), w64 (x := b) (by omega) (by omega), specIn, specIn, Option.bind_some]
  cases inB x 0 a <;> simp
def sa (a b : Int) (ls : List (List S58)) (x y : Int) (r : Bool) : Int × Int := if r then (if inF a b ⟨x, y⟩ then found ls x y else (0, 2)) else (0, 1)
theorem specSa {a b : Int} (h : F16 a b) {ls : List (List S58)} (hl : ls.length ≤ 1048576) (he : ∀ l ∈ ls, l.length ≤ 1048576) (x y : Int) {r : Bool} (hr : Ev (fun k => spec_l03Lay.f k a b ls) r) : Ev (fun k => spec_StoneAt.f k a b ls x y) (sa a b ls x y r) := by
  unfold spec_StoneAt.f sa
  refine Ev.bind hr ?_
  cases r with
  | false => exact Ev.neg (by decide) (Ev.fin rfl)
  | true =>
    refine Ev.pos rfl (Ev.nobind (specPt h x y) ?_)
    cases inF a b ⟨x, y⟩ with
    | false => exact Ev.neg (by decide) (Ev.fin rfl)
    | true =>
      have hL := specLoop ls x y hl he ls.length 0 (by omega)
      refine Ev.pos rfl (Ev.to hL ?_)
      simp [found]
theorem implEnd (ls : List (List S58)) (x y : Int) (he : ∀ l ∈ ls, l.length ≤ 1048576) : Ev (fun k => impl_StoneAt.j0 k x y ls 0) (found ls x y) := by
  refine Ev.step (fun k => by rw [impl_StoneAt.j0]) (Ev.pos rfl (Ev.bind (implLoop ls x y he) ?_))
  unfold found
  cases ls.any (inS x y) with
  | true => exact Ev.neg (by simp) (Ev.fin (by simp))
  | false => exact Ev.pos (by simp) (Ev.fin rfl)
theorem implSa {a b : Int} (h : F16 a b) {ls : List (List S58)} (he : ∀ l ∈ ls, l.length ≤ 1048576) (x y : Int) {r : Bool} (hr : Ev (fun k => impl_ValidLay.f k a b ls) r) : Ev (fun k => impl_StoneAt.f k a b ls x y) (sa a b ls x y r) := by
  unfold impl_StoneAt.f sa inF
  unfold F16 at h
  rw [w64 (x := a) (by omega) (by omega), w64 (x := b) (by omega) (by omega)]
  refine Ev.bind hr (Ev.nobind (implIn x 0 a) ?_)
  cases inB x 0 a with
  | false =>
    refine Ev.neg (by decide) (Ev.nobind (codeOf _ _) ?_)
    refine Ev.step (fun k => by rw [impl_StoneAt.j0]) ?_
    cases r with
    | false => exact Ev.neg (by decide) (Ev.fin rfl)
    | true => exact Ev.neg (by decide) (Ev.fin rfl)
  | true =>
    refine Ev.pos rfl (Ev.nobind (implIn y 0 b) (Ev.nobind (codeOf _ _) ?_))
    cases r with
    | false =>
      refine Ev.step (fun k => by rw [impl_StoneAt.j0]) ?_
      exact Ev.neg (by simp) (Ev.fin rfl)
    | true =>
      cases inB y 0 b with
      | false =>
        refine Ev.step (fun k => by rw [impl_StoneAt.j0]) ?_
        exact Ev.neg (by decide) (Ev.fin rfl)
      | true => exact implEnd ls x y he
theorem FnExactStoneAt : laws_FnExactStoneAt.Pure := by
  intro a b l1 x y wa wb w1 w2 w3
  have h16 := f16_of wa wb
  refine Ev.rounds (g := fun k => laws_FnExactStoneAt.f k a b l1 x y) ?_
  unfold laws_FnExactStoneAt.f
  obtain ⟨v, hv, hv2⟩ := szStones w1
  refine Ev.bind hv (Ev.ite (fun _ => Ev.fin rfl) (fun h0 => ?_))
  have h2 : l1.length ≤ 1048576 ∧ ∀ l ∈ l1, l.length ≤ 1048576 := by
    rcases hv2 with h | h
    · exact absurd h h0
    · exact h
  have hf := fitL_of w1 h2.1 h2.2
  have t0 := toStones h2.1 h2.2
  have hL : (convL l1).length ≤ 1048576 := by unfold convL; rw [List.length_map]; exact h2.1
  have hE : ∀ l ∈ convL l1, l.length ≤ 1048576 := by
    intro l hl
    unfold convL at hl
    obtain ⟨l', hl', rfl⟩ := List.mem_map.1 hl
    rw [List.length_map]
    exact h2.2 l' hl'
  obtain ⟨r, hs, hi⟩ := lays h16 hf
  refine Ev.nobind (a := (a, b)) rfl (Ev.bind t0 (Ev.bind (specSa h16 hL hE x y hs) (Ev.bind t0 (Ev.nobind (a := (a, b)) rfl (Ev.bind (implSa h16 hE x y hi) (Ev.pos rfl ?_))))))
  refine Ev.step (fun k => by rw [laws_FnExactStoneAt.j0]) ?_
  refine Ev.neg (by simp) (Ev.bind t0 (Ev.bind (eqStones hf) ?_))
  exact Ev.pos rfl (Ev.fin rfl)

end Go.Proofs.Ytpbneibgngmciaa.Pure
