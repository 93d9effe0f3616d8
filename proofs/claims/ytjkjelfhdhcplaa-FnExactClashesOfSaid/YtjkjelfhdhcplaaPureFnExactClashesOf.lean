/- The program's ClashesOf answers what the reference's ClashesOf answers, at all rows and numbers; no condition. -/
import Derived.Test.YtjkjelfhdhcplaaRowsKit
import Derived.Test.YtjkjelfhdhcplaaClashKit
import Derived.Test.YtjkjelfhdhcplaaPAxf10
import Derived.Test.YtjkjelfhdhcplaaPAxf13
import Derived.Test.YtjkjelfhdhcplaaPAxf14
import Derived.Test.YtjkjelfhdhcplaaPAxf3
import Derived.Test.YtjkjelfhdhcplaaPAxf33
import Derived.Test.YtjkjelfhdhcplaaPAxf7
import Derived.Test.YtjkjelfhdhcplaaPAxf9
import Derived.Test.YtjkjelfhdhcplaaPAxgSpec
namespace Go.Proofs.Ytjkjelfhdhcplaa.Pure
set_option linter.unusedSimpArgs false
set_option linter.unusedVariables false
open Go.RowKit Go.Proofs.Ytjkjelfhdhcplaa.PA Go.Proofs.Ytjkjelfhdhcplaa.Base Go.Proofs.Ytjkjelfhdhcplaa.RowsKit Go.Proofs.Ytjkjelfhdhcplaa.RowsFns Go.Proofs.Ytjkjelfhdhcplaa.JointsKit Go.Proofs.Ytjkjelfhdhcplaa.ApartKit Go.Proofs.Ytjkjelfhdhcplaa.ClashKit Go.Proofs.YtjkjelfhdhcplaaW.PrintWords Go.Proofs.YtjkjelfhdhcplaaW.PrintLast Go.Proofs.YtjkjelfhdhcplaaW.PrintMore

theorem rdP (xs : List S53) (i : Nat) (h : i < xs.length) : rd_T53 xs (i : Int) = xs[i] := getD_nat xs z53 i h
theorem eqPairs (l : List S53) (h : l.length ≤ 1048576) : Ev (fun k => laws_eqInt64A2S.f k l l) true := by
  unfold laws_eqInt64A2S.f
  refine Ev.pos rfl ?_
  refine count_ev0 (laws_eqInt64A2S.l0 · l l ·) l.length true (fun i hi hk => ?_) ?_
  · have ha := w64 (x := (i : Int) + 1) (by omega) (by omega)
    refine Ev.step (fun k => by rw [laws_eqInt64A2S.l0]) (Ev.pos (by omega) (Ev.pos (by omega) (Ev.pos (by omega) ?_)))
    refine Ev.nobind (a := true) (by simp [laws_eqInt64A2.f]) (Ev.pos rfl ?_)
    rw [ha]; exact hk
  · exact Ev.step (fun k => by rw [laws_eqInt64A2S.l0]) (Ev.neg (by omega) (Ev.fin rfl))
def mkP (j : Int) : S53 := ⟨j, j + 1⟩
theorem markPairs (l : List S53) (h : l.length ≤ 1048576) : Ev (fun k => laws_markInt64A2S.f k l 1) (1 + 2 * (l.length : Int), marksG mkP 2 l.length 1) := by
  unfold laws_markInt64A2S.f
  refine mark_ev0 mkP 2 l (fun k x j i => laws_markInt64A2S.l0 k x j i) (by omega) (by omega) (by omega) (fun x j i hi r h0 h1 h2 hk => ?_) (fun x j => ?_)
  · have ha := w64 (x := (i : Int) + 1) (by omega) (by omega)
    have hb := w64 (x := j + 1) (by omega) (by omega)
    have hc := w64 (x := j + 1 + 1) (by omega) (by omega)
    refine Ev.step (fun k => by rw [laws_markInt64A2S.l0]) (Ev.pos (by omega) (Ev.pos (by omega) ?_))
    refine Ev.nobind rfl ?_
    rw [ha, hb, hc, rdP x i hi, rdP _ i (by simp; omega)]
    simp only [Int.toNat_natCast, List.set_set, List.getElem_set_self]
    rw [show j + 1 + 1 = j + 2 by omega]
    exact hk
  · exact Ev.step (fun k => by rw [laws_markInt64A2S.l0]) (Ev.neg (by omega) (Ev.fin rfl))
theorem heldPairs (n : Nat) (h : n ≤ 1048576) : Ev (fun k => laws_heldInt64A2S.f k (marksG mkP 2 n 1) 1) (1 + 2 * (n : Int)) := by
  unfold laws_heldInt64A2S.f
  refine held_ev0 mkP 2 n (fun k j i => laws_heldInt64A2S.l0 k (marksG mkP 2 n 1) j i) (by omega) (by omega) (by omega) (fun j i hi r e h0 h1 hk => ?_) (fun j => ?_)
  · have hl := marksG_length mkP 2 n 1
    have ha := w64 (x := (i : Int) + 1) (by omega) (by omega)
    have hb := w64 (x := j + 1) (by omega) (by omega)
    have hc := w64 (x := j + 1 + 1) (by omega) (by omega)
    refine Ev.step (fun k => by rw [laws_heldInt64A2S.l0]) (Ev.pos (by omega) (Ev.pos (by omega) ?_))
    rw [ha, hb, hc, rdP _ i hi, e]
    refine Ev.pos rfl (Ev.pos rfl ?_)
    rw [show j + 1 + 1 = j + 2 by omega]
    exact hk
  · have hl := marksG_length mkP 2 n 1
    exact Ev.step (fun k => by rw [laws_heldInt64A2S.l0]) (Ev.neg (by omega) (Ev.fin rfl))
theorem markRowAt (l : List Int) (h : l.length ≤ 1048576) (j : Int) (h0 : 0 ≤ j) (h1 : j ≤ 1048577) : ∃ m, Ev (fun k => laws_markRow.f k l j) m ∧ 0 ≤ m.1 := by
  unfold laws_markRow.f
  exact ⟨_, mark_loop IntKind.i16.wrap (laws_markRow.l0 · · · ·) (fun k x j i => by rw [laws_markRow.l0]) l.length 0 j l (by omega) (by omega) h0 (by omega), by simp; omega⟩
theorem near (n : Int) : spec_l05Near.f n = some (inB n 0 2000) := by
  unfold spec_l05Near.f; rw [specIn]; rfl
def res (a b : List Int) (s n : Int) : List S53 × Int := if both a b s = 0 then (if inB n 0 2000 then (cl n (jts a s) (jts b s), 0) else ([], 2)) else ([], both a b s)
theorem res_len (a b : List Int) (s n : Int) : (res a b s n).1.length ≤ 6000 := by
  unfold res
  by_cases e : both a b s = 0
  · rw [if_pos e]
    have hl := both0 e
    cases inB n 0 2000 with
    | false => simp
    | true =>
      rw [if_pos rfl]
      have h1 := cl_length n (jts a s) (jts b s) (by rw [jts_length]; omega)
      have h2 := jts_length a s
      exact Nat.le_trans h1 (by omega)
  · rw [if_neg e]; simp
theorem specRes {a b : List Int} (ha : Fit a) (hb : Fit b) (s n : Int) : Ev (fun k => spec_ClashesOf.f k a b s n) (res a b s n) := by
  unfold spec_ClashesOf.f res
  refine Ev.bind (specBoth ha hb s) (Ev.ite (fun e => ?_) (fun e => ?_))
  · rw [e, if_pos rfl]
    have hl := both0 e
    refine Ev.nobind (near n) (Ev.step (fun k => by rw [spec_ClashesOf.j0]) ?_)
    cases inB n 0 2000 with
    | false => exact Ev.pos rfl (Ev.fin rfl)
    | true => exact Ev.neg (by decide) (Ev.pos rfl (Ev.bind (specCl s n hl.1 hl.2) (Ev.fin rfl)))
  · rw [if_neg e]
    refine Ev.step (fun k => by rw [spec_ClashesOf.j0]) ?_
    exact Ev.neg (by decide) (Ev.neg e (Ev.fin rfl))
theorem implRes {a b : List Int} (ha : Fit a) (hb : Fit b) (s n : Int) : Ev (fun k => impl_ClashesOf.f k a b s n) (res a b s n) := by
  have core : both a b s = 0 → Ev (fun k => (impl_clashes.f k a b s n).bind fun t => some (t, (0 : Int))) (cl n (jts a s) (jts b s), 0) := by
    intro e
    have hl := both0 e
    exact Ev.bind (implCl s n hl.1 hl.2) (Ev.fin rfl)
  unfold impl_ClashesOf.f res
  unfold both at core ⊢
  refine Ev.nobind (implValid ha) ?_
  cases e1 : okB a with
  | false =>
    refine Ev.neg (by decide) (Ev.nobind (implSeam s) ?_)
    cases e3 : inB s 0 200 with
    | false => exact Ev.neg (by decide) (Ev.nobind (codeOf _ _) (Ev.neg (by decide) (Ev.fin rfl)))
    | true =>
      refine Ev.pos rfl (Ev.nobind (implIn n 0 2000) (Ev.nobind (codeOf _ _) ?_))
      exact Ev.neg (by simp) (Ev.fin rfl)
  | true =>
    refine Ev.pos rfl (Ev.nobind (implValid hb) (Ev.nobind (implSeam s) ?_))
    cases e2 : okB b with
    | false =>
      cases e3 : inB s 0 200 with
      | false => exact Ev.neg (by decide) (Ev.nobind (codeOf _ _) (Ev.neg (by decide) (Ev.fin rfl)))
      | true =>
        refine Ev.pos rfl (Ev.nobind (implIn n 0 2000) (Ev.nobind (codeOf _ _) ?_))
        exact Ev.neg (by simp) (Ev.fin rfl)
    | true =>
      cases e3 : inB s 0 200 with
      | false => exact Ev.neg (by decide) (Ev.nobind (codeOf _ _) (Ev.neg (by decide) (Ev.fin rfl)))
      | true =>
        rw [e1, e2, e3] at core
        refine Ev.pos rfl (Ev.nobind (implIn n 0 2000) ?_)
        cases inB n 0 2000 with
        | false => exact Ev.nobind (codeOf _ _) (Ev.neg (by decide) (Ev.fin rfl))
        | true => exact Ev.nobind (codeOf _ _) (Ev.pos (by decide) (core rfl))
theorem FnExactClashesOf : laws_FnExactClashesOf.Pure := by
  intro l0 l1 a2 a3 m0 y0 w0 m1 y1 w1 w2 w3
  have f0 := fit_of w0
  have f1 := fit_of w1
  refine Ev.rounds (g := fun k => laws_FnExactClashesOf.f k l0 l1 a2 a3) ?_
  unfold laws_FnExactClashesOf.f
  refine Ev.ite (fun _ => Ev.fin rfl) (fun h0 => Ev.ite (fun _ => Ev.fin rfl) (fun h1 => ?_))
  have t0 := toRow l0 (by omega)
  have t1 := toRow l1 (by omega)
  have hl := res_len l0 l1 a2 a3
  have hs := specRes f0 f1 a2 a3
  have hi := implRes f0 f1 a2 a3
  generalize res l0 l1 a2 a3 = v at hl hs hi
  have hq := eqPairs v.1 (by omega)
  refine Ev.bind t0 (Ev.bind t1 (Ev.bind hs (Ev.bind t0 (Ev.bind t1 (Ev.bind hi (Ev.bind hq (Ev.pos rfl ?_)))))))
  refine Ev.step (fun k => by rw [laws_FnExactClashesOf.j0]) ?_
  refine Ev.neg (by simp) (Ev.bind t0 (Ev.bind (eqRow l0 l0 (by omega)) (Ev.pos (by simp) (Ev.bind t1 (Ev.bind (eqRow l1 l1 (by omega)) (Ev.pos (by simp) ?_))))))
  obtain ⟨m, hm, hm0⟩ := markRowAt l1 (by omega) (1 + (l0.length : Int)) (by omega) (by omega)
  refine Ev.bind (markRow l0 (by omega)) (Ev.bind hm (Ev.neg (by omega) (Ev.bind hq (Ev.pos rfl ?_))))
  refine Ev.step (fun k => by rw [laws_FnExactClashesOf.j1]) ?_
  refine Ev.neg (by simp) (Ev.bind (markPairs v.1 (by omega)) (Ev.bind (heldPairs v.1.length (by omega)) (Ev.neg (by omega) (Ev.pos rfl ?_))))
  refine Ev.bind t0 (Ev.bind t1 (Ev.bind hi (Ev.bind hq (Ev.pos rfl ?_))))
  refine Ev.step (fun k => by rw [laws_FnExactClashesOf.j2]) ?_
  refine Ev.neg (by simp) (Ev.bind (heldPairs v.1.length (by omega)) (Ev.neg (by omega) ?_))
  exact Ev.pos rfl (Ev.fin rfl)

end Go.Proofs.Ytjkjelfhdhcplaa.Pure
