/- Lists of lists of numbers, as the law copies, weighs and holds them; numbers in their range. -/
import Derived.Test.YtaihombmmdnadaaDoorLoops2
import Derived.Test.YtaihombmmdnadaaDoorPAxf15
import Derived.Test.YtaihombmmdnadaaDoorPAxf18
import Derived.Test.YtaihombmmdnadaaDoorPAxf24
import Derived.Test.YtaihombmmdnadaaDoorPAxf5
import Derived.Test.YtaihombmmdnadaaDoorPAxf7
import Derived.Test.YtaihombmmdnadaaDoorPAxf9
import Derived.Test.YtaihombmmdnadaaDoorPAxgImpl
import Derived.Test.YtaihombmmdnadaaDoorPAxgSpec
namespace Go.Proofs.YtaihombmmdnadaaDoor.IntssKit
set_option linter.unusedSimpArgs false
set_option linter.unusedVariables false
open Go.RowKit Go.Proofs.YtaihombmmdnadaaDoor.PA Go.Proofs.YtaihombmmdnadaaDoor.Base Go.Proofs.YtaihombmmdnadaaDoorW.PrintWords Go.Proofs.YtaihombmmdnadaaDoorW.PrintLast Go.Proofs.YtaihombmmdnadaaDoorW.PrintMore

theorem eqInts (l0 l1 : List Int) (h : l0.length ≤ 9223372036854775806) : Ev (fun k => laws_eqInt64S.f k l0 l1) (decide (l0 = l1)) := by
  unfold laws_eqInt64S.f
  refine Ev.ite (fun e => ?_) (fun e => Ev.fin ?_)
  · exact eq_loop (laws_eqInt64S.l0 · l0 l1 ·) h (by omega) (fun k i => by rw [laws_eqInt64S.l0]) l0.length 0 (by omega)
  · exact (decide_eq_false (fun h => e (by rw [h]))).symm
theorem toInts (l0 : List Int) (h : l0.length ≤ 35184372088832) : Ev (fun k => laws_toInt64S.f k l0) l0 := by
  unfold laws_toInt64S.f
  refine Ev.pos (by omega) (Ev.pos (by omega) ?_)
  exact copy_loop (laws_toInt64S.l0 · l0 · ·) (by omega) (fun k x3 i => by rw [laws_toInt64S.l0]) l0.length 0 _ (by omega) (by simp) (by simp)
theorem rdI (xs : List Int) (i : Nat) : rd xs (i : Int) = xs.getD i 0 := by simp [rd]
theorem specIn (n b c : Int) : spec_l00In.f n b c = some (inB n b c) := inB_ite
theorem implIn (n b c : Int) : impl_within.f n b c = some (inB n b c) := inB_ite
theorem rdL (xs : List (List Int)) (i : Nat) : rd_L1 xs (i : Int) = xs.getD i [] := by simp [rd_L1]
theorem getL {xs : List (List Int)} {i : Nat} (h : i < xs.length) : xs.getD i [] = xs[i] := by
  rw [List.getD_eq_getElem?_getD, List.getElem?_eq_getElem h]; rfl
theorem getI {l : List Int} {i : Nat} (h : i < l.length) : l.getD i 0 = l[i] := by
  rw [List.getD_eq_getElem?_getD, List.getElem?_eq_getElem h]; rfl
theorem part_le {bars : List (List Int)} {b : List Int} (h : b ∈ bars) : b.length ≤ bars.flatten.length := by
  obtain ⟨s, t, rfl⟩ := List.append_of_mem h
  simp; omega
theorem toIntss (l : List (List Int)) (h : l.length ≤ 1048576) (hb : ∀ x ∈ l, x.length ≤ 1048576) : Ev (fun k => laws_toInt64SS.f k l) l := by
  unfold laws_toInt64SS.f
  refine Ev.pos (by omega) (Ev.pos (by omega) ?_)
  have := copy_ev0 l id [] (fun k x i => laws_toInt64SS.l0 k l x i) ?_ ?_
  · rw [Int.toNat_natCast]; simpa using this
  · intro x3 i hi r h3 hr
    refine Ev.step (fun k => by rw [laws_toInt64SS.l0]) ?_
    rw [rdL l i, getL hi, w64 (x := (i : Int) + 1) (by omega) (by omega), Int.toNat_natCast]
    exact Ev.pos (by omega) (Ev.pos (by omega) (Ev.bind (toInts l[i] (Nat.le_trans (hb _ (List.getElem_mem hi)) (by omega))) (Ev.pos (by omega) hr)))
  · intro x3
    refine Ev.step (fun k => by rw [laws_toInt64SS.l0]) ?_
    exact Ev.neg (by omega) (Ev.fin rfl)
theorem eqIntss (l : List (List Int)) (h : l.length ≤ 1048576) (hb : ∀ x ∈ l, x.length ≤ 1048576) : Ev (fun k => laws_eqInt64SS.f k l l) true := by
  unfold laws_eqInt64SS.f
  refine Ev.pos rfl ?_
  refine Ev.to (rangeAll_ev0 (fun k i => laws_eqInt64SS.l0 k l l i) l.length (fun _ => true) true false ?_ ?_ ?_) (by simp)
  · intro i hi _ r' hr
    refine Ev.step (fun k => by rw [laws_eqInt64SS.l0]) ?_
    rw [rdL l i, getL hi, w64 (x := (i : Int) + 1) (by omega) (by omega)]
    exact Ev.pos (by omega) (Ev.pos (by omega) (Ev.pos (by omega) (Ev.bind (eqInts l[i] l[i] (Nat.le_trans (hb _ (List.getElem_mem hi)) (by omega))) (Ev.pos (by simp) hr))))
  · intro i hi h'; cases h'
  · intro _
    refine Ev.step (fun k => by rw [laws_eqInt64SS.l0]) ?_
    exact Ev.neg (by omega) (Ev.fin rfl)
theorem sizes (l : List (List Int)) (h : l.length ≤ maxLen) (hb : ∀ x ∈ l, x.length ≤ maxLen) : ∃ v, Ev (fun k => laws_szInt64SS.f k l 1048576) v ∧ (v < 0 ∨ l.length ≤ 1048576 ∧ l.flatten.length ≤ 1048576) := by
  unfold laws_szInt64SS.f
  have hM : maxLen ≤ 9223372036854775807 := by decide
  rw [w64 (x := 1048576 - (l.length : Int)) (by omega) (by omega)]
  by_cases c : (1048576 : Int) - (l.length : Int) < 0
  · exact ⟨-1, Ev.pos c (Ev.fin rfl), Or.inl (by decide)⟩
  · have key : ∀ (d i : Nat) (t : Int), i + d = l.length → 0 ≤ t → t ≤ 1048576 → ∃ v, Ev (fun k => laws_szInt64SS.l0 k l t (i : Int)) v ∧ (v < 0 ∨ ((l.drop i).flatten.length : Int) ≤ t) := by
      intro d
      induction d with
      | zero =>
        intro i t hi h0 h1
        refine ⟨t, ?_, Or.inr ?_⟩
        · refine Ev.step (fun k => by rw [laws_szInt64SS.l0]) ?_
          exact Ev.neg (by omega) (Ev.fin rfl)
        · rw [List.drop_of_length_le (by omega)]; simpa using h0
      | succ d ih =>
        intro i t hi h0 h1
        have hi' : i < l.length := by omega
        have hx := hb _ (List.getElem_mem hi')
        have hw := w64 (x := t - (l[i].length : Int)) (by omega) (by omega)
        by_cases q : t - (l[i].length : Int) < 0
        · refine ⟨-1, ?_, Or.inl (by decide)⟩
          refine Ev.step (fun k => by rw [laws_szInt64SS.l0]) ?_
          rw [rdL l i, getL hi']
          refine Ev.pos (by omega) (Ev.pos (by omega) (Ev.nobind (a := -1) ?_ (Ev.pos (by decide) (Ev.fin rfl))))
          unfold laws_szInt64S.f; rw [hw, if_pos q]
        · obtain ⟨v, hv, hv2⟩ := ih (i + 1) (t - (l[i].length : Int)) (by omega) (by omega) (by omega)
          refine ⟨v, ?_, ?_⟩
          · refine Ev.step (fun k => by rw [laws_szInt64SS.l0]) ?_
            rw [rdL l i, getL hi', w64 (x := (i : Int) + 1) (by omega) (by omega)]
            refine Ev.pos (by omega) (Ev.pos (by omega) (Ev.nobind (a := t - (l[i].length : Int)) ?_ (Ev.neg q hv)))
            unfold laws_szInt64S.f; rw [hw, if_neg q]
          · rw [drop_at l i hi', List.flatten_cons, List.length_append]
            omega
    obtain ⟨v, hv, hv2⟩ := key l.length 0 (1048576 - (l.length : Int)) (by omega) (by omega) (by omega)
    refine ⟨v, Ev.neg c hv, ?_⟩
    rw [List.drop_zero] at hv2
    omega
end Go.Proofs.YtaihombmmdnadaaDoor.IntssKit
