/- The program's SeamsIn answers what the reference's SeamsIn answers, at all frames and lists of stones; no condition. -/
import Derived.Test.YtohhcomokcdbfaaLayKit
import Derived.Test.YtohhcomokcdbfaaSeamKit
import Derived.Test.YtohhcomokcdbfaaLoops2
import Derived.Test.YtohhcomokcdbfaaPAxf4
namespace Go.Proofs.Ytohhcomokcdbfaa.PairsKit
set_option linter.unusedSimpArgs false
set_option linter.unusedVariables false
open Go.RowKit Go.Proofs.Ytohhcomokcdbfaa.PA Go.Proofs.Ytohhcomokcdbfaa.Base Go.Proofs.YtohhcomokcdbfaaW.PrintWords Go.Proofs.YtohhcomokcdbfaaW.PrintLast Go.Proofs.YtohhcomokcdbfaaW.PrintMore

theorem rdP (xs : List S60) (i : Nat) (h : i < xs.length) : rd_T60 xs (i : Int) = xs[i] := getD_nat xs z60 i h
theorem eqPairs (l : List S60) (h : l.length ≤ 1048576) : Ev (fun k => laws_eqInt64A2S.f k l l) true := by
  unfold laws_eqInt64A2S.f
  refine Ev.pos rfl ?_
  refine count_ev0 (laws_eqInt64A2S.l0 · l l ·) l.length true (fun i hi hk => ?_) ?_
  · have ha := w64 (x := (i : Int) + 1) (by omega) (by omega)
    refine Ev.step (fun k => by rw [laws_eqInt64A2S.l0]) (Ev.pos (by omega) (Ev.pos (by omega) (Ev.pos (by omega) ?_)))
    refine Ev.nobind (a := true) (by simp [laws_eqInt64A2.f]) (Ev.pos rfl ?_)
    rw [ha]; exact hk
  · exact Ev.step (fun k => by rw [laws_eqInt64A2S.l0]) (Ev.neg (by omega) (Ev.fin rfl))
def mkP (j : Int) : S60 := ⟨j, j + 1⟩
theorem markPairs (l : List S60) (h : l.length ≤ 1048576) : Ev (fun k => laws_markInt64A2S.f k l 1) (1 + 2 * (l.length : Int), marksG mkP 2 l.length 1) := by
  unfold laws_markInt64A2S.f
  refine mark_ev0 mkP 2 l (fun k x j i => laws_markInt64A2S.l0 k x j i) (by omega) (by omega) (by omega) (fun x j i hi r h0 h1 h2 hk => ?_) (fun x j => ?_)
  · have ha := w64 (x := (i : Int) + 1) (by omega) (by omega)
    have hb := w64 (x := j + 1) (by omega) (by omega)
    have hc := w64 (x := j + 1 + 1) (by omega) (by omega)
    refine Ev.step (fun k => by rw [laws_markInt64A2S.l0]) (Ev.pos (by omega) (Ev.pos (by omega) ?_))
    refine Ev.nobind rfl ?_
    rw [ha, hb, hc, rdP x i hi, rdP _ i (by simp; omega)]
    simp only [Int.toNat_natCast, List.set_set, List.getElem_set_self]
    rw [show j + 1 + 1 = j + 2 by omega]
    exact hk
  · exact Ev.step (fun k => by rw [laws_markInt64A2S.l0]) (Ev.neg (by omega) (Ev.fin rfl))
theorem heldPairs (n : Nat) (h : n ≤ 1048576) : Ev (fun k => laws_heldInt64A2S.f k (marksG mkP 2 n 1) 1) (1 + 2 * (n : Int)) := by
  unfold laws_heldInt64A2S.f
  refine held_ev0 mkP 2 n (fun k j i => laws_heldInt64A2S.l0 k (marksG mkP 2 n 1) j i) (by omega) (by omega) (by omega) (fun j i hi r e h0 h1 hk => ?_) (fun j => ?_)
  · have hl := marksG_length mkP 2 n 1
    have ha := w64 (x := (i : Int) + 1) (by omega) (by omega)
    have hb := w64 (x := j + 1) (by omega) (by omega)
    have hc := w64 (x := j + 1 + 1) (by omega) (by omega)
    refine Ev.step (fun k => by rw [laws_heldInt64A2S.l0]) (Ev.pos (by omega) (Ev.pos (by omega) ?_))
    rw [ha, hb, hc, rdP _ i hi, e]
    refine Ev.pos rfl (Ev.pos rfl ?_)
    rw [show j + 1 + 1 = j + 2 by omega]
    exact hk
  · have hl := marksG_length mkP 2 n 1
    exact Ev.step (fun k => by rw [laws_heldInt64A2S.l0]) (Ev.neg (by omega) (Ev.fin rfl))
end Go.Proofs.Ytohhcomokcdbfaa.PairsKit
namespace Go.Proofs.Ytohhcomokcdbfaa.Pure
set_option linter.unusedSimpArgs false
set_option linter.unusedVariables false
open Go.RowKit Go.Proofs.Ytohhcomokcdbfaa.PA Go.Proofs.Ytohhcomokcdbfaa.Base Go.Proofs.Ytohhcomokcdbfaa.StonesKit Go.Proofs.Ytohhcomokcdbfaa.LayKit Go.Proofs.Ytohhcomokcdbfaa.SeamKit Go.Proofs.Ytohhcomokcdbfaa.PairsKit Go.Proofs.YtohhcomokcdbfaaW.PrintWords Go.Proofs.YtohhcomokcdbfaaW.PrintLast Go.Proofs.YtohhcomokcdbfaaW.PrintMore

/-! ### the marks -/
def mkC (j : Int) : S55 := ⟨IntKind.i16.wrap j, IntKind.i16.wrap (j + 1)⟩
theorem markStoneBig (l : List S55) (h : l.length ≤ 1048576) (j0 : Int) (h0 : 0 ≤ j0 ∧ j0 ≤ 4611686018000000000) : Ev (fun k => laws_markStone.f k l j0) (j0 + 2 * (l.length : Int), marksG mkC 2 l.length j0) := by
  unfold laws_markStone.f
  refine Ev.to (mark_ev mkC 2 (fun k x j i => laws_markStone.l0 k x j i) (by omega) (by omega) (fun x j i hi r h0 h1 h2 hk => ?_) (fun x j => ?_) l.length 0 j0 l (by omega) (by omega) h0.1 (by omega)) (by simp)
  · have ha := w64 (x := (i : Int) + 1) (by omega) (by omega)
    have hb := w64 (x := j + 1) (by omega) (by omega)
    have hc := w64 (x := j + 1 + 1) (by omega) (by omega)
    refine Ev.step (fun k => by rw [laws_markStone.l0]) (Ev.pos (by omega) (Ev.pos (by omega) ?_))
    refine Ev.nobind rfl ?_
    rw [ha, hb, hc, rdC x i hi, rdC _ i (by simp; omega)]
    simp only [Int.toNat_natCast, List.set_set, List.getElem_set_self]
    rw [show j + 1 + 1 = j + 2 by omega]
    exact hk
  · exact Ev.step (fun k => by rw [laws_markStone.l0]) (Ev.neg (by omega) (Ev.fin rfl))
theorem markS (n : Nat) (hn : n ≤ 1048576) : ∀ (d i : Nat) (x : List (List S55)) (j : Int), i + d = n → x.length = n → (∀ l ∈ x, l.length ≤ 1048576) → 0 ≤ j → j ≤ 1 + 2097152 * (i : Int) →
    ∃ m, Ev (fun k => laws_markStoneS.l0 k x j (i : Int)) m ∧ 0 ≤ m
  | 0, i, x, j, hi, hx, he, h0, h1 => by
    refine ⟨j, ?_, h0⟩
    refine Ev.step (fun k => by rw [laws_markStoneS.l0]) ?_
    exact Ev.neg (by omega) (Ev.fin rfl)
  | d + 1, i, x, j, hi, hx, he, h0, h1 => by
    have hi' : i < x.length := by omega
    have hr := he x[i] (List.getElem_mem _)
    have hm := markStoneBig x[i] hr j ⟨h0, by omega⟩
    have hl := marksG_length mkC 2 x[i].length j
    obtain ⟨m, h2, h3⟩ := markS n hn d (i + 1) (x.set i (marksG mkC 2 x[i].length j)) (j + 2 * (x[i].length : Int)) (by omega) (by rw [List.length_set]; exact hx) (fun l hl' => by
      rcases List.mem_or_eq_of_mem_set hl' with h | h
      · exact he l h
      · rw [h]; omega) (by omega) (by omega)
    refine ⟨m, ?_, h3⟩
    refine Ev.step (fun k => by rw [laws_markStoneS.l0]) (Ev.pos (by omega) (Ev.pos (by omega) ?_))
    rw [rdS, getS hi', w64 (x := (i : Int) + 1) (by omega) (by omega)]
    exact Ev.bind hm h2
/-! ### lays that are valid -/
theorem lays2 {a b : Int} (h : F16 a b) {ls : List (List S55)} (hf : FitL ls) : ∃ r, Ev (fun k => spec_l03Lay.f k a b ls) r ∧ Ev (fun k => impl_ValidLay.f k a b ls) r ∧ (r = true → stB a b ls = true) := by
  unfold spec_l03Lay.f impl_ValidLay.f
  have hs := specStones h hf
  have hm := implStones h hf
  obtain ⟨r, h1, h2⟩ := faults h hf
  cases e : stB a b ls with
  | false =>
    rw [e] at hs hm
    exact ⟨false, Ev.bind hs (Ev.neg (by decide) (Ev.fin rfl)), Ev.bind hm (Ev.neg (by decide) (Ev.fin rfl)), fun h => by cases h⟩
  | true =>
    rw [e] at hs hm
    exact ⟨!r.2.2, Ev.bind hs (Ev.pos rfl (Ev.bind h1 (Ev.fin rfl))), Ev.bind hm (Ev.pos rfl (Ev.bind h2 (Ev.fin rfl))), fun _ => rfl⟩
/-! ### the seams -/
def seF (v : Nat → Nat → Int) (i j : Nat) (s : List S60) : List S60 := if v i j > 0 then s ++ [⟨(i : Int), (j : Int)⟩] else s
def seG (v : Nat → Nat → Int) (n i : Nat) (s : List S60) : List S60 := iter (fun j s => seF v i j s) (n - (i + 1)) (i + 1) s
def se (v : Nat → Nat → Int) (n : Nat) : List S60 := iter (fun i s => seG v n i s) n 0 []
theorem seF_length (v : Nat → Nat → Int) (i j : Nat) (s : List S60) : (seF v i j s).length ≤ s.length + 1 := by
  unfold seF; split <;> simp
theorem seG_length (v : Nat → Nat → Int) (n i : Nat) (s : List S60) (hi : i < n) : (seG v n i s).length ≤ s.length + n := by
  have := iter_inv (f := fun j s => seF v i j s) (Inv := fun j t => t.length ≤ s.length + j) (n - (i + 1)) (i + 1) s (fun t j _ _ h => by have := seF_length v i j t; omega) (by omega)
  unfold seG; omega
theorem se_length (v : Nat → Nat → Int) (n : Nat) (hn : n ≤ 40) : (se v n).length ≤ 1600 := by
  have := iter_inv (f := fun i s => seG v n i s) (Inv := fun i t => t.length ≤ 40 * i) n 0 [] (fun t j _ h1 h => by have := seG_length v n j t (by omega); omega) (by simp)
  unfold se; omega
structure Vals (ls : List (List S55)) (v : Nat → Nat → Int) : Prop where
  spec : ∀ i j, i < ls.length → j < ls.length → Ev (fun k => spec_l03Seams.f k (ls.getD i []) (ls.getD j [])) (v i j)
  impl : ∀ i j, i < ls.length → j < ls.length → Ev (fun k => impl_seam.f k (ls.getD i []) (ls.getD j [])) (v i j)
theorem vals {ls : List (List S55)} (h : ∀ l ∈ ls, okS l = true) : ∃ v, Vals ls v := by
  have key : ∀ i j, ∃ r, i < ls.length → j < ls.length → Ev (fun k => spec_l03Seams.f k (ls.getD i []) (ls.getD j [])) r ∧ Ev (fun k => impl_seam.f k (ls.getD i []) (ls.getD j [])) r := by
    intro i j
    by_cases hi : i < ls.length
    · by_cases hj : j < ls.length
      · obtain ⟨r, h1, h2⟩ := seams (h _ (List.getElem_mem hi)) (h _ (List.getElem_mem hj))
        exact ⟨r, fun _ _ => by rw [getS hi, getS hj]; exact ⟨h1, h2⟩⟩
      · exact ⟨0, fun _ h => absurd h hj⟩
    · exact ⟨0, fun h => absurd h hi⟩
  exact ⟨fun i j => Classical.choose (key i j), fun i j hi hj => (Classical.choose_spec (key i j) hi hj).1, fun i j hi hj => (Classical.choose_spec (key i j) hi hj).2⟩
theorem specSe {ls : List (List S55)} (hn : ls.length ≤ 40) {v : Nat → Nat → Int} (hv : Vals ls v) : Ev (fun k => spec_SeamsIn.l0 k ls [] 0) (se v ls.length, 0) := by
  unfold se
  refine iter_cps0 ls.length (fun i s => seG v ls.length i s) (fun k s i => spec_SeamsIn.l0 k ls s i) _ (fun i t => t.length ≤ 40 * i) [] (by simp) (fun t i h2 h => by have := seG_length v ls.length i t h2; omega) (fun t i hi h hr => ?_) (fun _ => ?_)
  · have ha := w64 (x := (i : Int) + 1) (by omega) (by omega)
    refine Ev.step (fun k => by rw [spec_SeamsIn.l0]) (Ev.pos (by omega) ?_)
    rw [ha]
    refine iter_cps ls.length (fun j s => seF v i j s) (fun k s j => spec_SeamsIn.l1 k ls s (i : Int) j) _ (fun j u => u.length ≤ t.length + j) (fun u j _ h2 => by have := seF_length v i j u; omega) (fun u j hj h2 hr2 => ?_) (ls.length - (i + 1)) (i + 1) t (by omega) (by omega) (fun _ => ?_)
    · have hb := w64 (x := (j : Int) + 1) (by omega) (by omega)
      refine Ev.step (fun k => by rw [spec_SeamsIn.l1]) ?_
      rw [rdS, rdS, hb]
      refine Ev.pos (by omega) (Ev.pos (by omega) (Ev.pos (by omega) (Ev.pos (by omega) ?_)))
      refine Ev.bind (hv.spec i j hi hj) ?_
      unfold seF at hr2
      refine Ev.ite (fun e => Ev.pos (by omega) ?_) (fun e => ?_)
      · simp only [if_pos e] at hr2; exact hr2
      · simp only [if_neg e] at hr2; exact hr2
    · refine Ev.step (fun k => by rw [spec_SeamsIn.l1]) (Ev.neg (by omega) ?_)
      rw [ha]; exact hr
  · refine Ev.step (fun k => by rw [spec_SeamsIn.l0]) ?_
    exact Ev.neg (by omega) (Ev.fin rfl)
theorem implSe {ls : List (List S55)} (hn : ls.length ≤ 40) {v : Nat → Nat → Int} (hv : Vals ls v) : Ev (fun k => impl_SeamsIn.l0 k ls [] ls (ls.length : Int) 0) (se v ls.length, 0) := by
  unfold se
  refine iter_cps0 ls.length (fun i s => seG v ls.length i s) (fun k s i => impl_SeamsIn.l0 k ls s ls (ls.length : Int) i) _ (fun i t => t.length ≤ 40 * i) [] (by simp) (fun t i h2 h => by have := seG_length v ls.length i t h2; omega) (fun t i hi h hr => ?_) (fun _ => ?_)
  · have ha := w64 (x := (i : Int) + 1) (by omega) (by omega)
    refine Ev.step (fun k => by rw [impl_SeamsIn.l0]) (Ev.pos (by omega) (Ev.pos (by omega) (Ev.pos (by omega) ?_)))
    rw [ha, rdS]
    refine iter_cps ls.length (fun j s => seF v i j s) (fun k s j => impl_SeamsIn.l1 k ls s (i : Int) (ls.getD i []) j ls (ls.length : Int) (i : Int)) _ (fun j u => u.length ≤ t.length + j) (fun u j _ h2 => by have := seF_length v i j u; omega) (fun u j hj h2 hr2 => ?_) (ls.length - (i + 1)) (i + 1) t (by omega) (by omega) (fun _ => ?_)
    · have hb := w64 (x := (j : Int) + 1) (by omega) (by omega)
      refine Ev.step (fun k => by rw [impl_SeamsIn.l1]) ?_
      rw [rdS, hb]
      refine Ev.pos (by omega) (Ev.pos (by omega) ?_)
      refine Ev.bind (hv.impl i j hi hj) ?_
      unfold seF at hr2
      refine Ev.ite (fun e => Ev.pos (by omega) ?_) (fun e => ?_)
      · simp only [if_pos e] at hr2; exact hr2
      · simp only [if_neg e] at hr2; exact hr2
    · refine Ev.step (fun k => by rw [impl_SeamsIn.l1]) (Ev.neg (by omega) ?_)
      rw [ha]; exact hr
  · refine Ev.step (fun k => by rw [impl_SeamsIn.l0]) ?_
    exact Ev.neg (by omega) (Ev.fin rfl)
theorem seamsIn {a b : Int} (h : F16 a b) {ls : List (List S55)} (hf : FitL ls) : ∃ r : List S60 × Int, r.1.length ≤ 1600 ∧ Ev (fun k => spec_SeamsIn.f k a b ls) r ∧ Ev (fun k => impl_SeamsIn.f k a b ls) r := by
  obtain ⟨r, h1, h2, h3⟩ := lays2 h hf
  unfold spec_SeamsIn.f impl_SeamsIn.f
  cases r with
  | false => exact ⟨([], 1), by simp, Ev.bind h1 (Ev.neg (by decide) (Ev.fin rfl)), Ev.bind h2 (Ev.neg (by decide) (Ev.fin rfl))⟩
  | true =>
    have h4 := h3 rfl
    unfold stB at h4
    simp only [Bool.and_eq_true, decide_eq_true_eq, List.all_eq_true] at h4
    obtain ⟨-, h5, h6⟩ := h4
    have h7 : ls.length ≤ 40 := by omega
    obtain ⟨v, hv⟩ := vals h6
    exact ⟨(se v ls.length, 0), se_length v _ h7, Ev.bind h1 (Ev.pos rfl (specSe h7 hv)), Ev.bind h2 (Ev.pos rfl (implSe h7 hv))⟩
theorem FnExactSeamsIn : laws_FnExactSeamsIn.Pure := by
  intro a b l1 wa wb w1
  have h16 := f16_of wa wb
  refine Ev.rounds (g := fun k => laws_FnExactSeamsIn.f k a b l1) ?_
  unfold laws_FnExactSeamsIn.f
  obtain ⟨v, hv, hv2⟩ := szStones w1
  refine Ev.bind hv (Ev.ite (fun _ => Ev.fin rfl) (fun h0 => ?_))
  have h2 : l1.length ≤ 1048576 ∧ ∀ l ∈ l1, l.length ≤ 1048576 := by
    rcases hv2 with h | h
    · exact absurd h h0
    · exact h
  have hf := fitL_of w1 h2.1 h2.2
  have t0 := toStones h2.1 h2.2
  have hL : (convL l1).length ≤ 1048576 := by unfold convL; rw [List.length_map]; exact h2.1
  have hE : ∀ l ∈ convL l1, l.length ≤ 1048576 := by
    intro l hl
    unfold convL at hl
    obtain ⟨l', hl', rfl⟩ := List.mem_map.1 hl
    rw [List.length_map]
    exact h2.2 l' hl'
  obtain ⟨r, hr, hs, hi⟩ := seamsIn h16 hf
  obtain ⟨m, hm, hm0⟩ := markS (convL l1).length hL (convL l1).length 0 (convL l1) 1 (by omega) rfl hE (by omega) (by omega)
  have hq := eqPairs r.1 (by omega)
  refine Ev.nobind (a := (a, b)) rfl (Ev.bind t0 (Ev.bind hs (Ev.bind t0 (Ev.nobind (a := (a, b)) rfl (Ev.bind hi (Ev.bind hq (Ev.pos rfl ?_)))))))
  refine Ev.step (fun k => by rw [laws_FnExactSeamsIn.j0]) ?_
  refine Ev.neg (by simp) (Ev.bind t0 (Ev.bind (eqStones hf) (Ev.pos rfl (Ev.bind hm (Ev.neg (by omega) (Ev.bind hq (Ev.pos rfl ?_)))))))
  refine Ev.step (fun k => by rw [laws_FnExactSeamsIn.j1]) ?_
  refine Ev.neg (by simp) (Ev.bind (markPairs r.1 (by omega)) (Ev.bind (heldPairs r.1.length (by omega)) (Ev.neg (by omega) (Ev.pos rfl ?_))))
  refine Ev.nobind (a := (a, b)) rfl (Ev.bind t0 (Ev.bind hi (Ev.bind hq (Ev.pos rfl ?_))))
  refine Ev.step (fun k => by rw [laws_FnExactSeamsIn.j2]) ?_
  refine Ev.neg (by simp) (Ev.bind (heldPairs r.1.length (by omega)) (Ev.neg (by omega) ?_))
  exact Ev.pos rfl (Ev.fin rfl)

end Go.Proofs.Ytohhcomokcdbfaa.Pure
