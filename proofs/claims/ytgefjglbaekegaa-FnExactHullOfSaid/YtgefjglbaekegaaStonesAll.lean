/- What the functions on stones come to, the reference's and the program's; the laws' own small functions over lists of corners. · The laws' functions that mark lists of corners and find the marks again. -/
import Derived.Test.YtgefjglbaekegaaLoopsAll
import Derived.Test.YtgefjglbaekegaaPAxgImpl
import Derived.Test.YtgefjglbaekegaaPAxgLaw
import Derived.Test.YtgefjglbaekegaaPAxgSpec
namespace Go.Proofs.Ytgefjglbaekegaa.StonesKit
set_option linter.unusedSimpArgs false
set_option linter.unusedVariables false
open Go.RowKit Go.Proofs.Ytgefjglbaekegaa.PA Go.Proofs.Ytgefjglbaekegaa.Base Go.Proofs.YtgefjglbaekegaaW.PrintWords Go.Proofs.YtgefjglbaekegaaW.PrintLast Go.Proofs.YtgefjglbaekegaaW.PrintMore

def Fit (l : List S37) : Prop := ∀ c ∈ l, (-32768 ≤ c.f0 ∧ c.f0 ≤ 32767) ∧ (-32768 ≤ c.f1 ∧ c.f1 ≤ 32767)
def conv (c : S42) : S37 := ⟨c.f0, c.f1⟩
theorem fit_of {l : List S42} (h : l.length ≤ maxLen ∧ ∀ x0 ∈ l, (Lit.int .i16 x0.f0).wf = true ∧ (Lit.int .i16 x0.f1).wf = true) : Fit (l.map conv) := by
  intro c hc
  obtain ⟨x, hx, rfl⟩ := List.mem_map.1 hc
  exact ⟨wf16 (h.2 x hx).1, wf16 (h.2 x hx).2⟩
theorem rdC (xs : List S37) (i : Nat) (h : i < xs.length) : rd_T37 xs (i : Int) = xs[i] := getD_nat xs z37 i h
theorem rdC' (xs : List S37) (i : Nat) : rd_T37 xs (i : Int) = xs.getD i z37 := by simp [rd_T37]
theorem rdD (xs : List S42) (i : Nat) (h : i < xs.length) : rd_T42 xs (i : Int) = xs[i] := getD_nat xs z42 i h
theorem specIn (n b c : Int) : spec_l00In.f n b c = some (inB n b c) := inB_ite
theorem implIn (n b c : Int) : impl_within.f n b c = some (inB n b c) := inB_ite
theorem tm (i n : Nat) (h : i < n) (hn : n ≤ 1048576) : Int.tmod (wrap64 ((i : Int) + 1)) (n : Int) = (((i + 1) % n : Nat) : Int) := by
  rw [w64 (by omega) (by omega), Int.tmod_eq_emod_of_nonneg (by omega)]; simp
/-- The side of c beside a and b. -/
def sd (a b c : S37) : Int := (impl_side.f a.f0 a.f1 b.f0 b.f1 c.f0 c.f1).getD 0
theorem implSide (a b c : S37) : impl_side.f a.f0 a.f1 b.f0 b.f1 c.f0 c.f1 = some (sd a b c) := rfl
theorem specSide (a b c : S37) : spec_l03Side.f a.f0 a.f1 b.f0 b.f1 c.f0 c.f1 = some (sd a b c) := rfl
def at_ (l : List S37) (i : Nat) : S37 := l.getD i z37
def cvx (l : List S37) (i j : Nat) : Bool := decide (j = i) || decide (j = (i + 1) % l.length) || decide (0 < sd (at_ l i) (at_ l ((i + 1) % l.length)) (at_ l j))
def convB (l : List S37) : Bool := (List.range l.length).all fun i => (List.range l.length).all fun j => cvx l i j
def placed (c : S37) : Bool := inB c.f0 (-1000) 1000 && inB c.f1 (-1000) 1000
def okS (l : List S37) : Bool := inB (l.length : Int) 3 8 && l.all placed && convB l
theorem all_range {α : Type} (l : List α) (z : α) (p : α → Bool) : (List.range l.length).all (fun j => p (l.getD j z)) = l.all p := by
  rw [Bool.eq_iff_iff, List.all_eq_true, List.all_eq_true]
  constructor
  · intro h x hx
    obtain ⟨i, hi, rfl⟩ := List.getElem_of_mem hx
    have := h i (by simpa using hi)
    simpa [List.getD_eq_getElem?_getD, hi] using this
  · intro h i hi
    have hi' : i < l.length := by simpa using hi
    rw [List.getD_eq_getElem?_getD, List.getElem?_eq_getElem hi']
    exact h _ (List.getElem_mem hi')
theorem specPlace (n : Int) : spec_l03Place.f n = some (inB n (-1000) 1000) := by simp [spec_l03Place.f, specIn]
theorem specCorner {c : S37} (h : (-32768 ≤ c.f0 ∧ c.f0 ≤ 32767) ∧ (-32768 ≤ c.f1 ∧ c.f1 ≤ 32767)) : spec_l03Corner.f c.f0 c.f1 = some (placed c) := by
  unfold spec_l03Corner.f placed
  rw [w64 (by omega) (by omega), w64 (by omega) (by omega), specPlace, specPlace, Option.bind_some]
  cases inB c.f0 (-1000) 1000 <;> simp
theorem implPlaced {c : S37} (h : (-32768 ≤ c.f0 ∧ c.f0 ≤ 32767) ∧ (-32768 ≤ c.f1 ∧ c.f1 ≤ 32767)) : impl_isPlaced.f c.f0 c.f1 = some (placed c) := by
  unfold impl_isPlaced.f placed
  rw [w64 (by omega) (by omega), w64 (by omega) (by omega), implIn, implIn, Option.bind_some]
  cases inB c.f0 (-1000) 1000 <;> simp
theorem ite_b (b : Bool) : (if b = true then true else false) = b := by cases b <;> rfl
theorem eqStone (l : List S37) (h : l.length ≤ 1048576) : Ev (fun k => laws_eqStone.f k l l) true := by
  unfold laws_eqStone.f
  refine Ev.pos rfl ?_
  refine count_ev0 (laws_eqStone.l0 · l l ·) l.length true (fun i hi hk => ?_) ?_
  · have ha := w64 (x := (i : Int) + 1) (by omega) (by omega)
    refine Ev.step (fun k => by rw [laws_eqStone.l0]) (Ev.pos (by omega) (Ev.pos (by omega) (Ev.pos (by omega) ?_)))
    refine Ev.nobind (a := true) (by simp [laws_eqCorner.f]) (Ev.pos rfl ?_)
    rw [ha]; exact hk
  · exact Ev.step (fun k => by rw [laws_eqStone.l0]) (Ev.neg (by omega) (Ev.fin rfl))
theorem okS_len {l : List S37} (h : okS l = true) : 3 ≤ l.length ∧ l.length ≤ 8 := by
  unfold okS at h
  rw [Bool.and_eq_true, Bool.and_eq_true, inB_iff] at h
  omega
end Go.Proofs.Ytgefjglbaekegaa.StonesKit
namespace Go.Proofs.Ytgefjglbaekegaa.StonesKit
set_option linter.unusedSimpArgs false
set_option linter.unusedVariables false
open Go.RowKit Go.Proofs.Ytgefjglbaekegaa.PA Go.Proofs.Ytgefjglbaekegaa.Base Go.Proofs.YtgefjglbaekegaaW.PrintWords Go.Proofs.YtgefjglbaekegaaW.PrintLast Go.Proofs.YtgefjglbaekegaaW.PrintMore

def mkC (j : Int) : S37 := ⟨IntKind.i16.wrap j, IntKind.i16.wrap (j + 1)⟩
theorem markStone (l : List S37) (h : l.length ≤ 1048576) : Ev (fun k => laws_markStone.f k l 1) (1 + 2 * (l.length : Int), marksG mkC 2 l.length 1) := by
  unfold laws_markStone.f
  refine mark_ev0 mkC 2 l (fun k x j i => laws_markStone.l0 k x j i) (by omega) (by omega) (by omega) (fun x j i hi r h0 h1 h2 hk => ?_) (fun x j => ?_)
  · have ha := w64 (x := (i : Int) + 1) (by omega) (by omega)
    have hb := w64 (x := j + 1) (by omega) (by omega)
    have hc := w64 (x := j + 1 + 1) (by omega) (by omega)
    refine Ev.step (fun k => by rw [laws_markStone.l0]) (Ev.pos (by omega) (Ev.pos (by omega) ?_))
    refine Ev.nobind rfl ?_
    rw [ha, hb, hc, rdC x i hi, rdC _ i (by simp; omega)]
    simp only [Int.toNat_natCast, List.set_set, List.getElem_set_self]
    rw [show j + 1 + 1 = j + 2 by omega]
    exact hk
  · exact Ev.step (fun k => by rw [laws_markStone.l0]) (Ev.neg (by omega) (Ev.fin rfl))
theorem heldStone (n : Nat) (h : n ≤ 1048576) : Ev (fun k => laws_heldStone.f k (marksG mkC 2 n 1) 1) (1 + 2 * (n : Int)) := by
  unfold laws_heldStone.f
  refine held_ev0 mkC 2 n (fun k j i => laws_heldStone.l0 k (marksG mkC 2 n 1) j i) (by omega) (by omega) (by omega) (fun j i hi r e h0 h1 hk => ?_) (fun j => ?_)
  · have hl := marksG_length mkC 2 n 1
    have ha := w64 (x := (i : Int) + 1) (by omega) (by omega)
    have hb := w64 (x := j + 1) (by omega) (by omega)
    have hc := w64 (x := j + 1 + 1) (by omega) (by omega)
    refine Ev.step (fun k => by rw [laws_heldStone.l0]) (Ev.pos (by omega) (Ev.pos (by omega) ?_))
    rw [ha, hb, hc, rdC _ i hi, e]
    refine Ev.pos rfl (Ev.pos rfl ?_)
    rw [show j + 1 + 1 = j + 2 by omega]
    exact hk
  · have hl := marksG_length mkC 2 n 1
    exact Ev.step (fun k => by rw [laws_heldStone.l0]) (Ev.neg (by omega) (Ev.fin rfl))
theorem markStoneAt (l : List S37) (h : l.length ≤ 1048576) (j0 : Int) (h0 : 0 ≤ j0 ∧ j0 ≤ 1000000000) : Ev (fun k => laws_markStone.f k l j0) (j0 + 2 * (l.length : Int), marksG mkC 2 l.length j0) := by
  unfold laws_markStone.f
  refine Ev.to (mark_ev mkC 2 (fun k x j i => laws_markStone.l0 k x j i) (by omega) (by omega) (fun x j i hi r h0 h1 h2 hk => ?_) (fun x j => ?_) l.length 0 j0 l (by omega) (by omega) h0.1 (by omega)) (by simp)
  · have ha := w64 (x := (i : Int) + 1) (by omega) (by omega)
    have hb := w64 (x := j + 1) (by omega) (by omega)
    have hc := w64 (x := j + 1 + 1) (by omega) (by omega)
    refine Ev.step (fun k => by rw [laws_markStone.l0]) (Ev.pos (by omega) (Ev.pos (by omega) ?_))
    refine Ev.nobind rfl ?_
    rw [ha, hb, hc, rdC x i hi, rdC _ i (by simp; omega)]
    simp only [Int.toNat_natCast, List.set_set, List.getElem_set_self]
    rw [show j + 1 + 1 = j + 2 by omega]
    exact hk
  · exact Ev.step (fun k => by rw [laws_markStone.l0]) (Ev.neg (by omega) (Ev.fin rfl))
theorem heldStoneAt (n : Nat) (h : n ≤ 1048576) (j0 : Int) (h0 : 0 ≤ j0 ∧ j0 ≤ 1000000000) : Ev (fun k => laws_heldStone.f k (marksG mkC 2 n j0) j0) (j0 + 2 * (n : Int)) := by
  unfold laws_heldStone.f
  have hl := marksG_length mkC 2 n j0
  refine held_evx mkC 2 (marksG mkC 2 n j0) (fun k j i => laws_heldStone.l0 k (marksG mkC 2 n j0) j i) (by omega) (by omega) (fun j i hi r e h0 h1 hk => ?_) (fun j => ?_) n 0 j0 (by omega) h0.1 (by omega) (by simp)
  · have ha := w64 (x := (i : Int) + 1) (by omega) (by omega)
    have hb := w64 (x := j + 1) (by omega) (by omega)
    have hc := w64 (x := j + 1 + 1) (by omega) (by omega)
    refine Ev.step (fun k => by rw [laws_heldStone.l0]) (Ev.pos (by omega) (Ev.pos (by omega) ?_))
    rw [ha, hb, hc, rdC _ i hi, e]
    refine Ev.pos rfl (Ev.pos rfl ?_)
    rw [show j + 1 + 1 = j + 2 by omega]
    exact hk
  · exact Ev.step (fun k => by rw [laws_heldStone.l0]) (Ev.neg (by omega) (Ev.fin rfl))
end Go.Proofs.Ytgefjglbaekegaa.StonesKit
