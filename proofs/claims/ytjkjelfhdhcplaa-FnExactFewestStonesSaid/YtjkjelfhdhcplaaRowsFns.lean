/- What the functions on rows come to, the reference's and the program's: both are the same plain functions on lists. -/
import Derived.Test.YtjkjelfhdhcplaaBase
import Derived.Test.YtjkjelfhdhcplaaPAxf48
import Derived.Test.YtjkjelfhdhcplaaPAxgImpl
import Derived.Test.YtjkjelfhdhcplaaPAxgSpec
namespace Go.Proofs.Ytjkjelfhdhcplaa.RowsFns
set_option linter.unusedSimpArgs false
open Go.RowKit Go.Proofs.Ytjkjelfhdhcplaa.PA Go.Proofs.Ytjkjelfhdhcplaa.Base Go.Proofs.YtjkjelfhdhcplaaW.PrintWords Go.Proofs.YtjkjelfhdhcplaaW.PrintLast Go.Proofs.YtjkjelfhdhcplaaW.PrintMore

/-- The row's numbers fit their type. -/
def Fit (l : List Int) : Prop := ∀ x ∈ l, -32768 ≤ x ∧ x ≤ 32767
theorem fit_of {l : List Int} (h : ∀ x ∈ l, (Lit.int .i16 x).wf = true) : Fit l := fun x hx => wf16 (h x hx)
def okB (l : List Int) : Bool := inB (l.length : Int) 1 60 && l.all fun x => inB x 1 200
theorem specIn (n b c : Int) : spec_l00In.f n b c = some (inB n b c) := inB_ite
theorem implIn (n b c : Int) : impl_within.f n b c = some (inB n b c) := inB_ite
theorem specWidth (n : Int) : spec_l05Width.f n = some (inB n 1 200) := by simp [spec_l05Width.f, specIn]
theorem specSeam (n : Int) : spec_l05Seam.f n = some (inB n 0 200) := by simp [spec_l05Seam.f, specIn]
theorem implSeam (n : Int) : impl_isSeam.f n = some (inB n 0 200) := by simp [impl_isSeam.f, implIn]
theorem implLong (n : Int) : impl_isLong.f n = some (inB n 1 2000) := by simp [impl_isLong.f, implIn]
theorem specLong (n s : Int) : spec_l05Long.f n s = some (inB n 1 2000 && inB s 0 200) := by
  simp only [spec_l05Long.f, specIn, specSeam, Option.bind_some]
  cases inB n 1 2000 <;> simp
theorem implWidth1 (x : Int) : impl_isWidth_1.f x = some (!inB x 1 200) := by simp [impl_isWidth_1.f, implIn]
theorem implWidth (l : List Int) : impl_isWidth.f l = some (l.all fun x => inB x 1 200) := by
  unfold impl_isWidth.f impl_isWidth_1_any.f
  rw [idxO_any (q := fun x => !inB x 1 200) l (fun x _ => implWidth1 x), Option.bind_some]
  congr 1
  rw [Bool.eq_iff_iff]; simp [List.any_eq_false, List.all_eq_true]
theorem implValid {l : List Int} (h : Fit l) : impl_ValidRow.f l = some (okB l) := by
  have h1 : ∀ x ∈ l, impl_ValidRow_1.f x = some (!inB x 1 200) := fun x hx => by
    have := h x hx
    unfold impl_ValidRow_1.f
    rw [w64 (by omega) (by omega), implWidth, Option.bind_some]; simp
  unfold impl_ValidRow.f impl_ValidRow_1_any.f okB
  rw [implIn, Option.bind_some]
  cases inB (l.length : Int) 1 60 with
  | false => rfl
  | true =>
    rw [if_pos rfl, idxO_any (q := fun x => !inB x 1 200) l h1, Option.bind_some]
    congr 1
    rw [Bool.eq_iff_iff]; simp [List.any_eq_false, List.all_eq_true]
theorem specOk {l : List Int} (h : Fit l) : Ev (fun k => spec_l05Ok.f k l) (okB l) := by
  unfold spec_l05Ok.f okB
  rw [specIn]
  refine Ev.nobind rfl ?_
  refine Ev.ite (fun hb => ?_) (fun hb => ?_)
  · rw [hb]
    have hl := (inB_iff.1 hb).2
    refine Ev.to (all_loop0 l (fun x => inB x 1 200) (spec_l05Ok.l0 · l ·) (by omega) (fun k i h0 h1 => ?_) (fun k i h1 => ?_)) (by simp)
    · have := h _ (rd_mem h0 h1)
      show spec_l05Ok.l0 (k + 1) l i = _
      rw [spec_l05Ok.l0, if_pos h1, if_pos h0, w64 (x := rd l i) (by omega) (by omega), specWidth]; rfl
    · show spec_l05Ok.l0 (k + 1) l i = _
      rw [spec_l05Ok.l0, if_neg h1]
  · rw [Bool.not_eq_true] at hb; rw [hb]; exact Ev.fin rfl
/-- The code of a row and a seam. -/
def askRow (l : List Int) (seam : Int) : Int := if okB l then (if inB seam 0 200 then 0 else 2) else 1
theorem specAsked {l : List Int} (h : Fit l) (a : Int) : Ev (fun k => spec_l05Asked.f k l a) (askRow l a) := by
  unfold spec_l05Asked.f askRow
  refine Ev.bind (specOk h) ?_
  cases okB l with
  | false => exact Ev.fin rfl
  | true =>
    refine Ev.pos rfl (Ev.nobind (specSeam a) ?_)
    cases inB a 0 200 <;> exact Ev.fin rfl
theorem codeOf (a b : Bool) : impl_codeOf.f a b = some (if a then (if b then 0 else 2) else 1) := by
  cases a <;> cases b <;> rfl
/-- The length of a row, in int64. -/
def lenF (l : List Int) (a : Int) : Int := scan (fun _ x s => .inr (wrap64 (s + wrap64 x)) : Int → Int → Int → Int ⊕ Int) id l 0 (wrap64 (a * wrap64 ((l.length : Int) - 1)))
theorem specLength (l : List Int) (a : Int) (h : l.length ≤ 9223372036854775806) : Ev (fun k => spec_l05Length.f k l a) (lenF l a) := by
  unfold spec_l05Length.f lenF
  refine scan_loop0 l _ _ (spec_l05Length.l0 · l · ·) _ h (fun k s i h0 h1 => ?_) (fun k s i h1 => ?_)
  · show spec_l05Length.l0 (k + 1) l s i = _
    rw [spec_l05Length.l0, if_pos h1, if_pos h0]
  · show spec_l05Length.l0 (k + 1) l s i = _
    rw [spec_l05Length.l0, if_neg h1]; rfl
theorem implLength (l : List Int) (a : Int) (h : l.length ≤ 9223372036854775806) : Ev (fun k => impl_Row_length.f k l a) (lenF l a) := by
  unfold impl_Row_length.f lenF
  rw [Int.mul_comm (wrap64 ((l.length : Int) - 1)) a]
  refine scan_loop0 l _ _ (fun k s i => impl_Row_length.l0 k s l (l.length : Int) i) _ h (fun k s i h0 h1 => ?_) (fun k s i h1 => ?_)
  · show impl_Row_length.l0 (k + 1) s l (l.length : Int) i = _
    rw [impl_Row_length.l0, if_pos h1, if_pos h0, if_pos h1]
  · show impl_Row_length.l0 (k + 1) s l (l.length : Int) i = _
    rw [impl_Row_length.l0, if_neg h1]; rfl
end Go.Proofs.Ytjkjelfhdhcplaa.RowsFns
