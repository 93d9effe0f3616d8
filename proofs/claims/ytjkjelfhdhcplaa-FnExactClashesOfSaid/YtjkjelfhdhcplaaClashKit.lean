/- The joints of two rows that lie too near: what the reference's and the program's functions come to. -/
import Derived.Test.YtjkjelfhdhcplaaLoops2
import Derived.Test.YtjkjelfhdhcplaaApKit
import Derived.Test.YtjkjelfhdhcplaaPAxf27
import Derived.Test.YtjkjelfhdhcplaaPAxf32
import Derived.Test.YtjkjelfhdhcplaaPAxgImpl
import Derived.Test.YtjkjelfhdhcplaaPAxgSpec
namespace Go.Proofs.Ytjkjelfhdhcplaa.ClashKit
set_option linter.unusedSimpArgs false
set_option linter.unusedVariables false
open Go.RowKit Go.Proofs.Ytjkjelfhdhcplaa.PA Go.Proofs.Ytjkjelfhdhcplaa.Base Go.Proofs.Ytjkjelfhdhcplaa.RowsFns Go.Proofs.Ytjkjelfhdhcplaa.JointsKit Go.Proofs.Ytjkjelfhdhcplaa.ApartKit Go.Proofs.YtjkjelfhdhcplaaW.PrintWords Go.Proofs.YtjkjelfhdhcplaaW.PrintLast Go.Proofs.YtjkjelfhdhcplaaW.PrintMore

theorem rdJ' (xs : List S70) (i : Nat) : rd_T70 xs (i : Int) = xs.getD i z70 := by simp [rd_T70]
theorem atJ {x : List S70} (h : FitJ x) (i : Nat) : (-32768 ≤ (x.getD i z70).f0 ∧ (x.getD i z70).f0 ≤ 32767) ∧ (-32768 ≤ (x.getD i z70).f1 ∧ (x.getD i z70).f1 ≤ 32767) := by
  by_cases hi : i < x.length
  · rw [List.getD_eq_getElem?_getD, List.getElem?_eq_getElem hi]; exact h _ (List.getElem_mem hi)
  · rw [List.getD_eq_getElem?_getD, List.getElem?_eq_none (by omega)]
    show (-32768 ≤ z70.f0 ∧ z70.f0 ≤ 32767) ∧ (-32768 ≤ z70.f1 ∧ z70.f1 ≤ 32767)
    decide
def clF (near : Int) (x y : List S70) (i j : Nat) (s : List S53) : List S53 := if ap (x.getD i z70) (y.getD j z70) < near then s ++ [⟨(i : Int), (j : Int)⟩] else s
def clG (near : Int) (x y : List S70) (i : Nat) (s : List S53) : List S53 := iter (fun j s => clF near x y i j s) y.length 0 s
/-- All pairs of joints that lie nearer than near. -/
def cl (near : Int) (x y : List S70) : List S53 := iter (fun i s => clG near x y i s) x.length 0 []
theorem clF_length (near : Int) (x y : List S70) (i j : Nat) (s : List S53) : (clF near x y i j s).length ≤ s.length + 1 := by
  unfold clF; split <;> simp
theorem clG_length (near : Int) (x y : List S70) (i : Nat) (s : List S53) : (clG near x y i s).length ≤ s.length + y.length := by
  have := iter_inv (f := fun j s => clF near x y i j s) (Inv := fun j t => t.length ≤ s.length + j) y.length 0 s (fun t j _ _ h => by have := clF_length near x y i j t; omega) (by omega)
  unfold clG; omega
theorem cl_length (near : Int) (x y : List S70) (h : y.length ≤ 100) : (cl near x y).length ≤ 100 * x.length := by
  have := iter_inv (f := fun i s => clG near x y i s) (Inv := fun i t => t.length ≤ 100 * i) x.length 0 [] (fun t j _ _ h => by have := clG_length near x y j t; omega) (by simp)
  unfold cl; omega
theorem specCl {a b : List Int} (s near : Int) (ha : 1 ≤ a.length ∧ a.length ≤ 60) (hb : 1 ≤ b.length ∧ b.length ≤ 60) : Ev (fun k => spec_l05Clashes.f k a b s near) (cl near (jts a s) (jts b s)) := by
  unfold spec_l05Clashes.f
  refine Ev.bind (specJoints a s (by omega) ha.1) (Ev.bind (specJoints b s (by omega) hb.1) ?_)
  have fx := jts_fit a s
  have fy := jts_fit b s
  have lx : (jts a s).length ≤ 60 := by rw [jts_length]; omega
  have ly : (jts b s).length ≤ 60 := by rw [jts_length]; omega
  generalize jts a s = x at fx lx ⊢
  generalize jts b s = y at fy ly ⊢
  unfold cl
  refine iter_cps0 x.length (fun i s => clG near x y i s) (fun k s i => spec_l05Clashes.l0 k near x y s i) _ (fun i t => t.length ≤ 100 * i) [] (by simp) (fun t i _ h => by have := clG_length near x y i t; omega) (fun t i hi h hr => ?_) (fun _ => ?_)
  · refine Ev.step (fun k => by rw [spec_l05Clashes.l0]) (Ev.pos (by omega) ?_)
    refine iter_cps0 y.length (fun j s => clF near x y i j s) (fun k s j => spec_l05Clashes.l1 k near x y s i j) _ (fun j u => u.length ≤ t.length + j) t (by omega) (fun u j _ h2 => by have := clF_length near x y i j u; omega) (fun u j hj h2 hr2 => ?_) (fun _ => ?_)
    · have hb := w64 (x := (j : Int) + 1) (by omega) (by omega)
      refine Ev.step (fun k => by rw [spec_l05Clashes.l1]) ?_
      rw [rdJ', rdJ', hb]
      refine Ev.pos (by omega) (Ev.pos (by omega) (Ev.pos (by omega) (Ev.pos (by omega) ?_)))
      refine Ev.nobind (specAp (atJ fx i) (atJ fy j)) ?_
      unfold clF at hr2
      refine Ev.ite (fun e => Ev.pos (by omega) ?_) (fun e => ?_)
      · simp only [if_pos e] at hr2; exact hr2
      · simp only [if_neg e] at hr2; exact hr2
    · have ha := w64 (x := (i : Int) + 1) (by omega) (by omega)
      refine Ev.step (fun k => by rw [spec_l05Clashes.l1]) (Ev.neg (by omega) ?_)
      rw [ha]; exact hr
  · exact Ev.step (fun k => by rw [spec_l05Clashes.l0]) (Ev.neg (by omega) (Ev.fin rfl))
theorem implCl {a b : List Int} (s near : Int) (ha : 1 ≤ a.length ∧ a.length ≤ 60) (hb : 1 ≤ b.length ∧ b.length ≤ 60) : Ev (fun k => impl_clashes.f k a b s near) (cl near (jts a s) (jts b s)) := by
  unfold impl_clashes.f
  refine Ev.bind (implJoints b s (by omega) hb.1) (Ev.bind (implJoints a s (by omega) ha.1) ?_)
  have fx := jts_fit a s
  have fy := jts_fit b s
  have lx : (jts a s).length ≤ 60 := by rw [jts_length]; omega
  have ly : (jts b s).length ≤ 60 := by rw [jts_length]; omega
  generalize jts a s = x at fx lx ⊢
  generalize jts b s = y at fy ly ⊢
  unfold cl
  refine iter_cps0 x.length (fun i s => clG near x y i s) (fun k s i => impl_clashes.l0 k near s y x (x.length : Int) i) _ (fun i t => t.length ≤ 100 * i) [] (by simp) (fun t i _ h => by have := clG_length near x y i t; omega) (fun t i hi h hr => ?_) (fun _ => ?_)
  · refine Ev.step (fun k => by rw [impl_clashes.l0]) (Ev.pos (by omega) (Ev.pos (by omega) (Ev.pos (by omega) ?_)))
    rw [rdJ']
    refine iter_cps0 y.length (fun j s => clF near x y i j s) (fun k s j => impl_clashes.l1 k near s y i x (x.length : Int) i y (y.length : Int) j (x.getD i z70).f0 (x.getD i z70).f1) _ (fun j u => u.length ≤ t.length + j) t (by omega) (fun u j _ h2 => by have := clF_length near x y i j u; omega) (fun u j hj h2 hr2 => ?_) (fun _ => ?_)
    · have hb := w64 (x := (j : Int) + 1) (by omega) (by omega)
      refine Ev.step (fun k => by rw [impl_clashes.l1]) ?_
      rw [rdJ', hb]
      refine Ev.pos (by omega) (Ev.pos (by omega) (Ev.pos (by omega) ?_))
      refine Ev.nobind (implAp (atJ fx i) (atJ fy j)) ?_
      unfold clF at hr2
      refine Ev.ite (fun e => Ev.pos (by omega) ?_) (fun e => ?_)
      · simp only [if_pos e] at hr2; exact hr2
      · simp only [if_neg e] at hr2; exact hr2
    · have ha := w64 (x := (i : Int) + 1) (by omega) (by omega)
      refine Ev.step (fun k => by rw [impl_clashes.l1]) (Ev.neg (by omega) ?_)
      rw [ha]; exact hr
  · exact Ev.step (fun k => by rw [impl_clashes.l0]) (Ev.neg (by omega) (Ev.fin rfl))
end Go.Proofs.Ytjkjelfhdhcplaa.ClashKit
