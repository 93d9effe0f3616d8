/- What the functions on joints come to, the reference's and the program's; the laws' own small functions over lists of joints. -/
import Derived.Test.YtjkjelfhdhcplaaLoops
import Derived.Test.YtjkjelfhdhcplaaRowsFns
import Derived.Test.YtjkjelfhdhcplaaPAxf60
import Derived.Test.YtjkjelfhdhcplaaPAxgSpec
namespace Go.Proofs.Ytjkjelfhdhcplaa.JointsKit
set_option linter.unusedSimpArgs false
set_option linter.unusedVariables false
open Go.RowKit Go.Proofs.Ytjkjelfhdhcplaa.PA Go.Proofs.Ytjkjelfhdhcplaa.Base Go.Proofs.Ytjkjelfhdhcplaa.RowsFns Go.Proofs.YtjkjelfhdhcplaaW.PrintWords Go.Proofs.YtjkjelfhdhcplaaW.PrintLast Go.Proofs.YtjkjelfhdhcplaaW.PrintMore

theorem rdJ (xs : List S70) (i : Nat) (h : i < xs.length) : rd_T70 xs (i : Int) = xs[i] := getD_nat xs z70 i h
def jtF (a : Int) (_ x : Int) (s : List S70 × Int) : List S70 ⊕ (List S70 × Int) :=
  .inr (s.1 ++ [(⟨IntKind.i16.wrap (wrap64 (s.2 + wrap64 x)), IntKind.i16.wrap (wrap64 (wrap64 (s.2 + wrap64 x) + a))⟩ : S70)], wrap64 (wrap64 (s.2 + wrap64 x) + a))
/-- All joints of a row. -/
def jts (l : List Int) (a : Int) : List S70 := scanG (jtF a) (·.1) l.dropLast 0 ([], 0)
theorem jtI (a : Int) (s : List S70 × Int) (i : Nat) (x : Int) (s' : List S70 × Int) (hi : s.1.length = i) (e : jtF a (i : Int) x s = .inr s') : s'.1.length = i + 1 := by
  cases e; simp [hi]
theorem jts_length (l : List Int) (a : Int) : (jts l a).length = l.length - 1 := by
  unfold jts
  have key : ∀ (xs : List Int) (i : Int) (s : List S70 × Int), (scanG (jtF a) (·.1) xs i s).length = s.1.length + xs.length := by
    intro xs
    induction xs with
    | nil => intro i s; simp [scanG]
    | cons x xs ih => intro i s; simp only [scanG, jtF]; rw [ih]; simp; omega
  rw [key]; simp
theorem specJoints (l : List Int) (a : Int) (h : l.length ≤ 1048576) (h1 : 1 ≤ l.length) : Ev (fun k => spec_l05Joints.f k l a) (jts l a) := by
  unfold spec_l05Joints.f jts
  refine scan_ev0 l.dropLast (jtF a) (·.1) (fun k s i => spec_l05Joints.l0 k l a s.1 s.2 i) (fun i s => s.1.length = i) ([], 0) rfl (fun s i h s' hi e => jtI a s i _ s' hi e) (fun s i hl r hi _ hk => ?_) (fun s hi => ?_)
  · have hl' : i < l.length - 1 := by simpa using hl
    have hk' := hk _ rfl (jtI a s i _ _ hi rfl)
    have ha := w64 (x := (i : Int) + 1) (by omega) (by omega)
    refine Ev.step (fun k => by rw [spec_l05Joints.l0]) (Ev.pos (by omega) (Ev.pos (by omega) (Ev.pos (by omega) (Ev.pos (by omega) ?_))))
    rw [rd_nat l i (by omega), ha]
    simp only [List.getElem_dropLast] at hk'
    exact hk'
  · have : l.dropLast.length = l.length - 1 := by simp
    have ha := w64 (x := ((l.dropLast.length : Nat) : Int) + 1) (by omega) (by omega)
    exact Ev.step (fun k => by rw [spec_l05Joints.l0]) (Ev.neg (by omega) (Ev.fin rfl))
theorem implJoints (l : List Int) (a : Int) (h : l.length ≤ 1048576) (h1 : 1 ≤ l.length) : Ev (fun k => impl_Row_joints.f k l a) (jts l a) := by
  unfold impl_Row_joints.f jts
  have ha := w64 (x := (l.length : Int) - 1) (by omega) (by omega)
  rw [ha]
  refine Ev.pos (by omega) (Ev.pos (by omega) ?_)
  have ht : l.take ((l.length : Int) - 1).toNat = l.dropLast := by rw [List.dropLast_eq_take]; congr 1; omega
  rw [ht]
  refine scan_ev0 l.dropLast (jtF a) (·.1) (fun k s i => impl_Row_joints.l0 k a s.1 s.2 l.dropLast (l.dropLast.length : Int) i) (fun i s => s.1.length = i) ([], 0) rfl (fun s i h s' hi e => jtI a s i _ s' hi e) (fun s i hl r hi _ hk => ?_) (fun s hi => ?_)
  · have hl' : i < l.length - 1 := by simpa using hl
    have hk' := hk _ rfl (jtI a s i _ _ hi rfl)
    have ha := w64 (x := (i : Int) + 1) (by omega) (by omega)
    refine Ev.step (fun k => by rw [impl_Row_joints.l0]) (Ev.pos (by omega) (Ev.pos (by omega) (Ev.pos (by omega) (Ev.pos (by omega) ?_))))
    rw [rd_nat l.dropLast i hl, ha]
    exact hk'
  · exact Ev.step (fun k => by rw [impl_Row_joints.l0]) (Ev.neg (by omega) (Ev.fin rfl))
end Go.Proofs.Ytjkjelfhdhcplaa.JointsKit
