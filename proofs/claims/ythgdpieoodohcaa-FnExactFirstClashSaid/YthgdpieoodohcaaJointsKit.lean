/- What the functions on joints come to, the reference's and the program's; the laws' own small functions over lists of joints. -/
import Derived.Test.YthgdpieoodohcaaLoops
import Derived.Test.YthgdpieoodohcaaRowsFns
import Derived.Test.YthgdpieoodohcaaPAxf44
import Derived.Test.YthgdpieoodohcaaPAxf45
import Derived.Test.YthgdpieoodohcaaPAxf87
import Derived.Test.YthgdpieoodohcaaPAxgLaw
import Derived.Test.YthgdpieoodohcaaPAxgSpec
namespace Go.Proofs.Ythgdpieoodohcaa.JointsKit
set_option linter.unusedSimpArgs false
set_option linter.unusedVariables false
open Go.RowKit Go.Proofs.Ythgdpieoodohcaa.PA Go.Proofs.Ythgdpieoodohcaa.Base Go.Proofs.Ythgdpieoodohcaa.RowsFns Go.Proofs.YthgdpieoodohcaaW.PrintWords Go.Proofs.YthgdpieoodohcaaW.PrintLast Go.Proofs.YthgdpieoodohcaaW.PrintMore

theorem rdJ (xs : List S90) (i : Nat) (h : i < xs.length) : rd_T90 xs (i : Int) = xs[i] := getD_nat xs z90 i h
def jtF (a : Int) (_ x : Int) (s : List S90 × Int) : List S90 ⊕ (List S90 × Int) :=
  .inr (s.1 ++ [(⟨IntKind.i16.wrap (wrap64 (s.2 + wrap64 x)), IntKind.i16.wrap (wrap64 (wrap64 (s.2 + wrap64 x) + a))⟩ : S90)], wrap64 (wrap64 (s.2 + wrap64 x) + a))
/-- All joints of a row. -/
def jts (l : List Int) (a : Int) : List S90 := scanG (jtF a) (·.1) l.dropLast 0 ([], 0)
theorem jtI (a : Int) (s : List S90 × Int) (i : Nat) (x : Int) (s' : List S90 × Int) (hi : s.1.length = i) (e : jtF a (i : Int) x s = .inr s') : s'.1.length = i + 1 := by
  cases e; simp [hi]
theorem jts_length (l : List Int) (a : Int) : (jts l a).length = l.length - 1 := by
  unfold jts
  have key : ∀ (xs : List Int) (i : Int) (s : List S90 × Int), (scanG (jtF a) (·.1) xs i s).length = s.1.length + xs.length := by
    intro xs
    induction xs with
    | nil => intro i s; simp [scanG]
    | cons x xs ih => intro i s; simp only [scanG, jtF]; rw [ih]; simp; omega
  rw [key]; simp
theorem specJoints (l : List Int) (a : Int) (h : l.length ≤ 1048576) (h1 : 1 ≤ l.length) : Ev (fun k => spec_l05Joints.f k l a) (jts l a) := by
  unfold spec_l05Joints.f jts
  refine scan_ev0 l.dropLast (jtF a) (·.1) (fun k s i => spec_l05Joints.l0 k l a s.1 s.2 i) (fun i s => s.1.length = i) ([], 0) rfl (fun s i h s' hi e => jtI a s i _ s' hi e) (fun s i hl r hi _ hk => ?_) (fun s hi => ?_)
  · have hl' : i < l.length - 1 := by simpa using hl
    have hk' := hk _ rfl (jtI a s i _ _ hi rfl)
    have ha := w64 (x := (i : Int) + 1) (by omega) (by omega)
    refine Ev.step (fun k => by rw [spec_l05Joints.l0]) (Ev.pos (by omega) (Ev.pos (by omega) (Ev.pos (by omega) (Ev.pos (by omega) ?_))))
    rw [rd_nat l i (by omega), ha]
    simp only [List.getElem_dropLast] at hk'
    exact hk'
  · have : l.dropLast.length = l.length - 1 := by simp
    have ha := w64 (x := ((l.dropLast.length : Nat) : Int) + 1) (by omega) (by omega)
    exact Ev.step (fun k => by rw [spec_l05Joints.l0]) (Ev.neg (by omega) (Ev.fin rfl))
theorem implJoints (l : List Int) (a : Int) (h : l.length ≤ 1048576) (h1 : 1 ≤ l.length) : Ev (fun k => impl_Row_joints.f k l a) (jts l a) := by
  unfold impl_Row_joints.f jts
  have ha := w64 (x := (l.length : Int) - 1) (by omega) (by omega)
  rw [ha]
  refine Ev.pos (by omega) (Ev.pos (by omega) ?_)
  have ht : l.take ((l.length : Int) - 1).toNat = l.dropLast := by rw [List.dropLast_eq_take]; congr 1; omega
  rw [ht]
  refine scan_ev0 l.dropLast (jtF a) (·.1) (fun k s i => impl_Row_joints.l0 k a s.1 s.2 l.dropLast (l.dropLast.length : Int) i) (fun i s => s.1.length = i) ([], 0) rfl (fun s i h s' hi e => jtI a s i _ s' hi e) (fun s i hl r hi _ hk => ?_) (fun s hi => ?_)
  · have hl' : i < l.length - 1 := by simpa using hl
    have hk' := hk _ rfl (jtI a s i _ _ hi rfl)
    have ha := w64 (x := (i : Int) + 1) (by omega) (by omega)
    refine Ev.step (fun k => by rw [impl_Row_joints.l0]) (Ev.pos (by omega) (Ev.pos (by omega) (Ev.pos (by omega) (Ev.pos (by omega) ?_))))
    rw [rd_nat l.dropLast i hl, ha]
    exact hk'
  · exact Ev.step (fun k => by rw [impl_Row_joints.l0]) (Ev.neg (by omega) (Ev.fin rfl))
theorem eqJoints (l : List S90) (h : l.length ≤ 1048576) : Ev (fun k => laws_eqJointS.f k l l) true := by
  unfold laws_eqJointS.f
  refine Ev.pos rfl ?_
  refine count_ev0 (laws_eqJointS.l0 · l l ·) l.length true (fun i hi hk => ?_) ?_
  · have ha := w64 (x := (i : Int) + 1) (by omega) (by omega)
    refine Ev.step (fun k => by rw [laws_eqJointS.l0]) (Ev.pos (by omega) (Ev.pos (by omega) (Ev.pos (by omega) ?_)))
    refine Ev.nobind (a := true) (by simp [laws_eqJoint.f]) (Ev.pos rfl ?_)
    rw [ha]; exact hk
  · exact Ev.step (fun k => by rw [laws_eqJointS.l0]) (Ev.neg (by omega) (Ev.fin rfl))
def mkJ (j : Int) : S90 := ⟨IntKind.i16.wrap j, IntKind.i16.wrap (j + 1)⟩
theorem markJoints (l : List S90) (h : l.length ≤ 1048576) : Ev (fun k => laws_markJointS.f k l 1) (1 + 2 * (l.length : Int), marksG mkJ 2 l.length 1) := by
  unfold laws_markJointS.f
  refine mark_ev0 mkJ 2 l (fun k x j i => laws_markJointS.l0 k x j i) (by omega) (by omega) (by omega) (fun x j i hi r h0 h1 h2 hk => ?_) (fun x j => ?_)
  · have ha := w64 (x := (i : Int) + 1) (by omega) (by omega)
    have hb := w64 (x := j + 1) (by omega) (by omega)
    have hc := w64 (x := j + 1 + 1) (by omega) (by omega)
    refine Ev.step (fun k => by rw [laws_markJointS.l0]) (Ev.pos (by omega) (Ev.pos (by omega) ?_))
    refine Ev.nobind rfl ?_
    rw [ha, hb, hc, rdJ x i hi, rdJ _ i (by simp; omega)]
    simp only [Int.toNat_natCast, List.set_set, List.getElem_set_self]
    rw [show j + 1 + 1 = j + 2 by omega]
    exact hk
  · exact Ev.step (fun k => by rw [laws_markJointS.l0]) (Ev.neg (by omega) (Ev.fin rfl))
theorem heldJoints (n : Nat) (h : n ≤ 1048576) : Ev (fun k => laws_heldJointS.f k (marksG mkJ 2 n 1) 1) (1 + 2 * (n : Int)) := by
  unfold laws_heldJointS.f
  refine held_ev0 mkJ 2 n (fun k j i => laws_heldJointS.l0 k (marksG mkJ 2 n 1) j i) (by omega) (by omega) (by omega) (fun j i hi r e h0 h1 hk => ?_) (fun j => ?_)
  · have hl := marksG_length mkJ 2 n 1
    have ha := w64 (x := (i : Int) + 1) (by omega) (by omega)
    have hb := w64 (x := j + 1) (by omega) (by omega)
    have hc := w64 (x := j + 1 + 1) (by omega) (by omega)
    refine Ev.step (fun k => by rw [laws_heldJointS.l0]) (Ev.pos (by omega) (Ev.pos (by omega) ?_))
    rw [ha, hb, hc, rdJ _ i hi, e]
    refine Ev.pos rfl (Ev.pos rfl ?_)
    rw [show j + 1 + 1 = j + 2 by omega]
    exact hk
  · have hl := marksG_length mkJ 2 n 1
    exact Ev.step (fun k => by rw [laws_heldJointS.l0]) (Ev.neg (by omega) (Ev.fin rfl))
end Go.Proofs.Ythgdpieoodohcaa.JointsKit
