/- Numerals, joined words: what the reference's functions come to, as lists of bytes. -/
import Derived.Test.YtaihombmmdnadaaDoorLoops
import Derived.Lib.ItoaNum
import Derived.Lib.Join
import Derived.Test.YtaihombmmdnadaaDoorPAxf31
namespace Go.Proofs.YtaihombmmdnadaaDoor.DecKit
set_option linter.unusedSimpArgs false
set_option linter.unusedVariables false
open Go.RowKit Go.Proofs.YtaihombmmdnadaaDoor.PA Go.Proofs.YtaihombmmdnadaaDoor.Base Go.Proofs.YtaihombmmdnadaaDoorW.PrintWords Go.Proofs.YtaihombmmdnadaaDoorW.PrintLast Go.Proofs.YtaihombmmdnadaaDoorW.PrintMore

theorem ba_ext {a b : ByteArray} (h : a.data.toList = b.data.toList) : a = b := by
  cases a; cases b
  congr 1
  exact Array.ext' h
theorem ba_app (a b : ByteArray) : (a ++ b).data.toList = a.data.toList ++ b.data.toList := by
  rw [ByteArray.data_append, Array.toList_append]
theorem ba_size (a : ByteArray) : a.size = a.data.toList.length := by rw [Array.length_toList]; rfl
def dec (u : Nat) : ByteArray := ⟨(Lib.decDigits u).toArray⟩
def itoaB (n : Int) : ByteArray := ⟨(Lib.itoa n).toArray⟩
theorem digits_len (u : Nat) : (Lib.decDigits u).length ≤ u + 1 := by
  induction u using Nat.strongRecOn with
  | _ u ih =>
    rw [Lib.decDigits]
    split
    · simp
    · rename_i h
      have := ih (u / 10) (by omega)
      rw [List.length_append]
      simp only [List.length_cons, List.length_nil]
      omega
theorem dec_size (u : Nat) : (dec u).size ≤ u + 1 := by
  rw [ba_size]
  exact digits_len u
theorem last_digit (u : Nat) : strOfNums [(wrap64 (48 + (Int.tmod (u : Int) 10))) % 256] = ⟨#[UInt8.ofNat (48 + u % 10)]⟩ := by
  have e : (wrap64 (48 + (Int.tmod (u : Int) 10))) % 256 = ((48 + u % 10 : Nat) : Int) := by
    rw [Int.tmod_eq_emod_of_nonneg (by omega)]
    unfold wrap64
    omega
  rw [e]
  unfold strOfNums
  rw [List.map_cons, List.map_nil, Int.toNat_natCast]
theorem specDecimal (u : Nat) : u ≤ 1000000 → Ev (fun k => spec_Decimal.f k (u : Int)) (dec u) := by
  induction u using Nat.strongRecOn with
  | _ u ih =>
    intro hu
    refine Ev.step (fun k => by rw [spec_Decimal.f]) ?_
    rw [last_digit]
    refine Ev.ite (fun h => Ev.fin ?_) (fun h => ?_)
    · unfold dec
      rw [Lib.decDigits, dif_pos (by omega)]
      rw [Nat.mod_eq_of_lt (by omega)]
    · have e : wrap64 (Int.tdiv (u : Int) 10) = ((u / 10 : Nat) : Int) := by
        rw [Int.tdiv_eq_ediv_of_nonneg (by omega)]
        unfold wrap64
        omega
      rw [e]
      refine Ev.bind (ih (u / 10) (by omega) (by omega)) ?_
      refine Ev.nobind rfl ?_
      rw [last_digit]
      have hs := dec_size (u / 10)
      refine Ev.pos (by show (dec (u / 10)).size + 1 ≤ _; omega) (Ev.fin ?_)
      apply ba_ext
      rw [ba_app]
      unfold dec
      conv => rhs; rw [Lib.decDigits, dif_neg (by omega)]
theorem itoaB_size {n : Int} (h : -100000 ≤ n ∧ n ≤ 100000) : (itoaB n).size ≤ 100002 := by
  rw [ba_size]
  unfold itoaB Lib.itoa
  split
  · have := digits_len n.natAbs
    simp only [List.length_cons]
    omega
  · have := digits_len n.toNat
    simp only
    omega
theorem join_snoc (ws : List (List UInt8)) (w sep : List UInt8) (h : ws ≠ []) : Lib.join (ws ++ [w]) sep = Lib.join ws sep ++ sep ++ w := by
  cases ws with
  | nil => exact absurd rfl h
  | cons x r =>
    rw [List.cons_append, Lib.join_cons, Lib.join_cons]
    simp [Lib.joinTail, List.append_assoc]
end Go.Proofs.YtaihombmmdnadaaDoor.DecKit
