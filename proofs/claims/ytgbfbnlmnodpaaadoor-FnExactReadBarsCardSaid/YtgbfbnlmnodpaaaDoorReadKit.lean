/- What the reference's and the program's functions come to on texts: words, numerals. -/
import Derived.Test.YtgbfbnlmnodpaaaDoorPlainRead
import Derived.Test.YtgbfbnlmnodpaaaDoorPAxf15
import Derived.Test.YtgbfbnlmnodpaaaDoorPAxf16
import Derived.Test.YtgbfbnlmnodpaaaDoorPAxf18
import Derived.Test.YtgbfbnlmnodpaaaDoorPAxf19
import Derived.Test.YtgbfbnlmnodpaaaDoorPAxgImpl
namespace Go.Proofs.YtgbfbnlmnodpaaaDoor.ReadKit
set_option linter.unusedSimpArgs false
set_option linter.unusedVariables false
open Go.RowKit Go.Proofs.YtgbfbnlmnodpaaaDoor.PA Go.Proofs.YtgbfbnlmnodpaaaDoor.Base Go.Proofs.YtgbfbnlmnodpaaaDoor.PlainRead Go.Proofs.YtgbfbnlmnodpaaaDoorW.PrintWords Go.Proofs.YtgbfbnlmnodpaaaDoorW.PrintLast Go.Proofs.YtgbfbnlmnodpaaaDoorW.PrintMore

theorem ba_ext {a b : ByteArray} (h : a.data.toList = b.data.toList) : a = b := by
  cases a; cases b
  congr 1
  exact Array.ext' h
theorem ba_size (a : ByteArray) : a.size = a.data.toList.length := by rw [Array.length_toList]; rfl
theorem bt_get (s : ByteArray) (i : Nat) (h : i < s.data.toList.length) : bt s (i : Int) = ((s.data.toList[i]).toNat : Int) := by
  have h2 : i < s.size := by rw [ba_size]; exact h
  unfold bt
  rw [dif_pos (by rw [Int.toNat_natCast]; exact h2)]
  congr 2
theorem ext_mk (s : ByteArray) (a b : Nat) : s.extract a b = mk ((s.data.toList.drop a).take (b - a)) := by
  apply ba_ext
  rw [Lib.extract_data, data_mk]
theorem specSplit (c : UInt8) (s : ByteArray) (hs : s.size ≤ 1048576) : Ev (fun k => spec_l01Split.f k s ((c.toNat : Nat) : Int)) (words c s) := by
  unfold spec_l01Split.f
  have hz := ba_size s
  have key : ∀ (d i b : Nat) (acc : List ByteArray), i + d = s.size → b ≤ i → acc.length ≤ i → Ev (fun k => spec_l01Split.l0 k s ((c.toNat : Nat) : Int) acc (b : Int) (i : Int)) (acc ++ (parts c ((s.data.toList.drop b).take (i - b)) (s.data.toList.drop i)).map mk) := by
    intro d
    induction d with
    | zero =>
      intro i b acc h hb ha
      refine Ev.step (fun k => by rw [spec_l01Split.l0]) ?_
      refine Ev.neg (by omega) (Ev.pos (by omega) (Ev.pos (by omega) (Ev.pos (by omega) (Ev.fin ?_))))
      rw [List.drop_of_length_le (i := i) (by omega), parts, List.map_cons, List.map_nil, Int.toNat_natCast, ext_mk, show i = s.size by omega]
    | succ d ih =>
      intro i b acc h hb ha
      have hi : i < s.data.toList.length := by omega
      refine Ev.step (fun k => by rw [spec_l01Split.l0]) ?_
      rw [bt_get s i hi, w64 (x := (i : Int) + 1) (by omega) (by omega), drop_at s.data.toList i hi]
      refine Ev.pos (by omega) (Ev.pos (by omega) (Ev.ite (fun e => ?_) (fun e => ?_)))
      · have e2 : s.data.toList[i] = c := UInt8.toNat_inj.1 (by omega)
        rw [parts, if_pos e2]
        refine Ev.pos (by omega) (Ev.pos (by omega) (Ev.pos (by omega) (Ev.pos (by omega) ?_)))
        have := ih (i + 1) (i + 1) (acc ++ [s.extract b i]) (by omega) (by omega) (by rw [List.length_append]; simp only [List.length_cons, List.length_nil]; omega)
        rw [Nat.sub_self, List.take_zero, List.append_assoc] at this
        rw [Int.toNat_natCast, Int.toNat_natCast, List.map_cons, ← ext_mk]
        exact this
      · have e2 : ¬ s.data.toList[i] = c := fun q => e (by rw [q])
        rw [parts, if_neg e2]
        have := ih (i + 1) b acc (by omega) (by omega) (by omega)
        have et : (s.data.toList.drop b).take (i + 1 - b) = (s.data.toList.drop b).take (i - b) ++ [s.data.toList[i]] := by
          rw [show i + 1 - b = (i - b) + 1 by omega, List.take_succ_eq_append_getElem (by rw [List.length_drop]; omega)]
          congr 2
          rw [List.getElem_drop]
          congr 1
          omega
        rw [et] at this
        exact this
  have := key s.size 0 0 [] (by omega) (by omega) (by simp)
  unfold words
  simpa using this
theorem implSplit (c : UInt8) (s : ByteArray) (hs : s.size ≤ 1048576) : strings_Split.f s ⟨#[c]⟩ = some (words c s) := by
  unfold strings_Split.f
  rw [if_pos (by omega), if_pos (by show 1 ≤ 1; omega), split_words]
theorem specNumber (s : ByteArray) : Ev (fun k => spec_l01Number.f k s) (num s.data.toList) := by
  have hz := ba_size s
  have htl : s.toList = s.data.toList := Lib.toList_data s
  have p10 : (10 : Nat) ^ 10 = 10000000000 := by decide
  have key : ∀ (d i acc : Nat), i + d = s.size → s.size ≤ 10 → acc < 10 ^ i → Ev (fun k => spec_l01Number.l0 k s (acc : Int) (i : Int)) (numA (acc : Int) (s.data.toList.drop i)) := by
    intro d
    induction d with
    | zero =>
      intro i acc h h10 ha
      refine Ev.step (fun k => by rw [spec_l01Number.l0]) ?_
      rw [List.drop_of_length_le (by omega), numA]
      exact Ev.neg (by omega) (Ev.fin rfl)
    | succ d ih =>
      intro i acc h h10 ha
      have hi : i < s.data.toList.length := by omega
      have hb := (s.data.toList[i]).toNat_lt
      refine Ev.step (fun k => by rw [spec_l01Number.l0]) ?_
      rw [bt_get s i hi, w64 (x := (i : Int) + 1) (by omega) (by omega), drop_at s.data.toList i hi, numA]
      refine Ev.pos (by omega) (Ev.pos (by omega) (Ev.ite (fun e => ?_) (fun e => Ev.ite (fun e2 => ?_) (fun e2 => ?_))))
      · rw [if_pos (by omega)]; exact Ev.fin rfl
      · rw [if_neg (by omega), if_pos (by omega)]; exact Ev.fin rfl
      · rw [if_neg (by omega), if_neg (by omega)]
        have hp : 10 ^ (i + 1) ≤ 10 ^ 10 := Nat.pow_le_pow_right (by omega) (by omega)
        rw [p10] at hp
        have hp2 := Nat.pow_succ 10 i
        have e3 : wrap64 (wrap64 (10 * (acc : Int)) + (((s.data.toList[i]).toNat : Int) - 48) % 256) = ((10 * acc + ((s.data.toList[i]).toNat - 48) : Nat) : Int) := by
          rw [w64 (x := 10 * (acc : Int)) (by omega) (by omega), Int.emod_eq_of_lt (by omega) (by omega), w64 (by omega) (by omega)]
          omega
        have e4 : 10 * (acc : Int) + (((s.data.toList[i]).toNat : Int) - 48) = ((10 * acc + ((s.data.toList[i]).toNat - 48) : Nat) : Int) := by omega
        rw [e3, e4]
        exact ih (i + 1) _ (by omega) h10 (by omega)
  unfold spec_l01Number.f num
  rw [htl]
  refine Ev.ite (fun h => ?_) (fun h => Ev.ite (fun h2 => ?_) (fun h2 => ?_))
  · rw [if_pos h]
    refine Ev.step (fun k => by rw [spec_l01Number.j0]) ?_
    exact Ev.pos rfl (Ev.fin rfl)
  · rw [if_neg h, if_pos (by omega)]
    refine Ev.step (fun k => by rw [spec_l01Number.j0]) ?_
    exact Ev.pos rfl (Ev.fin rfl)
  · have hp := List.length_pos_iff.2 h
    have hb0 : bt s 0 = ((s.data.toList[0]).toNat : Int) := bt_get s 0 hp
    have hh : s.data.toList.head? = some (s.data.toList[0]) := by
      rw [List.head?_eq_getElem?, List.getElem?_eq_getElem hp]
    have k0 := key s.size 0 0 (by omega) (by omega) (by decide)
    rw [List.drop_zero] at k0
    rw [if_neg h, if_neg (by omega), hb0, hh]
    have c48 : (48 : UInt8).toNat = 48 := rfl
    refine Ev.pos (by omega) (Ev.ite (fun e => ?_) (fun e => ?_))
    · have e2 : s.data.toList[0] = 48 := UInt8.toNat_inj.1 (by omega)
      rw [e2]
      refine Ev.step (fun k => by rw [spec_l01Number.j0]) ?_
      by_cases q : s.data.toList.length > 1
      · rw [if_pos ⟨rfl, q⟩, decide_eq_true (by omega)]
        exact Ev.pos rfl (Ev.fin rfl)
      · rw [if_neg (fun h => q h.2), decide_eq_false (by omega)]
        exact Ev.neg (by decide) k0
    · have e2 : ¬ (some (s.data.toList[0]) = some 48 ∧ s.data.toList.length > 1) := fun ⟨q, _⟩ => e (by rw [Option.some.inj q]; rfl)
      rw [if_neg e2]
      refine Ev.step (fun k => by rw [spec_l01Number.j0]) ?_
      exact Ev.neg (by decide) k0
theorem implIn (n b c : Int) : impl_within.f n b c = some (inB n b c) := inB_ite
theorem readD {a : ByteArray} {lo hi : Int} {o : Option Int} (hlo : -1000 ≤ lo) (hhi : hi ≤ 1000) (hs : a.size ≤ 1048576) (ho : ∀ x, o = some x ↔ (lo ≤ x ∧ x ≤ hi ∧ a.data.toList = Lib.itoa x)) :
    ∃ n, impl_readDecimal.f a lo hi = some (n, o.isSome) ∧ ∀ x, o = some x → n = x := by
  have hp : ∀ x, o = some x → Lib.parseIntB 64 a.data.toList = .ok x := fun x hx => by
    obtain ⟨h1, h2, h3⟩ := (ho x).1 hx
    rw [h3]
    exact parse_itoa (by omega)
  unfold impl_readDecimal.f
  rw [if_pos (by omega)]
  cases q : Lib.parseIntB 64 a.data.toList with
  | «syntax» =>
    cases o with
    | none => exact ⟨0, rfl, fun x h => by cases h⟩
    | some x => have := hp x rfl; rw [q] at this; cases this
  | range =>
    cases o with
    | none => exact ⟨_, rfl, fun x h => by cases h⟩
    | some x => have := hp x rfl; rw [q] at this; cases this
  | ok v =>
    have hb := Lib.parseIntB_bounds q
    have hv : ∀ x, o = some x → v = x := fun x hx => by
      have := hp x hx
      rw [q] at this
      injection this
    refine ⟨v, ?_, hv⟩
    show impl_readDecimal.fin v a lo hi = some (v, o.isSome)
    unfold impl_readDecimal.fin impl_decimal.f
    rw [if_pos (by omega), if_pos (by omega), Option.bind_some]
    have ht : (mk (Lib.itoa v)).toList = Lib.itoa v := Lib.toList_data _
    have ht2 : a.toList = a.data.toList := Lib.toList_data a
    show (if (mk (Lib.itoa v)).toList = a.toList then _ else _) = _
    rw [ht, ht2]
    by_cases e : Lib.itoa v = a.data.toList
    · rw [if_pos e, implIn, Option.bind_some]
      congr 2
      cases o with
      | none =>
        cases r : inB v lo hi with
        | false => rfl
        | true =>
          have r := inB_iff.1 r
          have := (ho v).2 ⟨r.1, r.2, e.symm⟩
          cases this
      | some x =>
        have := hv x rfl
        have hx := (ho x).1 rfl
        rw [this]
        exact inB_iff.2 ⟨hx.1, hx.2.1⟩
    · rw [if_neg e]
      cases o with
      | none => rfl
      | some x =>
        have := hv x rfl
        have hx := (ho x).1 rfl
        exact absurd (by rw [this, hx.2.2]) e
end Go.Proofs.YtgbfbnlmnodpaaaDoor.ReadKit
