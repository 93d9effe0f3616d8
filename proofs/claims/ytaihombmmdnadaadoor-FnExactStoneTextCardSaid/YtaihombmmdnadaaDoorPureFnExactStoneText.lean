/- The program's StoneText answers what the reference's StoneText answers, at all lists of corners; the listed tables hold what the program's text lays. -/
import Derived.Test.YtaihombmmdnadaaDoorStonesKit
import Derived.Test.YtaihombmmdnadaaDoorTextKit
import Derived.Test.YtaihombmmdnadaaDoorPAxf11
import Derived.Test.YtaihombmmdnadaaDoorPAxf13
import Derived.Test.YtaihombmmdnadaaDoorPAxf20
import Derived.Test.YtaihombmmdnadaaDoorPAxf22
import Derived.Test.YtaihombmmdnadaaDoorPAxf26
import Derived.Test.YtaihombmmdnadaaDoorPAxf4
namespace Go.Proofs.YtaihombmmdnadaaDoor.Pure
set_option linter.unusedSimpArgs false
set_option linter.unusedVariables false
open Go.RowKit Go.Proofs.YtaihombmmdnadaaDoor.PA Go.Proofs.YtaihombmmdnadaaDoor.Base Go.Proofs.YtaihombmmdnadaaDoor.StonesKit Go.Proofs.YtaihombmmdnadaaDoor.TextKit Go.Proofs.YtaihombmmdnadaaDoorW.PrintWords Go.Proofs.YtaihombmmdnadaaDoorW.PrintLast Go.Proofs.YtaihombmmdnadaaDoorW.PrintMore

def word (c : S56) : ByteArray := (itoaB c.f0 ++ (⟨#[44]⟩ : ByteArray)) ++ itoaB c.f1
def txt (l : List S56) (i : Nat) : ByteArray := ⟨(Lib.join (((l.take i).map word).map (·.data.toList)) [32]).toArray⟩
theorem txt_zero (l : List S56) : txt l 0 = ⟨#[]⟩ := by simp [txt, Lib.join_nil]
theorem take_one (l : List S56) (i : Nat) (h : i < l.length) : l.take (i + 1) = l.take i ++ [l[i]] := List.take_succ_eq_append_getElem h
theorem txt_one (l : List S56) (h : 0 < l.length) : txt l 1 = txt l 0 ++ word l[0] := by
  apply ba_ext
  rw [ba_app, txt_zero]
  unfold txt
  rw [take_one l 0 h]
  simp [Lib.join_one]
theorem txt_succ (l : List S56) (i : Nat) (h0 : 0 < i) (h : i < l.length) : txt l (i + 1) = (txt l i ++ (⟨#[32]⟩ : ByteArray)) ++ word l[i] := by
  apply ba_ext
  rw [ba_app, ba_app]
  unfold txt
  rw [take_one l i h, List.map_append, List.map_append, List.map_cons, List.map_cons, List.map_nil, List.map_nil, join_snoc _ _ _ (by
    intro e
    have : (l.take i).length = 0 := by simpa using congrArg List.length e
    rw [List.length_take] at this
    omega)]
theorem word_size {c : S56} (h : (-1000 ≤ c.f0 ∧ c.f0 ≤ 1000) ∧ (-1000 ≤ c.f1 ∧ c.f1 ≤ 1000)) : (word c).size ≤ 300000 := by
  have h1 := itoaB_size (n := c.f0) (by omega)
  have h2 := itoaB_size (n := c.f1) (by omega)
  unfold word
  rw [ByteArray.size_append, ByteArray.size_append]
  have : (⟨#[44]⟩ : ByteArray).size = 1 := rfl
  omega
section
variable {l : List S56} (hl : l.length ≤ 8) (hp : ∀ c ∈ l, (-1000 ≤ c.f0 ∧ c.f0 ≤ 1000) ∧ (-1000 ≤ c.f1 ∧ c.f1 ≤ 1000))
include hl hp
theorem txt_size : ∀ i, i ≤ l.length → (txt l i).size ≤ i * 300001
  | 0, _ => by rw [txt_zero, Nat.zero_mul]; exact Nat.le_refl _
  | i + 1, h => by
    have ih := txt_size i (by omega)
    have hw := word_size (hp l[i] (List.getElem_mem (by omega)))
    by_cases h0 : 0 < i
    · rw [txt_succ l i h0 (by omega), ByteArray.size_append, ByteArray.size_append]
      have : (⟨#[32]⟩ : ByteArray).size = 1 := rfl
      omega
    · obtain rfl : i = 0 := by omega
      rw [txt_one l (by omega), ByteArray.size_append]
      omega
theorem specLoop : ∀ (d i : Nat), i + d = l.length → Ev (fun k => spec_l03Text.l0 k l (txt l i) (i : Int)) (txt l l.length)
  | 0, i, h => by
    refine Ev.step (fun k => by rw [spec_l03Text.l0]) ?_
    refine Ev.neg (by omega) (Ev.fin ?_)
    rw [show i = l.length by omega]
  | d + 1, i, h => by
    have hi : i < l.length := by omega
    have hc := hp l[i] (List.getElem_mem hi)
    have s1 := itoaB_size (n := l[i].f0) (by omega)
    have s2 := itoaB_size (n := l[i].f1) (by omega)
    have hw := word_size hc
    have ht := txt_size hl hp i (by omega)
    have e44 : (⟨#[44]⟩ : ByteArray).size = 1 := rfl
    have e32 : (⟨#[32]⟩ : ByteArray).size = 1 := rfl
    have ih := specLoop d (i + 1) (by omega)
    refine Ev.step (fun k => by rw [spec_l03Text.l0]) ?_
    refine Ev.pos (by omega) ?_
    rw [rdC l i hi, w64 (x := l[i].f0) (by omega) (by omega), w64 (x := l[i].f1) (by omega) (by omega), w64 (x := (i : Int) + 1) (by omega) (by omega)]
    refine Ev.ite (fun h0 => ?_) (fun h0 => ?_)
    · refine Ev.pos (by omega) (Ev.pos (by omega) ?_)
      refine Ev.bind (specSigned (by omega)) (Ev.pos (by omega) ?_)
      refine Ev.bind (specSigned (by omega)) (Ev.pos (by rw [ByteArray.size_append]; omega) (Ev.pos ?_ ?_))
      · show (txt l i ++ (⟨#[32]⟩ : ByteArray)).size + (word l[i]).size ≤ _
        rw [ByteArray.size_append]; omega
      · have := txt_succ l i (by omega) hi
        unfold word at this
        rw [← this]
        exact ih
    · obtain rfl : i = 0 := by omega
      refine Ev.pos (by omega) ?_
      refine Ev.bind (specSigned (by omega)) (Ev.pos (by omega) ?_)
      refine Ev.bind (specSigned (by omega)) (Ev.pos (by rw [ByteArray.size_append]; omega) (Ev.pos ?_ ?_))
      · show (txt l 0).size + (word l[0]).size ≤ _
        omega
      · have := txt_one l hi
        unfold word at this
        rw [← this]
        exact ih
theorem implLoop : ∀ (d i : Nat), i + d = l.length → Ev (fun k => impl_StoneText.l0 k ((l.take i).map word) l (l.length : Int) (i : Int)) (txt l l.length)
  | 0, i, h => by
    have hlen := txt_size hl hp l.length (Nat.le_refl _)
    refine Ev.step (fun k => by rw [impl_StoneText.l0]) ?_
    refine Ev.neg (by omega) (Ev.nobind (a := txt l l.length) ?_ (Ev.fin rfl))
    rw [show i = l.length by omega]
    unfold strings_Join.f
    rw [if_pos (by simp; omega)]
    rw [ba_size] at hlen
    exact if_pos (by
      have h2 : (Lib.join (((l.take l.length).map word).map (·.data.toList)) [32]).length ≤ l.length * 300001 := hlen
      show (Lib.join (((l.take l.length).map word).map (·.data.toList)) [32]).length ≤ _
      omega)
  | d + 1, i, h => by
    have hi : i < l.length := by omega
    have hc := hp l[i] (List.getElem_mem hi)
    have s1 := itoaB_size (n := l[i].f0) (by omega)
    have s2 := itoaB_size (n := l[i].f1) (by omega)
    have e44 : (⟨#[44]⟩ : ByteArray).size = 1 := rfl
    have ih := implLoop d (i + 1) (by omega)
    refine Ev.step (fun k => by rw [impl_StoneText.l0]) ?_
    refine Ev.pos (by omega) (Ev.pos (by omega) (Ev.pos (by omega) ?_))
    rw [rdC l i hi, w64 (x := l[i].f0) (by omega) (by omega), w64 (x := l[i].f1) (by omega) (by omega), w64 (x := (i : Int) + 1) (by omega) (by omega)]
    refine Ev.nobind (a := itoaB l[i].f0) (by unfold impl_decimal.f; rw [if_pos (by omega), if_pos (by omega)]; rfl) (Ev.pos (by omega) ?_)
    refine Ev.nobind (a := itoaB l[i].f1) (by unfold impl_decimal.f; rw [if_pos (by omega), if_pos (by omega)]; rfl) (Ev.pos (by rw [ByteArray.size_append]; omega) (Ev.pos (by simp; omega) ?_))
    have e : (l.take i).map word ++ [(itoaB l[i].f0 ++ (⟨#[44]⟩ : ByteArray)) ++ itoaB l[i].f1] = (l.take (i + 1)).map word := by
      rw [take_one l i hi, List.map_append]; rfl
    rw [e]
    exact ih
end
def res (l : List S56) : ByteArray := if okS l = true then txt l l.length else ⟨#[]⟩
theorem okS_place {l : List S56} (h : okS l = true) : ∀ c ∈ l, (-1000 ≤ c.f0 ∧ c.f0 ≤ 1000) ∧ (-1000 ≤ c.f1 ∧ c.f1 ≤ 1000) := by
  intro c hc
  unfold okS at h
  rw [Bool.and_eq_true, Bool.and_eq_true] at h
  have := List.all_eq_true.1 h.1.2 c hc
  unfold placed at this
  rw [Bool.and_eq_true, inB_iff, inB_iff] at this
  exact this
theorem specRes {l : List S56} (hf : Fit l) : Ev (fun k => spec_StoneText.f k l) (res l) := by
  unfold spec_StoneText.f res
  refine Ev.bind (specOk hf) ?_
  cases e : okS l with
  | false => exact Ev.neg (by decide) (Ev.fin rfl)
  | true =>
    have h := okS_len e
    refine Ev.pos rfl (Ev.bind (a := txt l l.length) ?_ (Ev.fin rfl))
    unfold spec_l03Text.f
    have := specLoop h.2 (okS_place e) l.length 0 (by omega)
    rw [txt_zero] at this
    exact this
theorem implRes {l : List S56} (hf : Fit l) : Ev (fun k => impl_StoneText.f k l) (res l) := by
  unfold impl_StoneText.f res
  refine Ev.bind (implOk hf) ?_
  cases e : okS l with
  | false => exact Ev.neg (by decide) (Ev.fin rfl)
  | true =>
    have h := okS_len e
    exact Ev.pos rfl (implLoop h.2 (okS_place e) l.length 0 (by omega))
theorem FnExactStoneText : laws_FnExactStoneText.Pure := by
  intro l0 w0
  have hf := fit_of w0
  refine Ev.rounds (g := fun k => laws_FnExactStoneText.f k l0) ?_
  unfold laws_FnExactStoneText.f
  refine Ev.nobind (szStone l0 w0.1) (Ev.ite (fun _ => Ev.fin rfl) (fun h0 => ?_))
  have hl : l0.length ≤ 1048576 := by split at h0 <;> omega
  have t0 := toStone l0 hl
  have hs := specRes hf
  have hi := implRes hf
  have hm : (l0.map conv).length ≤ 1048576 := by simpa using hl
  refine Ev.bind t0 (Ev.bind hs (Ev.bind t0 (Ev.bind hi (Ev.pos rfl ?_))))
  exact Ev.bind t0 (Ev.bind (eqStone _ hm) (Ev.pos rfl (Ev.fin rfl)))

end Go.Proofs.YtaihombmmdnadaaDoor.Pure
