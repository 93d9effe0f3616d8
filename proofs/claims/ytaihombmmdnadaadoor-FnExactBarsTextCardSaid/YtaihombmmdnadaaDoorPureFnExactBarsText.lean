/- The program's BarsText answers what the reference's BarsText answers, at all lists of bars; the listed tables hold what the program's text lays. -/
import Derived.Test.YtaihombmmdnadaaDoorIntssKit
import Derived.Test.YtaihombmmdnadaaDoorDecKit
import Derived.Test.YtaihombmmdnadaaDoorPAxf16
import Derived.Test.YtaihombmmdnadaaDoorPAxf17
import Derived.Test.YtaihombmmdnadaaDoorPAxf20
import Derived.Test.YtaihombmmdnadaaDoorPAxf22
import Derived.Test.YtaihombmmdnadaaDoorPAxf3
import Derived.Test.YtaihombmmdnadaaDoorPAxf6
import Derived.Test.YtaihombmmdnadaaDoorPAxf8
namespace Go.Proofs.YtaihombmmdnadaaDoor.Pure
set_option linter.unusedSimpArgs false
set_option linter.unusedVariables false
open Go.RowKit Go.Proofs.YtaihombmmdnadaaDoor.PA Go.Proofs.YtaihombmmdnadaaDoor.Base Go.Proofs.YtaihombmmdnadaaDoor.IntssKit Go.Proofs.YtaihombmmdnadaaDoor.DecKit Go.Proofs.YtaihombmmdnadaaDoorW.PrintWords Go.Proofs.YtaihombmmdnadaaDoorW.PrintLast Go.Proofs.YtaihombmmdnadaaDoorW.PrintMore

def okB (b : List Int) : Bool := b.all (fun x => inB x 0 13) && !(decide (b.length = 0))
theorem okB_iff {b : List Int} : okB b = true ↔ (∀ x ∈ b, 0 ≤ x ∧ x ≤ 13) ∧ 0 < b.length := by
  unfold okB
  rw [Bool.and_eq_true, List.all_eq_true]
  constructor
  · rintro ⟨h, h2⟩
    refine ⟨fun x hx => inB_iff.1 (h x hx), ?_⟩
    rw [Bool.not_eq_true', decide_eq_false_iff_not] at h2
    omega
  · rintro ⟨h, h2⟩
    refine ⟨fun x hx => inB_iff.2 (h x hx), ?_⟩
    rw [Bool.not_eq_true', decide_eq_false_iff_not]
    omega
/-- The first i numbers of a bar, as words with a space between. -/
def line (b : List Int) (i : Nat) : ByteArray := ⟨(Lib.join (((b.take i).map itoaB).map (·.data.toList)) [32]).toArray⟩
theorem take_one {α : Type} (l : List α) (i : Nat) (h : i < l.length) : l.take (i + 1) = l.take i ++ [l[i]] := List.take_succ_eq_append_getElem h
theorem line_zero (b : List Int) : line b 0 = ⟨#[]⟩ := by simp [line, Lib.join_nil]
theorem line_one (b : List Int) (h : 0 < b.length) : line b 1 = itoaB b[0] := by
  apply ba_ext
  unfold line
  rw [take_one b 0 h]
  simp [Lib.join_one]
theorem line_succ (b : List Int) (i : Nat) (h0 : 0 < i) (h : i < b.length) : line b (i + 1) = (line b i ++ (⟨#[32]⟩ : ByteArray)) ++ itoaB b[i] := by
  apply ba_ext
  rw [ba_app, ba_app]
  unfold line
  rw [take_one b i h, List.map_append, List.map_append, List.map_cons, List.map_cons, List.map_nil, List.map_nil, join_snoc _ _ _ (by
    intro e
    have : (b.take i).length = 0 := by simpa using congrArg List.length e
    rw [List.length_take] at this
    omega)]
theorem line_size {b : List Int} (hb : ∀ x ∈ b, 0 ≤ x ∧ x ≤ 13) : ∀ i, i ≤ b.length → (line b i).size ≤ i * 100003
  | 0, _ => by rw [line_zero, Nat.zero_mul]; exact Nat.le_refl _
  | i + 1, h => by
    have ih := line_size hb i (by omega)
    have hx := hb b[i] (List.getElem_mem (by omega))
    have hw := itoaB_size (n := b[i]) (by omega)
    by_cases h0 : 0 < i
    · rw [line_succ b i h0 (by omega), ByteArray.size_append, ByteArray.size_append]
      have : (⟨#[32]⟩ : ByteArray).size = 1 := rfl
      omega
    · obtain rfl : i = 0 := by omega
      rw [line_one b (by omega)]
      omega
/-- The first i bars, a line each. -/
def txt (bars : List (List Int)) : Nat → ByteArray
  | 0 => ⟨#[]⟩
  | i + 1 => txt bars i ++ (line (bars.getD i []) (bars.getD i []).length ++ (⟨#[10]⟩ : ByteArray))
def wt (bars : List (List Int)) (i : Nat) : Nat := (bars.take i).flatten.length
theorem wt_succ (bars : List (List Int)) (i : Nat) (h : i < bars.length) : wt bars (i + 1) = wt bars i + bars[i].length := by
  unfold wt
  rw [take_one bars i h, List.flatten_append, List.length_append]
  simp
theorem wt_le (bars : List (List Int)) (i : Nat) : wt bars i ≤ bars.flatten.length := by
  unfold wt
  conv => rhs; rw [← List.take_append_drop i bars, List.flatten_append, List.length_append]
  omega
theorem txt_size {bars : List (List Int)} : ∀ i, i ≤ bars.length → (∀ j (h : j < bars.length), j < i → okB bars[j] = true) → (txt bars i).size ≤ wt bars i * 100003 + i
  | 0, _, _ => Nat.zero_le _
  | i + 1, h, hp => by
    have ih := txt_size i (by omega) (fun j h1 h2 => hp j h1 (by omega))
    have hb := okB_iff.1 (hp i (by omega) (by omega))
    have hw := line_size hb.1 bars[i].length (Nat.le_refl _)
    have e10 : (⟨#[10]⟩ : ByteArray).size = 1 := rfl
    rw [txt, ByteArray.size_append, ByteArray.size_append, getL (by omega), wt_succ bars i (by omega)]
    omega
section
variable {bars : List (List Int)} (hl : bars.length ≤ 1048576) (hf : bars.flatten.length ≤ 1048576)
include hl hf
theorem specWritten : Ev (fun k => spec_l04Written.f k bars) (bars.all okB) := by
  unfold spec_l04Written.f
  have key : ∀ d i : Nat, i + d = bars.length → Ev (fun k => spec_l04Written.l0 k bars (i : Int)) ((bars.drop i).all okB) := by
    intro d
    induction d with
    | zero =>
      intro i h
      refine Ev.step (fun k => by rw [spec_l04Written.l0]) ?_
      rw [List.drop_of_length_le (by omega)]
      exact Ev.neg (by omega) (Ev.fin rfl)
    | succ d ih =>
      intro i h
      have hi : i < bars.length := by omega
      have hn : bars[i].length ≤ 1048576 := Nat.le_trans (part_le (List.getElem_mem hi)) hf
      have ih := ih (i + 1) (by omega)
      have inner : ∀ e j : Nat, j + e = bars[i].length → Ev (fun k => spec_l04Written.l1 k bars (i : Int) (j : Int)) (((bars[i].drop j).all (fun x => inB x 0 13) && !(decide (bars[i].length = 0))) && (bars.drop (i + 1)).all okB) := by
        intro e
        induction e with
        | zero =>
          intro j hj
          refine Ev.step (fun k => by rw [spec_l04Written.l1]) ?_
          rw [List.drop_of_length_le (by omega), rdL bars i, getL hi, List.all_nil, Bool.true_and]
          refine Ev.pos (by omega) (Ev.pos (by omega) (Ev.neg (by omega) (Ev.ite (fun h0 => Ev.fin ?_) (fun h0 => ?_))))
          · rw [decide_eq_true (by omega)]; rfl
          · rw [decide_eq_false (by omega), w64 (x := (i : Int) + 1) (by omega) (by omega), Bool.not_false, Bool.true_and]; exact ih
        | succ e ih2 =>
          intro j hj
          have hj' : j < bars[i].length := by omega
          refine Ev.step (fun k => by rw [spec_l04Written.l1]) ?_
          rw [drop_at bars[i] j hj', List.all_cons, rdL bars i, getL hi, rdI, getI hj']
          refine Ev.pos (by omega) (Ev.pos (by omega) (Ev.pos (by omega) (Ev.pos (by omega) (Ev.nobind (specIn _ _ _) ?_))))
          cases c : inB bars[i][j] 0 13 with
          | false => exact Ev.neg (by decide) (Ev.fin (by simp))
          | true =>
            rw [w64 (x := (j : Int) + 1) (by omega) (by omega), Bool.true_and]
            exact Ev.pos rfl (ih2 (j + 1) (by omega))
      refine Ev.step (fun k => by rw [spec_l04Written.l0]) ?_
      rw [drop_at bars i hi, List.all_cons]
      exact Ev.pos (by omega) (inner bars[i].length 0 (by omega))
  exact key bars.length 0 (by omega)
omit hl hf in
theorem specDec {x : Int} (h : 0 ≤ x ∧ x ≤ 13) : Ev (fun k => spec_Decimal.f k x) (itoaB x) := by
  obtain ⟨u, hu⟩ := Int.eq_ofNat_of_zero_le h.1
  subst hu
  refine Ev.to (specDecimal u (by omega)) ?_
  unfold itoaB Lib.itoa dec
  rw [if_neg (by omega), Int.toNat_natCast]
theorem specText (hok : ∀ b ∈ bars, okB b = true) : Ev (fun k => spec_l04Text.f k bars) (txt bars bars.length) := by
  unfold spec_l04Text.f
  have e32 : (⟨#[32]⟩ : ByteArray).size = 1 := rfl
  have e10 : (⟨#[10]⟩ : ByteArray).size = 1 := rfl
  have key : ∀ d i : Nat, i + d = bars.length → Ev (fun k => spec_l04Text.l0 k bars (txt bars i) (i : Int)) (txt bars bars.length) := by
    intro d
    induction d with
    | zero =>
      intro i h
      refine Ev.step (fun k => by rw [spec_l04Text.l0]) ?_
      refine Ev.neg (by omega) (Ev.fin ?_)
      rw [show i = bars.length by omega]
    | succ d ih =>
      intro i h
      have hi : i < bars.length := by omega
      have hb := (okB_iff.1 (hok _ (List.getElem_mem hi))).1
      have ht := txt_size i (by omega) (fun j h1 _ => hok _ (List.getElem_mem h1))
      have hw := wt_succ bars i hi
      have hw2 := wt_le bars (i + 1)
      have ih := ih (i + 1) (by omega)
      have hT : (txt bars i ++ line bars[i] bars[i].length) ++ (⟨#[10]⟩ : ByteArray) = txt bars (i + 1) := by
        apply ba_ext
        rw [txt, getL hi]
        simp only [ba_app, List.append_assoc]
      have inner : ∀ e j : Nat, j + e = bars[i].length → Ev (fun k => spec_l04Text.l1 k bars (txt bars i ++ line bars[i] j) (i : Int) (j : Int)) (txt bars bars.length) := by
        intro e
        induction e with
        | zero =>
          intro j hj
          have hs := line_size hb j (by omega)
          refine Ev.step (fun k => by rw [spec_l04Text.l1]) ?_
          rw [rdL bars i, getL hi, w64 (x := (i : Int) + 1) (by omega) (by omega)]
          refine Ev.pos (by omega) (Ev.pos (by omega) (Ev.neg (by omega) (Ev.pos (by rw [ByteArray.size_append]; omega) ?_)))
          rw [show j = bars[i].length by omega, hT]
          exact ih
        | succ e ih2 =>
          intro j hj
          have hj' : j < bars[i].length := by omega
          have hs := line_size hb j (by omega)
          have hx := hb _ (List.getElem_mem hj')
          have hz := itoaB_size (n := bars[i][j]) (by omega)
          have ih2 := ih2 (j + 1) (by omega)
          refine Ev.step (fun k => by rw [spec_l04Text.l1]) ?_
          rw [rdL bars i, getL hi, rdI, getI hj', w64 (x := (j : Int) + 1) (by omega) (by omega)]
          refine Ev.pos (by omega) (Ev.pos (by omega) (Ev.pos (by omega) (Ev.ite (fun h0 => ?_) (fun h0 => ?_))))
          · refine Ev.pos (by rw [ByteArray.size_append]; omega) (Ev.pos (by omega) (Ev.bind (specDec hx) (Ev.pos (by rw [ByteArray.size_append, ByteArray.size_append]; omega) ?_)))
            have e : ((txt bars i ++ line bars[i] j) ++ (⟨#[32]⟩ : ByteArray)) ++ itoaB bars[i][j] = txt bars i ++ line bars[i] (j + 1) := by
              rw [line_succ bars[i] j (by omega) hj']
              apply ba_ext
              simp only [ba_app, List.append_assoc]
            rw [e]
            exact ih2
          · obtain rfl : j = 0 := by omega
            refine Ev.pos (by omega) (Ev.bind (specDec hx) (Ev.pos (by rw [ByteArray.size_append]; omega) ?_))
            have e : (txt bars i ++ line bars[i] 0) ++ itoaB bars[i][0] = txt bars i ++ line bars[i] (0 + 1) := by
              rw [line_one bars[i] hj', line_zero]
              apply ba_ext
              simp only [ba_app, List.append_assoc]
              rfl
            rw [e]
            exact ih2
      refine Ev.step (fun k => by rw [spec_l04Text.l0]) ?_
      refine Ev.pos (by omega) ?_
      have h0 := inner bars[i].length 0 (by omega)
      have e : txt bars i ++ line bars[i] 0 = txt bars i := by
        rw [line_zero]
        apply ba_ext
        rw [ba_app]
        exact List.append_nil _
      rw [e] at h0
      exact h0
  exact key bars.length 0 (by omega)
theorem implText : Ev (fun k => impl_BarsText.f k bars) (if bars.all okB = true then txt bars bars.length else ⟨#[]⟩) := by
  unfold impl_BarsText.f
  have e10 : (⟨#[10]⟩ : ByteArray).size = 1 := rfl
  have key : ∀ d i : Nat, i + d = bars.length → (∀ j (h : j < bars.length), j < i → okB bars[j] = true) → Ev (fun k => impl_BarsText.l0 k (txt bars i) bars (bars.length : Int) (i : Int)) (if (bars.drop i).all okB = true then txt bars bars.length else ⟨#[]⟩) := by
    intro d
    induction d with
    | zero =>
      intro i h hp
      refine Ev.step (fun k => by rw [impl_BarsText.l0]) ?_
      rw [List.drop_of_length_le (by omega)]
      refine Ev.neg (by omega) (Ev.fin ?_)
      rw [show i = bars.length by omega]; rfl
    | succ d ih =>
      intro i h hp
      have hi : i < bars.length := by omega
      have hn : bars[i].length ≤ 1048576 := Nat.le_trans (part_le (List.getElem_mem hi)) hf
      have ht := txt_size i (by omega) hp
      have hw := wt_succ bars i hi
      have hw2 := wt_le bars (i + 1)
      have inner : ∀ e j : Nat, j + e = bars[i].length → (∀ x ∈ bars[i].take j, 0 ≤ x ∧ x ≤ 13) → Ev (fun k => impl_BarsText.l1 k (txt bars i) ((bars[i].take j).map itoaB) bars (bars.length : Int) (i : Int) bars[i] (bars[i].length : Int) (j : Int)) (if ((bars[i].drop j).all (fun x => inB x 0 13) && !(decide (bars[i].length = 0)) && (bars.drop (i + 1)).all okB) = true then txt bars bars.length else ⟨#[]⟩) := by
        intro e
        induction e with
        | zero =>
          intro j hj hp2
          refine Ev.step (fun k => by rw [impl_BarsText.l1]) ?_
          rw [List.drop_of_length_le (by omega), List.all_nil, Bool.true_and]
          have hm : ((bars[i].take j).map itoaB).length = bars[i].length := by rw [List.length_map, List.length_take]; omega
          refine Ev.neg (by omega) (Ev.ite (fun h0 => Ev.fin ?_) (fun h0 => ?_))
          · rw [decide_eq_true (by omega)]; rfl
          · have hb : ∀ x ∈ bars[i], 0 ≤ x ∧ x ≤ 13 := by
              rw [List.take_of_length_le (by omega)] at hp2
              exact hp2
            have hs := line_size hb j (by omega)
            have ok : okB bars[i] = true := okB_iff.2 ⟨hb, by omega⟩
            refine Ev.nobind (a := line bars[i] j) ?_ ?_
            · unfold strings_Join.f
              rw [if_pos (by omega)]
              rw [ba_size] at hs
              exact if_pos (by
                have h2 : (Lib.join (((bars[i].take j).map itoaB).map (·.data.toList)) [32]).length ≤ j * 100003 := hs
                show (Lib.join (((bars[i].take j).map itoaB).map (·.data.toList)) [32]).length ≤ _
                omega)
            · rw [w64 (x := (i : Int) + 1) (by omega) (by omega), decide_eq_false (by omega), Bool.not_false, Bool.true_and]
              refine Ev.pos (by omega) (Ev.pos (by rw [ByteArray.size_append]; omega) ?_)
              have e : txt bars i ++ (line bars[i] j ++ (⟨#[10]⟩ : ByteArray)) = txt bars (i + 1) := by
                rw [txt, getL hi, show j = bars[i].length by omega]
              rw [e]
              refine ih (i + 1) (by omega) (fun m hm1 hm2 => ?_)
              by_cases q : m = i
              · subst q; exact ok
              · exact hp m hm1 (by omega)
        | succ e ih2 =>
          intro j hj hp2
          have hj' : j < bars[i].length := by omega
          have hm : ((bars[i].take j).map itoaB).length = j := by rw [List.length_map, List.length_take]; omega
          refine Ev.step (fun k => by rw [impl_BarsText.l1]) ?_
          rw [drop_at bars[i] j hj', List.all_cons, rdI, getI hj']
          refine Ev.pos (by omega) (Ev.pos (by omega) (Ev.pos (by omega) (Ev.nobind (implIn _ _ _) ?_)))
          cases c : inB bars[i][j] 0 13 with
          | false => exact Ev.neg (by decide) (Ev.fin (by simp))
          | true =>
            have hx := inB_iff.1 c
            rw [w64 (x := (j : Int) + 1) (by omega) (by omega), Bool.true_and]
            refine Ev.pos rfl (Ev.nobind (a := itoaB bars[i][j]) (by unfold impl_decimal.f; rw [if_pos (by omega), if_pos (by omega)]; rfl) (Ev.pos (by omega) ?_))
            have e : (bars[i].take j).map itoaB ++ [itoaB bars[i][j]] = (bars[i].take (j + 1)).map itoaB := by
              rw [take_one bars[i] j hj', List.map_append]; rfl
            rw [e]
            refine ih2 (j + 1) (by omega) (fun x hx2 => ?_)
            rw [take_one bars[i] j hj', List.mem_append, List.mem_singleton] at hx2
            rcases hx2 with h2 | h2
            · exact hp2 x h2
            · rw [h2]; exact hx
      refine Ev.step (fun k => by rw [impl_BarsText.l0]) ?_
      rw [drop_at bars i hi, List.all_cons, rdL bars i, getL hi]
      exact Ev.pos (by omega) (Ev.pos (by omega) (Ev.pos (by omega) (inner bars[i].length 0 (by omega) (by simp))))
  exact key bars.length 0 (by omega) (fun j _ h => by omega)
theorem specRes : Ev (fun k => spec_BarsText.f k bars) (if bars.all okB = true then txt bars bars.length else ⟨#[]⟩) := by
  unfold spec_BarsText.f
  refine Ev.bind (specWritten hl hf) ?_
  cases e : bars.all okB with
  | false => exact Ev.neg (by decide) (Ev.fin rfl)
  | true => exact Ev.pos rfl (Ev.bind (specText hl hf (List.all_eq_true.1 e)) (Ev.fin rfl))
end
theorem FnExactBarsText : laws_FnExactBarsText.Pure := by
  intro l0 w0
  refine Ev.rounds (g := fun k => laws_FnExactBarsText.f k l0) ?_
  unfold laws_FnExactBarsText.f
  obtain ⟨v, hv, hv2⟩ := sizes l0 w0.1 (fun x hx => (w0.2 x hx).1)
  refine Ev.bind hv (Ev.ite (fun _ => Ev.fin rfl) (fun h1 => ?_))
  have h2 : l0.length ≤ 1048576 ∧ l0.flatten.length ≤ 1048576 := by
    rcases hv2 with h | h
    · exact absurd h h1
    · exact h
  have hb : ∀ x ∈ l0, x.length ≤ 1048576 := fun x hx => Nat.le_trans (part_le hx) h2.2
  have t0 := toIntss l0 h2.1 hb
  have hs := specRes h2.1 h2.2
  have hi := implText h2.1 h2.2
  refine Ev.bind t0 (Ev.bind hs (Ev.bind t0 (Ev.bind hi (Ev.pos rfl ?_))))
  exact Ev.bind t0 (Ev.bind (eqIntss _ h2.1 hb) (Ev.pos rfl (Ev.fin rfl)))

end Go.Proofs.YtaihombmmdnadaaDoor.Pure
