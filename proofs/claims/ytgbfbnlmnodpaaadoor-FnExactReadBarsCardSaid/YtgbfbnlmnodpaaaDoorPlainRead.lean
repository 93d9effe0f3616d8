/- Texts cut at a byte; numerals in decimal: plain laws of lists of bytes, no program in sight. -/
import Derived.Lib.SplitLaws
import Derived.Lib.ParseIntBCases
import Derived.Lib.ParseIntBTie
import Derived.Lib.ItoaNum
import Derived.Lib.IndexMore
import Derived.Test.YtgbfbnlmnodpaaaDoorLoops2
namespace Go.Proofs.YtgbfbnlmnodpaaaDoor.PlainRead
set_option linter.unusedSimpArgs false
set_option linter.unusedVariables false
open Go.Lib

/-- The words of a text between the bytes c; acc: what of the present word has been met. -/
def parts (c : UInt8) : List UInt8 → List UInt8 → List (List UInt8)
  | acc, [] => [acc]
  | acc, b :: l => if b = c then acc :: parts c [] l else parts c (acc ++ [b]) l
theorem parts_none (c : UInt8) : ∀ (l acc : List UInt8), c ∉ l → parts c acc l = [acc ++ l]
  | [], acc, _ => by rw [parts, List.append_nil]
  | b :: l, acc, h => by
    have hb : ¬ b = c := fun e => h (by rw [e]; exact List.mem_cons_self)
    rw [parts, if_neg hb, parts_none c l _ (fun e => h (List.mem_cons_of_mem _ e)), List.append_assoc]
    rfl
theorem parts_hit (c : UInt8) (q : List UInt8) : ∀ (p acc : List UInt8), c ∉ p → parts c acc (p ++ c :: q) = (acc ++ p) :: parts c [] q
  | [], acc, _ => by rw [List.nil_append, parts, if_pos rfl, List.append_nil]
  | b :: p, acc, h => by
    have hb : ¬ b = c := fun e => h (by rw [e]; exact List.mem_cons_self)
    rw [List.cons_append, parts, if_neg hb, parts_hit c q p _ (fun e => h (List.mem_cons_of_mem _ e)), List.append_assoc]
    rfl
theorem index_one (c : UInt8) : ∀ (l : List UInt8), (index l [c] = -1 ∧ c ∉ l) ∨ ∃ p q, l = p ++ c :: q ∧ c ∉ p ∧ index l [c] = (p.length : Int)
  | [] => Or.inl ⟨rfl, by simp⟩
  | b :: l => by
    by_cases h : b = c
    · subst h
      refine Or.inr ⟨[], l, rfl, by simp, ?_⟩
      unfold index
      rw [if_pos (by simp [List.isPrefixOf])]
      rfl
    · have hp : List.isPrefixOf [c] (b :: l) = false := by simp [List.isPrefixOf]; exact fun e => h e.symm
      have hc : ¬ c = b := fun e => h e.symm
      rcases index_one c l with ⟨h1, h2⟩ | ⟨p, q, h1, h2, h3⟩
      · refine Or.inl ⟨?_, by simp [h2, hc]⟩
        unfold index
        rw [hp, h1]
        rfl
      · refine Or.inr ⟨b :: p, q, by rw [h1]; rfl, by simp [h2, hc], ?_⟩
        unfold index
        rw [hp, h3, if_neg (by decide), if_neg (by rw [beq_iff_eq]; omega), List.length_cons]
        omega
theorem split_parts (c : UInt8) : ∀ (k : Nat) (l : List UInt8), count l [c] = k → splitK [c] 0 k l = parts c [] l
  | 0, l, h => by
    rcases index_one c l with ⟨h1, h2⟩ | ⟨p, q, h1, h2, h3⟩
    · rw [parts_none c l [] h2]; rfl
    · have := count_hit (s := l) (sub := [c]) (by simp) h3
      omega
  | k + 1, l, h => by
    rcases index_one c l with ⟨h1, h2⟩ | ⟨p, q, h1, h2, h3⟩
    · have := count_miss (s := l) (sub := [c]) h1
      omega
    · have hc := count_hit (s := l) (sub := [c]) (by simp) h3
      have hd : l.drop (p.length + [c].length) = q := by
        rw [h1, show p ++ c :: q = (p ++ [c]) ++ q by simp, show p.length + [c].length = (p ++ [c]).length by simp, List.drop_left]
      have ht : l.take (p.length + 0) = p := by rw [h1, Nat.add_zero, List.take_left]
      rw [splitK, h3, if_neg (by rw [beq_iff_eq]; omega), Int.toNat_natCast, hd, ht]
      rw [hd] at hc
      rw [split_parts c k q (by omega), h1, parts_hit c q p [] h2, List.nil_append]
def mk (l : List UInt8) : ByteArray := ⟨l.toArray⟩
theorem mk_data (x : ByteArray) : mk x.data.toList = x := by cases x; rfl
theorem data_mk (l : List UInt8) : (mk l).data.toList = l := rfl
/-- A text's words. -/
def words (c : UInt8) (s : ByteArray) : List ByteArray := (parts c [] s.data.toList).map mk
theorem split_words (c : UInt8) (s : ByteArray) : splitB ⟨#[c]⟩ 0 (countB s ⟨#[c]⟩) s = words c s := by
  have h := splitB_data ⟨#[c]⟩ 0 (countB s ⟨#[c]⟩) s
  unfold words
  rw [← split_parts c (countB s ⟨#[c]⟩) s.data.toList rfl]
  have h2 : splitK [c] 0 (countB s ⟨#[c]⟩) s.data.toList = (splitB ⟨#[c]⟩ 0 (countB s ⟨#[c]⟩) s).map (·.data.toList) := h.symm
  rw [h2, List.map_map]
  conv => lhs; rw [← List.map_id (splitB ⟨#[c]⟩ 0 (countB s ⟨#[c]⟩) s)]
  exact List.map_congr_left (fun x _ => (mk_data x).symm)
theorem cut_parts (c : UInt8) (l : List UInt8) : (cut l [c] = (l, [], false) ∧ parts c [] l = [l]) ∨ ∃ p q, cut l [c] = (p, q, true) ∧ parts c [] l = p :: parts c [] q ∧ l = p ++ c :: q := by
  rcases index_one c l with ⟨h1, h2⟩ | ⟨p, q, h1, h2, h3⟩
  · refine Or.inl ⟨?_, by rw [parts_none c l [] h2]; rfl⟩
    unfold cut
    rw [h1, if_neg (by decide)]
  · refine Or.inr ⟨p, q, ?_, by rw [h1, parts_hit c q p [] h2]; rfl, h1⟩
    unfold cut
    have hd : l.drop (p.length + [c].length) = q := by
      rw [h1, show p ++ c :: q = (p ++ [c]) ++ q by simp, show p.length + [c].length = (p ++ [c]).length by simp, List.drop_left]
    have ht : l.take p.length = p := by rw [h1, List.take_left]
    rw [h3, if_pos (by omega), Int.toNat_natCast, hd, ht]
theorem parts_len (c : UInt8) : ∀ (l acc : List UInt8), 1 ≤ (parts c acc l).length ∧ (parts c acc l).length ≤ l.length + 1
  | [], acc => by rw [parts]; exact ⟨Nat.le_refl _, Nat.le_refl _⟩
  | b :: l, acc => by
    rw [parts]
    split
    · have := parts_len c l []
      rw [List.length_cons, List.length_cons]
      omega
    · have := parts_len c l (acc ++ [b])
      rw [List.length_cons]
      omega
theorem parts_size (c : UInt8) : ∀ (l acc : List UInt8), ∀ w ∈ parts c acc l, w.length ≤ acc.length + l.length
  | [], acc, w, hw => by
    rw [parts, List.mem_singleton] at hw
    rw [hw]; exact Nat.le_add_right _ _
  | b :: l, acc, w, hw => by
    rw [parts] at hw
    split at hw
    · rw [List.mem_cons] at hw
      rcases hw with h | h
      · rw [h]; exact Nat.le_add_right _ _
      · have := parts_size c l [] w h
        rw [List.length_cons]
        simp only [List.length_nil] at this
        omega
    · have := parts_size c l (acc ++ [b]) w hw
      rw [List.length_append] at this
      rw [List.length_cons]
      simp only [List.length_cons, List.length_nil] at this
      omega
theorem words_len (c : UInt8) (s : ByteArray) : (words c s).length ≤ s.size + 1 := by
  unfold words
  rw [List.length_map, size_eq]
  exact (parts_len c _ []).2
theorem words_size (c : UInt8) (s : ByteArray) : ∀ w ∈ words c s, w.size ≤ s.size := by
  intro w hw
  unfold words at hw
  obtain ⟨l, hl, rfl⟩ := List.mem_map.1 hw
  have := parts_size c _ _ l hl
  rw [size_eq, size_eq, data_mk]
  simpa using this

/-! ### numerals -/
def isD (b : UInt8) : Prop := 48 ≤ b.toNat ∧ b.toNat ≤ 57
def stp (a : Nat) (b : UInt8) : Nat := 10 * a + (b.toNat - 48)
def val (l : List UInt8) : Nat := l.foldl stp 0
theorem val_snoc (l : List UInt8) (d : UInt8) : val (l ++ [d]) = 10 * val l + (d.toNat - 48) := by
  unfold val
  rw [List.foldl_append]
  rfl
structure Canon (s : List UInt8) : Prop where
  ne : s ≠ []
  dig : ∀ b ∈ s, isD b
  zero : s.head? = some 48 → s.length = 1
theorem digit_back {d : UInt8} (h : isD d) (e : Nat) (he : e = d.toNat - 48) : UInt8.ofNat (48 + e) = d := by
  subst he
  unfold isD at h
  rw [show 48 + (d.toNat - 48) = d.toNat by omega]
  exact UInt8.ofNat_toNat
theorem digit_fwd (e : Nat) (h : e < 10) : (UInt8.ofNat (48 + e)).toNat = 48 + e := by
  rw [UInt8.toNat_ofNat']
  exact Nat.mod_eq_of_lt (by omega)
theorem head_snoc {l : List UInt8} (d : UInt8) (h : l ≠ []) : (l ++ [d]).head? = l.head? := by
  cases l with
  | nil => exact absurd rfl h
  | cons _ _ => rfl
theorem dec_val : ∀ (n : Nat) (s : List UInt8), s.length = n → Canon s → decDigits (val s) = s ∧ (s.head? ≠ some 48 → 1 ≤ val s)
  | 0, s, h, c => absurd (List.eq_nil_of_length_eq_zero h) c.ne
  | n + 1, s, h, c => by
    rcases List.eq_nil_or_concat s with h0 | ⟨l, d, h0⟩
    · exact absurd h0 c.ne
    · rw [List.concat_eq_append] at h0
      subst h0
      have hd := c.dig d (by simp)
      have hd2 := hd
      unfold isD at hd2
      by_cases hl : l = []
      · subst hl
        rw [val_snoc]
        have e : 10 * val [] + (d.toNat - 48) = d.toNat - 48 := by show 10 * 0 + _ = _; omega
        rw [e]
        refine ⟨?_, fun hh => ?_⟩
        · rw [decDigits, dif_pos (by omega), digit_back hd _ rfl]; rfl
        · have : d.toNat ≠ 48 := fun e => hh (by
            have : d = 48 := UInt8.toNat_inj.1 e
            rw [this]; rfl)
          omega
      · have hh : l.head? ≠ some 48 := fun e => by
          have h1 := c.zero (by rw [head_snoc d hl]; exact e)
          have h2 := List.length_pos_iff.2 hl
          rw [List.length_append] at h1
          simp only [List.length_cons, List.length_nil] at h1
          omega
        have ih := dec_val n l (by rw [List.length_append] at h; simpa using h) ⟨hl, fun b hb => c.dig b (by simp [hb]), fun e => absurd e hh⟩
        have h1 := ih.2 hh
        rw [val_snoc]
        refine ⟨?_, fun _ => by omega⟩
        rw [decDigits, dif_neg (by omega), show (10 * val l + (d.toNat - 48)) / 10 = val l by omega, ih.1, digit_back hd _ (by omega)]
theorem canon_dec (u : Nat) : Canon (decDigits u) ∧ val (decDigits u) = u ∧ (1 ≤ u → (decDigits u).head? ≠ some 48) := by
  induction u using Nat.strongRecOn with
  | _ u ih =>
    rw [decDigits]
    split
    · rename_i h
      have hf := digit_fwd u h
      refine ⟨⟨by simp, fun b hb => ?_, fun _ => rfl⟩, ?_, fun h1 e => ?_⟩
      · rw [List.mem_singleton] at hb
        rw [hb]; unfold isD; omega
      · show 10 * 0 + ((UInt8.ofNat (48 + u)).toNat - 48) = u
        omega
      · have e := Option.some.inj e
        rw [e] at hf
        have : (48 : UInt8).toNat = 48 := rfl
        omega
    · rename_i h
      obtain ⟨c, v, z⟩ := ih (u / 10) (by omega)
      have hf := digit_fwd (u % 10) (by omega)
      have z := z (by omega)
      refine ⟨⟨by simp, fun b hb => ?_, fun e => ?_⟩, ?_, fun _ e => ?_⟩
      · rw [List.mem_append, List.mem_singleton] at hb
        rcases hb with hb | hb
        · exact c.dig b hb
        · rw [hb]; unfold isD; omega
      · rw [head_snoc _ c.ne] at e; exact absurd e z
      · rw [val_snoc, v]; omega
      · rw [head_snoc _ c.ne] at e; exact absurd e z
/-! ### strconv's reading of a numeral -/
theorem pm_snoc (M : Nat) (d : UInt8) (hd : isD d) (u : Nat) (hu : u < 1844674407370955162) (hM : u * 10 + (d.toNat - 48) ≤ M) : ∀ (l : List UInt8) (acc : Nat), parseUintM M acc l = .ok u → parseUintM M acc (l ++ [d]) = .ok (u * 10 + (d.toNat - 48))
  | [], acc, h => by
    rw [parseUintM] at h
    injection h with h
    subst h
    rw [List.nil_append, parseUintM, if_pos (show 48 ≤ d.toNat ∧ d.toNat ≤ 57 from hd), if_neg (by omega), if_neg (by omega), parseUintM]
  | c :: r, acc, h => by
    rw [parseUintM] at h
    rw [List.cons_append, parseUintM]
    split at h
    · rename_i h1
      rw [if_pos h1]
      split at h
      · cases h
      · rename_i h2
        rw [if_neg h2]
        split at h
        · cases h
        · rename_i h3
          rw [if_neg h3]
          exact pm_snoc M d hd u hu hM r _ h
    · cases h
theorem pm_dec (u : Nat) (hu : u ≤ 1000) : parseUintM (2 ^ 64 - 1) 0 (decDigits u) = .ok u := by
  induction u using Nat.strongRecOn with
  | _ u ih =>
    rw [decDigits]
    split
    · rename_i h
      have hf := digit_fwd u h
      have := pm_snoc (2 ^ 64 - 1) (UInt8.ofNat (48 + u)) (by unfold isD; omega) 0 (by omega) (by omega) [] 0 rfl
      rw [List.nil_append] at this
      rw [this]
      congr 1
      omega
    · rename_i h
      have hf := digit_fwd (u % 10) (by omega)
      have := pm_snoc (2 ^ 64 - 1) (UInt8.ofNat (48 + u % 10)) (by unfold isD; omega) (u / 10) (by omega) (by omega) _ 0 (ih (u / 10) (by omega) (by omega))
      rw [this]
      congr 1
      omega
theorem parse_itoa {x : Int} (h : -1000 ≤ x ∧ x ≤ 1000) : parseIntB 64 (itoa x) = .ok x := by
  have key : ∀ u : Nat, u ≤ 1000 → parseUintB 64 (decDigits u) = .ok u := fun u hu => by
    unfold parseUintB
    rw [if_neg (canon_dec u).1.ne]
    exact pm_dec u hu
  by_cases h0 : x < 0
  · have e : itoa x = 45 :: decDigits x.natAbs := by unfold itoa; rw [if_pos h0]
    rw [e, parseIntB_minus, key _ (by omega)]
    show (if 2 ^ (64 - 1) < x.natAbs then _ else _) = _
    rw [if_neg (by omega)]
    congr 1
    omega
  · have e : itoa x = decDigits x.toNat := by unfold itoa; rw [if_neg h0]
    have c := (canon_dec x.toNat).1
    have k := key x.toNat (by omega)
    rw [e]
    cases q : decDigits x.toNat with
    | nil => exact absurd q c.ne
    | cons b r =>
      have hb := c.dig b (by rw [q]; exact List.mem_cons_self)
      unfold isD at hb
      rw [q] at k
      rw [parseIntB_plain 64 b r (by omega) (by omega), k]
      show (if 2 ^ (64 - 1) ≤ x.toNat then _ else _) = _
      rw [if_neg (by omega)]
      congr 1
      omega
/-! ### the reference's reading of a numeral -/
def numA : Int → List UInt8 → Int × Bool
  | acc, [] => (acc, true)
  | acc, b :: l => if b.toNat < 48 then (0, false) else if b.toNat > 57 then (0, false) else numA (10 * acc + ((b.toNat : Int) - 48)) l
def num (s : List UInt8) : Int × Bool := if s = [] then (0, false) else if s.length > 10 then (0, false) else if s.head? = some 48 ∧ s.length > 1 then (0, false) else numA 0 s
def sgn (s : List UInt8) : Int × Bool := if s.head? = some 45 then (-(num s.tail).1, (num s.tail).2 && decide ((num s.tail).1 > 0)) else num s
theorem numA_val : ∀ (l : List UInt8) (acc : Nat), (∀ b ∈ l, isD b) → numA (acc : Int) l = (((l.foldl stp acc : Nat) : Int), true)
  | [], acc, _ => rfl
  | b :: l, acc, h => by
    have hb := h b List.mem_cons_self
    unfold isD at hb
    rw [numA, if_neg (by omega), if_neg (by omega), List.foldl_cons]
    have e : 10 * (acc : Int) + ((b.toNat : Int) - 48) = ((stp acc b : Nat) : Int) := by unfold stp; omega
    rw [e]
    exact numA_val l _ (fun b hb => h b (List.mem_cons_of_mem _ hb))
theorem numA_true : ∀ (l : List UInt8) (acc : Int), (numA acc l).2 = true → ∀ b ∈ l, isD b
  | [], acc, _, b, hb => by simp at hb
  | c :: l, acc, h, b, hb => by
    unfold numA at h
    split at h
    · cases h
    · split at h
      · cases h
      · rw [List.mem_cons] at hb
        rcases hb with hb | hb
        · rw [hb]; unfold isD; omega
        · exact numA_true l _ h b hb
theorem num_true {s : List UInt8} (h : (num s).2 = true) : ∃ u : Nat, (num s).1 = u ∧ s = decDigits u := by
  unfold num at h ⊢
  split at h
  · cases h
  · rename_i h1
    split at h
    · cases h
    · rename_i h2
      split at h
      · cases h
      · rename_i h3
        have hd := numA_true s 0 h
        have c : Canon s := ⟨h1, hd, fun e => by
          by_cases q : s.length > 1
          · exact absurd ⟨e, q⟩ h3
          · have := List.length_pos_iff.2 h1
            omega⟩
        refine ⟨val s, ?_, ((dec_val _ s rfl c).1).symm⟩
        rw [if_neg h1, if_neg h2, if_neg h3]
        have := numA_val s 0 hd
        rw [show ((0 : Nat) : Int) = 0 from rfl] at this
        rw [this]
        rfl
theorem num_dec {u : Nat} (hu : u ≤ 1000) : num (decDigits u) = ((u : Int), true) := by
  obtain ⟨c, v, z⟩ := canon_dec u
  have hl : (decDigits u).length ≤ 10 := by
    rw [decDigits_length]
    by_cases a1 : u < 10
    · rw [nDigits_small a1]; omega
    · rw [nDigits_big a1]
      by_cases a2 : u / 10 < 10
      · rw [nDigits_small a2]; omega
      · rw [nDigits_big a2]
        by_cases a3 : u / 10 / 10 < 10
        · rw [nDigits_small a3]; omega
        · rw [nDigits_big a3, nDigits_small (by omega)]; omega
  unfold num
  rw [if_neg c.ne, if_neg (by omega), if_neg (fun ⟨e, q⟩ => by have := c.zero e; omega)]
  have := numA_val _ 0 c.dig
  rw [show ((0 : Nat) : Int) = 0 from rfl] at this
  rw [this]
  show (((val (decDigits u) : Nat) : Int), true) = _
  rw [v]
theorem foldl_bound : ∀ (l : List UInt8) (a : Nat), (∀ b ∈ l, isD b) → l.foldl stp a < (a + 1) * 10 ^ l.length
  | [], a, _ => by simp
  | b :: l, a, h => by
    have hb := h b List.mem_cons_self
    unfold isD at hb
    have ih := foldl_bound l (stp a b) (fun b hb => h b (List.mem_cons_of_mem _ hb))
    rw [List.foldl_cons, List.length_cons, Nat.pow_succ]
    have e : (stp a b + 1) * 10 ^ l.length ≤ (a + 1) * 10 * 10 ^ l.length := Nat.mul_le_mul_right _ (by unfold stp; omega)
    have e2 : (a + 1) * 10 * 10 ^ l.length = (a + 1) * (10 ^ l.length * 10) := by rw [Nat.mul_assoc, Nat.mul_comm 10]
    omega
theorem numA_false : ∀ (l : List UInt8) (acc : Int), (numA acc l).2 = false → (numA acc l).1 = 0
  | [], acc, h => by cases h
  | c :: l, acc, h => by
    unfold numA at h ⊢
    split
    · rfl
    · rename_i h1
      rw [if_neg h1] at h
      split
      · rfl
      · rename_i h2
        rw [if_neg h2] at h
        exact numA_false l _ h
theorem num_bound (s : List UInt8) : 0 ≤ (num s).1 ∧ (num s).1 ≤ 9999999999 ∨ (num s).2 = false ∧ (num s).1 = 0 := by
  unfold num
  split
  · exact Or.inr ⟨rfl, rfl⟩
  · split
    · exact Or.inr ⟨rfl, rfl⟩
    · rename_i h2
      split
      · exact Or.inr ⟨rfl, rfl⟩
      · cases e : (numA 0 s).2 with
        | false => exact Or.inr ⟨rfl, numA_false s 0 e⟩
        | true =>
          have hd := numA_true s 0 e
          have := numA_val s 0 hd
          rw [show ((0 : Nat) : Int) = 0 from rfl] at this
          rw [this]
          have hb := foldl_bound s 0 hd
          have hp : 10 ^ s.length ≤ 10 ^ 10 := Nat.pow_le_pow_right (by omega) (by omega)
          have p10 : (10 : Nat) ^ 10 = 10000000000 := by decide
          rw [p10] at hp
          left
          show 0 ≤ ((List.foldl stp 0 s : Nat) : Int) ∧ ((List.foldl stp 0 s : Nat) : Int) ≤ 9999999999
          omega
theorem itoa_nat (u : Nat) : itoa (u : Int) = decDigits u := by unfold itoa; rw [if_neg (by omega), Int.toNat_natCast]
theorem sgn_true {s : List UInt8} (h : (sgn s).2 = true) : s = itoa (sgn s).1 := by
  unfold sgn at h ⊢
  split at h
  · rename_i h1
    rw [if_pos h1]
    rw [Bool.and_eq_true, decide_eq_true_eq] at h
    obtain ⟨u, hu, hs⟩ := num_true h.1
    have h2 := h.2
    rw [hu] at h2 ⊢
    unfold itoa
    rw [if_pos (by omega), show (-(u : Int)).natAbs = u by omega, ← hs]
    cases s with
    | nil => cases h1
    | cons b r =>
      have := Option.some.inj h1
      rw [this]; rfl
  · rename_i h1
    rw [if_neg h1]
    obtain ⟨u, hu, hs⟩ := num_true h
    rw [hu, itoa_nat]
    exact hs
theorem sgn_itoa {x : Int} (h : -1000 ≤ x ∧ x ≤ 1000) : sgn (itoa x) = (x, true) := by
  by_cases h0 : x < 0
  · have e : itoa x = 45 :: decDigits x.natAbs := by unfold itoa; rw [if_pos h0]
    unfold sgn
    rw [e, if_pos (show (45 :: decDigits x.natAbs).head? = some 45 from rfl), List.tail_cons, num_dec (by omega)]
    simp only [Bool.true_and, Prod.mk.injEq]
    exact ⟨by omega, decide_eq_true (by omega)⟩
  · have e : itoa x = decDigits x.toNat := by unfold itoa; rw [if_neg h0]
    have c := (canon_dec x.toNat).1
    unfold sgn
    rw [e, if_neg (fun e45 => ?_), num_dec (by omega)]
    · simp only [Prod.mk.injEq, and_true]; omega
    · cases q : decDigits x.toNat with
      | nil => exact absurd q c.ne
      | cons b r =>
        have hb := c.dig b (by rw [q]; exact List.mem_cons_self)
        rw [q] at e45
        have e45 := Option.some.inj e45
        rw [e45] at hb
        unfold isD at hb
        have : (45 : UInt8).toNat = 45 := rfl
        omega
def rdS (s : List UInt8) : Option Int := if (sgn s).2 = true ∧ -1000 ≤ (sgn s).1 ∧ (sgn s).1 ≤ 1000 then some (sgn s).1 else none
theorem rdS_iff {s : List UInt8} {x : Int} : rdS s = some x ↔ (-1000 ≤ x ∧ x ≤ 1000 ∧ s = itoa x) := by
  unfold rdS
  constructor
  · intro h
    split at h
    · rename_i h1
      have e := Option.some.inj h
      have := sgn_true h1.1
      rw [e] at this
      rw [← e]
      exact ⟨h1.2.1, h1.2.2, by rw [e]; exact this⟩
    · cases h
  · rintro ⟨h1, h2, h3⟩
    have := sgn_itoa ⟨h1, h2⟩
    rw [← h3] at this
    rw [this, if_pos ⟨rfl, h1, h2⟩]
def rdN (s : List UInt8) : Option Int := if (num s).2 = true ∧ (num s).1 < 14 then some (num s).1 else none
theorem rdN_iff {s : List UInt8} {x : Int} : rdN s = some x ↔ (0 ≤ x ∧ x ≤ 13 ∧ s = itoa x) := by
  unfold rdN
  constructor
  · intro h
    split at h
    · rename_i h1
      have e := Option.some.inj h
      obtain ⟨u, hu, hs⟩ := num_true h1.1
      have h2 := h1.2
      rw [hu] at e h2
      rw [← e]
      exact ⟨by omega, by omega, by rw [itoa_nat]; exact hs⟩
    · cases h
  · rintro ⟨h1, h2, h3⟩
    obtain ⟨u, hu⟩ := Int.eq_ofNat_of_zero_le h1
    subst hu
    rw [itoa_nat] at h3
    have := num_dec (u := u) (by omega)
    rw [← h3] at this
    rw [this, if_pos ⟨rfl, by omega⟩]
end Go.Proofs.YtgbfbnlmnodpaaaDoor.PlainRead
