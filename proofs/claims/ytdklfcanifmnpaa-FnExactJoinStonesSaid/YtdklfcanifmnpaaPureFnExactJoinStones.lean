/- The program's JoinStones answers what the reference's JoinStones answers, at all two lists of corners; no condition. -/
import Derived.Test.YtdklfcanifmnpaaStonesKit
import Derived.Test.YtdklfcanifmnpaaStonesMarks
import Derived.Test.YtdklfcanifmnpaaPAxf11
import Derived.Test.YtdklfcanifmnpaaPAxf35
import Derived.Test.YtdklfcanifmnpaaPAxf36
import Derived.Test.YtdklfcanifmnpaaPAxf55
import Derived.Test.YtdklfcanifmnpaaPAxf59
import Derived.Test.YtdklfcanifmnpaaPAxf61
import Derived.Test.YtdklfcanifmnpaaPAxf62
import Derived.Test.YtdklfcanifmnpaaPAxf63
import Derived.Test.YtdklfcanifmnpaaPAxf73
import Derived.Test.YtdklfcanifmnpaaPAxf74
import Derived.Test.YtdklfcanifmnpaaPAxf78
namespace Go.Proofs.Ytdklfcanifmnpaa.Pure
set_option linter.unusedSimpArgs false
set_option linter.unusedVariables false
open Go.RowKit Go.Proofs.Ytdklfcanifmnpaa.PA Go.Proofs.Ytdklfcanifmnpaa.Base Go.Proofs.Ytdklfcanifmnpaa.StonesKit Go.Proofs.YtdklfcanifmnpaaW.PrintWords Go.Proofs.YtdklfcanifmnpaaW.PrintLast Go.Proofs.YtdklfcanifmnpaaW.PrintMore

/-! ### two rows, one behind the other -/
theorem from_ (l : List S56) (hl : l.length ≤ 1000) (i : Nat) (hi : i ≤ l.length) : Ev (fun k => impl_Stone_from.f k l (i : Int)) (l.drop i ++ l.take i) := by
  unfold impl_Stone_from.f
  refine Ev.pos (by omega) (Ev.pos (by omega) ?_)
  rw [Int.toNat_natCast]
  refine Ev.bind (a := l.drop i ++ l.take i) ?_ (Ev.fin rfl)
  have h1 : (l.drop i).length = l.length - i := List.length_drop
  have h2 : (l.take i).length = i := by rw [List.length_take]; omega
  generalize l.drop i = p at h1 ⊢
  generalize l.take i = q at h2 ⊢
  unfold impl_Corner_73.f
  have e0 : ([p, q] : List (List S56)).length = 2 := rfl
  have r0 : rd_L3 [p, q] 0 = p := rfl
  have r1 : rd_L3 [p, q] 1 = q := rfl
  have a1 : wrap64 ((0 : Int) + 1) = 1 := w64 (by omega) (by omega)
  have a2 : wrap64 ((1 : Int) + 1) = 2 := w64 (by omega) (by omega)
  have b1 : wrap64 (0 + (p.length : Int)) = (p.length : Int) := by rw [w64 (by omega) (by omega)]; omega
  have b2 : wrap64 ((p.length : Int) + (q.length : Int)) = (p.length : Int) + (q.length : Int) := w64 (by omega) (by omega)
  rw [e0]
  refine Ev.step (fun k => by rw [impl_Corner_73.l0]) ?_
  rw [e0, r0, a1, b1]
  refine Ev.pos (by omega) (Ev.pos (by omega) (Ev.pos (by omega) (Ev.neg (by omega) ?_)))
  refine Ev.step (fun k => by rw [impl_Corner_73.l0]) ?_
  rw [e0, r1, a2, b2]
  refine Ev.pos (by omega) (Ev.pos (by omega) (Ev.pos (by omega) (Ev.neg (by omega) ?_)))
  refine Ev.step (fun k => by rw [impl_Corner_73.l0]) ?_
  refine Ev.neg (by omega) (Ev.nobind (a := []) ?_ ?_)
  · unfold impl_Corner_78.f
    rw [if_pos (by omega), if_pos (by omega)]
  refine Ev.step (fun k => by rw [impl_Corner_73.l1]) ?_
  rw [e0, r0, a1]
  refine Ev.pos (by omega) (Ev.pos (by omega) (Ev.pos (by omega) (Ev.pos (by simp; omega) ?_)))
  refine Ev.step (fun k => by rw [impl_Corner_73.l1]) ?_
  rw [e0, r1, a2]
  refine Ev.pos (by omega) (Ev.pos (by omega) (Ev.pos (by omega) (Ev.pos (by simp; omega) ?_)))
  refine Ev.step (fun k => by rw [impl_Corner_73.l1]) ?_
  exact Ev.neg (by omega) (Ev.fin (by simp))
/-! ### corners in turn -/
/-- m corners from place i on, round and round. -/
def rot (l : List S56) (i m : Nat) : List S56 := (List.range m).map fun t => l.getD ((i + t) % l.length) z56
theorem rot_length (l : List S56) (i m : Nat) : (rot l i m).length = m := by simp [rot]
theorem rot_succ (l : List S56) (i m : Nat) : rot l i (m + 1) = l.getD (i % l.length) z56 :: rot l (i + 1) m := by
  unfold rot
  rw [List.range_succ_eq_map, List.map_cons, List.map_map]
  congr 1
  apply List.map_congr_left
  intro t _
  simp only [Function.comp]
  congr 2
  omega
theorem rot_mod (l : List S56) (i j m : Nat) (h : i % l.length = j % l.length) : rot l i m = rot l j m := by
  unfold rot
  apply List.map_congr_left
  intro t _
  rw [Nat.add_mod, h, ← Nat.add_mod]
theorem rot_full (l : List S56) (i : Nat) (hi : i < l.length) : l.drop i ++ l.take i = rot l i l.length := by
  apply List.ext_getElem
  · rw [rot_length]; simp; omega
  · intro t h1 h2
    rw [rot_length] at h2
    simp only [rot, List.getElem_map, List.getElem_range]
    by_cases c : t < l.length - i
    · rw [List.getElem_append_left (by simp; omega), List.getElem_drop, Nat.mod_eq_of_lt (by omega), List.getD_eq_getElem?_getD, List.getElem?_eq_getElem (by omega)]
      rfl
    · rw [List.getElem_append_right (by simp; omega), List.getElem_take]
      have e : (i + t) % l.length = t - (l.length - i) := by
        rw [show i + t = (t - (l.length - i)) + l.length by omega, Nat.add_mod_right, Nat.mod_eq_of_lt (by omega)]
      rw [e, List.getD_eq_getElem?_getD, List.getElem?_eq_getElem (by omega)]
      simp
theorem rot_drop2 (l : List S56) (i m : Nat) : (rot l i (m + 2)).drop 2 = rot l (i + 2) m := by
  rw [rot_succ, rot_succ]
  rfl
theorem rot_mem {l : List S56} {i m : Nat} (h : 1 ≤ l.length) {c : S56} (hc : c ∈ rot l i m) : c ∈ l := by
  unfold rot at hc
  obtain ⟨t, _, rfl⟩ := List.mem_map.1 hc
  have hlt : (i + t) % l.length < l.length := Nat.mod_lt _ (by omega)
  rw [List.getD_eq_getElem?_getD, List.getElem?_eq_getElem hlt]
  exact List.getElem_mem hlt
def nxt (n i : Nat) : Nat := if i + 1 < n then i + 1 else 0
theorem nxt_lt {n i : Nat} (h : i < n) : nxt n i < n := by unfold nxt; split <;> omega
theorem nxt_mod {n i : Nat} (h : i < n) : nxt n i = (i + 1) % n := by
  unfold nxt
  split
  · exact (Nat.mod_eq_of_lt (by omega)).symm
  · have : i + 1 = n := by omega
    rw [this, Nat.mod_self]
theorem tmn (i n : Nat) (h : i < n) (hn : n ≤ 1048576) : Int.tmod (wrap64 ((i : Int) + 1)) (n : Int) = ((nxt n i : Nat) : Int) := by
  rw [tm i n h hn, nxt_mod h]
def prv (n i : Nat) : Nat := if i = 0 then n - 1 else i - 1
theorem prv_lt {n i : Nat} (h : i < n) : prv n i < n := by unfold prv; split <;> omega
theorem tmp_ (i n : Nat) (h : i < n) (hn : n ≤ 1048576) : Int.tmod (wrap64 ((wrap64 ((i : Int) + (n : Int))) - 1)) (n : Int) = ((prv n i : Nat) : Int) := by
  rw [w64 (x := (i : Int) + n) (by omega) (by omega), w64 (by omega) (by omega), Int.tmod_eq_emod_of_nonneg (by omega)]
  unfold prv
  split
  · rename_i h0
    subst h0
    rw [show ((0 : Nat) : Int) + (n : Int) - 1 = ((n - 1 : Nat) : Int) by omega]
    exact Int.emod_eq_of_lt (by omega) (by omega)
  · rw [show (i : Int) + (n : Int) - 1 = ((i - 1 : Nat) : Int) + (n : Int) by omega, Int.add_emod_right]
    exact Int.emod_eq_of_lt (by omega) (by omega)
theorem specPart {l : List S56} (hl : l.length ≤ 1048576) (b : Nat) (hb : b < l.length) : ∀ (d i : Nat) (acc : List S56), d < l.length → i < l.length → (i + d = b ∨ i + d = b + l.length) → acc.length + d ≤ 1048576 →
    Ev (fun k => spec_l03Part.l0 k l (b : Int) acc (l.length : Int) (i : Int)) (acc ++ rot l i (d + 1))
  | 0, i, acc, _, hi, h, ha => by
    refine Ev.step (fun k => by rw [spec_l03Part.l0]) ?_
    refine Ev.pos (by omega) (Ev.pos (by omega) (Ev.pos (by omega) (Ev.nobind rfl (Ev.pos (by omega) (Ev.fin ?_)))))
    rw [rdC', rot_succ, Nat.mod_eq_of_lt hi]; rfl
  | d + 1, i, acc, hd, hi, h, ha => by
    have hn := nxt_lt hi
    have hx : nxt l.length i + d = b ∨ nxt l.length i + d = b + l.length := by unfold nxt; split <;> omega
    refine Ev.step (fun k => by rw [spec_l03Part.l0]) ?_
    refine Ev.pos (by omega) (Ev.pos (by omega) (Ev.pos (by omega) (Ev.nobind rfl (Ev.neg (by omega) (Ev.neg (by omega) ?_)))))
    rw [tmn i l.length hi hl]
    refine Ev.to (specPart hl b hb d (nxt l.length i) _ (by omega) hn hx (by simp; omega)) ?_
    rw [rdC', List.append_assoc, rot_succ l i (d + 1), Nat.mod_eq_of_lt hi, rot_mod l (nxt l.length i) (i + 1) (d + 1) (by rw [nxt_mod hi, Nat.mod_mod])]
    rfl
/-! ### corners in a line are left away -/
def strt : Nat → List S56 → Nat → List S56
  | 0, l, _ => l
  | d + 1, l, i => if sd (l.getD (prv l.length i) z56) (l.getD i z56) (l.getD (nxt l.length i) z56) = 0 then strt d (l.eraseIdx i) i else strt d l (i + 1)
theorem strt_mem : ∀ (d : Nat) (l : List S56) (i : Nat) (c : S56), c ∈ strt d l i → c ∈ l
  | 0, l, i, c, h => h
  | d + 1, l, i, c, h => by
    unfold strt at h
    split at h
    · exact List.mem_of_mem_eraseIdx (strt_mem d _ i c h)
    · exact strt_mem d l (i + 1) c h
theorem strt_len : ∀ (d : Nat) (l : List S56) (i : Nat), (strt d l i).length ≤ l.length
  | 0, l, i => Nat.le_refl _
  | d + 1, l, i => by
    unfold strt
    split
    · have := strt_len d (l.eraseIdx i) i
      have h2 := List.length_eraseIdx_le l i
      omega
    · exact strt_len d l (i + 1)
def fin_ (l : List S56) : List S56 × Int := if (decide (3 ≤ (l.length : Int)) && convB l) = true then (if (l.length : Int) > 8 then ([], 3) else (l, 0)) else ([], 4)
theorem specStrt : ∀ (d : Nat) (l : List S56) (i : Nat), i + d = l.length → l.length ≤ 1000 → Ev (fun k => spec_l03Joined.l0 k l (i : Int)) (fin_ (strt d l i))
  | 0, l, i, h, hl => by
    refine Ev.step (fun k => by rw [spec_l03Joined.l0]) ?_
    refine Ev.neg (by omega) ?_
    refine Ev.bind (specConvex l (by omega)) ?_
    unfold fin_ strt
    refine Ev.ite (fun h1 => ?_) (fun h1 => Ev.fin (by rw [if_neg h1]))
    rw [if_pos h1]
    exact Ev.ite (fun h2 => Ev.fin (by rw [if_pos h2])) (fun h2 => Ev.fin (by rw [if_neg h2]))
  | d + 1, l, i, h, hl => by
    have hi : i < l.length := by omega
    have hp := prv_lt hi
    have hn := nxt_lt hi
    have t1 := tmp_ i l.length hi (by omega)
    have t2 := tmn i l.length hi (by omega)
    have ha := w64 (x := (i : Int) + 1) (by omega) (by omega)
    refine Ev.step (fun k => by rw [spec_l03Joined.l0]) ?_
    rw [t1, t2]
    refine Ev.pos (by omega) (Ev.neg (by omega) (Ev.pos (by omega) (Ev.pos (by omega) (Ev.pos (by omega) (Ev.pos (by omega) (Ev.pos (by omega) ?_))))))
    refine Ev.nobind (specSide _ _ _) ?_
    rw [rdC', rdC', rdC', strt]
    refine Ev.ite (fun h1 => ?_) (fun h1 => ?_)
    · rw [if_pos h1]
      refine Ev.nobind rfl (Ev.pos (by omega) (Ev.nobind rfl (Ev.pos (by simp; omega) (Ev.nobind rfl ?_))))
      rw [ha]
      refine Ev.pos (by omega) (Ev.pos (by omega) (Ev.nobind rfl (Ev.pos (by simp; omega) ?_)))
      have e : [] ++ l.take ((i : Nat) : Int).toNat ++ l.drop (((i : Nat) : Int) + 1).toNat = l.eraseIdx i := by
        rw [List.nil_append, Int.toNat_natCast, show (((i : Nat) : Int) + 1).toNat = i + 1 by omega, List.eraseIdx_eq_take_drop_succ]
      rw [e]
      have hle : (l.eraseIdx i).length = l.length - 1 := by rw [List.length_eraseIdx, if_pos hi]
      exact specStrt d (l.eraseIdx i) i (by omega) (by omega)
    · rw [if_neg h1, ha]
      exact specStrt d l (i + 1) (by omega) hl
theorem implStrt : ∀ (d : Nat) (l : List S56) (i : Nat), i + d = l.length → l.length ≤ 1000 → Ev (fun k => impl_straight.l0 k l (i : Int)) (strt d l i)
  | 0, l, i, h, hl => by
    refine Ev.step (fun k => by rw [impl_straight.l0]) ?_
    exact Ev.neg (by omega) (Ev.fin rfl)
  | d + 1, l, i, h, hl => by
    have hi : i < l.length := by omega
    have hp := prv_lt hi
    have hn := nxt_lt hi
    have t1 := tmp_ i l.length hi (by omega)
    have t2 := tmn i l.length hi (by omega)
    have ha := w64 (x := (i : Int) + 1) (by omega) (by omega)
    refine Ev.step (fun k => by rw [impl_straight.l0]) ?_
    rw [t1, t2]
    refine Ev.pos (by omega) (Ev.neg (by omega) (Ev.pos (by omega) (Ev.pos (by omega) (Ev.pos (by omega) (Ev.pos (by omega) (Ev.pos (by omega) ?_))))))
    refine Ev.nobind (implSide _ _ _) ?_
    rw [rdC', rdC', rdC', strt]
    refine Ev.ite (fun h1 => ?_) (fun h1 => ?_)
    · rw [if_pos h1]
      have hle : (l.eraseIdx i).length = l.length - 1 := by rw [List.length_eraseIdx, if_pos hi]
      refine Ev.nobind (a := l.eraseIdx i) ?_ (implStrt d (l.eraseIdx i) i (by omega) (by omega))
      unfold impl_Corner_74.f
      rw [if_pos rfl, ha, if_pos (by omega), if_pos (by omega), if_pos (by omega), if_neg (by omega), if_pos (by omega), if_pos (by omega), if_pos (by omega), Int.toNat_natCast]
    · rw [if_neg h1, ha]
      exact implStrt d l (i + 1) (by omega) hl
/-! ### the corners of a valid stone are apart -/
theorem sd_self (a b : S56) : sd a b a = 0 := by
  unfold sd impl_side.f
  simp [wrap64]
theorem apart {l : List S56} (h : okS l = true) {j k : Nat} (hj : j < l.length) (hk : k < l.length) (he : l.getD j z56 = l.getD k z56) : j = k := by
  have hlen := okS_len h
  unfold okS at h
  rw [Bool.and_eq_true] at h
  have hc := h.2
  unfold convB at hc
  rw [List.all_eq_true] at hc
  have key : ∀ a b : Nat, a < l.length → b < l.length → l.getD a z56 = l.getD b z56 → b ≠ (a + 1) % l.length → b = a := by
    intro a b ha hb e hn
    have := hc a (by simpa using ha)
    rw [List.all_eq_true] at this
    have := this b (by simpa using hb)
    unfold cvx at this
    simp only [Bool.or_eq_true, decide_eq_true_eq] at this
    rcases this with (h1 | h1) | h1
    · exact h1
    · exact absurd h1 hn
    · unfold at_ at h1
      rw [← e, sd_self] at h1
      omega
  by_cases c : k = (j + 1) % l.length
  · have hne : j ≠ (k + 1) % l.length := by
      rw [← nxt_mod hk]
      rw [← nxt_mod hj] at c
      unfold nxt at c ⊢
      split at c <;> split <;> omega
    exact key k j hk hj he.symm hne
  · exact (key j k hj hk he c).symm
/-! ### where both have the same edge -/
def neC (a b : S56) : Bool := !(a.f0 == b.f0) || !(a.f1 == b.f1)
theorem neC_iff (a b : S56) : neC a b = true ↔ a ≠ b := by
  unfold neC
  cases a; cases b
  simp
  omega
theorem neC_self (a : S56) : neC a a = false := by unfold neC; simp
theorem index_ (l : List S56) (hl : l.length ≤ 1000) (c : S56) : ∀ (d i : Nat), i + d = l.length →
    (∃ j, i ≤ j ∧ j < l.length ∧ l.getD j z56 = c ∧ Ev (fun k => impl_Corner_62.l0 k l (l.length : Int) (i : Int) c.f0 c.f1) (j : Int)) ∨
    ((∀ j, i ≤ j → j < l.length → l.getD j z56 ≠ c) ∧ Ev (fun k => impl_Corner_62.l0 k l (l.length : Int) (i : Int) c.f0 c.f1) (-1))
  | 0, i, h => by
    refine .inr ⟨fun j h1 h2 => by omega, ?_⟩
    refine Ev.step (fun k => by rw [impl_Corner_62.l0]) ?_
    exact Ev.neg (by omega) (Ev.fin rfl)
  | d + 1, i, h => by
    have ha := w64 (x := (i : Int) + 1) (by omega) (by omega)
    have ST : ∀ (r : Int), (if (c.f0 == (l.getD i z56).f0 && (c.f1 == (l.getD i z56).f1)) = true then (r = (i : Int)) else Ev (fun k => impl_Corner_62.l0 k l (l.length : Int) (((i + 1 : Nat)) : Int) c.f0 c.f1) r) → Ev (fun k => impl_Corner_62.l0 k l (l.length : Int) (i : Int) c.f0 c.f1) r := by
      intro r hr
      refine Ev.step (fun k => by rw [impl_Corner_62.l0]) ?_
      refine Ev.pos (by omega) (Ev.pos (by omega) (Ev.pos (by omega) ?_))
      rw [rdC', ha]
      refine Ev.ite (fun h1 => ?_) (fun h1 => ?_)
      · rw [if_pos h1] at hr; exact Ev.fin hr.symm
      · rw [if_neg h1] at hr; exact hr
    by_cases q : l.getD i z56 = c
    · refine .inl ⟨i, by omega, by omega, q, ST _ ?_⟩
      rw [if_pos (by rw [q]; simp)]
    · have hq : ¬ (c.f0 == (l.getD i z56).f0 && (c.f1 == (l.getD i z56).f1)) = true := by
        intro hh
        apply q
        rw [Bool.and_eq_true, beq_iff_eq, beq_iff_eq] at hh
        generalize l.getD i z56 = x at hh
        cases x; cases c
        simp only at hh
        rw [hh.1, hh.2]
      rcases index_ l hl c d (i + 1) (by omega) with ⟨j, h1, h2, h3, h4⟩ | ⟨h1, h2⟩
      · exact .inl ⟨j, by omega, h2, h3, ST _ (by rw [if_neg hq]; exact h4)⟩
      · refine .inr ⟨fun j g1 g2 => ?_, ST _ (by rw [if_neg hq]; exact h2)⟩
        by_cases e : j = i
        · rw [e]; exact q
        · exact h1 j (by omega) g2
section
variable (a b : List S56)
def cA (i : Nat) : S56 := a.getD i z56
def mt (i j : Nat) : Prop := a.getD i z56 = b.getD (nxt b.length j) z56 ∧ a.getD (nxt a.length i) z56 = b.getD j z56
theorem specStep (i j : Nat) (hi : i < a.length) (hj : j < b.length) (ha : a.length ≤ 8) (hb : b.length ≤ 8) (R : List S56 × Int)
    (h : (¬ mt a b i j ∧ Ev (fun k => spec_JoinStones.l1 k a b (i : Int) ((j + 1 : Nat) : Int)) R) ∨ (mt a b i j ∧ Ev (fun k => spec_JoinStones.j3 k a b (i : Int) (j : Int) (i : Int) ((nxt a.length i : Nat) : Int) false) R)) :
    Ev (fun k => spec_JoinStones.l1 k a b (i : Int) (j : Int)) R := by
  have hn := nxt_lt hi
  have hm := nxt_lt hj
  have t1 := tmn i a.length hi (by omega)
  have t2 := tmn j b.length hj (by omega)
  have e1 : spec_l03Next.f a (i : Int) = some ((nxt a.length i : Nat) : Int) := by unfold spec_l03Next.f; rw [if_neg (by omega), t1]
  have e2 : spec_l03Next.f b (j : Int) = some ((nxt b.length j : Nat) : Int) := by unfold spec_l03Next.f; rw [if_neg (by omega), t2]
  have GO : ¬ mt a b i j → Ev (fun k => spec_JoinStones.l1 k a b (i : Int) ((j + 1 : Nat) : Int)) R → Ev (fun k => spec_JoinStones.j3 k a b (i : Int) (j : Int) (i : Int) ((nxt a.length i : Nat) : Int) true) R := by
    intro _ hr
    refine Ev.step (fun k => by rw [spec_JoinStones.j3]) ?_
    refine Ev.pos rfl ?_
    rw [w64 (x := (j : Int) + 1) (by omega) (by omega)]
    exact hr
  refine Ev.step (fun k => by rw [spec_JoinStones.l1]) ?_
  refine Ev.pos (by omega) ?_
  refine Ev.nobind e1 (Ev.pos (by omega) (Ev.pos (by omega) ?_))
  refine Ev.nobind e2 (Ev.pos (by omega) (Ev.pos (by omega) ?_))
  rw [rdC', rdC', rdC', rdC']
  have n1 := neC_iff (a.getD i z56) (b.getD (nxt b.length j) z56)
  have n2 := neC_iff (a.getD (nxt a.length i) z56) (b.getD j z56)
  unfold neC at n1 n2
  refine Ev.ite (fun h1 => ?_) (fun h1 => ?_)
  · rw [n1] at h1
    rcases h with ⟨g1, g2⟩ | ⟨g1, g2⟩
    · exact GO g1 g2
    · exact absurd g1.1 h1
  · rw [n1] at h1
    have h1' := Classical.not_not.1 h1
    refine Ev.pos (by omega) (Ev.pos (by omega) (Ev.pos (by omega) ?_))
    rcases h with ⟨g1, g2⟩ | ⟨g1, g2⟩
    · rw [n2.2 (fun e => g1 ⟨h1', e⟩)]
      exact GO g1 g2
    · have : (!((a.getD (nxt a.length i) z56).f0 == (b.getD j z56).f0) || !((a.getD (nxt a.length i) z56).f1 == (b.getD j z56).f1)) = false := by rw [g1.2]; exact neC_self _
      rw [this]
      exact g2
theorem specNone (i : Nat) (hi : i < a.length) (ha : a.length ≤ 8) (hb : b.length ≤ 8) (R : List S56 × Int) (J : Nat) (hJ : J ≤ b.length) (h : Ev (fun k => spec_JoinStones.l1 k a b (i : Int) (J : Int)) R) :
    ∀ (d j : Nat), j + d = J → (∀ q, j ≤ q → q < J → ¬ mt a b i q) → Ev (fun k => spec_JoinStones.l1 k a b (i : Int) (j : Int)) R
  | 0, j, e, _ => by
    have : j = J := by omega
    rw [this]; exact h
  | d + 1, j, e, hq => specStep a b i j hi (by omega) ha hb R (.inl ⟨hq j (by omega) (by omega), specNone i hi ha hb R J hJ h d (j + 1) (by omega) (fun q h1 h2 => hq q (by omega) h2)⟩)
/-- Both stones joined along the edge that they have in common. -/
def both (i j : Nat) : List S56 := rot a (i + 1) a.length ++ rot b (j + 2) (b.length - 2)
def out (i j : Nat) : List S56 × Int := fin_ (strt (both a b i j).length (both a b i j) 0)
theorem both_len (i j : Nat) : (both a b i j).length = a.length + (b.length - 2) := by unfold both; rw [List.length_append, rot_length, rot_length]
theorem specJoin (i j : Nat) (hi : i < a.length) (hj : j < b.length) (ha : a.length ≤ 8) (hb : b.length ≤ 8) (ha3 : 3 ≤ a.length) (hb3 : 3 ≤ b.length) :
    Ev (fun k => spec_JoinStones.j3 k a b (i : Int) (j : Int) (i : Int) ((nxt a.length i : Nat) : Int) false) (out a b i j) := by
  have hn := nxt_lt hi
  have hm := nxt_lt hj
  have hm2 := nxt_lt hm
  have hp := prv_lt hj
  have t2 := tmn j b.length hj (by omega)
  have t3 := tmn (nxt b.length j) b.length hm (by omega)
  have e2 : spec_l03Next.f b (j : Int) = some ((nxt b.length j : Nat) : Int) := by unfold spec_l03Next.f; rw [if_neg (by omega), t2]
  have e3 : spec_l03Next.f b ((nxt b.length j : Nat) : Int) = some ((nxt b.length (nxt b.length j) : Nat) : Int) := by unfold spec_l03Next.f; rw [if_neg (by omega), t3]
  have P1 : Ev (fun k => spec_l03Part.f k a ((nxt a.length i : Nat) : Int) (i : Int)) (rot a (i + 1) a.length) := by
    unfold spec_l03Part.f
    have := specPart (l := a) (by omega) i hi (a.length - 1) (nxt a.length i) [] (by omega) hn (by unfold nxt; split <;> omega) (by simp; omega)
    rw [show a.length - 1 + 1 = a.length by omega, List.nil_append, rot_mod a (nxt a.length i) (i + 1) a.length (by rw [nxt_mod hi, Nat.mod_mod])] at this
    exact this
  have P2 : Ev (fun k => spec_l03Part.f k b ((nxt b.length (nxt b.length j) : Nat) : Int) ((prv b.length j : Nat) : Int)) (rot b (j + 2) (b.length - 2)) := by
    unfold spec_l03Part.f
    have := specPart (l := b) (by omega) (prv b.length j) hp (b.length - 3) (nxt b.length (nxt b.length j)) [] (by omega) hm2 (by unfold prv nxt; split <;> split <;> split <;> omega) (by simp; omega)
    rw [show b.length - 3 + 1 = b.length - 2 by omega, List.nil_append, rot_mod b (nxt b.length (nxt b.length j)) (j + 2) (b.length - 2) (by rw [nxt_mod hm, nxt_mod hj, Nat.mod_mod, Nat.mod_add_mod])] at this
    exact this
  refine Ev.step (fun k => by rw [spec_JoinStones.j3]) ?_
  refine Ev.neg (by decide) ?_
  refine Ev.bind P1 ?_
  refine Ev.nobind e2 ?_
  refine Ev.nobind e3 ?_
  refine Ev.neg (by omega) ?_
  rw [tmp_ j b.length hj (by omega)]
  refine Ev.bind P2 ?_
  rw [rot_length, rot_length]
  refine Ev.pos (by omega) ?_
  refine Ev.bind (a := out a b i j) ?_ (Ev.fin rfl)
  unfold spec_l03Joined.f
  exact specStrt (both a b i j).length (both a b i j) 0 (by omega) (by rw [both_len]; omega)
theorem implJoin (i j : Nat) (hi : i < a.length) (hj : j < b.length) (ha : a.length ≤ 8) (hb : b.length ≤ 8) (ha3 : 3 ≤ a.length) (hb3 : 3 ≤ b.length) (fa : Fit a) (fb : Fit b) (pa : ∀ c ∈ a, placed c = true) (pb : ∀ c ∈ b, placed c = true) (x : Int) :
    Ev (fun k => impl_JoinStones.j2 k a b ((nxt a.length i : Nat) : Int) (j : Int) a (a.length : Int) x false) (out a b i j) := by
  have hn := nxt_lt hi
  have F1 := from_ a (by omega) (nxt a.length i) (by omega)
  rw [rot_full a _ hn, rot_mod a (nxt a.length i) (i + 1) a.length (by rw [nxt_mod hi, Nat.mod_mod])] at F1
  have F2 := from_ b (by omega) j (by omega)
  rw [rot_full b _ hj] at F2
  have D : (rot b j b.length).drop 2 = rot b (j + 2) (b.length - 2) := by
    rw [← rot_drop2, show b.length - 2 + 2 = b.length by omega]
  refine Ev.step (fun k => by rw [impl_JoinStones.j2]) ?_
  refine Ev.neg (by decide) ?_
  refine Ev.bind F1 ?_
  refine Ev.bind F2 ?_
  rw [rot_length]
  refine Ev.pos (by omega) ?_
  rw [D]
  refine Ev.nobind rfl ?_
  rw [rot_length, rot_length]
  refine Ev.pos (by omega) ?_
  have S : Ev (fun k => impl_straight.f k (rot a (i + 1) a.length ++ rot b (j + 2) (b.length - 2))) (strt (both a b i j).length (both a b i j) 0) := by
    unfold impl_straight.f
    exact implStrt (both a b i j).length (both a b i j) 0 (by omega) (by rw [both_len]; omega)
  refine Ev.bind S ?_
  have MEM : ∀ c ∈ strt (both a b i j).length (both a b i j) 0, c ∈ a ∨ c ∈ b := by
    intro c hc
    have := strt_mem _ _ _ c hc
    unfold both at this
    rcases List.mem_append.1 this with h | h
    · exact .inl (rot_mem (by omega) h)
    · exact .inr (rot_mem (by omega) h)
  have LEN := Nat.le_trans (strt_len (both a b i j).length (both a b i j) 0) (Nat.le_of_eq (both_len a b i j))
  have hfit : Fit (strt (both a b i j).length (both a b i j) 0) := fun c hc => (MEM c hc).elim (fa c) (fb c)
  have hpl : (strt (both a b i j).length (both a b i j) 0).all placed = true := by
    rw [List.all_eq_true]
    exact fun c hc => (MEM c hc).elim (pa c) (pb c)
  unfold out fin_
  generalize strt (both a b i j).length (both a b i j) 0 = L at hfit hpl LEN ⊢
  refine Ev.bind (implConvexL hfit (by omega)) ?_
  rw [hpl, Bool.and_true, Bool.and_comm]
  refine Ev.ite (fun h1 => ?_) (fun h1 => Ev.fin (by rw [if_neg h1]))
  rw [if_pos h1]
  exact Ev.ite (fun h2 => Ev.fin (by rw [if_pos h2])) (fun h2 => Ev.fin (by rw [if_neg h2]))
theorem out_len (i j : Nat) (ha : a.length ≤ 8) (hb : b.length ≤ 8) : (out a b i j).1.length ≤ 1000 := by
  unfold out fin_
  have := Nat.le_trans (strt_len (both a b i j).length (both a b i j) 0) (Nat.le_of_eq (both_len a b i j))
  split
  · split
    · simp
    · show (strt (both a b i j).length (both a b i j) 0).length ≤ 1000
      omega
  · simp
set_option maxHeartbeats 2000000 in
theorem loops (fa : Fit a) (fb : Fit b) (oa : okS a = true) (ob : okS b = true) (pa : ∀ c ∈ a, placed c = true) (pb : ∀ c ∈ b, placed c = true) : ∀ (d i : Nat), i + d = a.length →
    ∃ R : List S56 × Int, Ev (fun k => spec_JoinStones.l0 k a b (i : Int)) R ∧ Ev (fun k => impl_JoinStones.l0 k a b a (a.length : Int) (i : Int)) R ∧ R.1.length ≤ 1000
  | 0, i, h => by
    refine ⟨([], 6), ?_, ?_, by simp⟩
    · refine Ev.step (fun k => by rw [spec_JoinStones.l0]) ?_
      exact Ev.neg (by omega) (Ev.fin rfl)
    · refine Ev.step (fun k => by rw [impl_JoinStones.l0]) ?_
      exact Ev.neg (by omega) (Ev.fin rfl)
  | d + 1, i, h => by
    have la := okS_len oa
    have lb := okS_len ob
    have hi : i < a.length := by omega
    have hn := nxt_lt hi
    have t1 := Aside0.mk (tmn i a.length hi (by omega))
    have wi := Aside0.mk (w64 (x := (i : Int) + 1) (by omega) (by omega))
    obtain ⟨R, r1, r2, r3⟩ := loops fa fb oa ob pa pb d (i + 1) (by omega)
    -- the next place
    have SN : (∀ q, q < b.length → ¬ mt a b i q) → Ev (fun k => spec_JoinStones.l0 k a b (i : Int)) R := by
      intro hq
      refine Ev.step (fun k => by rw [spec_JoinStones.l0]) ?_
      refine Ev.pos (by omega) ?_
      refine specNone a b i hi la.2 lb.2 R b.length (Nat.le_refl _) ?_ b.length 0 (by omega) (fun q _ h2 => hq q h2)
      refine Ev.step (fun k => by rw [spec_JoinStones.l1]) ?_
      refine Ev.neg (by omega) ?_
      rw [wi.out]
      exact r1
    have IN : ∀ at_' : Int, Ev (fun k => impl_JoinStones.j2 k a b ((nxt a.length i : Nat) : Int) at_' a (a.length : Int) (i : Int) true) R := by
      intro at_'
      refine Ev.step (fun k => by rw [impl_JoinStones.j2]) ?_
      refine Ev.pos rfl ?_
      rw [wi.out]
      exact r2
    have IX := index_ b (by omega) (a.getD (nxt a.length i) z56) b.length 0 (by omega)
    have IMPL : ∀ (v : Int) (Q : List S56 × Int), Ev (fun k => impl_Corner_62.l0 k b (b.length : Int) 0 (a.getD (nxt a.length i) z56).f0 (a.getD (nxt a.length i) z56).f1) v →
        Ev (fun k => (if v < 0 then (impl_JoinStones.j2 k a b ((nxt a.length i : Nat) : Int) v a (a.length : Int) (i : Int) true) else (if (b.length : Int) = 0 then (none) else (if 0 ≤ (Int.tmod (wrap64 (v + 1)) (b.length : Int)) then (if (Int.tmod (wrap64 (v + 1)) (b.length : Int)) < (b.length : Int) then (impl_JoinStones.j2 k a b ((nxt a.length i : Nat) : Int) v a (a.length : Int) (i : Int) (neC (rd_T56 b (Int.tmod (wrap64 (v + 1)) (b.length : Int))) (rd_T56 a (i : Int)))) else (none)) else (none))))) Q →
        Ev (fun k => impl_JoinStones.l0 k a b a (a.length : Int) (i : Int)) Q := by
      intro v Q hv hQ
      refine Ev.step (fun k => by rw [impl_JoinStones.l0]) ?_
      rw [t1.out]
      refine Ev.pos (by omega) (Ev.pos (by omega) (Ev.pos (by omega) (Ev.neg (by omega) (Ev.pos (by omega) (Ev.pos (by omega) ?_)))))
      rw [rdC' a (nxt a.length i)]
      unfold impl_Corner_62.f
      exact Ev.bind hv hQ
    rcases IX with ⟨j, _, hj, hc, hv⟩ | ⟨hno, hv⟩
    · have hm := nxt_lt hj
      have t2 := Aside0.mk (tmn j b.length hj (by omega))
      by_cases q : b.getD (nxt b.length j) z56 = a.getD i z56
      · refine ⟨out a b i j, ?_, ?_, out_len a b i j la.2 lb.2⟩
        · refine Ev.step (fun k => by rw [spec_JoinStones.l0]) ?_
          refine Ev.pos (by omega) ?_
          refine specNone a b i hi la.2 lb.2 _ j (by omega) ?_ j 0 (by omega) (fun p _ h2 hmt => ?_)
          · exact specStep a b i j hi hj la.2 lb.2 _ (.inr ⟨⟨q.symm, hc.symm⟩, specJoin a b i j hi hj la.2 lb.2 la.1 lb.1⟩)
          · have := apart ob (j := p) (k := j) (by omega) hj (by rw [← hmt.2, hc])
            omega
        · refine IMPL (j : Int) _ hv ?_
          refine Ev.neg (by omega) (Ev.neg (by omega) ?_)
          rw [t2.out]
          refine Ev.pos (by omega) (Ev.pos (by omega) ?_)
          rw [rdC', rdC', q, neC_self]
          exact implJoin a b i j hi hj la.2 lb.2 la.1 lb.1 fa fb pa pb (i : Int)
      · refine ⟨R, SN (fun p hp hmt => ?_), ?_, r3⟩
        · have := apart ob (j := p) (k := j) hp hj (by rw [← hmt.2, hc])
          subst this
          exact q hmt.1.symm
        · refine IMPL (j : Int) _ hv ?_
          refine Ev.neg (by omega) (Ev.neg (by omega) ?_)
          rw [t2.out]
          refine Ev.pos (by omega) (Ev.pos (by omega) ?_)
          rw [rdC', rdC', (neC_iff _ _).2 q]
          exact IN _
    · refine ⟨R, SN (fun p hp hmt => hno p (by omega) hp hmt.2.symm), ?_, r3⟩
      refine IMPL (-1) _ hv ?_
      exact Ev.pos (by omega) (IN _)
theorem joins (fa : Fit a) (fb : Fit b) : ∃ R : List S56 × Int, Ev (fun k => spec_JoinStones.f k a b) R ∧ Ev (fun k => impl_JoinStones.f k a b) R ∧ R.1.length ≤ 1000 := by
  have placed_of : ∀ {l : List S56}, okS l = true → ∀ c ∈ l, placed c = true := by
    intro l h
    unfold okS at h
    rw [Bool.and_eq_true, Bool.and_eq_true] at h
    exact List.all_eq_true.1 h.1.2
  have SB : Ev (fun k => spec_JoinStones.j0 k a b true) ([], 1) := by
    refine Ev.step (fun k => by rw [spec_JoinStones.j0]) ?_
    exact Ev.pos rfl (Ev.fin rfl)
  have IB : Ev (fun k => impl_JoinStones.j0 k a b true) ([], 1) := by
    refine Ev.step (fun k => by rw [impl_JoinStones.j0]) ?_
    exact Ev.pos rfl (Ev.fin rfl)
  cases oa : okS a with
  | false =>
    refine ⟨([], 1), ?_, ?_, by simp⟩
    · unfold spec_JoinStones.f
      exact Ev.bind (Ev.to (specOk fa) oa) (Ev.neg (by decide) SB)
    · unfold impl_JoinStones.f
      exact Ev.bind (Ev.to (implOk fa) oa) (Ev.neg (by decide) IB)
  | true =>
    cases ob : okS b with
    | false =>
      refine ⟨([], 1), ?_, ?_, by simp⟩
      · unfold spec_JoinStones.f
        exact Ev.bind (Ev.to (specOk fa) oa) (Ev.pos rfl (Ev.bind (Ev.to (specOk fb) ob) SB))
      · unfold impl_JoinStones.f
        exact Ev.bind (Ev.to (implOk fa) oa) (Ev.pos rfl (Ev.bind (Ev.to (implOk fb) ob) IB))
    | true =>
      obtain ⟨R, r1, r2, r3⟩ := loops a b fa fb oa ob (placed_of oa) (placed_of ob) a.length 0 (by omega)
      refine ⟨R, ?_, ?_, r3⟩
      · unfold spec_JoinStones.f
        refine Ev.bind (Ev.to (specOk fa) oa) (Ev.pos rfl (Ev.bind (Ev.to (specOk fb) ob) ?_))
        refine Ev.step (fun k => by rw [spec_JoinStones.j0]) ?_
        exact Ev.neg (by decide) r1
      · unfold impl_JoinStones.f
        refine Ev.bind (Ev.to (implOk fa) oa) (Ev.pos rfl (Ev.bind (Ev.to (implOk fb) ob) ?_))
        refine Ev.step (fun k => by rw [impl_JoinStones.j0]) ?_
        exact Ev.neg (by decide) r2
end
theorem szStoneN (l : List S58) (n : Int) (h0 : 0 ≤ n) (h1 : n ≤ 1048576) (hl : l.length ≤ maxLen) : laws_szStone.f l n = some (if n - (l.length : Int) < 0 then (-1 : Int) else n - (l.length : Int)) := by
  unfold maxLen at hl
  unfold laws_szStone.f
  rw [w64 (by omega) (by omega)]
  split <;> rfl
theorem FnExactJoinStones : laws_FnExactJoinStones.Pure := by
  intro l0 l1 w0 w1
  have fa := fit_of w0
  have fb := fit_of w1
  refine Ev.rounds (g := fun k => laws_FnExactJoinStones.f k l0 l1) ?_
  unfold laws_FnExactJoinStones.f
  refine Ev.nobind (szStone l0 w0.1) (Ev.ite (fun _ => Ev.fin rfl) (fun h0 => ?_))
  have hl0 : l0.length ≤ 1048576 := by split at h0 <;> omega
  have en : (if (1048576 : Int) - (l0.length : Int) < 0 then (-1 : Int) else (1048576 : Int) - (l0.length : Int)) = (1048576 : Int) - (l0.length : Int) := by rw [if_neg (by omega)]
  rw [en]
  refine Ev.nobind (szStoneN l1 _ (by omega) (by omega) w1.1) (Ev.ite (fun _ => Ev.fin rfl) (fun h1 => ?_))
  have hl1 : l1.length ≤ 1048576 := by split at h1 <;> omega
  have t0 := toStone l0 hl0
  have t1 := toStone l1 hl1
  have hm0 : (l0.map conv).length ≤ 1048576 := by simpa using hl0
  have hm1 : (l1.map conv).length ≤ 1048576 := by simpa using hl1
  obtain ⟨v, hs, hi, hj⟩ := joins (l0.map conv) (l1.map conv) fa fb
  generalize l0.map conv = a at t0 hs hi hm0
  generalize l1.map conv = b at t1 hs hi hm1
  have hq := eqStone v.1 (by omega)
  refine Ev.bind t0 (Ev.bind t1 (Ev.bind hs (Ev.bind t0 (Ev.bind t1 (Ev.bind hi (Ev.bind hq (Ev.pos rfl ?_)))))))
  refine Ev.step (fun k => by rw [laws_FnExactJoinStones.j0]) ?_
  refine Ev.neg (by simp) (Ev.bind t0 (Ev.bind (eqStone a hm0) (Ev.pos rfl ?_)))
  refine Ev.bind t1 (Ev.bind (eqStone b hm1) (Ev.pos rfl ?_))
  refine Ev.bind (markStone a hm0) (Ev.bind (markStoneAt b hm1 (1 + 2 * (a.length : Int)) (by omega)) ?_)
  refine Ev.neg (by show ¬ (1 + 2 * (a.length : Int) + 2 * (b.length : Int) < 0); omega) (Ev.bind hq (Ev.pos rfl ?_))
  refine Ev.step (fun k => by rw [laws_FnExactJoinStones.j1]) ?_
  refine Ev.neg (by simp) ?_
  refine Ev.bind (markStone v.1 (by omega)) (Ev.bind (heldStone v.1.length (by omega)) ?_)
  refine Ev.neg (by omega) (Ev.pos rfl ?_)
  refine Ev.bind t0 (Ev.bind t1 (Ev.bind hi (Ev.bind hq (Ev.pos rfl ?_))))
  refine Ev.step (fun k => by rw [laws_FnExactJoinStones.j2]) ?_
  refine Ev.neg (by simp) (Ev.bind (heldStone v.1.length (by omega)) ?_)
  refine Ev.neg (by omega) ?_
  exact Ev.pos rfl (Ev.fin rfl)

end Go.Proofs.Ytdklfcanifmnpaa.Pure
