/- The program's SplitStone answers what the reference's SplitStone answers, at all lists of corners and all numbers; no condition. -/
import Derived.Test.YtdklfcanifmnpaaStonesKit
import Derived.Test.YtdklfcanifmnpaaPAxf9
namespace Go.Proofs.Ytdklfcanifmnpaa.Pure
set_option linter.unusedSimpArgs false
set_option linter.unusedVariables false
open Go.RowKit Go.Proofs.Ytdklfcanifmnpaa.PA Go.Proofs.Ytdklfcanifmnpaa.Base Go.Proofs.Ytdklfcanifmnpaa.StonesKit Go.Proofs.YtdklfcanifmnpaaW.PrintWords Go.Proofs.YtdklfcanifmnpaaW.PrintLast Go.Proofs.YtdklfcanifmnpaaW.PrintMore

def nxt (n i : Nat) : Nat := if i + 1 < n then i + 1 else 0
theorem tmn (i n : Nat) (h : i < n) (hn : n ≤ 1048576) : Int.tmod (wrap64 ((i : Int) + 1)) (n : Int) = ((nxt n i : Nat) : Int) := by
  rw [tm i n h hn]; congr 1; unfold nxt
  split
  · exact Nat.mod_eq_of_lt (by omega)
  · have : i + 1 = n := by omega
    rw [this, Nat.mod_self]
/-- The corners met in d steps from i. -/
def ptT (l : List S56) : Nat → Nat → List S56
  | 0, _ => []
  | d + 1, i => l.getD (nxt l.length i) z56 :: ptT l d (nxt l.length i)
theorem ptT_length (l : List S56) : ∀ d i, (ptT l d i).length = d
  | 0, _ => rfl
  | d + 1, i => by simp [ptT, ptT_length l d]
def part (l : List S56) (d i : Nat) : List S56 := l.getD i z56 :: ptT l d i
theorem specPart {l : List S56} (hl : l.length ≤ 1048576) (b : Nat) (hb : b < l.length) : ∀ (d i : Nat) (acc : List S56), d < l.length → i < l.length → (i + d = b ∨ i + d = b + l.length) → acc.length + d ≤ 1048576 →
    Ev (fun k => spec_l03Part.l0 k l (b : Int) acc (l.length : Int) (i : Int)) (acc ++ part l d i)
  | 0, i, acc, _, hi, h, ha => by
    refine Ev.step (fun k => by rw [spec_l03Part.l0]) ?_
    refine Ev.pos (by omega) (Ev.pos (by omega) (Ev.pos (by omega) (Ev.nobind rfl (Ev.pos (by omega) (Ev.fin ?_)))))
    rw [rdC']; rfl
  | d + 1, i, acc, hd, hi, h, ha => by
    have hn : nxt l.length i < l.length := by unfold nxt; split <;> omega
    have hx : nxt l.length i + d = b ∨ nxt l.length i + d = b + l.length := by unfold nxt; split <;> omega
    refine Ev.step (fun k => by rw [spec_l03Part.l0]) ?_
    refine Ev.pos (by omega) (Ev.pos (by omega) (Ev.pos (by omega) (Ev.nobind rfl (Ev.neg (by omega) (Ev.neg (by omega) ?_)))))
    rw [tmn i l.length hi hl]
    refine Ev.to (specPart hl b hb d (nxt l.length i) _ (by omega) hn hx (by simp; omega)) ?_
    rw [rdC', List.append_assoc]; rfl
theorem implPart {l : List S56} (hl : l.length ≤ 1048576) (b : Nat) (hb : b < l.length) : ∀ (d i : Nat) (acc : List S56), d < l.length → i < l.length → (i + d = b ∨ i + d = b + l.length) → acc.length + d ≤ 1048576 →
    Ev (fun k => impl_Stone_upTo.l0 k l (i : Int) (b : Int) acc) (acc ++ ptT l d i)
  | 0, i, acc, _, hi, h, ha => by
    refine Ev.step (fun k => by rw [impl_Stone_upTo.l0]) ?_
    exact Ev.pos (by omega) (Ev.fin (by simp [ptT]))
  | d + 1, i, acc, hd, hi, h, ha => by
    have hn : nxt l.length i < l.length := by unfold nxt; split <;> omega
    have hx : nxt l.length i + d = b ∨ nxt l.length i + d = b + l.length := by unfold nxt; split <;> omega
    refine Ev.step (fun k => by rw [impl_Stone_upTo.l0]) ?_
    refine Ev.neg (by omega) (Ev.neg (by omega) ?_)
    rw [tmn i l.length hi hl]
    refine Ev.pos (by omega) (Ev.pos (by omega) (Ev.pos (by omega) ?_))
    refine Ev.to (implPart hl b hb d (nxt l.length i) _ (by omega) hn hx (by simp; omega)) ?_
    rw [rdC', List.append_assoc]; rfl
def dist (n i b : Nat) : Nat := if i ≤ b then b - i else b + n - i
theorem dist_ok {n i b : Nat} (hi : i < n) (hb : b < n) : dist n i b < n ∧ (i + dist n i b = b ∨ i + dist n i b = b + n) := by
  unfold dist; split <;> omega
theorem specP {l : List S56} (hl : l.length ≤ 1048575) {i b : Nat} (hi : i < l.length) (hb : b < l.length) : Ev (fun k => spec_l03Part.f k l (i : Int) (b : Int)) (part l (dist l.length i b) i) := by
  have h := dist_ok hi hb
  unfold spec_l03Part.f
  exact specPart (by omega) b hb _ i [] h.1 hi h.2 (by simp; omega)
theorem implP {l : List S56} (hl : l.length ≤ 1048575) {i b : Nat} (hi : i < l.length) (hb : b < l.length) : Ev (fun k => impl_Stone_upTo.f k l (i : Int) (b : Int)) (part l (dist l.length i b) i) := by
  have h := dist_ok hi hb
  unfold impl_Stone_upTo.f
  refine Ev.pos (by omega) (Ev.pos (by omega) ?_)
  refine Ev.to (implPart (by omega) b hb _ i _ h.1 hi h.2 (by simp; omega)) ?_
  rw [rdC']; rfl
def near (n i b : Nat) : Bool := decide (i = b) || (decide (nxt n i = b) || decide (nxt n b = i))
def res (l : List S56) (a b : Int) : List S56 × List S56 × Int :=
  if okS l then (if inB a 0 ((l.length : Int) - 1) && inB b 0 ((l.length : Int) - 1) then (if near l.length a.toNat b.toNat then ([], [], 4) else (part l (dist l.length a.toNat b.toNat) a.toNat, part l (dist l.length b.toNat a.toNat) b.toNat, 0)) else ([], [], 2)) else ([], [], 1)
theorem res_length (l : List S56) (a b : Int) : (res l a b).1.length ≤ 10 ∧ (res l a b).2.1.length ≤ 10 := by
  unfold res
  split
  · rename_i h
    have hl := okS_len h
    split
    · rename_i h2
      rw [Bool.and_eq_true, inB_iff, inB_iff] at h2
      have d1 := dist_ok (n := l.length) (i := a.toNat) (b := b.toNat) (by omega) (by omega)
      have d2 := dist_ok (n := l.length) (i := b.toNat) (b := a.toNat) (by omega) (by omega)
      split
      · simp
      · simp only [part, List.length_cons, ptT_length]; omega
    · simp
  · simp
theorem specIt {l : List S56} (hl : l.length ≤ 1048575) {i b : Nat} (hi : i < l.length) (hb : b < l.length) : Ev (fun k => spec_SplitStone.j0 k l (i : Int) (b : Int) (l.length : Int) false) (if near l.length i b then ([], [], 4) else (part l (dist l.length i b) i, part l (dist l.length b i) b, 0)) := by
  have bad : Ev (fun k => spec_SplitStone.j1 k l (i : Int) (b : Int) true) ([], [], 4) := by
    refine Ev.step (fun k => by rw [spec_SplitStone.j1]) ?_
    exact Ev.pos rfl (Ev.fin rfl)
  refine Ev.step (fun k => by rw [spec_SplitStone.j0]) ?_
  refine Ev.neg (by simp) ?_
  rw [tmn i l.length hi (by omega), tmn b l.length hb (by omega)]
  unfold near
  refine Ev.ite (fun e => ?_) (fun e => Ev.neg (by omega) ?_)
  · rw [decide_eq_true (by omega)]; exact bad
  rw [decide_eq_false (by omega), Bool.false_or]
  refine Ev.ite (fun e => ?_) (fun e => ?_)
  · rw [decide_eq_true (by omega)]; exact bad
  rw [decide_eq_false (by omega), Bool.false_or]
  by_cases q : nxt l.length b = i
  · rw [decide_eq_true q, q]; simpa using bad
  · have e2 : (((nxt l.length b : Nat) : Int) == (i : Int)) = false := by rw [beq_eq_false_iff_ne]; omega
    rw [decide_eq_false q, e2]
    refine Ev.step (fun k => by rw [spec_SplitStone.j1]) ?_
    exact Ev.neg (by simp) (Ev.bind (specP hl hi hb) (Ev.bind (specP hl hb hi) (Ev.fin rfl)))
theorem implIt {l : List S56} (hl : l.length ≤ 1048575) {i b : Nat} (hi : i < l.length) (hb : b < l.length) : Ev (fun k => impl_SplitStone.j0 k l (i : Int) (b : Int) (l.length : Int) 0) (if near l.length i b then ([], [], 4) else (part l (dist l.length i b) i, part l (dist l.length b i) b, 0)) := by
  have bad : Ev (fun k => impl_SplitStone.j1 k l (i : Int) (b : Int) true) ([], [], 4) := by
    refine Ev.step (fun k => by rw [impl_SplitStone.j1]) ?_
    exact Ev.pos rfl (Ev.fin rfl)
  refine Ev.step (fun k => by rw [impl_SplitStone.j0]) ?_
  refine Ev.pos rfl ?_
  rw [tmn i l.length hi (by omega), tmn b l.length hb (by omega)]
  unfold near
  refine Ev.ite (fun e => ?_) (fun e => Ev.neg (by omega) ?_)
  · rw [decide_eq_true (by omega)]; exact bad
  rw [decide_eq_false (by omega), Bool.false_or]
  refine Ev.ite (fun e => ?_) (fun e => ?_)
  · rw [decide_eq_true (by omega)]; exact bad
  rw [decide_eq_false (by omega), Bool.false_or]
  by_cases q : nxt l.length b = i
  · rw [decide_eq_true q, q]; simpa using bad
  · have e2 : (((nxt l.length b : Nat) : Int) == (i : Int)) = false := by rw [beq_eq_false_iff_ne]; omega
    rw [decide_eq_false q, e2]
    refine Ev.step (fun k => by rw [impl_SplitStone.j1]) ?_
    exact Ev.neg (by simp) (Ev.bind (implP hl hi hb) (Ev.bind (implP hl hb hi) (Ev.fin rfl)))
theorem specRes {l : List S56} (hf : Fit l) (a b : Int) : Ev (fun k => spec_SplitStone.f k l a b) (res l a b) := by
  unfold spec_SplitStone.f res
  have bad : Ev (fun k => spec_SplitStone.j0 k l a b (l.length : Int) true) ([], [], 2) := by
    refine Ev.step (fun k => by rw [spec_SplitStone.j0]) ?_
    exact Ev.pos rfl (Ev.fin rfl)
  refine Ev.bind (specOk hf) ?_
  cases ho : okS l with
  | false => exact Ev.neg (by simp) (Ev.fin rfl)
  | true =>
    have hl := okS_len ho
    rw [w64 (by omega) (by omega)]
    refine Ev.pos rfl (Ev.nobind (specIn _ _ _) ?_)
    cases ha : inB a 0 ((l.length : Int) - 1) with
    | false => exact Ev.neg (by simp) bad
    | true =>
      refine Ev.pos rfl (Ev.nobind (specIn _ _ _) ?_)
      cases hb : inB b 0 ((l.length : Int) - 1) with
      | false => exact bad
      | true =>
        rw [inB_iff] at ha hb
        obtain ⟨i, rfl⟩ : ∃ i : Nat, a = (i : Int) := ⟨a.toNat, by omega⟩
        obtain ⟨j, rfl⟩ : ∃ j : Nat, b = (j : Int) := ⟨b.toNat, by omega⟩
        exact specIt (by omega) (by omega) (by omega)
theorem implRes {l : List S56} (hf : Fit l) (hl : l.length ≤ 1048576) (a b : Int) : Ev (fun k => impl_SplitStone.f k l a b) (res l a b) := by
  unfold impl_SplitStone.f res
  have bad : ∀ c : Int, c ≠ 0 → Ev (fun k => impl_SplitStone.j0 k l a b (l.length : Int) c) ([], [], c) := by
    intro c hc
    refine Ev.step (fun k => by rw [impl_SplitStone.j0]) ?_
    exact Ev.neg hc (Ev.fin rfl)
  refine Ev.bind (implOk hf) ?_
  rw [w64 (by omega) (by omega)]
  refine Ev.nobind (implIn _ _ _) ?_
  cases ha : inB a 0 ((l.length : Int) - 1) with
  | false =>
    refine Ev.neg (by simp) (Ev.nobind (codeOf _ _) ?_)
    cases okS l with
    | false => exact bad 1 (by decide)
    | true => exact bad 2 (by decide)
  | true =>
    refine Ev.pos rfl (Ev.nobind (implIn _ _ _) (Ev.nobind (codeOf _ _) ?_))
    cases ho : okS l with
    | false => exact bad 1 (by decide)
    | true =>
      have hl := okS_len ho
      cases hb : inB b 0 ((l.length : Int) - 1) with
      | false => exact bad 2 (by decide)
      | true =>
        rw [inB_iff] at ha hb
        obtain ⟨i, rfl⟩ : ∃ i : Nat, a = (i : Int) := ⟨a.toNat, by omega⟩
        obtain ⟨j, rfl⟩ : ∃ j : Nat, b = (j : Int) := ⟨b.toNat, by omega⟩
        exact implIt (by omega) (by omega) (by omega)
theorem FnExactSplitStone : laws_FnExactSplitStone.Pure := by
  intro l0 a1 a2 w0 w1 w2
  have hf := fit_of w0
  refine Ev.rounds (g := fun k => laws_FnExactSplitStone.f k l0 a1 a2) ?_
  unfold laws_FnExactSplitStone.f
  refine Ev.nobind (szStone l0 w0.1) (Ev.ite (fun _ => Ev.fin rfl) (fun h0 => ?_))
  have hl : l0.length ≤ 1048576 := by split at h0 <;> omega
  have t0 := toStone l0 hl
  have hj := res_length (l0.map conv) a1 a2
  have hs := specRes hf a1 a2
  have hm : (l0.map conv).length ≤ 1048576 := by simpa using hl
  have hi := implRes hf hm a1 a2
  generalize l0.map conv = l at t0 hs hi hj hm
  generalize res l a1 a2 = v at hj hs hi
  have q1 := eqStone v.1 (by omega)
  have q2 := eqStone v.2.1 (by omega)
  refine Ev.bind t0 (Ev.bind hs (Ev.bind t0 (Ev.bind hi (Ev.bind q1 (Ev.pos rfl (Ev.bind q2 (Ev.pos rfl ?_)))))))
  refine Ev.step (fun k => by rw [laws_FnExactSplitStone.j0]) ?_
  refine Ev.neg (by simp) (Ev.bind t0 (Ev.bind (eqStone l hm) (Ev.pos rfl ?_)))
  refine Ev.bind (markStone l hm) (Ev.neg (by show ¬ (1 + 2 * (l.length : Int) < 0); omega) (Ev.bind q1 (Ev.pos rfl (Ev.bind q2 (Ev.pos rfl ?_)))))
  refine Ev.step (fun k => by rw [laws_FnExactSplitStone.j1]) ?_
  refine Ev.neg (by simp) ?_
  refine Ev.bind (markStone v.1 (by omega)) (Ev.bind (markStoneAt v.2.1 (by omega) (1 + 2 * (v.1.length : Int)) (by omega)) (Ev.bind (heldStone v.1.length (by omega)) ?_))
  refine Ev.neg (by omega) (Ev.bind (heldStoneAt v.2.1.length (by omega) (1 + 2 * (v.1.length : Int)) (by omega)) ?_)
  refine Ev.neg (by omega) (Ev.pos rfl ?_)
  refine Ev.bind t0 (Ev.bind hi (Ev.bind q1 (Ev.pos rfl (Ev.bind q2 (Ev.pos rfl ?_)))))
  refine Ev.step (fun k => by rw [laws_FnExactSplitStone.j2]) ?_
  refine Ev.neg (by simp) (Ev.bind (heldStone v.1.length (by omega)) ?_)
  refine Ev.neg (by omega) (Ev.bind (heldStoneAt v.2.1.length (by omega) (1 + 2 * (v.1.length : Int)) (by omega)) ?_)
  exact Ev.neg (by omega) (Ev.pos rfl (Ev.fin rfl))

end Go.Proofs.Ytdklfcanifmnpaa.Pure
