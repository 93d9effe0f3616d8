/- Frames, stones in them, stones that overlap, faults of a lay: what the reference's and the program's functions come to; the laws' own functions over lists of stones. -/
import Derived.Test.YtohhcomokcdbfaaStonesKit
import Derived.Test.YtohhcomokcdbfaaOverKit
import Derived.Test.YtohhcomokcdbfaaLoops2
import Derived.Test.YtohhcomokcdbfaaPAxf32
import Derived.Test.YtohhcomokcdbfaaPAxgImplB
import Derived.Test.YtohhcomokcdbfaaPAxgLawB
import Derived.Test.YtohhcomokcdbfaaPAxgSpecB
namespace Go.Proofs.Ytohhcomokcdbfaa.LayKit
set_option linter.unusedSimpArgs false
set_option linter.unusedVariables false
open Go.RowKit Go.Proofs.Ytohhcomokcdbfaa.PA Go.Proofs.Ytohhcomokcdbfaa.Base Go.Proofs.Ytohhcomokcdbfaa.StonesKit Go.Proofs.YtohhcomokcdbfaaW.PrintWords Go.Proofs.YtohhcomokcdbfaaW.PrintLast Go.Proofs.YtohhcomokcdbfaaW.PrintMore

theorem rdS (xs : List (List S55)) (i : Nat) : rd_L4 xs (i : Int) = xs.getD i [] := by simp [rd_L4]
theorem rdSD (xs : List (List S57)) (i : Nat) : rd_L2 xs (i : Int) = xs.getD i [] := by simp [rd_L2]
theorem getS {α : Type} {xs : List (List α)} {i : Nat} (h : i < xs.length) : xs.getD i [] = xs[i] := by
  rw [List.getD_eq_getElem?_getD, List.getElem?_eq_getElem h]; rfl
theorem idxO_ev {α : Type} (p : Nat → α → Option Bool) (q : α → Bool) : ∀ (l : List α) (i : Int), (∀ x ∈ l, Ev (fun k => p k x) (q x)) → Ev (fun k => idxO (p k) l i) (if l.any q then (l.findIdx q : Int) + i else -1)
  | [], i, _ => Ev.fin rfl
  | x :: xs, i, h => by
    have ih := idxO_ev p q xs (i + 1) (fun y hy => h y (by simp [hy]))
    show Ev (fun k => (p k x).bind fun b => if b = true then some i else idxO (p k) xs (i + 1)) _
    refine Ev.bind (h x (by simp)) ?_
    rw [List.any_cons, List.findIdx_cons]
    cases q x with
    | true => exact Ev.pos rfl (Ev.fin (by simp))
    | false =>
      refine Ev.neg (by decide) (Ev.to ih ?_)
      rw [Bool.false_or, cond_false]
      split
      · rw [Int.natCast_add]; omega
      · rfl
theorem anyO_ev {α : Type} (p : Nat → α → Option Bool) (q : α → Bool) (l : List α) (h : ∀ x ∈ l, Ev (fun k => p k x) (q x)) : Ev (fun k => (idxO (p k) l 0).bind fun i => some (decide (0 ≤ i))) (l.any q) := by
  refine Ev.bind (idxO_ev p q l 0 h) (Ev.fin ?_)
  split
  · rename_i e; rw [e, decide_eq_true_eq]; omega
  · rename_i e; rw [Bool.not_eq_true] at e; rw [e]; rfl
/-! ### frames -/
def F16 (a b : Int) : Prop := (-32768 ≤ a ∧ a ≤ 32767) ∧ (-32768 ≤ b ∧ b ≤ 32767)
def frB (a b : Int) : Bool := inB a 1 1000 && inB b 1 1000
theorem specFrame {a b : Int} (h : F16 a b) : spec_l03Frame.f a b = some (frB a b) := by
  unfold spec_l03Frame.f frB
  unfold F16 at h
  rw [w64 (by omega) (by omega), w64 (by omega) (by omega), specIn, specIn, Option.bind_some]
  cases inB a 1 1000 <;> simp
theorem implFrame {a b : Int} (h : F16 a b) : impl_isFrame.f a b = some (frB a b) := by
  unfold impl_isFrame.f frB
  unfold F16 at h
  rw [w64 (by omega) (by omega), w64 (by omega) (by omega), implIn, implIn, Option.bind_some]
  cases inB a 1 1000 <;> simp
def inF (a b : Int) (c : S55) : Bool := inB c.f0 0 a && inB c.f1 0 b
def allIn (a b : Int) (l : List S55) : Bool := l.all (inF a b)
theorem specPoint {a b : Int} (h : F16 a b) {c : S55} (hc : (-32768 ≤ c.f0 ∧ c.f0 ≤ 32767) ∧ (-32768 ≤ c.f1 ∧ c.f1 ≤ 32767)) : spec_l03Point.f a b (wrap64 c.f0) (wrap64 c.f1) = some (inF a b c) := by
  unfold spec_l03Point.f inF
  unfold F16 at h
  rw [w64 (x := a) (by omega) (by omega), w64 (x := b) (by omega) (by omega), w64 (x := c.f0) (by omega) (by omega), w64 (x := c.f1) (by omega) (by omega), specIn, specIn, Option.bind_some]
  cases inB c.f0 0 a <;> simp
theorem specInF {a b : Int} (h : F16 a b) {l : List S55} (hf : Fit l) (hl : l.length ≤ 1048576) : Ev (fun k => spec_l03In.f k a b l) (allIn a b l) := by
  unfold spec_l03In.f allIn
  refine Ev.to (rangeAll_ev0 (fun k i => spec_l03In.l0 k l i a b) l.length (fun i => inF a b (l.getD i z55)) true false ?_ ?_ ?_) (by rw [all_range, ite_b])
  · intro i hi hp r' hr
    refine Ev.step (fun k => by rw [spec_l03In.l0]) (Ev.pos (by omega) (Ev.pos (by omega) ?_))
    rw [rdC l i hi, w64 (x := (i : Int) + 1) (by omega) (by omega)]
    refine Ev.nobind (specPoint h (hf _ (List.getElem_mem hi))) (Ev.pos ?_ hr)
    simpa [List.getD_eq_getElem?_getD, hi] using hp
  · intro i hi hp
    refine Ev.step (fun k => by rw [spec_l03In.l0]) (Ev.pos (by omega) (Ev.pos (by omega) ?_))
    rw [rdC l i hi]
    refine Ev.nobind (specPoint h (hf _ (List.getElem_mem hi))) (Ev.neg ?_ (Ev.fin rfl))
    have : inF a b l[i] = false := by simpa [List.getD_eq_getElem?_getD, hi] using hp
    rw [this]; decide
  · intro _
    refine Ev.step (fun k => by rw [spec_l03In.l0]) ?_
    exact Ev.neg (by omega) (Ev.fin rfl)
theorem implHolds (a b x y : Int) : impl_Frame_holds.f a b x y = some (inF a b ⟨x, y⟩) := by
  unfold impl_Frame_holds.f inF inB
  by_cases c0 : x ≥ 0
  · rw [if_pos c0, decide_eq_true (by omega : 0 ≤ x)]
    by_cases c1 : x ≤ a
    · rw [if_pos c1, decide_eq_true c1]
      by_cases c2 : y ≥ 0
      · rw [if_pos c2, decide_eq_true (by omega : 0 ≤ y)]; rfl
      · rw [if_neg c2, decide_eq_false (by omega : ¬ 0 ≤ y)]; rfl
    · rw [if_neg c1, decide_eq_false c1]; rfl
  · rw [if_neg c0, decide_eq_false (by omega : ¬ 0 ≤ x)]; rfl
theorem implInF (a b : Int) (l : List S55) : impl_Frame_holdsAll.f a b l = some (allIn a b l) := by
  unfold impl_Frame_holdsAll.f allIn
  rw [idxO_any (q := fun c => !inF a b c) l (fun c _ => by unfold impl_Frame_holdsAll_1.f; rw [implHolds]; rfl), Option.bind_some]
  congr 1
  rw [Bool.eq_iff_iff]; simp [List.any_eq_true, List.all_eq_true]
/-! ### lists of stones -/
structure FitL (ls : List (List S55)) : Prop where
  len : ls.length ≤ 1048576
  each : ∀ l ∈ ls, Fit l ∧ l.length ≤ 1048576
theorem FitL.at {ls : List (List S55)} (h : FitL ls) {i : Nat} (hi : i < ls.length) : Fit (ls.getD i []) ∧ (ls.getD i []).length ≤ 1048576 := by
  rw [getS hi]; exact h.each _ (List.getElem_mem hi)
def stB (a b : Int) (ls : List (List S55)) : Bool := frB a b && (decide ((ls.length : Int) ≤ 40) && ls.all okS)
theorem specStones {a b : Int} (h : F16 a b) {ls : List (List S55)} (hf : FitL ls) : Ev (fun k => spec_l03Stones.f k a b ls) (stB a b ls) := by
  unfold spec_l03Stones.f stB
  have hl := hf.len
  refine Ev.nobind (specFrame h) ?_
  cases frB a b with
  | false =>
    refine Ev.neg (by decide) (Ev.step (fun k => by rw [spec_l03Stones.j0]) ?_)
    exact Ev.pos rfl (Ev.fin rfl)
  | true =>
    refine Ev.pos rfl (Ev.step (fun k => by rw [spec_l03Stones.j0]) ?_)
    by_cases c : (ls.length : Int) > 40
    · rw [decide_eq_false (by omega : ¬ (ls.length : Int) ≤ 40)]
      exact Ev.pos (decide_eq_true c) (Ev.fin rfl)
    · rw [decide_eq_true (by omega : (ls.length : Int) ≤ 40)]
      refine Ev.neg (by rw [decide_eq_false c]; decide) ?_
      refine Ev.to (rangeAll_ev0 (fun k i => spec_l03Stones.l0 k ls i) ls.length (fun i => okS (ls.getD i [])) true false ?_ ?_ ?_) (by rw [all_range, ite_b]; simp)
      · intro i hi hp r' hr
        refine Ev.step (fun k => by rw [spec_l03Stones.l0]) (Ev.pos (by omega) (Ev.pos (by omega) ?_))
        rw [rdS ls i, w64 (x := (i : Int) + 1) (by omega) (by omega)]
        exact Ev.bind (specOk (hf.at hi).1) (Ev.pos hp hr)
      · intro i hi hp
        refine Ev.step (fun k => by rw [spec_l03Stones.l0]) (Ev.pos (by omega) (Ev.pos (by omega) ?_))
        rw [rdS ls i]
        exact Ev.bind (specOk (hf.at hi).1) (Ev.neg (by rw [hp]; decide) (Ev.fin rfl))
      · intro _
        refine Ev.step (fun k => by rw [spec_l03Stones.l0]) ?_
        exact Ev.neg (by omega) (Ev.fin rfl)
theorem implStones {a b : Int} (h : F16 a b) {ls : List (List S55)} (hf : FitL ls) : Ev (fun k => impl_areStones.f k a b ls) (stB a b ls) := by
  unfold impl_areStones.f stB
  refine Ev.nobind (implFrame h) ?_
  cases frB a b with
  | false => exact Ev.neg (by decide) (Ev.fin rfl)
  | true =>
    refine Ev.pos rfl (Ev.ite (fun c => ?_) (fun c => ?_))
    · rw [decide_eq_true c]
      have hany : Ev (fun k => impl_areStones_1_any.f k ls) (ls.any fun l => !okS l) := by
        unfold impl_areStones_1_any.f
        refine anyO_ev (fun k x => impl_areStones_1.f k x) (fun l => !okS l) ls (fun x hx => ?_)
        unfold impl_areStones_1.f
        exact Ev.bind (implOk (hf.each x hx).1) (Ev.fin rfl)
      refine Ev.bind hany (Ev.fin ?_)
      · rw [Bool.eq_iff_iff]; simp [List.any_eq_true, List.all_eq_true]
    · rw [decide_eq_false c]; exact Ev.fin rfl
/-! ### faults -/
theorem faults {a b : Int} (h : F16 a b) {ls : List (List S55)} (hf : FitL ls) : ∃ r, Ev (fun k => spec_l03Fault.f k a b ls) r ∧ Ev (fun k => impl_fault.f k a b ls) r := by
  unfold spec_l03Fault.f impl_fault.f
  have hl := hf.len
  have pairs : ∀ (i : Nat), i < ls.length → (∃ r, Ev (fun k => spec_l03Fault.l1 k ls ((i + 1 : Nat) : Int)) r ∧ Ev (fun k => impl_fault.l1 k ls ls (ls.length : Int) ((i + 1 : Nat) : Int)) r) →
      ∀ d j : Nat, j + d = ls.length → ∃ r, Ev (fun k => spec_l03Fault.l2 k ls (i : Int) (j : Int)) r ∧ Ev (fun k => impl_fault.l2 k ls (i : Int) (ls.getD i []) (j : Int) ls (ls.length : Int) (i : Int)) r := by
    intro i hi hn d
    induction d with
    | zero =>
      intro j hj
      obtain ⟨r, h1, h2⟩ := hn
      refine ⟨r, ?_, ?_⟩
      · refine Ev.step (fun k => by rw [spec_l03Fault.l2]) (Ev.neg (by omega) ?_)
        rw [w64 (x := (i : Int) + 1) (by omega) (by omega)]; exact h1
      · refine Ev.step (fun k => by rw [impl_fault.l2]) (Ev.neg (by omega) ?_)
        rw [w64 (x := (i : Int) + 1) (by omega) (by omega)]; exact h2
    | succ d ih =>
      intro j hj
      have hj' : j < ls.length := by omega
      have hs := specOver (ls.getD i []) (ls.getD j []) (hf.at hi).2 (hf.at hj').2
      have hm := implOver (ls.getD i []) (ls.getD j [])
      cases e : overB (ls.getD i []) (ls.getD j []) with
      | true =>
        rw [e] at hs hm
        refine ⟨((i : Int), (j : Int), true), ?_, ?_⟩
        · refine Ev.step (fun k => by rw [spec_l03Fault.l2]) (Ev.pos (by omega) (Ev.pos (by omega) (Ev.pos (by omega) (Ev.pos (by omega) ?_))))
          rw [rdS ls i, rdS ls j]
          exact Ev.bind hs (Ev.pos rfl (Ev.fin rfl))
        · refine Ev.step (fun k => by rw [impl_fault.l2]) (Ev.pos (by omega) (Ev.pos (by omega) ?_))
          rw [rdS ls j]
          exact Ev.nobind hm (Ev.pos rfl (Ev.fin rfl))
      | false =>
        rw [e] at hs hm
        obtain ⟨r, h1, h2⟩ := ih (j + 1) (by omega)
        refine ⟨r, ?_, ?_⟩
        · refine Ev.step (fun k => by rw [spec_l03Fault.l2]) (Ev.pos (by omega) (Ev.pos (by omega) (Ev.pos (by omega) (Ev.pos (by omega) ?_))))
          rw [rdS ls i, rdS ls j, w64 (x := (j : Int) + 1) (by omega) (by omega)]
          exact Ev.bind hs (Ev.neg (by decide) h1)
        · refine Ev.step (fun k => by rw [impl_fault.l2]) (Ev.pos (by omega) (Ev.pos (by omega) ?_))
          rw [rdS ls j, w64 (x := (j : Int) + 1) (by omega) (by omega)]
          exact Ev.nobind hm (Ev.neg (by decide) h2)
  have rounds : ∀ d i : Nat, i + d = ls.length → ∃ r, Ev (fun k => spec_l03Fault.l1 k ls (i : Int)) r ∧ Ev (fun k => impl_fault.l1 k ls ls (ls.length : Int) (i : Int)) r := by
    intro d
    induction d with
    | zero =>
      intro i hi
      refine ⟨(0, 0, false), ?_, ?_⟩
      · refine Ev.step (fun k => by rw [spec_l03Fault.l1]) ?_
        exact Ev.neg (by omega) (Ev.fin rfl)
      · refine Ev.step (fun k => by rw [impl_fault.l1]) ?_
        exact Ev.neg (by omega) (Ev.fin rfl)
    | succ d ih =>
      intro i hi
      obtain ⟨r, h1, h2⟩ := pairs i (by omega) (ih (i + 1) (by omega)) (ls.length - (i + 1)) (i + 1) (by omega)
      refine ⟨r, ?_, ?_⟩
      · refine Ev.step (fun k => by rw [spec_l03Fault.l1]) (Ev.pos (by omega) ?_)
        rw [w64 (x := (i : Int) + 1) (by omega) (by omega)]; exact h1
      · refine Ev.step (fun k => by rw [impl_fault.l1]) (Ev.pos (by omega) (Ev.pos (by omega) (Ev.pos (by omega) ?_)))
        rw [rdS ls i, w64 (x := (i : Int) + 1) (by omega) (by omega)]; exact h2
  have first : ∀ d i : Nat, i + d = ls.length → ∃ r, Ev (fun k => spec_l03Fault.l0 k ls (i : Int) a b) r ∧ Ev (fun k => impl_fault.l0 k ls ls (ls.length : Int) (i : Int) a b) r := by
    intro d
    induction d with
    | zero =>
      intro i hi
      obtain ⟨r, h1, h2⟩ := rounds ls.length 0 (by omega)
      refine ⟨r, ?_, ?_⟩
      · refine Ev.step (fun k => by rw [spec_l03Fault.l0]) ?_
        exact Ev.neg (by omega) h1
      · refine Ev.step (fun k => by rw [impl_fault.l0]) ?_
        exact Ev.neg (by omega) h2
    | succ d ih =>
      intro i hi
      have hi' : i < ls.length := by omega
      have hs := specInF h (hf.at hi').1 (hf.at hi').2
      have hm := implInF a b (ls.getD i [])
      cases e : allIn a b (ls.getD i []) with
      | true =>
        rw [e] at hs hm
        obtain ⟨r, h1, h2⟩ := ih (i + 1) (by omega)
        refine ⟨r, ?_, ?_⟩
        · refine Ev.step (fun k => by rw [spec_l03Fault.l0]) (Ev.pos (by omega) (Ev.pos (by omega) ?_))
          rw [rdS ls i, w64 (x := (i : Int) + 1) (by omega) (by omega)]
          exact Ev.bind hs (Ev.pos rfl h1)
        · refine Ev.step (fun k => by rw [impl_fault.l0]) (Ev.pos (by omega) (Ev.pos (by omega) (Ev.pos (by omega) ?_)))
          rw [rdS ls i, w64 (x := (i : Int) + 1) (by omega) (by omega)]
          exact Ev.nobind hm (Ev.pos rfl h2)
      | false =>
        rw [e] at hs hm
        refine ⟨((i : Int), -1, true), ?_, ?_⟩
        · refine Ev.step (fun k => by rw [spec_l03Fault.l0]) (Ev.pos (by omega) (Ev.pos (by omega) ?_))
          rw [rdS ls i]
          exact Ev.bind hs (Ev.neg (by decide) (Ev.fin rfl))
        · refine Ev.step (fun k => by rw [impl_fault.l0]) (Ev.pos (by omega) (Ev.pos (by omega) (Ev.pos (by omega) ?_)))
          rw [rdS ls i]
          exact Ev.nobind hm (Ev.neg (by decide) (Ev.fin rfl))
  exact first ls.length 0 (by omega)
theorem lays {a b : Int} (h : F16 a b) {ls : List (List S55)} (hf : FitL ls) : ∃ r, Ev (fun k => spec_l03Lay.f k a b ls) r ∧ Ev (fun k => impl_ValidLay.f k a b ls) r := by
  unfold spec_l03Lay.f impl_ValidLay.f
  have hs := specStones h hf
  have hm := implStones h hf
  obtain ⟨r, h1, h2⟩ := faults h hf
  cases e : stB a b ls with
  | false =>
    rw [e] at hs hm
    exact ⟨false, Ev.bind hs (Ev.neg (by decide) (Ev.fin rfl)), Ev.bind hm (Ev.neg (by decide) (Ev.fin rfl))⟩
  | true =>
    rw [e] at hs hm
    exact ⟨!r.2.2, Ev.bind hs (Ev.pos rfl (Ev.bind h1 (Ev.fin rfl))), Ev.bind hm (Ev.pos rfl (Ev.bind h2 (Ev.fin rfl)))⟩
/-! ### the laws' own functions over lists of stones -/
def convL (ls : List (List S57)) : List (List S55) := ls.map fun l => l.map conv
def Law (ls : List (List S57)) : Prop := ls.length ≤ maxLen ∧ ∀ x0 ∈ ls, x0.length ≤ maxLen ∧ ∀ x1 ∈ x0, (Lit.int .i16 x1.f0).wf = true ∧ (Lit.int .i16 x1.f1).wf = true
theorem fitL_of {ls : List (List S57)} (h : Law ls) (hl : ls.length ≤ 1048576) (he : ∀ l ∈ ls, l.length ≤ 1048576) : FitL (convL ls) := by
  refine ⟨by unfold convL; simpa using hl, fun l hl' => ?_⟩
  obtain ⟨x, hx, rfl⟩ := List.mem_map.1 hl'
  exact ⟨fit_of (h.2 x hx), by simpa using he x hx⟩
theorem toStones {ls : List (List S57)} (hl : ls.length ≤ 1048576) (he : ∀ l ∈ ls, l.length ≤ 1048576) : Ev (fun k => laws_toStoneS.f k ls) (convL ls) := by
  unfold laws_toStoneS.f convL
  refine Ev.pos (by omega) (Ev.pos (by omega) ?_)
  refine copy_ev0 ls (fun l => l.map conv) [] (fun k x i => laws_toStoneS.l0 k ls x i) (fun x3 i hi r h3 hr => ?_) (fun x3 => ?_)
  · refine Ev.step (fun k => by rw [laws_toStoneS.l0]) (Ev.pos (by omega) (Ev.pos (by omega) ?_))
    rw [rdSD ls i, getS hi, w64 (x := (i : Int) + 1) (by omega) (by omega)]
    exact Ev.bind (toStone ls[i] (he _ (List.getElem_mem hi))) (Ev.pos (by omega) hr)
  · refine Ev.step (fun k => by rw [laws_toStoneS.l0]) ?_
    exact Ev.neg (by omega) (Ev.fin rfl)
theorem eqStones {ls : List (List S55)} (hf : FitL ls) : Ev (fun k => laws_eqStoneS.f k ls ls) true := by
  unfold laws_eqStoneS.f
  have hl := hf.len
  refine Ev.pos rfl ?_
  refine Ev.to (rangeAll_ev0 (fun k i => laws_eqStoneS.l0 k ls ls i) ls.length (fun _ => true) true false ?_ ?_ ?_) (by simp)
  · intro i hi _ r' hr
    refine Ev.step (fun k => by rw [laws_eqStoneS.l0]) (Ev.pos (by omega) (Ev.pos (by omega) (Ev.pos (by omega) ?_)))
    rw [rdS ls i, w64 (x := (i : Int) + 1) (by omega) (by omega)]
    exact Ev.bind (eqStone _ (hf.at hi).2) (Ev.pos rfl hr)
  · intro i hi h'; cases h'
  · intro _
    refine Ev.step (fun k => by rw [laws_eqStoneS.l0]) ?_
    exact Ev.neg (by omega) (Ev.fin rfl)
/-- Lists that are light enough, or told as too heavy. -/
theorem szStones {ls : List (List S57)} (h : Law ls) : ∃ v, Ev (fun k => laws_szStoneS.f k ls 1048576) v ∧ (v < 0 ∨ ls.length ≤ 1048576 ∧ ∀ l ∈ ls, l.length ≤ 1048576) := by
  unfold laws_szStoneS.f
  have hM : maxLen ≤ 9223372036854775807 := by decide
  have hl := h.1
  rw [w64 (x := 1048576 - (ls.length : Int)) (by omega) (by omega)]
  by_cases c : (1048576 : Int) - (ls.length : Int) < 0
  · exact ⟨-1, Ev.pos c (Ev.fin rfl), Or.inl (by decide)⟩
  · have key : ∀ (d i : Nat) (t : Int), i + d = ls.length → 0 ≤ t → t ≤ 1048576 → ∃ v, Ev (fun k => laws_szStoneS.l0 k ls t (i : Int)) v ∧ (v < 0 ∨ ∀ l ∈ ls.drop i, l.length ≤ 1048576) := by
      intro d
      induction d with
      | zero =>
        intro i t hi h0 h1
        refine ⟨t, ?_, Or.inr ?_⟩
        · refine Ev.step (fun k => by rw [laws_szStoneS.l0]) ?_
          exact Ev.neg (by omega) (Ev.fin rfl)
        · rw [List.drop_of_length_le (by omega)]; simp
      | succ d ih =>
        intro i t hi h0 h1
        have hi' : i < ls.length := by omega
        have hx := (h.2 _ (List.getElem_mem hi')).1
        have hw := w64 (x := t - (ls[i].length : Int)) (by omega) (by omega)
        by_cases q : t - (ls[i].length : Int) < 0
        · refine ⟨-1, ?_, Or.inl (by decide)⟩
          refine Ev.step (fun k => by rw [laws_szStoneS.l0]) (Ev.pos (by omega) (Ev.pos (by omega) ?_))
          rw [rdSD ls i, getS hi']
          refine Ev.nobind (a := -1) ?_ (Ev.pos (by decide) (Ev.fin rfl))
          unfold laws_szStone.f; rw [hw, if_pos q]
        · obtain ⟨v, hv, hv2⟩ := ih (i + 1) (t - (ls[i].length : Int)) (by omega) (by omega) (by omega)
          refine ⟨v, ?_, ?_⟩
          · refine Ev.step (fun k => by rw [laws_szStoneS.l0]) (Ev.pos (by omega) (Ev.pos (by omega) ?_))
            rw [rdSD ls i, getS hi', w64 (x := (i : Int) + 1) (by omega) (by omega)]
            refine Ev.nobind (a := t - (ls[i].length : Int)) ?_ (Ev.neg q hv)
            unfold laws_szStone.f; rw [hw, if_neg q]
          · rcases hv2 with h | h
            · exact Or.inl h
            · refine Or.inr fun l hl' => ?_
              rw [drop_at ls i hi', List.mem_cons] at hl'
              rcases hl' with rfl | hl'
              · omega
              · exact h l hl'
    obtain ⟨v, hv, hv2⟩ := key ls.length 0 (1048576 - (ls.length : Int)) (by omega) (by omega) (by omega)
    refine ⟨v, Ev.neg c hv, ?_⟩
    rw [List.drop_zero] at hv2
    rcases hv2 with h | h
    · exact Or.inl h
    · exact Or.inr ⟨by omega, h⟩
theorem f16_of {a b : Int} (h : (Lit.int .i16 a).wf = true) (h2 : (Lit.int .i16 b).wf = true) : F16 a b := ⟨wf16 h, wf16 h2⟩
end Go.Proofs.Ytohhcomokcdbfaa.LayKit
