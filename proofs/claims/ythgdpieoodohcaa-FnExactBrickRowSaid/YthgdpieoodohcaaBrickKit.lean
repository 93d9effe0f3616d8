/- Rows like bricks: what the reference's and the program's functions come to. -/
import Derived.Test.YthgdpieoodohcaaLoops
import Derived.Test.YthgdpieoodohcaaRowsFns
import Derived.Test.YthgdpieoodohcaaPAxf35
import Derived.Test.YthgdpieoodohcaaPAxf36
namespace Go.Proofs.Ythgdpieoodohcaa.BrickKit
set_option linter.unusedSimpArgs false
set_option linter.unusedVariables false
open Go.RowKit Go.Proofs.Ythgdpieoodohcaa.PA Go.Proofs.Ythgdpieoodohcaa.Base Go.Proofs.Ythgdpieoodohcaa.RowsFns Go.Proofs.YthgdpieoodohcaaW.PrintWords Go.Proofs.YthgdpieoodohcaaW.PrintLast Go.Proofs.YthgdpieoodohcaaW.PrintMore

/-- Stones of the width w are laid as long as there is room; then what is left is laid too. -/
def run (T w : Int) : Nat → List Int → Int → List Int × Int
  | 0, l, left => (l, left)
  | n + 1, l, left => if left ≥ T then run T w n (l ++ [w]) (left - T) else (l, left)
def runC (T w : Int) : Nat → List Int → Int → List Int × Int
  | 0, l, left => (l, left)
  | n + 1, l, left => if left ≥ T ∧ l.length ≤ 60 then runC T w n (l ++ [w]) (left - T) else (l, left)
def fin (s : Int) (p : List Int × Int) : List Int := if p.2 > s then p.1 ++ [p.2 - s] else p.1.set (p.1.length - 1) (p.1.getD (p.1.length - 1) 0 + p.2)
theorem fin_length (s : Int) (p : List Int × Int) : p.1.length ≤ (fin s p).length ∧ (fin s p).length ≤ p.1.length + 1 := by
  unfold fin; split <;> simp
theorem run_length (T w : Int) : ∀ n l left, l.length ≤ (run T w n l left).1.length ∧ (run T w n l left).1.length ≤ l.length + n
  | 0, l, left => by simp [run]
  | n + 1, l, left => by
    unfold run
    split
    · have := run_length T w n (l ++ [w]) (left - T); simp at this; omega
    · simp
theorem run_or (T w : Int) : ∀ n l left, l.length ≤ 61 → runC T w n l left = run T w n l left ∨ (61 ≤ (runC T w n l left).1.length ∧ 61 ≤ (run T w n l left).1.length)
  | 0, l, left, h => .inl rfl
  | n + 1, l, left, h => by
    unfold run runC
    by_cases h1 : left ≥ T
    · by_cases h2 : l.length ≤ 60
      · rw [if_pos h1, if_pos ⟨h1, h2⟩]; exact run_or T w n _ _ (by simp; omega)
      · rw [if_pos h1, if_neg (fun h => h2 h.2)]
        refine .inr ⟨by simp; omega, ?_⟩
        have := run_length T w n (l ++ [w]) (left - T)
        simp at this; omega
    · rw [if_neg h1, if_neg (fun h => h1 h.1)]; exact .inl rfl
theorem runC_length (T w : Int) : ∀ n l left, l.length ≤ (runC T w n l left).1.length ∧ (runC T w n l left).1.length ≤ l.length + n
  | 0, l, left => by simp [runC]
  | n + 1, l, left => by
    unfold runC
    split
    · have := runC_length T w n (l ++ [w]) (left - T); simp at this; omega
    · simp
def okW (l : List Int) : Bool := inB (l.length : Int) 1 60 && l.all fun x => inB x 1 200
def brk (l : List Int) : List Int × Int := if okW l = true then (l.map IntKind.i16.wrap, 0) else ([], 6)
def end_ (v : List Int × Bool) : List Int × Int := if v.2 = true then (v.1, 0) else ([], 6)
theorem specEnd (l : List Int) (hl : l.length ≤ 10000) : ∃ v, Ev (fun k => spec_l05Brick.j1 k l) v ∧ end_ v = brk l := by
  by_cases ha : (l.all fun x => inB x 1 200) = true
  · have hm : ∀ x ∈ l, 1 ≤ x ∧ x ≤ 200 := fun x hx => inB_iff.1 (List.all_eq_true.1 ha x hx)
    have hmap : l.map IntKind.i16.wrap = l := by
      conv => rhs; rw [← List.map_id l]
      refine List.map_congr_left (fun x hx => ?_)
      have := hm x hx; exact w16 (by omega) (by omega)
    have hfit : Fit (l.map IntKind.i16.wrap) := by
      rw [hmap]; intro x hx; have := hm x hx; omega
    refine ⟨(l.map IntKind.i16.wrap, okB (l.map IntKind.i16.wrap)), ?_, ?_⟩
    · refine Ev.step (fun k => by rw [spec_l05Brick.j1]) ?_
      refine fold_cps0 l (fun x (s : List Int) => s ++ [IntKind.i16.wrap x]) (fun k s i => spec_l05Brick.l1 k l s i) _ (fun i s => s = (l.take i).map IntKind.i16.wrap) [] (by simp) (fun s i h hi => ?_) (fun s i h hi hr => ?_) (fun hi => ?_)
      · rw [hi, List.take_succ_eq_append_getElem h, List.map_append]; rfl
      · have hw := w64 (x := (i : Int) + 1) (by omega) (by omega)
        have hsl : s.length ≤ 10000 := by rw [hi]; simp; omega
        refine Ev.step (fun k => by rw [spec_l05Brick.l1]) (Ev.pos (by omega) (Ev.pos (by omega) ?_))
        rw [rd_nat l i h, hw]
        refine Ev.nobind (specWidth _) (Ev.pos (List.all_eq_true.1 ha _ (List.getElem_mem h)) (Ev.pos (by omega) hr))
      · refine Ev.step (fun k => by rw [spec_l05Brick.l1]) (Ev.neg (by omega) ?_)
        have hs : l.foldl (fun s x => s ++ [IntKind.i16.wrap x]) [] = l.map IntKind.i16.wrap := by rw [hi]; simp
        rw [hs]
        exact Ev.bind (specOk hfit) (Ev.now _)
    · unfold end_ brk okB okW
      rw [hmap]
  · refine ⟨([], false), ?_, ?_⟩
    · refine Ev.step (fun k => by rw [spec_l05Brick.j1]) ?_
      have key : ∀ (d i : Nat) (s : List Int), i + d = l.length → s.length ≤ i → (∀ x ∈ l.take i, inB x 1 200 = true) → Ev (fun k => spec_l05Brick.l1 k l s (i : Int)) ([], false) := by
        intro d
        induction d with
        | zero =>
          intro i s h _ hp
          exfalso; apply ha
          rw [List.all_eq_true]; intro x hx; exact hp x (by rw [List.take_of_length_le (by omega)]; exact hx)
        | succ d ih =>
          intro i s h hs hp
          have h0 : i < l.length := by omega
          have hw := w64 (x := (i : Int) + 1) (by omega) (by omega)
          refine Ev.step (fun k => by rw [spec_l05Brick.l1]) (Ev.pos (by omega) (Ev.pos (by omega) ?_))
          rw [rd_nat l i h0, hw]
          refine Ev.nobind (specWidth _) (Ev.ite (fun e => Ev.pos (by omega) ?_) (fun e => Ev.fin rfl))
          refine ih (i + 1) _ (by omega) (by simp; omega) (fun x hx => ?_)
          rw [List.take_succ_eq_append_getElem h0, List.mem_append] at hx
          rcases hx with hx | hx
          · exact hp x hx
          · rw [List.mem_singleton] at hx; rw [hx]; exact e
      exact key l.length 0 [] (by omega) (by simp) (by simp)
    · unfold end_ brk okW
      rw [Bool.not_eq_true] at ha; rw [ha]; simp
theorem implEnd (l : List Int) (hl : l.length ≤ 10000) (h1 : 1 ≤ l.length) : ∃ v, Ev (fun k => impl_brick.j1 k l) v ∧ end_ v = brk l := by
  by_cases h60 : (l.length : Int) > 60
  · refine ⟨([], false), ?_, ?_⟩
    · refine Ev.step (fun k => by rw [impl_brick.j1]) (Ev.pos h60 (Ev.step (fun k => by rw [impl_brick.j2]) ?_))
      exact Ev.pos rfl (Ev.fin rfl)
    · unfold end_ brk okW inB
      rw [show decide ((l.length : Int) ≤ 60) = false from decide_eq_false (by omega)]; simp
  · have hlen : inB (l.length : Int) 1 60 = true := inB_iff.2 (by omega)
    by_cases ha : (l.all fun x => inB x 1 200) = true
    · refine ⟨(l.map IntKind.i16.wrap, true), ?_, ?_⟩
      · refine Ev.step (fun k => by rw [impl_brick.j1]) (Ev.neg h60 (Ev.nobind (implWidth l) ?_))
        rw [ha]
        refine Ev.step (fun k => by rw [impl_brick.j2]) (Ev.neg (by simp) ?_)
        refine fold_cps0 l (fun x (s : List Int) => s ++ [IntKind.i16.wrap x]) (fun k s i => impl_brick.l1 k s l (l.length : Int) i) _ (fun i s => s = (l.take i).map IntKind.i16.wrap) [] (by simp) (fun s i h hi => ?_) (fun s i h hi hr => ?_) (fun hi => ?_)
        · rw [hi, List.take_succ_eq_append_getElem h, List.map_append]; rfl
        · have hw := w64 (x := (i : Int) + 1) (by omega) (by omega)
          have hsl : s.length ≤ 10000 := by rw [hi]; simp; omega
          refine Ev.step (fun k => by rw [impl_brick.l1]) (Ev.pos (by omega) (Ev.pos (by omega) (Ev.pos (by omega) (Ev.pos (by omega) ?_))))
          rw [rd_nat l i h, hw]; exact hr
        · refine Ev.step (fun k => by rw [impl_brick.l1]) (Ev.neg (by omega) (Ev.fin ?_))
          rw [hi]; simp
      · unfold end_ brk okW; rw [hlen, ha]; rfl
    · rw [Bool.not_eq_true] at ha
      refine ⟨([], false), ?_, ?_⟩
      · refine Ev.step (fun k => by rw [impl_brick.j1]) (Ev.neg h60 (Ev.nobind (implWidth l) ?_))
        rw [ha]
        refine Ev.step (fun k => by rw [impl_brick.j2]) ?_
        exact Ev.pos rfl (Ev.fin rfl)
      · unfold end_ brk okW; rw [ha]; simp
/-- What follows the loops, in both. -/
theorem rd_last (l : List Int) (h : 1 ≤ l.length) (h2 : l.length ≤ 10000) : rd l (wrap64 ((l.length : Int) - 1)) = l.getD (l.length - 1) 0 ∧ (wrap64 ((l.length : Int) - 1)).toNat = l.length - 1 ∧ 0 ≤ wrap64 ((l.length : Int) - 1) ∧ wrap64 ((l.length : Int) - 1) < (l.length : Int) := by
  rw [w64 (by omega) (by omega)]
  refine ⟨?_, by omega, by omega, by omega⟩
  unfold rd
  rw [show ((l.length : Int) - 1).toNat = l.length - 1 by omega]
structure Small (l : List Int) (left : Int) : Prop where
  len : 1 ≤ l.length
  len2 : l.length ≤ 5000
  left0 : 0 ≤ left
  left1 : left ≤ 4000
  last : 0 ≤ l.getD (l.length - 1) 0
  last2 : l.getD (l.length - 1) 0 ≤ 4000
theorem small_add {l : List Int} {left w T : Int} (h : Small l left) (hw : 1 ≤ w ∧ w ≤ 200) (hT : 1 ≤ T) (hl : left ≥ T) (h2 : l.length + 1 ≤ 5000) : Small (l ++ [w]) (left - T) :=
  ⟨by simp, by simpa using h2, by omega, by have := h.left1; omega, by simp [List.getD_eq_getElem?_getD]; omega, by simp [List.getD_eq_getElem?_getD]; omega⟩
theorem implLoop (s w : Int) (hs : 0 ≤ s ∧ s ≤ 200) (hw : 1 ≤ w ∧ w ≤ 200) (r : List Int × Bool) : ∀ (n : Nat) (l : List Int) (left : Int), Small l left → left ≤ n → l.length + n ≤ 4500 →
    Ev (fun k => impl_brick.j1 k (fin s (run (s + w) w n l left))) r → Ev (fun k => impl_brick.l0 k s w l left) r := by
  have hT := w64 (x := s + w) (by omega) (by omega)
  have stop : ∀ (l : List Int) (left : Int), Small l left → left < s + w → Ev (fun k => impl_brick.j1 k (fin s (l, left))) r → Ev (fun k => impl_brick.l0 k s w l left) r := by
    intro l left h hlt hr
    obtain ⟨q1, q2, q3, q4⟩ := rd_last l h.len (by have := h.len2; omega)
    have b1 := h.left0; have b2 := h.left1; have b3 := h.last; have b4 := h.last2; have b5 := h.len2
    refine Ev.step (fun k => by rw [impl_brick.l0]) ?_
    rw [hT]
    refine Ev.neg (by omega) (Ev.ite (fun e => Ev.pos (by omega) ?_) (fun e => Ev.pos q3 (Ev.pos q4 ?_)))
    · rw [w64 (by omega) (by omega)]; simpa only [fin, if_pos e] using hr
    · rw [q1, q2, w64 (by omega) (by omega)]; simpa only [fin, if_neg e] using hr
  intro n
  induction n with
  | zero =>
    intro l left h hn hln hr
    exact stop l left h (by have := h.left0; omega) hr
  | succ n ih =>
    intro l left h hn hln hr
    by_cases e : left ≥ s + w
    · unfold run at hr
      rw [if_pos e] at hr
      have b5 := h.len2; have b1 := h.left1
      refine Ev.step (fun k => by rw [impl_brick.l0]) ?_
      rw [hT, w64 (x := left - (s + w)) (by omega) (by omega)]
      refine Ev.pos e (Ev.pos (by omega) ?_)
      exact ih _ _ (small_add h hw (by omega) e (by omega)) (by omega) (by simp; omega) hr
    · unfold run at hr
      rw [if_neg e] at hr
      exact stop l left h (by omega) hr
theorem specLoop (len s w : Int) (hlen : 1 ≤ len ∧ len ≤ 2000) (hs : 0 ≤ s ∧ s ≤ 200) (hw : 1 ≤ w ∧ w ≤ 200) (r : List Int × Bool) : ∀ (n : Nat) (l : List Int) (left : Int), Small l left → left ≤ n → left ≤ len → l.length + n ≤ 4500 →
    Ev (fun k => spec_l05Brick.j1 k (fin s (runC (s + w) w n l left))) r → Ev (fun k => spec_l05Brick.l0 k len s w l (len - left)) r := by
  have hT := w64 (x := s + w) (by omega) (by omega)
  have tail : ∀ (l : List Int) (left : Int), Small l left → left ≤ len → Ev (fun k => spec_l05Brick.j1 k (fin s (l, left))) r →
      Ev (fun k => if wrap64 (len - (len - left)) > s then (if l.length < 17592186044416 then spec_l05Brick.j1 k (l ++ [wrap64 (wrap64 (len - (len - left)) - s)]) else none) else if 0 ≤ wrap64 ((l.length : Int) - 1) then (if wrap64 ((l.length : Int) - 1) < (l.length : Int) then spec_l05Brick.j1 k (l.set (wrap64 ((l.length : Int) - 1)).toNat (wrap64 (rd l (wrap64 ((l.length : Int) - 1)) + wrap64 (len - (len - left))))) else none) else none) r := by
    intro l left h hle hr
    obtain ⟨q1, q2, q3, q4⟩ := rd_last l h.len (by have := h.len2; omega)
    have b1 := h.left0; have b2 := h.left1; have b3 := h.last; have b4 := h.last2; have b5 := h.len2
    rw [show len - (len - left) = left by omega, w64 (x := left) (by omega) (by omega)]
    refine Ev.ite (fun e => Ev.pos (by omega) ?_) (fun e => Ev.pos q3 (Ev.pos q4 ?_))
    · rw [w64 (by omega) (by omega)]; simpa only [fin, if_pos e] using hr
    · rw [q1, q2, w64 (by omega) (by omega)]; simpa only [fin, if_neg e] using hr
  intro n
  induction n with
  | zero =>
    intro l left h hn hle hln hr
    have b1 := h.left0; have b2 := h.left1
    refine Ev.step (fun k => by rw [spec_l05Brick.l0]) ?_
    have ha : wrap64 (wrap64 (len - left + s) + w) = len - left + s + w := by rw [w64 (x := len - left + s) (by omega) (by omega), w64 (by omega) (by omega)]
    refine Ev.neg (by rw [ha]; omega) ?_
    exact tail l left h hle hr
  | succ n ih =>
    intro l left h hn hle hln hr
    have b1 := h.left0; have b2 := h.left1; have b5 := h.len2
    have ha : wrap64 (wrap64 (len - left + s) + w) = len - left + s + w := by rw [w64 (x := len - left + s) (by omega) (by omega), w64 (by omega) (by omega)]
    refine Ev.step (fun k => by rw [spec_l05Brick.l0]) ?_
    unfold runC at hr
    refine Ev.ite (fun e => Ev.ite (fun e2 => Ev.pos (by omega) ?_) (fun e2 => ?_)) (fun e => ?_)
    · rw [ha] at e
      rw [if_pos ⟨by omega, by omega⟩] at hr
      rw [hT, w64 (x := len - left + (s + w)) (by omega) (by omega), show len - left + (s + w) = len - (left - (s + w)) by omega]
      exact ih _ _ (small_add h hw (by omega) (by omega) (by omega)) (by omega) (by omega) (by simp; omega) hr
    · rw [if_neg (by omega)] at hr
      exact tail l left h hle hr
    · rw [ha] at e
      rw [if_neg (by omega)] at hr
      exact tail l left h hle hr
def bro (len s w f : Int) : List Int × Int := brk (fin s (run (s + w) w 2000 [if f ≥ len then len else f] (if f ≥ len then 0 else len - f)))
theorem run0 {T w : Int} (hT : 1 ≤ T) (n : Nat) (l : List Int) : run T w n l 0 = (l, 0) := by
  cases n with
  | zero => rfl
  | succ n => unfold run; rw [if_neg (by omega)]
theorem specBr (len s w f : Int) (hlen : 1 ≤ len ∧ len ≤ 2000) (hs : 0 ≤ s ∧ s ≤ 200) (hw : 1 ≤ w ∧ w ≤ 200) (hf : 1 ≤ f ∧ f ≤ 200) : ∃ v, Ev (fun k => spec_l05Brick.f k len s w f) v ∧ end_ v = bro len s w f := by
  unfold spec_l05Brick.f bro
  by_cases e : f ≥ len
  · simp only [if_pos e]
    rw [run0 (by omega)]
    have hfin : fin s ([len], 0) = [len] := by unfold fin; rw [if_neg (by simp; omega)]; simp
    rw [hfin]
    obtain ⟨v, h1, h2⟩ := specEnd [len] (by simp)
    exact ⟨v, Ev.nobind rfl (Ev.pos (by simp) h1), h2⟩
  · simp only [if_neg e]
    have hsm : Small [f] (len - f) := ⟨by simp, by simp, by omega, by omega, by simp; omega, by simp; omega⟩
    rcases run_or (s + w) w 2000 [f] (len - f) (by simp) with h | ⟨h1, h2⟩
    · have hfl := fin_length s (run (s + w) w 2000 [f] (len - f))
      have hrl := run_length (s + w) w 2000 [f] (len - f)
      simp at hrl
      obtain ⟨v, h1, h2⟩ := specEnd (fin s (run (s + w) w 2000 [f] (len - f))) (by omega)
      rw [← h] at h1
      have h3 := specLoop len s w hlen hs hw v 2000 [f] (len - f) hsm (by omega) (by omega) (by simp) h1
      rw [show len - (len - f) = f by omega] at h3
      exact ⟨v, Ev.nobind rfl h3, h2⟩
    · have hfl := fin_length s (run (s + w) w 2000 [f] (len - f))
      have hfl2 := fin_length s (runC (s + w) w 2000 [f] (len - f))
      have hrl := runC_length (s + w) w 2000 [f] (len - f)
      simp at hrl
      obtain ⟨v, h3, h4⟩ := specEnd (fin s (runC (s + w) w 2000 [f] (len - f))) (by omega)
      have h5 := specLoop len s w hlen hs hw v 2000 [f] (len - f) hsm (by omega) (by omega) (by simp) h3
      rw [show len - (len - f) = f by omega] at h5
      refine ⟨v, Ev.nobind rfl h5, ?_⟩
      rw [h4]
      have bad : ∀ l : List Int, 61 ≤ l.length → brk l = ([], 6) := by
        intro l hl; unfold brk okW inB
        rw [show decide ((l.length : Int) ≤ 60) = false from decide_eq_false (by omega)]; simp
      rw [bad _ (by omega), bad _ (by omega)]
theorem implBr (len s w f : Int) (hlen : 1 ≤ len ∧ len ≤ 2000) (hs : 0 ≤ s ∧ s ≤ 200) (hw : 1 ≤ w ∧ w ≤ 200) (hf : 1 ≤ f ∧ f ≤ 200) : ∃ v, Ev (fun k => impl_brick.f k len s w f) v ∧ end_ v = bro len s w f := by
  unfold impl_brick.f bro
  have hm : mn f len = (if f ≥ len then len else f) := by unfold mn; split <;> split <;> omega
  rw [hm]
  generalize hx : (if f ≥ len then len else f) = x
  have hx2 : (if f ≥ len then 0 else len - f) = len - x := by split at hx <;> split <;> omega
  have hxr : 1 ≤ x ∧ x ≤ 200 ∧ x ≤ len := by split at hx <;> omega
  rw [hx2]
  have hsm : Small [x] (len - x) := ⟨by simp, by simp, by omega, by omega, by simp; omega, by simp; omega⟩
  have hfl := fin_length s (run (s + w) w 2000 [x] (len - x))
  have hrl := run_length (s + w) w 2000 [x] (len - x)
  simp at hrl
  obtain ⟨v, h1, h2⟩ := implEnd (fin s (run (s + w) w 2000 [x] (len - x))) (by omega) (by omega)
  refine ⟨v, Ev.nobind rfl (Ev.pos (by simp) ?_), h2⟩
  have e0 : rd [x] 0 = x := rfl
  rw [e0, w64 (by omega) (by omega)]
  exact implLoop s w hs hw v 2000 [x] (len - x) hsm (by omega) (by simp) h1
end Go.Proofs.Ythgdpieoodohcaa.BrickKit
