/- The program's ChangeRow answers what the reference's ChangeRow answers, at all rows and numbers; no condition. -/
import Derived.Test.YtjkjelfhdhcplaaRowsKit
import Derived.Test.YtjkjelfhdhcplaaRowsFns
import Derived.Test.YtjkjelfhdhcplaaLoops2
import Derived.Test.YtjkjelfhdhcplaaPAxf18
import Derived.Test.YtjkjelfhdhcplaaPAxf19
import Derived.Test.YtjkjelfhdhcplaaPAxf5
import Derived.Test.YtjkjelfhdhcplaaPAxgSpec
namespace Go.Proofs.Ytjkjelfhdhcplaa.Pure
set_option linter.unusedSimpArgs false
set_option linter.unusedVariables false
open Go.RowKit Go.Proofs.Ytjkjelfhdhcplaa.PA Go.Proofs.Ytjkjelfhdhcplaa.Base Go.Proofs.Ytjkjelfhdhcplaa.RowsKit Go.Proofs.Ytjkjelfhdhcplaa.RowsFns Go.Proofs.YtjkjelfhdhcplaaW.PrintWords Go.Proofs.YtjkjelfhdhcplaaW.PrintLast Go.Proofs.YtjkjelfhdhcplaaW.PrintMore

theorem rdG (xs : List Int) (i : Nat) : rd xs (i : Int) = xs.getD i 0 := by simp [rd]
theorem specMax (x y : Int) : spec_l00Max.f x y = some (mx x y) := by
  unfold spec_l00Max.f mx
  by_cases c : x > y
  · rw [if_pos c]; split
    · omega
    · rfl
  · rw [if_neg c]; split
    · rfl
    · congr 1; omega
theorem specMin (x y : Int) : spec_l00Min.f x y = some (mn x y) := by
  unfold spec_l00Min.f mn
  by_cases c : x < y
  · rw [if_pos c]; split
    · omega
    · rfl
  · rw [if_neg c]; split
    · rfl
    · congr 1; omega
/-! ### the length of a row is small -/
theorem scan_small : ∀ (xs : List Int) (i s : Int), (∀ x ∈ xs, 1 ≤ x ∧ x ≤ 200) → 0 ≤ s → s + 200 * (xs.length : Int) ≤ 1000000 → 0 ≤ scan (fun _ x s => .inr (wrap64 (s + wrap64 x)) : Int → Int → Int → Int ⊕ Int) id xs i s ∧ scan (fun _ x s => .inr (wrap64 (s + wrap64 x)) : Int → Int → Int → Int ⊕ Int) id xs i s ≤ s + 200 * (xs.length : Int)
  | [], i, s, _, h0, h1 => by simp [scan]; exact h0
  | x :: xs, i, s, hx, h0, h1 => by
    have hx0 := hx x (by simp)
    have hl : ((x :: xs).length : Int) = (xs.length : Int) + 1 := by simp
    rw [hl] at h1
    have e : wrap64 (s + wrap64 x) = s + x := by rw [w64 (x := x) (by omega) (by omega), w64 (by omega) (by omega)]
    have ih := scan_small xs (i + 1) (s + x) (fun y hy => hx y (by simp [hy])) (by omega) (by omega)
    simp only [scan, e, hl]
    omega
def Small (l : List Int) : Prop := ∀ x ∈ l, 1 ≤ x ∧ x ≤ 200
theorem len_small {l : List Int} {a : Int} (hl : l.length ≤ 60) (h : Small l) (ha : 0 ≤ a ∧ a ≤ 200) (h1 : 1 ≤ l.length) : 0 ≤ lenF l a ∧ lenF l a ≤ 30000 := by
  have m0 : 0 ≤ a * ((l.length : Int) - 1) := Int.mul_nonneg ha.1 (by omega)
  have m1 : a * ((l.length : Int) - 1) ≤ 200 * 59 := Int.mul_le_mul ha.2 (by omega) (by omega) (by omega)
  unfold lenF
  rw [w64 (x := (l.length : Int) - 1) (by omega) (by omega), w64 (x := a * ((l.length : Int) - 1)) (by omega) (by omega)]
  have := scan_small l 0 (a * ((l.length : Int) - 1)) h m0 (by omega)
  omega
/-! ### the row that is changed -/
structure St where
  row : List Int
  ch : Int
  left : Int
def byOf (lo hi left w : Int) : Int := if left > 0 then mx (mn left (hi - w)) 0 else mn (mx left (lo - w)) 0
def step (lo hi : Int) (i : Nat) (st : St) : St := if byOf lo hi st.left (st.row.getD i 0) = 0 then st else ⟨st.row.set i (st.row.getD i 0 + byOf lo hi st.left (st.row.getD i 0)), st.ch + 1, st.left - byOf lo hi st.left (st.row.getD i 0)⟩
structure Inv (n i : Nat) (st : St) : Prop where
  len : st.row.length = n
  small : Small st.row
  left : -100000 ≤ st.left ∧ st.left ≤ 100000
  ch : 0 ≤ st.ch ∧ st.ch ≤ i
theorem at_small {l : List Int} (h : Small l) {i : Nat} (hi : i < l.length) : 1 ≤ l.getD i 0 ∧ l.getD i 0 ≤ 200 := by
  rw [List.getD_eq_getElem?_getD, List.getElem?_eq_getElem hi]
  exact h _ (List.getElem_mem hi)
theorem by_small {lo hi left w : Int} (hlo : 1 ≤ lo ∧ lo ≤ 200) (hhi : 1 ≤ hi ∧ hi ≤ 200) (hw : 1 ≤ w ∧ w ≤ 200) (hl : -100000 ≤ left ∧ left ≤ 100000) :
    1 ≤ w + byOf lo hi left w ∧ w + byOf lo hi left w ≤ 200 ∧ -100000 ≤ left - byOf lo hi left w ∧ left - byOf lo hi left w ≤ 100000 := by
  unfold byOf mx mn
  (repeat' split) <;> omega
theorem step_inv {lo hi : Int} {n i : Nat} {st : St} (hlo : 1 ≤ lo ∧ lo ≤ 200) (hhi : 1 ≤ hi ∧ hi ≤ 200) (h : Inv n i st) (hi' : i < n) : Inv n (i + 1) (step lo hi i st) := by
  have hl := h.len
  have hw := at_small h.small (i := i) (by omega)
  have hb := by_small hlo hhi hw h.left
  have hc := h.ch
  unfold step
  split
  · exact ⟨h.len, h.small, h.left, by omega⟩
  · refine ⟨by simpa using hl, fun x hx => ?_, ⟨hb.2.2.1, hb.2.2.2⟩, by show 0 ≤ st.ch + 1 ∧ st.ch + 1 ≤ ((i + 1 : Nat) : Int); omega⟩
    rcases List.mem_or_eq_of_mem_set hx with hx | hx
    · exact h.small x hx
    · rw [hx]; exact ⟨hb.1, hb.2.1⟩
theorem specStep {lo hi : Int} {n i : Nat} (st : St) (hn : n ≤ 60) (hlo : 1 ≤ lo ∧ lo ≤ 200) (hhi : 1 ≤ hi ∧ hi ≤ 200) (h : Inv n i st) (hi' : i < n) (r : List Int × Int × Int)
    (hr : Ev (fun k => spec_ChangeRow.l0 k lo hi (step lo hi i st).left (step lo hi i st).row (step lo hi i st).ch ((i + 1 : Nat) : Int)) r) : Ev (fun k => spec_ChangeRow.l0 k lo hi st.left st.row st.ch (i : Int)) r := by
  have hl := h.len
  have hw := at_small h.small (i := i) (by omega)
  have hb := by_small hlo hhi hw h.left
  have hL := h.left
  have hc := h.ch
  refine Ev.step (fun k => by rw [spec_ChangeRow.l0]) (Ev.pos (by omega) (Ev.pos (by omega) ?_))
  rw [rdG]
  unfold step at hr
  generalize st.row.getD i 0 = w at hw hb hr ⊢
  rw [w64 (x := w) (by omega) (by omega), w64 (x := hi - w) (by omega) (by omega)]
  have tail : ∀ b : Int, byOf lo hi st.left w = b → Ev (fun k => if b = 0 then spec_ChangeRow.l0 k lo hi st.left st.row st.ch ((i + 1 : Nat) : Int) else if 0 ≤ (i : Int) then (if (i : Int) < (st.row.length : Int) then spec_ChangeRow.l0 k lo hi (wrap64 (st.left - b)) (st.row.set (i : Int).toNat (IntKind.i16.wrap (wrap64 (w + b)))) (wrap64 (st.ch + 1)) ((i + 1 : Nat) : Int) else none) else none) r := by
    intro b e
    rw [e] at hr hb
    refine Ev.ite (fun c => ?_) (fun c => ?_)
    · rw [if_pos c] at hr; exact hr
    · rw [if_neg c] at hr
      refine Ev.pos (by omega) (Ev.pos (by omega) ?_)
      rw [w64 (x := st.left - b) (by omega) (by omega), w64 (x := w + b) (by omega) (by omega), w16 (by omega) (by omega), w64 (x := st.ch + 1) (by omega) (by omega), Int.toNat_natCast]
      exact hr
  have hi1 := w64 (x := (i : Int) + 1) (by omega) (by omega)
  refine Ev.ite (fun c => ?_) (fun c => ?_)
  · refine Ev.nobind (specMin _ _) (Ev.nobind (specMax _ _) (Ev.step (fun k => by rw [spec_ChangeRow.j5]) (Ev.neg (by omega) ?_)))
    rw [hi1]
    refine tail _ ?_
    unfold byOf mx mn
    rw [if_pos c]
    (repeat' split) <;> omega
  · refine Ev.step (fun k => by rw [spec_ChangeRow.j5]) ?_
    rw [hi1]
    refine Ev.ite (fun c2 => ?_) (fun c2 => ?_)
    · rw [w64 (x := -st.left) (by omega) (by omega), w64 (x := w - lo) (by omega) (by omega)]
      refine Ev.nobind (specMin _ _) (Ev.nobind (specMax _ _) ?_)
      have hm : mx 0 (mn (-st.left) (w - lo)) = -(byOf lo hi st.left w) := by
        unfold byOf mx mn
        rw [if_neg c]
        (repeat' split) <;> omega
      rw [hm, w64 (x := -(-(byOf lo hi st.left w))) (by omega) (by omega), Int.neg_neg]
      exact tail _ rfl
    · refine tail 0 ?_
      unfold byOf mx mn
      rw [if_neg c]
      (repeat' split) <;> omega
theorem implStep {lo hi N : Int} {n i : Nat} (st : St) (hN : N = (n : Int)) (hn : n ≤ 60) (hlo : 1 ≤ lo ∧ lo ≤ 200) (hhi : 1 ≤ hi ∧ hi ≤ 200) (h : Inv n i st) (hi' : i < n) (r : List Int × Int × Int)
    (hr : Ev (fun k => impl_ChangeRow.l0 k lo hi (step lo hi i st).row (step lo hi i st).ch (step lo hi i st).left N ((i + 1 : Nat) : Int)) r) : Ev (fun k => impl_ChangeRow.l0 k lo hi st.row st.ch st.left N (i : Int)) r := by
  have hl := h.len
  have hw := at_small h.small (i := i) (by omega)
  have hb := by_small hlo hhi hw h.left
  have hL := h.left
  have hc := h.ch
  refine Ev.step (fun k => by rw [impl_ChangeRow.l0]) (Ev.pos (by omega) (Ev.pos (by omega) (Ev.pos (by omega) ?_)))
  rw [rdG]
  unfold step at hr
  generalize st.row.getD i 0 = w at hw hb hr ⊢
  rw [w64 (x := w) (by omega) (by omega), w64 (x := hi - w) (by omega) (by omega), w64 (x := lo - w) (by omega) (by omega), w64 (x := (i : Int) + 1) (by omega) (by omega), w64 (x := st.ch + 1) (by omega) (by omega), Int.toNat_natCast]
  have tail : ∀ b : Int, byOf lo hi st.left w = b → Ev (fun k => if b = 0 then impl_ChangeRow.l0 k lo hi st.row st.ch st.left N ((i + 1 : Nat) : Int) else impl_ChangeRow.l0 k lo hi (st.row.set i (IntKind.i16.wrap (w + (IntKind.i16.wrap b)))) (st.ch + 1) (wrap64 (st.left - b)) N ((i + 1 : Nat) : Int)) r := by
    intro b e
    rw [e] at hr hb
    refine Ev.ite (fun c => ?_) (fun c => ?_)
    · rw [if_pos c] at hr; exact hr
    · rw [if_neg c] at hr
      rw [w64 (x := st.left - b) (by omega) (by omega), w16 (x := b) (by omega) (by omega), w16 (by omega) (by omega)]
      exact hr
  refine Ev.ite (fun c => ?_) (fun c => ?_)
  · refine tail _ ?_
    unfold byOf; rw [if_pos c]
  · refine tail _ ?_
    unfold byOf; rw [if_neg c]
def code (l : List Int) (s n lo hi : Int) : Int := if okB l then (if inB s 0 200 && (inB n 1 2000 && (inB lo 1 200 && inB hi 1 200)) then 0 else 2) else 1
def last (l : List Int) (s n lo hi : Int) : St := iter (step lo hi) l.length 0 ⟨l, 0, n - lenF l s⟩
def fin (st : St) : List Int × Int × Int := if st.left = 0 then (st.row, st.ch, 0) else ([], 0, 6)
def res (l : List Int) (s n lo hi : Int) : List Int × Int × Int := if code l s n lo hi = 0 then (if lo > hi then ([], 0, 4) else fin (last l s n lo hi)) else ([], 0, code l s n lo hi)
theorem small_of {l : List Int} (h : okB l = true) : (1 ≤ l.length ∧ l.length ≤ 60) ∧ Small l := by
  unfold okB at h
  rw [Bool.and_eq_true, inB_iff, List.all_eq_true] at h
  refine ⟨by omega, fun x hx => ?_⟩
  exact inB_iff.1 (h.2 x hx)
structure Ok (l : List Int) (s n lo hi : Int) : Prop where
  len : 1 ≤ l.length ∧ l.length ≤ 60
  small : Small l
  s : 0 ≤ s ∧ s ≤ 200
  n : 1 ≤ n ∧ n ≤ 2000
  lo : 1 ≤ lo ∧ lo ≤ 200
  hi : 1 ≤ hi ∧ hi ≤ 200
theorem ok_of {l : List Int} {s n lo hi : Int} (h : code l s n lo hi = 0) : okB l = true ∧ (inB s 0 200 && (inB n 1 2000 && (inB lo 1 200 && inB hi 1 200))) = true ∧ Ok l s n lo hi := by
  unfold code at h
  cases e : okB l with
  | false => rw [e] at h; exact absurd h (by simp)
  | true =>
    rw [e, if_pos rfl] at h
    cases e2 : (inB s 0 200 && (inB n 1 2000 && (inB lo 1 200 && inB hi 1 200))) with
    | false => rw [e2] at h; exact absurd h (by decide)
    | true =>
      refine ⟨rfl, rfl, ?_⟩
      rw [Bool.and_eq_true, Bool.and_eq_true, Bool.and_eq_true, inB_iff, inB_iff, inB_iff, inB_iff] at e2
      exact ⟨(small_of e).1, (small_of e).2, e2.1, e2.2.1, e2.2.2.1, e2.2.2.2⟩
theorem start_inv {l : List Int} {s n lo hi : Int} (h : Ok l s n lo hi) : Inv l.length 0 ⟨l, 0, n - lenF l s⟩ := by
  have hl := len_small h.len.2 h.small h.s h.len.1
  have hn := h.n
  exact ⟨rfl, h.small, by show -100000 ≤ n - lenF l s ∧ n - lenF l s ≤ 100000; omega, by show (0 : Int) ≤ 0 ∧ (0 : Int) ≤ ((0 : Nat) : Int); omega⟩
theorem res_len (l : List Int) (s n lo hi : Int) : (res l s n lo hi).1.length ≤ 60 := by
  unfold res
  by_cases c : code l s n lo hi = 0
  · rw [if_pos c]
    have ok := (ok_of c).2.2
    split
    · simp
    · have := iter_inv (f := step lo hi) (Inv := Inv l.length) l.length 0 ⟨l, 0, n - lenF l s⟩ (fun st j _ hj h => step_inv ok.lo ok.hi h (by omega)) (start_inv ok)
      unfold fin last
      split
      · have h1 := this.len; have h2 := ok.len.2; show (iter (step lo hi) l.length 0 ⟨l, 0, n - lenF l s⟩).row.length ≤ 60; omega
      · simp
  · rw [if_neg c]; simp
theorem specCore {l : List Int} {s n lo hi : Int} (h : code l s n lo hi = 0) : Ev (fun k => spec_ChangeRow.j1 k l s n lo hi 0) (if lo > hi then ([], 0, 4) else fin (last l s n lo hi)) := by
  have ok := (ok_of h).2.2
  have hlen := ok.len
  have hL := len_small ok.len.2 ok.small ok.s ok.len.1
  have hn := ok.n
  refine Ev.step (fun k => by rw [spec_ChangeRow.j1]) (Ev.pos rfl (Ev.step (fun k => by rw [spec_ChangeRow.j2]) ?_))
  by_cases c : lo > hi
  · rw [if_pos c]
    refine Ev.pos (decide_eq_true c) (Ev.step (fun k => by rw [spec_ChangeRow.j3]) ?_)
    exact Ev.neg (by decide) (Ev.fin rfl)
  · rw [if_neg c]
    refine Ev.neg (by rw [decide_eq_false c]; decide) (Ev.step (fun k => by rw [spec_ChangeRow.j3]) (Ev.pos rfl ?_))
    refine Ev.bind (specLength l s (by omega)) (Ev.nobind (a := []) rfl (Ev.pos (by simp; omega) ?_))
    rw [w64 (x := n - lenF l s) (by omega) (by omega), List.nil_append]
    unfold last
    refine iter_cps0 l.length (step lo hi) (fun k st i => spec_ChangeRow.l0 k lo hi st.left st.row st.ch i) _ (Inv l.length) ⟨l, 0, n - lenF l s⟩ (start_inv ok) (fun st i hi' hv => step_inv ok.lo ok.hi hv hi') (fun st i hi' hv hr => specStep st ok.len.2 ok.lo ok.hi hv hi' _ hr) (fun hv => ?_)
    have hvl := hv.len
    refine Ev.step (fun k => by rw [spec_ChangeRow.l0]) (Ev.neg (by omega) ?_)
    unfold fin
    refine Ev.ite (fun c2 => ?_) (fun c2 => ?_)
    · rw [if_pos c2]; exact Ev.fin rfl
    · rw [if_neg c2]; exact Ev.fin rfl
theorem specRes {l : List Int} (hf : Fit l) (s n lo hi : Int) : Ev (fun k => spec_ChangeRow.f k l s n lo hi) (res l s n lo hi) := by
  have bad : ∀ c : Int, c ≠ 0 → code l s n lo hi = c → Ev (fun k => spec_ChangeRow.j1 k l s n lo hi c) (res l s n lo hi) := by
    intro c hc e
    unfold res
    rw [if_neg (by rw [e]; exact hc), e]
    refine Ev.step (fun k => by rw [spec_ChangeRow.j1]) (Ev.neg hc (Ev.step (fun k => by rw [spec_ChangeRow.j2]) (Ev.neg (by decide) (Ev.step (fun k => by rw [spec_ChangeRow.j3]) ?_))))
    exact Ev.neg hc (Ev.fin rfl)
  have good : code l s n lo hi = 0 → Ev (fun k => spec_ChangeRow.j1 k l s n lo hi 0) (res l s n lo hi) := by
    intro e
    unfold res
    rw [if_pos e]; exact specCore e
  unfold spec_ChangeRow.f
  refine Ev.bind (specAsked hf s) ?_
  unfold code at bad good
  unfold askRow
  cases e1 : okB l with
  | false =>
    rw [e1] at bad
    refine Ev.neg (by simp) (Ev.step (fun k => by rw [spec_ChangeRow.j0]) (Ev.neg (by decide) ?_))
    exact bad 1 (by decide) rfl
  | true =>
    rw [e1] at bad good
    cases e2 : inB s 0 200 with
    | false =>
      rw [e2] at bad
      refine Ev.neg (by decide) (Ev.step (fun k => by rw [spec_ChangeRow.j0]) (Ev.neg (by decide) ?_))
      exact bad 2 (by decide) rfl
    | true =>
      rw [e2] at bad good
      refine Ev.pos rfl (Ev.nobind (specLong n s) ?_)
      rw [e2]
      have b2 : ∀ q : Bool, q = true → (if true = true then (if (true && (inB n 1 2000 && (inB lo 1 200 && inB hi 1 200))) = true then (0 : Int) else 2) else 1) = 2 → Ev (fun k => spec_ChangeRow.j0 k l s n lo hi 0 q) (res l s n lo hi) := by
        intro q hq e
        refine Ev.step (fun k => by rw [spec_ChangeRow.j0]) (Ev.pos hq ?_)
        exact bad 2 (by decide) e
      cases e3 : inB n 1 2000 with
      | false => exact Ev.neg (by decide) (b2 true rfl (by rw [e3]; rfl))
      | true =>
        refine Ev.pos rfl (Ev.nobind (specWidth lo) ?_)
        cases e4 : inB lo 1 200 with
        | false => exact Ev.neg (by decide) (b2 true rfl (by rw [e3, e4]; rfl))
        | true =>
          refine Ev.pos rfl (Ev.nobind (specWidth hi) ?_)
          cases e5 : inB hi 1 200 with
          | false => exact b2 (!false) rfl (by rw [e3, e4, e5]; rfl)
          | true =>
            refine Ev.step (fun k => by rw [spec_ChangeRow.j0]) (Ev.neg (by decide) ?_)
            exact good (by rw [e3, e4, e5]; rfl)
theorem implCore {l : List Int} {s n lo hi : Int} (h : code l s n lo hi = 0) : Ev (fun k => impl_ChangeRow.j0 k l s n lo hi 0) (if lo > hi then ([], 0, 4) else fin (last l s n lo hi)) := by
  have ok := (ok_of h).2.2
  have hlen := ok.len
  have hL := len_small ok.len.2 ok.small ok.s ok.len.1
  have hn := ok.n
  refine Ev.step (fun k => by rw [impl_ChangeRow.j0]) (Ev.pos rfl (Ev.ite (fun c => ?_) (fun c => ?_)))
  · rw [if_pos c]; exact Ev.fin rfl
  · rw [if_neg c]
    refine Ev.nobind (a := l) ?_ (Ev.bind (implLength l s (by omega)) ?_)
    · unfold impl_Row_int16_47.f
      rw [if_pos (by omega)]
    · rw [w64 (x := n - lenF l s) (by omega) (by omega)]
      unfold last
      refine iter_cps0 l.length (step lo hi) (fun k st i => impl_ChangeRow.l0 k lo hi st.row st.ch st.left (l.length : Int) i) _ (Inv l.length) ⟨l, 0, n - lenF l s⟩ (start_inv ok) (fun st i hi' hv => step_inv ok.lo ok.hi hv hi') (fun st i hi' hv hr => implStep st rfl ok.len.2 ok.lo ok.hi hv hi' _ hr) (fun hv => ?_)
      refine Ev.step (fun k => by rw [impl_ChangeRow.l0]) (Ev.neg (by omega) ?_)
      unfold fin
      refine Ev.ite (fun c2 => ?_) (fun c2 => ?_)
      · rw [if_pos c2]; exact Ev.fin rfl
      · rw [if_neg c2]; exact Ev.fin rfl
theorem implRes {l : List Int} (hf : Fit l) (s n lo hi : Int) : Ev (fun k => impl_ChangeRow.f k l s n lo hi) (res l s n lo hi) := by
  have any : ∀ c : Int, code l s n lo hi = c → Ev (fun k => impl_ChangeRow.j0 k l s n lo hi c) (res l s n lo hi) := by
    intro c e
    unfold res
    by_cases hc : c = 0
    · subst hc
      rw [if_pos e]; exact implCore e
    · rw [if_neg (by rw [e]; exact hc), e]
      refine Ev.step (fun k => by rw [impl_ChangeRow.j0]) ?_
      exact Ev.neg hc (Ev.fin rfl)
  unfold impl_ChangeRow.f
  refine Ev.nobind (implValid hf) (Ev.nobind (implSeam s) ?_)
  unfold code at any
  cases e2 : inB s 0 200 with
  | false =>
    refine Ev.neg (by decide) (Ev.nobind (codeOf _ _) (any _ ?_))
    rw [e2]; rfl
  | true =>
    refine Ev.pos rfl (Ev.nobind (implLong n) ?_)
    cases e3 : inB n 1 2000 with
    | false =>
      refine Ev.neg (by decide) (Ev.nobind (codeOf _ _) (any _ ?_))
      rw [e2, e3]; rfl
    | true =>
      refine Ev.pos rfl (Ev.nobind (implWidth [lo, hi]) (Ev.nobind (codeOf _ _) (any _ ?_)))
      rw [e2, e3]
      simp only [List.all_cons, List.all_nil, Bool.and_true, Bool.true_and]
theorem FnExactChangeRow : laws_FnExactChangeRow.Pure := by
  intro l0 a1 a2 a3 a4 m0 y0 w0 w1 w2 w3 w4
  have hf := fit_of w0
  refine Ev.rounds (g := fun k => laws_FnExactChangeRow.f k l0 a1 a2 a3 a4) ?_
  unfold laws_FnExactChangeRow.f
  refine Ev.ite (fun _ => Ev.fin rfl) (fun h0 => ?_)
  have t0 := toRow l0 (by omega)
  have hl := res_len l0 a1 a2 a3 a4
  have hs := specRes hf a1 a2 a3 a4
  have hi := implRes hf a1 a2 a3 a4
  generalize res l0 a1 a2 a3 a4 = v at hl hs hi
  have hq := eqRow v.1 v.1 (by omega)
  refine Ev.bind t0 (Ev.bind hs (Ev.bind t0 (Ev.bind hi (Ev.bind hq (Ev.pos (by simp) (Ev.pos rfl ?_))))))
  refine Ev.step (fun k => by rw [laws_FnExactChangeRow.j0]) ?_
  refine Ev.neg (by simp) (Ev.bind t0 (Ev.bind (eqRow l0 l0 (by omega)) (Ev.pos (by simp) ?_)))
  refine Ev.bind (markRow l0 (by omega)) (Ev.neg (by simp only []; omega) (Ev.bind hq (Ev.pos (by simp) (Ev.pos rfl ?_))))
  refine Ev.step (fun k => by rw [laws_FnExactChangeRow.j1]) ?_
  refine Ev.neg (by simp) (Ev.bind (markRow v.1 (by omega)) (Ev.bind (heldRow v.1.length (by omega)) (Ev.neg (by omega) (Ev.pos rfl ?_))))
  refine Ev.bind t0 (Ev.bind hi (Ev.bind hq (Ev.pos (by simp) (Ev.pos rfl ?_))))
  refine Ev.step (fun k => by rw [laws_FnExactChangeRow.j2]) ?_
  refine Ev.neg (by simp) (Ev.bind (heldRow v.1.length (by omega)) (Ev.neg (by omega) ?_))
  exact Ev.pos rfl (Ev.fin rfl)

end Go.Proofs.Ytjkjelfhdhcplaa.Pure
