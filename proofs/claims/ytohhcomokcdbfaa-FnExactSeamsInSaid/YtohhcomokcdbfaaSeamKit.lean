/- Seams of stones: what the reference's and the program's functions come to. -/
import Derived.Test.YtohhcomokcdbfaaStonesKit
import Derived.Test.YtohhcomokcdbfaaOverKit
import Derived.Test.YtohhcomokcdbfaaGeoKit
import Derived.Test.YtohhcomokcdbfaaLoops2
import Derived.Test.YtohhcomokcdbfaaPAxf26
import Derived.Test.YtohhcomokcdbfaaPAxf29
import Derived.Test.YtohhcomokcdbfaaPAxf35
import Derived.Test.YtohhcomokcdbfaaPAxf42
import Derived.Test.YtohhcomokcdbfaaPAxf46
import Derived.Test.YtohhcomokcdbfaaPAxf56
import Derived.Test.YtohhcomokcdbfaaPAxgMM
namespace Go.Proofs.Ytohhcomokcdbfaa.SeamKit
set_option linter.unusedSimpArgs false
set_option linter.unusedVariables false
open Go.RowKit Go.Proofs.Ytohhcomokcdbfaa.PA Go.Proofs.Ytohhcomokcdbfaa.Base Go.Proofs.Ytohhcomokcdbfaa.StonesKit Go.Proofs.Ytohhcomokcdbfaa.LayKit Go.Proofs.Ytohhcomokcdbfaa.Geo Go.Proofs.YtohhcomokcdbfaaW.PrintWords Go.Proofs.YtohhcomokcdbfaaW.PrintLast Go.Proofs.YtohhcomokcdbfaaW.PrintMore

theorem specMin (x y : Int) : spec_l00Min.f x y = some (min x y) := by
  unfold spec_l00Min.f
  by_cases c : x < y
  · rw [if_pos c]; congr 1; omega
  · rw [if_neg c]; congr 1; omega
theorem specMax (x y : Int) : spec_l00Max.f x y = some (max x y) := by
  unfold spec_l00Max.f
  by_cases c : x > y
  · rw [if_pos c]; congr 1; omega
  · rw [if_neg c]; congr 1; omega
theorem mx_max (x y : Int) : mx x y = max x y := by unfold mx; split <;> omega
theorem sm_range {a : S55} (h : Sm a) : (-1000 ≤ a.f0 ∧ a.f0 ≤ 1000) ∧ (-1000 ≤ a.f1 ∧ a.f1 ≤ 1000) := h
theorem sd_cr {p q c : S55} (hp : Sm p) (hq : Sm q) (hc : Sm c) : sd p q c = cr p q c := by
  unfold Sm at hp hq hc
  have h1 := prod_small (a := q.f0 - p.f0) (b := c.f1 - p.f1) (by omega) (by omega)
  have h2 := prod_small (a := q.f1 - p.f1) (b := c.f0 - p.f0) (by omega) (by omega)
  unfold sd impl_side.f cr
  rw [Option.getD_some, w64 (x := p.f0) (by omega) (by omega), w64 (x := p.f1) (by omega) (by omega), w64 (x := q.f0) (by omega) (by omega), w64 (x := q.f1) (by omega) (by omega), w64 (x := c.f0) (by omega) (by omega), w64 (x := c.f1) (by omega) (by omega),
    w64 (x := q.f0 - p.f0) (by omega) (by omega), w64 (x := c.f1 - p.f1) (by omega) (by omega), w64 (x := q.f1 - p.f1) (by omega) (by omega), w64 (x := c.f0 - p.f0) (by omega) (by omega), w64 (x := (q.f0 - p.f0) * (c.f1 - p.f1)) (by omega) (by omega), w64 (x := (q.f1 - p.f1) * (c.f0 - p.f0)) (by omega) (by omega), w64 (by omega) (by omega)]
theorem wsq {a b : S55} (ha : Sm a) (hb : Sm b) : wrap64 ((wrap64 ((wrap64 ((wrap64 a.f0) - (wrap64 b.f0))) * (wrap64 ((wrap64 a.f0) - (wrap64 b.f0))))) + (wrap64 ((wrap64 ((wrap64 a.f1) - (wrap64 b.f1))) * (wrap64 ((wrap64 a.f1) - (wrap64 b.f1)))))) = sq a b := by
  have ha' := sm_range ha
  have hb' := sm_range hb
  have h1 := prod_small (a := a.f0 - b.f0) (b := a.f0 - b.f0) (by omega) (by omega)
  have h2 := prod_small (a := a.f1 - b.f1) (b := a.f1 - b.f1) (by omega) (by omega)
  unfold sq
  rw [w64 (x := a.f0) (by omega) (by omega), w64 (x := a.f1) (by omega) (by omega), w64 (x := b.f0) (by omega) (by omega), w64 (x := b.f1) (by omega) (by omega), w64 (x := a.f0 - b.f0) (by omega) (by omega), w64 (x := a.f1 - b.f1) (by omega) (by omega),
    w64 (x := (a.f0 - b.f0) * (a.f0 - b.f0)) (by omega) (by omega), w64 (x := (a.f1 - b.f1) * (a.f1 - b.f1)) (by omega) (by omega), w64 (by omega) (by omega)]
theorem implLess (a b : S55) : impl_cornerLess.f a.f0 a.f1 b.f0 b.f1 = some (lt a b) := by
  unfold impl_cornerLess.f lt
  by_cases c : a.f0 < b.f0
  · rw [if_pos c, decide_eq_true c]; rfl
  · rw [if_neg c, decide_eq_false c]
    by_cases d : a.f0 = b.f0
    · rw [if_pos d, decide_eq_true d]; rfl
    · rw [if_neg d, decide_eq_false d]; rfl
/-! ### the program's way -/
theorem common3 {p1 q0 s0 : S55} (hp : Sm p1) (hq : Sm q0) (hs : Sm s0) : Ev (fun k => impl_common.j3 k p1.f0 p1.f1 q0.f0 q0.f1 s0.f0 s0.f1) (com2 p1 (pick (lt s0 q0) s0 q0)) := by
  refine Ev.step (fun k => by rw [impl_common.j3]) (Ev.nobind (implLess s0 q0) ?_)
  unfold com2
  cases lt s0 q0 with
  | true =>
    refine Ev.pos rfl (Ev.nobind (implLess p1 s0) ?_)
    rw [wsq hs hp]
    refine Ev.ite (fun c => ?_) (fun c => ?_)
    · rw [show pick true s0 q0 = s0 from rfl, if_pos c]; exact Ev.fin rfl
    · rw [show pick true s0 q0 = s0 from rfl, if_neg c]; exact Ev.fin rfl
  | false =>
    refine Ev.neg (by decide) (Ev.nobind (implLess p1 q0) ?_)
    rw [wsq hq hp]
    refine Ev.ite (fun c => ?_) (fun c => ?_)
    · rw [show pick false s0 q0 = q0 from rfl, if_pos c]; exact Ev.fin rfl
    · rw [show pick false s0 q0 = q0 from rfl, if_neg c]; exact Ev.fin rfl
theorem common2 {p0 q0 r0 s0 : S55} (hp : Sm p0) (hq : Sm q0) (hr : Sm r0) (hs : Sm s0) : Ev (fun k => impl_common.j2 k p0.f0 p0.f1 q0.f0 q0.f1 r0.f0 r0.f1 s0.f0 s0.f1) (com1 p0 q0 r0 s0) := by
  refine Ev.step (fun k => by rw [impl_common.j2]) (Ev.nobind (implLess p0 r0) ?_)
  unfold com1
  cases lt p0 r0 with
  | true => exact Ev.pos rfl (common3 hr hq hs)
  | false => exact Ev.neg (by decide) (common3 hp hq hs)
theorem common1 {p0 q0 u v : S55} (hp : Sm p0) (hq : Sm q0) (hu : Sm u) (hv : Sm v) : Ev (fun k => impl_common.j1 k p0.f0 p0.f1 q0.f0 q0.f1 u.f0 u.f1 v.f0 v.f1) (com1 p0 q0 (pick (lt v u) v u) (pick (lt v u) u v)) := by
  refine Ev.step (fun k => by rw [impl_common.j1]) (Ev.nobind (implLess v u) ?_)
  cases lt v u with
  | true => exact Ev.pos rfl (common2 hp hq hv hu)
  | false => exact Ev.neg (by decide) (common2 hp hq hu hv)
theorem common0 {p q u v : S55} (hp : Sm p) (hq : Sm q) (hu : Sm u) (hv : Sm v) : Ev (fun k => impl_common.j0 k false p.f0 p.f1 q.f0 q.f1 u.f0 u.f1 v.f0 v.f1) (com p q u v) := by
  refine Ev.step (fun k => by rw [impl_common.j0]) (Ev.neg (by decide) (Ev.nobind (implLess q p) ?_))
  unfold com
  cases lt q p with
  | true => exact Ev.pos rfl (common1 hq hp hu hv)
  | false => exact Ev.neg (by decide) (common1 hp hq hu hv)
def has (p q u v : S55) : Int := if cr p q u = 0 then (if cr p q v = 0 then com p q u v else 0) else 0
theorem implCommon {p q u v : S55} (hp : Sm p) (hq : Sm q) (hu : Sm u) (hv : Sm v) : Ev (fun k => impl_common.f k p.f0 p.f1 q.f0 q.f1 u.f0 u.f1 v.f0 v.f1) (has p q u v) := by
  unfold impl_common.f has
  refine Ev.nobind (implSide p q u) ?_
  rw [sd_cr hp hq hu]
  refine Ev.ite (fun c => ?_) (fun c => ?_)
  · rw [if_pos c]
    refine Ev.nobind (implSide p q v) ?_
    rw [sd_cr hp hq hv]
    by_cases d : cr p q v = 0
    · rw [if_pos d, show (cr p q v != 0) = false from by rw [d]; rfl]
      exact common0 hp hq hu hv
    · rw [if_neg d, show (cr p q v != 0) = true from by simpa using d]
      refine Ev.step (fun k => by rw [impl_common.j0]) ?_
      exact Ev.pos rfl (Ev.fin rfl)
  · rw [if_neg c]
    refine Ev.step (fun k => by rw [impl_common.j0]) ?_
    exact Ev.pos rfl (Ev.fin rfl)
/-! ### the reference's way -/
theorem specBetween {c u v : S55} (hc : Sm c) (hu : Sm u) (hv : Sm v) : spec_l03Between.f c.f0 c.f1 u.f0 u.f1 v.f0 v.f1 = some (decide (Box c u v)) := by
  unfold Sm at hc hu hv
  unfold spec_l03Between.f
  rw [w64 (x := c.f0) (by omega) (by omega), w64 (x := c.f1) (by omega) (by omega), w64 (x := u.f0) (by omega) (by omega), w64 (x := u.f1) (by omega) (by omega), w64 (x := v.f0) (by omega) (by omega), w64 (x := v.f1) (by omega) (by omega)]
  simp only [specMin, specMax, specIn, Option.bind_some]
  by_cases c0 : inB c.f0 (min u.f0 v.f0) (max u.f0 v.f0) = true
  · rw [if_pos c0]
    rw [inB_iff] at c0
    congr 1
    rw [Bool.eq_iff_iff, inB_iff, decide_eq_true_eq]
    exact ⟨fun h => (⟨c0, h⟩ : Box c u v), fun h => h.2⟩
  · rw [if_neg c0]
    congr 1
    rw [inB_iff] at c0
    exact (decide_eq_false (fun h : Box c u v => c0 h.1)).symm
theorem endAt_len (l : List S55) (c u v : S55) : (endAt l c u v).length ≤ l.length + 1 := by unfold endAt; split <;> simp
def Best (M : Int) (l : List S55) (i : Nat) (b : Int) : Prop := 0 ≤ b ∧ b ≤ M ∧ ∀ x y, x < i → y < x → sq (l.getD x z55) (l.getD y z55) ≤ b
theorem getC {l : List S55} {i : Nat} (h : i < l.length) : l.getD i z55 = l[i] := by
  rw [List.getD_eq_getElem?_getD, List.getElem?_eq_getElem h]; rfl
theorem maxLoop (l : List S55) (hl : l.length ≤ 4) (hs : ∀ x ∈ l, Sm x) (M : Int) (h0 : 0 ≤ M) (h1 : ∀ e ∈ l, ∀ f ∈ l, sq e f ≤ M) (h2 : M = 0 ∨ ∃ e ∈ l, ∃ f ∈ l, e ≠ f ∧ M = sq e f) : Ev (fun k => spec_l03Seam.l0 k l 0 0) M := by
  refine inv_cps0 l.length (fun k s i => spec_l03Seam.l0 k l s i) M (Best M l) 0 ⟨Int.le_refl _, h0, fun x y hx => by omega⟩ (fun s i hi hv hr => ?_) (fun s hv => ?_)
  · refine Ev.step (fun k => by rw [spec_l03Seam.l0]) (Ev.pos (by omega) ?_)
    refine inv_cps0 i (fun k s j => spec_l03Seam.l1 k l s (i : Int) j) M (fun j b => Best M l i b ∧ ∀ y, y < j → sq (l.getD i z55) (l.getD y z55) ≤ b) s ⟨hv, fun y hy => by omega⟩ (fun t j hj hw hq => ?_) (fun t hw => ?_)
    · have hi1 : l.getD i z55 ∈ l := by rw [getC hi]; exact List.getElem_mem hi
      have hj1 : l.getD j z55 ∈ l := by rw [getC (by omega)]; exact List.getElem_mem (by omega)
      refine Ev.step (fun k => by rw [spec_l03Seam.l1]) (Ev.pos (by omega) (Ev.pos (by omega) (Ev.pos (by omega) (Ev.pos (by omega) (Ev.pos (by omega) ?_)))))
      rw [rdC' l i, rdC' l j, wsq (hs _ hi1) (hs _ hj1), w64 (x := (j : Int) + 1) (by omega) (by omega)]
      refine Ev.nobind (specMax _ _) (hq _ ?_)
      have hM := h1 _ hi1 _ hj1
      refine ⟨⟨by have := hw.1.1; omega, by have := hw.1.2.1; omega, fun x y hx hy => by have := hw.1.2.2 x y hx hy; omega⟩, fun y hy => ?_⟩
      by_cases e : y = j
      · rw [e]; omega
      · have := hw.2 y (by omega); omega
    · refine Ev.step (fun k => by rw [spec_l03Seam.l1]) (Ev.neg (by omega) ?_)
      rw [w64 (x := (i : Int) + 1) (by omega) (by omega)]
      refine hr t ⟨hw.1.1, hw.1.2.1, fun x y hx hy => ?_⟩
      by_cases e : x = i
      · rw [e]; exact hw.2 y (by omega)
      · exact hw.1.2.2 x y (by omega) hy
  · refine Ev.step (fun k => by rw [spec_l03Seam.l0]) (Ev.neg (by omega) (Ev.fin ?_))
    rcases h2 with h2 | ⟨e, he, f, hf, hne, h2⟩
    · have := hv.1; have := hv.2.1; omega
    · obtain ⟨a, ha, rfl⟩ := List.getElem_of_mem he
      obtain ⟨b, hb, rfl⟩ := List.getElem_of_mem hf
      have hv2 := hv.2.1
      by_cases c : b < a
      · have := hv.2.2 a b ha c
        rw [getC ha, getC hb] at this; omega
      · by_cases d : a < b
        · have := hv.2.2 b a hb d
          rw [getC ha, getC hb, sq_symm] at this; omega
        · have : a = b := by omega
          subst this; exact absurd rfl hne
theorem specSeam {p q u v : S55} (hp : Sm p) (hq : Sm q) (hu : Sm u) (hv : Sm v) (hpq : key p ≠ key q) : Ev (fun k => spec_l03Seam.f k p.f0 p.f1 q.f0 q.f1 u.f0 u.f1 v.f0 v.f1) (has p q u v) := by
  have core : cr p q u = 0 → cr p q v = 0 → Ev (fun k => spec_l03Seam.l0 k (ends p q u v) 0 0) (com p q u v) := by
    intro c d
    obtain ⟨m0, m1, m2⟩ := com_is hp hq hu hv hpq c d
    refine maxLoop (ends p q u v) ?_ (fun x hx => ?_) (com p q u v) m0 m1 m2
    · have e1 := endAt_len [] p u v
      have e2 := endAt_len (endAt [] p u v) q u v
      have e3 := endAt_len (endAt (endAt [] p u v) q u v) u p q
      have e4 := endAt_len (endAt (endAt (endAt [] p u v) q u v) u p q) v p q
      unfold ends
      have e0 : ([] : List S55).length = 0 := rfl
      omega
    · rw [mem_ends] at hx
      rcases hx with ⟨rfl, _⟩ | ⟨rfl, _⟩ | ⟨rfl, _⟩ | ⟨rfl, _⟩ <;> assumption
  unfold spec_l03Seam.f has
  refine Ev.nobind (specSide p q u) ?_
  rw [sd_cr hp hq hu]
  refine Ev.ite (fun c => ?_) (fun c => ?_)
  · rw [if_pos c]
    refine Ev.nobind (specSide p q v) ?_
    rw [sd_cr hp hq hv]
    by_cases d : cr p q v = 0
    · rw [if_pos d, show (cr p q v != 0) = false from by rw [d]; rfl]
      have hc := core c d
      unfold ends at hc
      have e1 := endAt_len [] p u v
      have e2 := endAt_len (endAt [] p u v) q u v
      have e3 := endAt_len (endAt (endAt [] p u v) q u v) u p q
      have e0 : ([] : List S55).length = 0 := rfl
      have s4 : ∀ l : List S55, l.length ≤ 3 → l = endAt (endAt (endAt [] p u v) q u v) u p q → Ev (fun k => spec_l03Seam.j3 k l p.f0 p.f1 q.f0 q.f1 v.f0 v.f1) (com p q u v) := by
        intro l hl e
        rw [← e] at hc
        refine Ev.step (fun k => by rw [spec_l03Seam.j3]) (Ev.nobind (specBetween hv hp hq) ?_)
        unfold endAt at hc
        by_cases b : Box v p q
        · rw [if_pos b] at hc
          refine Ev.pos (decide_eq_true b) (Ev.pos (by omega) (Ev.step (fun k => by rw [spec_l03Seam.j4]) hc))
        · rw [if_neg b] at hc
          exact Ev.neg (by rw [decide_eq_false b]; decide) (Ev.step (fun k => by rw [spec_l03Seam.j4]) hc)
      have s3 : ∀ l : List S55, l.length ≤ 2 → l = endAt (endAt [] p u v) q u v → Ev (fun k => spec_l03Seam.j2 k l p.f0 p.f1 q.f0 q.f1 u.f0 u.f1 v.f0 v.f1) (com p q u v) := by
        intro l hl e
        refine Ev.step (fun k => by rw [spec_l03Seam.j2]) (Ev.nobind (specBetween hu hp hq) ?_)
        rw [← e] at s4
        unfold endAt at s4
        by_cases b : Box u p q
        · refine Ev.pos (decide_eq_true b) (Ev.pos (by omega) (s4 _ (by simp; omega) (by rw [if_pos b])))
        · exact Ev.neg (by rw [decide_eq_false b]; decide) (s4 _ (by omega) (by rw [if_neg b]))
      have s2 : ∀ l : List S55, l.length ≤ 1 → l = endAt [] p u v → Ev (fun k => spec_l03Seam.j1 k l p.f0 p.f1 q.f0 q.f1 u.f0 u.f1 v.f0 v.f1) (com p q u v) := by
        intro l hl e
        refine Ev.step (fun k => by rw [spec_l03Seam.j1]) (Ev.nobind (specBetween hq hu hv) ?_)
        rw [← e] at s3
        unfold endAt at s3
        by_cases b : Box q u v
        · refine Ev.pos (decide_eq_true b) (Ev.pos (by omega) (s3 _ (by simp; omega) (by rw [if_pos b])))
        · exact Ev.neg (by rw [decide_eq_false b]; decide) (s3 _ (by omega) (by rw [if_neg b]))
      refine Ev.step (fun k => by rw [spec_l03Seam.j0]) (Ev.neg (by decide) (Ev.nobind (a := []) rfl (Ev.nobind (specBetween hp hu hv) ?_)))
      unfold endAt at s2
      by_cases b : Box p u v
      · refine Ev.pos (decide_eq_true b) (Ev.pos (by simp) (s2 _ (by simp) (by rw [if_pos b])))
      · exact Ev.neg (by rw [decide_eq_false b]; decide) (s2 _ (by simp) (by rw [if_neg b]))
    · rw [if_neg d, show (cr p q v != 0) = true from by simpa using d]
      refine Ev.step (fun k => by rw [spec_l03Seam.j0]) ?_
      exact Ev.pos rfl (Ev.fin rfl)
  · rw [if_neg c]
    refine Ev.step (fun k => by rw [spec_l03Seam.j0]) ?_
    exact Ev.pos rfl (Ev.fin rfl)
/-! ### stones -/
theorem ok_sm {l : List S55} (h : okS l = true) : ∀ x ∈ l, Sm x := by
  intro x hx
  unfold okS at h
  rw [Bool.and_eq_true, Bool.and_eq_true, List.all_eq_true] at h
  have := h.1.2 x hx
  unfold placed at this
  rw [Bool.and_eq_true, inB_iff, inB_iff] at this
  exact this
theorem at_sm {l : List S55} (h : okS l = true) {i : Nat} (hi : i < l.length) : Sm (l.getD i z55) := by
  rw [getC hi]; exact ok_sm h _ (List.getElem_mem hi)
theorem ok_key {l : List S55} (h : okS l = true) {i : Nat} (hi : i < l.length) : key (l.getD i z55) ≠ key (l.getD ((i + 1) % l.length) z55) := by
  have hn := nx_lt l i hi
  have hl := okS_len h
  have s1 := at_sm h hi
  have s2 := at_sm h hn
  intro e
  have e2 := key_inj s1 s2 e
  obtain ⟨j, hj, j1, j2⟩ : ∃ j, j < l.length ∧ j ≠ i ∧ j ≠ (i + 1) % l.length := by
    by_cases a : 0 ≠ i ∧ 0 ≠ (i + 1) % l.length
    · exact ⟨0, by omega, a.1, a.2⟩
    · by_cases b : 1 ≠ i ∧ 1 ≠ (i + 1) % l.length
      · exact ⟨1, by omega, b.1, b.2⟩
      · exact ⟨2, by omega, by omega, by omega⟩
  have hc : convB l = true := by
    unfold okS at h
    rw [Bool.and_eq_true] at h; exact h.2
  unfold convB at hc
  rw [List.all_eq_true] at hc
  have hc1 := hc i (by simpa using hi)
  rw [List.all_eq_true] at hc1
  have hc2 := hc1 j (by simpa using hj)
  unfold cvx at hc2
  rw [decide_eq_false j1, decide_eq_false j2, Bool.false_or, Bool.false_or, decide_eq_true_eq] at hc2
  unfold at_ at hc2
  rw [← e2, sd_cr s1 s1 (at_sm h hj)] at hc2
  unfold cr at hc2
  simp at hc2
theorem seams {a b : List S55} (ha : okS a = true) (hb : okS b = true) : ∃ r, Ev (fun k => spec_l03Seams.f k a b) r ∧ Ev (fun k => impl_seam.f k a b) r := by
  have la := okS_len ha
  have lb := okS_len hb
  unfold spec_l03Seams.f impl_seam.f
  have inner : ∀ (i : Nat), i < a.length → (∀ s, ∃ r, Ev (fun k => spec_l03Seams.l0 k a b s ((i + 1 : Nat) : Int)) r ∧ Ev (fun k => impl_seam.l0 k a b s a (a.length : Int) ((i + 1 : Nat) : Int)) r) →
      ∀ (d j : Nat) (s : Int), j + d = b.length → ∃ r, Ev (fun k => spec_l03Seams.l1 k a b s (i : Int) (j : Int)) r ∧ Ev (fun k => impl_seam.l1 k a b s (i : Int) a (a.length : Int) (i : Int) b (b.length : Int) (j : Int) ((rd_T55 a i).f0) ((rd_T55 a i).f1)) r := by
    intro i hi hn d
    have hna := nx_lt a i hi
    have hta := tm i a.length hi (by omega)
    induction d with
    | zero =>
      intro j s hj
      obtain ⟨r, h1, h2⟩ := hn s
      refine ⟨r, ?_, ?_⟩
      · refine Ev.step (fun k => by rw [spec_l03Seams.l1]) (Ev.neg (by omega) ?_)
        rw [w64 (x := (i : Int) + 1) (by omega) (by omega)]; exact h1
      · refine Ev.step (fun k => by rw [impl_seam.l1]) (Ev.neg (by omega) ?_)
        rw [w64 (x := (i : Int) + 1) (by omega) (by omega)]; exact h2
    | succ d ih =>
      intro j s hj
      have hj' : j < b.length := by omega
      have hnb := nx_lt b j hj'
      have htb := tm j b.length hj' (by omega)
      have hs := specSeam (at_sm ha hi) (at_sm ha hna) (at_sm hb hj') (at_sm hb hnb) (ok_key ha hi)
      have hm := implCommon (at_sm ha hi) (at_sm ha hna) (at_sm hb hj') (at_sm hb hnb)
      generalize hG : has (a.getD i z55) (a.getD ((i + 1) % a.length) z55) (b.getD j z55) (b.getD ((j + 1) % b.length) z55) = t at hs hm
      obtain ⟨r, h1, h2⟩ := ih (j + 1) (max s t) (by omega)
      refine ⟨r, ?_, ?_⟩
      · refine Ev.step (fun k => by rw [spec_l03Seams.l1]) (Ev.pos (by omega) (Ev.pos (by omega) (Ev.pos (by omega) ?_)))
        refine Ev.nobind (a := (((i + 1) % a.length : Nat) : Int)) (by unfold spec_l03Next.f; rw [if_neg (by omega), hta]) (Ev.pos (by omega) (Ev.pos (by omega) (Ev.pos (by omega) ?_)))
        refine Ev.nobind (a := (((j + 1) % b.length : Nat) : Int)) (by unfold spec_l03Next.f; rw [if_neg (by omega), htb]) (Ev.pos (by omega) (Ev.pos (by omega) ?_))
        rw [rdC' a i, rdC' a ((i + 1) % a.length), rdC' b j, rdC' b ((j + 1) % b.length), w64 (x := (j : Int) + 1) (by omega) (by omega)]
        exact Ev.bind hs (Ev.nobind (specMax s t) h1)
      · refine Ev.step (fun k => by rw [impl_seam.l1]) (Ev.pos (by omega) (Ev.pos (by omega) (Ev.pos (by omega) (Ev.neg (by omega) ?_))))
        rw [hta]
        refine Ev.pos (by omega) (Ev.pos (by omega) (Ev.neg (by omega) ?_))
        rw [htb]
        refine Ev.pos (by omega) (Ev.pos (by omega) ?_)
        rw [rdC' a i, rdC' a ((i + 1) % a.length), rdC' b j, rdC' b ((j + 1) % b.length), w64 (x := (j : Int) + 1) (by omega) (by omega)]
        rw [rdC' a i] at h2
        refine Ev.bind hm ?_
        rw [mx_max]; exact h2
  have outer : ∀ (d i : Nat) (s : Int), i + d = a.length → ∃ r, Ev (fun k => spec_l03Seams.l0 k a b s (i : Int)) r ∧ Ev (fun k => impl_seam.l0 k a b s a (a.length : Int) (i : Int)) r := by
    intro d
    induction d with
    | zero =>
      intro i s hi
      refine ⟨s, ?_, ?_⟩
      · refine Ev.step (fun k => by rw [spec_l03Seams.l0]) ?_
        exact Ev.neg (by omega) (Ev.fin rfl)
      · refine Ev.step (fun k => by rw [impl_seam.l0]) ?_
        exact Ev.neg (by omega) (Ev.fin rfl)
    | succ d ih =>
      intro i s hi
      obtain ⟨r, h1, h2⟩ := inner i (by omega) (fun s => ih (i + 1) s (by omega)) b.length 0 s (by omega)
      refine ⟨r, ?_, ?_⟩
      · refine Ev.step (fun k => by rw [spec_l03Seams.l0]) ?_
        exact Ev.pos (by omega) h1
      · refine Ev.step (fun k => by rw [impl_seam.l0]) ?_
        exact Ev.pos (by omega) (Ev.pos (by omega) (Ev.pos (by omega) h2))
  have hs := specOver a b (by omega) (by omega)
  have hm := implOver a b
  cases e : overB a b with
  | true =>
    rw [e] at hs hm
    exact ⟨0, Ev.bind hs (Ev.pos rfl (Ev.fin rfl)), Ev.nobind hm (Ev.pos rfl (Ev.fin rfl))⟩
  | false =>
    rw [e] at hs hm
    obtain ⟨r, h1, h2⟩ := outer a.length 0 0 (by omega)
    exact ⟨r, Ev.bind hs (Ev.neg (by decide) h1), Ev.nobind hm (Ev.neg (by decide) h2)⟩
end Go.Proofs.Ytohhcomokcdbfaa.SeamKit
