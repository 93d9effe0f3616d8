/- The program's CountRows answers what the reference's CountRows answers, at all numbers and sizes; no condition. -/
import Derived.Test.YthgdpieoodohcaaSizesKit
import Derived.Test.YthgdpieoodohcaaPAxf8
namespace Go.Proofs.Ythgdpieoodohcaa.Pure
set_option linter.unusedSimpArgs false
set_option linter.unusedVariables false
open Go.RowKit Go.Proofs.Ythgdpieoodohcaa.PA Go.Proofs.Ythgdpieoodohcaa.Base Go.Proofs.Ythgdpieoodohcaa.RowsFns Go.Proofs.Ythgdpieoodohcaa.SizesKit Go.Proofs.YthgdpieoodohcaaW.PrintWords Go.Proofs.YthgdpieoodohcaaW.PrintLast Go.Proofs.YthgdpieoodohcaaW.PrintMore

/-- A sum over a list. -/
def sm (c : Int → Int) : List Int → Int
  | [] => 0
  | n :: ns => c n + sm c ns
theorem sm_snoc (c : Int → Int) (b : Int) : ∀ a : List Int, sm c (a ++ [b]) = sm c a + c b
  | [] => by simp [sm]
  | n :: ns => by simp only [List.cons_append, sm, sm_snoc c b ns]; omega
theorem sm_congr {c d : Int → Int} : ∀ {l : List Int}, (∀ n ∈ l, c n = d n) → sm c l = sm d l
  | [], _ => rfl
  | n :: ns, h => by
    rw [sm, sm, h n (by simp), sm_congr (l := ns) (fun x hx => h x (by simp [hx]))]
theorem sm_add {c d e : Int → Int} : ∀ {l : List Int}, (∀ n ∈ l, e n = c n + d n) → sm e l = sm c l + sm d l
  | [], _ => by simp [sm]
  | n :: ns, h => by
    have := sm_add (c := c) (d := d) (e := e) (l := ns) (fun x hx => h x (by simp [hx]))
    rw [sm, sm, sm, h n (by simp), this]; omega
theorem sm_nonneg {c : Int → Int} : ∀ {l : List Int}, (∀ n, 0 ≤ c n) → 0 ≤ sm c l
  | [], _ => by simp [sm]
  | n :: ns, h => by
    have := sm_nonneg (l := ns) h
    have := h n
    rw [sm]; omega
theorem sm_zero {c : Int → Int} : ∀ {l : List Int}, (∀ n ∈ l, c n = 0) → sm c l = 0
  | [], _ => rfl
  | n :: ns, h => by
    rw [sm, h n (by simp), sm_zero (l := ns) (fun x hx => h x (by simp [hx]))]; rfl
theorem take_snoc (l : List Int) (j : Nat) (h : j < l.length) : l.take (j + 1) = l.take j ++ [l.getD j 0] := by
  rw [List.take_add_one, List.getD_eq_getElem?_getD, List.getElem?_eq_getElem h]; rfl
def sat (x : Int) : Int := if x < 1000000000 then x else 1000000000
theorem sat_sat {a b : Int} (h : 0 ≤ b) : sat (sat a + b) = sat (a + b) := by
  unfold sat; split <;> split <;> (try split) <;> omega
theorem sat_range {a : Int} (h : 0 ≤ a) : 0 ≤ sat a ∧ sat a ≤ 1000000000 := by
  unfold sat; split <;> omega
/-- What the ways that end at u - n - s give to u. -/
def gv (now : List Int) (s u n : Int) : Int := if 0 ≤ u - n - s then now.getD (u - n - s).toNat 0 else 0
/-- The same, of the places below t alone. -/
def gvB (now : List Int) (s t u n : Int) : Int := if 0 ≤ u - n - s ∧ u - n - s < t then now.getD (u - n - s).toNat 0 else 0
/-- The same, of the place t alone. -/
def gvE (now : List Int) (s t u n : Int) : Int := if u - n - s = t then now.getD t.toNat 0 else 0
def Now (now : List Int) (L : Nat) : Prop := now.length = L + 1 ∧ ∀ u : Nat, 0 ≤ now.getD u 0 ∧ now.getD u 0 ≤ 1000000000
theorem gv_nn {now : List Int} {L : Nat} (h : Now now L) (s u n : Int) : 0 ≤ gv now s u n := by
  unfold gv; split
  · exact (h.2 _).1
  · omega
theorem gvB_nn {now : List Int} {L : Nat} (h : Now now L) (s t u n : Int) : 0 ≤ gvB now s t u n := by
  unfold gvB; split
  · exact (h.2 _).1
  · omega
theorem gvE_nn {now : List Int} {L : Nat} (h : Now now L) (s t u n : Int) : 0 ≤ gvE now s t u n := by
  unfold gvE; split
  · exact (h.2 _).1
  · omega
/-- One stone more. -/
def nx (now : List Int) (s : Int) (sizes : List Int) (L : Nat) : List Int := (List.range (L + 1)).map fun u : Nat => sat (sm (gv now s (u : Int)) sizes)
theorem nx_length (now : List Int) (s : Int) (sizes : List Int) (L : Nat) : (nx now s sizes L).length = L + 1 := by simp [nx]
theorem nx_getD (now : List Int) (s : Int) (sizes : List Int) (L u : Nat) (h : u ≤ L) : (nx now s sizes L).getD u 0 = sat (sm (gv now s (u : Int)) sizes) := by
  unfold nx
  rw [List.getD_eq_getElem?_getD, List.getElem?_eq_getElem (by simp; omega)]
  simp
theorem nx_now {now : List Int} {L : Nat} (h : Now now L) (s : Int) (sizes : List Int) : Now (nx now s sizes L) L := by
  refine ⟨nx_length _ _ _ _, fun u => ?_⟩
  by_cases hu : u ≤ L
  · rw [nx_getD _ _ _ _ _ hu]; exact sat_range (sm_nonneg (gv_nn h s u))
  · rw [List.getD_eq_getElem?_getD, List.getElem?_eq_none (by rw [nx_length]; omega)]; decide
theorem nx_ext {now next : List Int} {s : Int} {sizes : List Int} {L : Nat} (hl : next.length = L + 1) (h : ∀ u : Nat, u ≤ L → next.getD u 0 = sat (sm (gv now s (u : Int)) sizes)) : next = nx now s sizes L := by
  refine List.ext_getElem (by rw [nx_length, hl]) (fun u h1 h2 => ?_)
  have a := h u (by omega)
  have b := nx_getD now s sizes L u (by omega)
  rw [List.getD_eq_getElem?_getD, List.getElem?_eq_getElem h1] at a
  rw [List.getD_eq_getElem?_getD, List.getElem?_eq_getElem h2] at b
  simp only [Option.getD_some] at a b
  rw [a, b]
theorem getD_set (l : List Int) (v u : Nat) (x : Int) (hv : v < l.length) : (l.set v x).getD u 0 = if u = v then x else l.getD u 0 := by
  rw [List.getD_eq_getElem?_getD, List.getElem?_set]
  by_cases e : v = u
  · subst e; simp [hv]
  · rw [if_neg e, if_neg (fun h => e h.symm), List.getD_eq_getElem?_getD]
theorem getD_rep (n u : Nat) : (List.replicate n (0 : Int)).getD u 0 = 0 := by
  rw [List.getD_eq_getElem?_getD, List.getElem?_replicate]; split <;> rfl
/-- The sizes asked for are whole numbers from 1 to 200. -/
def Sz (s : Int) (sizes : List Int) : Prop := (0 ≤ s ∧ s ≤ 200) ∧ sizes.length ≤ 8 ∧ ∀ n ∈ sizes, 1 ≤ n ∧ n ≤ 200
theorem sz_of {a s : Int} {l : List Int} (h : szB a s l = true) : (1 ≤ a ∧ a ≤ 2000) ∧ Sz s l := by
  unfold szB at h
  rw [Bool.and_eq_true, Bool.and_eq_true, Bool.and_eq_true, inB_iff, inB_iff, inB_iff, List.all_eq_true] at h
  refine ⟨h.1.1, h.1.2, by omega, fun n hn => ?_⟩
  obtain ⟨i, hi, rfl⟩ := List.getElem_of_mem hn
  have := h.2.2 i (by simpa using hi)
  rw [Bool.and_eq_true, inB_iff, List.getD_eq_getElem?_getD, List.getElem?_eq_getElem hi] at this
  exact this.1
theorem sz_at {s : Int} {l : List Int} (h : Sz s l) {j : Nat} (hj : j < l.length) : 1 ≤ l.getD j 0 ∧ l.getD j 0 ≤ 200 := by
  rw [List.getD_eq_getElem?_getD, List.getElem?_eq_getElem hj]; exact h.2.2 _ (List.getElem_mem hj)
def stepS (s : Int) (sizes : List Int) (L : Nat) (_ : Nat) (t : List Int × Int) : List Int × Int := (nx t.1 s sizes L, sat (t.2 + (nx t.1 s sizes L).getD L 0))
def InvS (L : Nat) (_ : Nat) (t : List Int × Int) : Prop := Now t.1 L ∧ 0 ≤ t.2 ∧ t.2 ≤ 1000000000
theorem stepS_inv {s : Int} {sizes : List Int} {L i : Nat} {t : List Int × Int} (h : InvS L i t) : InvS L (i + 1) (stepS s sizes L i t) := by
  have h1 := nx_now h.1 s sizes
  have h2 := h1.2 L
  have h3 := h.2
  exact ⟨h1, sat_range (by show 0 ≤ t.2 + _; omega)⟩
theorem min_sat (x : Int) : spec_l00Min.f x 1000000000 = some (sat x) := by
  unfold spec_l00Min.f sat
  by_cases e : x < 1000000000
  · rw [if_pos e, if_pos e]
  · rw [if_neg e, if_neg e]
theorem mn_sat (x : Int) : mn x 1000000000 = sat x := by
  unfold mn sat
  by_cases e : x < 1000000000
  · rw [if_pos e, if_neg (by omega)]
  · rw [if_neg e]
    by_cases e2 : (1000000000 : Int) < x
    · rw [if_pos e2]
    · rw [if_neg e2]; omega
/-- What the reference's next row holds when the places up to m are told. -/
def PI (now : List Int) (s : Int) (sizes : List Int) (L m : Nat) (next : List Int) : Prop := next.length = L + 1 ∧ ∀ u : Nat, u ≤ L → next.getD u 0 = if u < m + 1 then sat (sm (gv now s (u : Int)) sizes) else 0
/-- And when j sizes have given to the place m + 1. -/
def PJ (now : List Int) (s : Int) (sizes : List Int) (L m j : Nat) (next : List Int) : Prop := next.length = L + 1 ∧ ∀ u : Nat, u ≤ L → next.getD u 0 = if u < m + 1 then sat (sm (gv now s (u : Int)) sizes) else if u = m + 1 then sat (sm (gv now s (u : Int)) (sizes.take j)) else 0
theorem sat0 : sat 0 = 0 := rfl
theorem pi_start {now : List Int} {s : Int} {sizes : List Int} {L : Nat} (hs : Sz s sizes) : PI now s sizes L 0 (List.replicate (L + 1) 0) := by
  refine ⟨by simp, fun u hu => ?_⟩
  rw [getD_rep]
  by_cases e : u < 0 + 1
  · obtain rfl : u = 0 := by omega
    rw [if_pos e, sm_zero (fun n hn => ?_), sat0]
    have := hs.2.2 n hn
    unfold gv; rw [if_neg (by have := hs.1; omega)]
  · rw [if_neg e]
theorem pi_end {now next : List Int} {s : Int} {sizes : List Int} {L : Nat} (h : PI now s sizes L L next) : next = nx now s sizes L :=
  nx_ext h.1 (fun u hu => by rw [h.2 u hu, if_pos (by omega)])
theorem pj_start {now next : List Int} {s : Int} {sizes : List Int} {L m : Nat} (h : PI now s sizes L m next) : PJ now s sizes L m 0 next := by
  refine ⟨h.1, fun u hu => ?_⟩
  rw [h.2 u hu]
  by_cases e : u < m + 1
  · rw [if_pos e, if_pos e]
  · rw [if_neg e, if_neg e, List.take_zero]
    by_cases e2 : u = m + 1
    · rw [if_pos e2]; rfl
    · rw [if_neg e2]
theorem pj_end {now next : List Int} {s : Int} {sizes : List Int} {L m : Nat} (h : PJ now s sizes L m sizes.length next) : PI now s sizes L (m + 1) next := by
  refine ⟨h.1, fun u hu => ?_⟩
  rw [h.2 u hu, List.take_length]
  by_cases e1 : u < m + 1
  · rw [if_pos e1, if_pos (by omega)]
  · by_cases e2 : u = m + 1
    · rw [if_neg e1, if_pos e2, if_pos (by omega)]
    · rw [if_neg e1, if_neg e2, if_neg (by omega)]
theorem pj_at {now next : List Int} {s : Int} {sizes : List Int} {L m j : Nat} (h : PJ now s sizes L m j next) (hm : m + 1 ≤ L) : next.getD (m + 1) 0 = sat (sm (gv now s ((m + 1 : Nat) : Int)) (sizes.take j)) := by
  rw [h.2 (m + 1) hm, if_neg (by omega), if_pos rfl]
theorem pj_skip {now next : List Int} {s : Int} {sizes : List Int} {L m j : Nat} (h : PJ now s sizes L m j next) (hj : j < sizes.length) (e : ¬ 0 ≤ ((m + 1 : Nat) : Int) - sizes.getD j 0 - s) : PJ now s sizes L m (j + 1) next := by
  refine ⟨h.1, fun u hu => ?_⟩
  rw [h.2 u hu]
  by_cases e1 : u = m + 1
  · subst e1
    have : gv now s ((m + 1 : Nat) : Int) (sizes.getD j 0) = 0 := by unfold gv; rw [if_neg e]
    have nn : ¬ (m + 1 < m + 1) := by omega
    rw [if_neg nn, if_neg nn, if_pos rfl, if_pos rfl, take_snoc sizes j hj, sm_snoc, this, Int.add_zero]
  · rw [if_neg e1, if_neg e1]
theorem pj_set {now next : List Int} {s : Int} {sizes : List Int} {L m j : Nat} (h : PJ now s sizes L m j next) (hm : m + 1 ≤ L) (hn : Now now L) (hj : j < sizes.length) {q : Nat} (e : ((m + 1 : Nat) : Int) - sizes.getD j 0 - s = (q : Int)) :
    PJ now s sizes L m (j + 1) (next.set (m + 1) (sat (next.getD (m + 1) 0 + now.getD q 0))) := by
  have hg : gv now s ((m + 1 : Nat) : Int) (sizes.getD j 0) = now.getD q 0 := by
    unfold gv; rw [if_pos (by omega), e, Int.toNat_natCast]
  refine ⟨by simpa using h.1, fun u hu => ?_⟩
  rw [getD_set _ _ _ _ (by rw [h.1]; omega)]
  by_cases e1 : u = m + 1
  · subst e1
    rw [if_pos rfl, if_neg (by omega), if_pos rfl, pj_at h hm, take_snoc sizes j hj, sm_snoc, hg, sat_sat (hn.2 q).1]
  · rw [if_neg e1, h.2 u hu, if_neg e1, if_neg e1]
theorem pj_range {now next : List Int} {s : Int} {sizes : List Int} {L m j : Nat} (h : PJ now s sizes L m j next) (hm : m + 1 ≤ L) (hn : Now now L) : 0 ≤ next.getD (m + 1) 0 ∧ next.getD (m + 1) 0 ≤ 1000000000 := by
  rw [pj_at h hm]; exact sat_range (sm_nonneg (gv_nn hn s _))
/-- The reference: the sizes give to the place m + 1. -/
theorem specInner {s : Int} {sizes : List Int} {L : Nat} (h1 : 0 ≤ s ∧ s ≤ 200) (h8 : sizes.length ≤ 8) (hz : ∀ j, j < sizes.length → 1 ≤ sizes.getD j 0 ∧ sizes.getD j 0 ≤ 200) (hL : L ≤ 3000) (now : List Int) (hn : Now now L) (sum : Int) (i : Nat) (r : Int × Int) (m : Nat) (hm : m + 1 ≤ L) (next : List Int) (hI : PI now s sizes L m next)
    (hr : ∀ next', PI now s sizes L (m + 1) next' → Ev (fun k => spec_CountRows.l1 k s sizes (L : Int) now sum (i : Int) next' ((m + 1 + 1 : Nat) : Int)) r) :
    Ev (fun k => spec_CountRows.l2 k s sizes (L : Int) now sum (i : Int) next ((m + 1 : Nat) : Int) 0) r := by
  refine inv_cps0 sizes.length (fun k next j => spec_CountRows.l2 k s sizes (L : Int) now sum (i : Int) next ((m + 1 : Nat) : Int) j) r (fun j next => PJ now s sizes L m j next) next (pj_start hI) (fun next j hj hJ hk => ?_) (fun next hJ => ?_)
  · have hsz := hz j hj
    have hb := w64 (x := (j : Int) + 1) (by omega) (by omega)
    have hln := hJ.1
    have hlm := hn.1
    refine Ev.step (fun k => by rw [spec_CountRows.l2]) ?_
    rw [rdI sizes, hb, w64 (x := ((m + 1 : Nat) : Int) - sizes.getD j 0) (by omega) (by omega), w64 (x := ((m + 1 : Nat) : Int) - sizes.getD j 0 - s) (by omega) (by omega)]
    refine Ev.pos (by omega) (Ev.pos (by omega) ?_)
    refine Ev.ite (fun e => ?_) (fun e => hk next (pj_skip hJ hj e))
    obtain ⟨q, hq⟩ : ∃ q : Nat, ((m + 1 : Nat) : Int) - sizes.getD j 0 - s = (q : Int) := ⟨(((m + 1 : Nat) : Int) - sizes.getD j 0 - s).toNat, by omega⟩
    have hset := hk _ (pj_set hJ hm hn hj hq)
    have hrg := pj_range hJ hm hn
    have hnq := hn.2 q
    rw [hq]
    refine Ev.pos (by omega) (Ev.pos (by omega) (Ev.pos (by omega) (Ev.pos (by omega) ?_)))
    rw [rdI next, rdI now, w64 (by omega) (by omega)]
    refine Ev.nobind (min_sat _) ?_
    rw [Int.toNat_natCast]
    exact hset
  · have := hr next (pj_end hJ)
    refine Ev.step (fun k => by rw [spec_CountRows.l2]) ?_
    rw [w64 (x := ((m + 1 : Nat) : Int) + 1) (by omega) (by omega)]
    exact Ev.neg (by omega) this
/-- The reference: each place gathers. -/
theorem specRound {s : Int} {sizes : List Int} {L : Nat} (hs : Sz s sizes) (hL : L ≤ 3000) (t : List Int × Int) (i : Nat) (hi : i < 60) (ht : InvS L i t) (r : Int × Int)
    (hr : Ev (fun k => spec_CountRows.l0 k s sizes (L : Int) (stepS s sizes L i t).1 (stepS s sizes L i t).2 ((i + 1 : Nat) : Int)) r) :
    Ev (fun k => spec_CountRows.l0 k s sizes (L : Int) t.1 t.2 (i : Int)) r := by
  obtain ⟨now, sum⟩ := t
  have hn : Now now L := ht.1
  have hsum : 0 ≤ sum ∧ sum ≤ 1000000000 := ht.2
  have key : ∀ (d m : Nat) (next : List Int), m + d = L → PI now s sizes L m next → Ev (fun k => spec_CountRows.l1 k s sizes (L : Int) now sum (i : Int) next ((m + 1 : Nat) : Int)) r := by
    intro d
    induction d with
    | zero =>
      intro m next hm hI
      obtain rfl : m = L := by omega
      have e := pi_end hI
      have hln := hI.1
      have h2 := (nx_now hn s sizes).2 m
      refine Ev.step (fun k => by rw [spec_CountRows.l1]) ?_
      rw [w64 (x := (i : Int) + 1) (by omega) (by omega)]
      refine Ev.neg (by omega) (Ev.pos (by omega) (Ev.pos (by omega) ?_))
      rw [rdI, e, w64 (by omega) (by omega)]
      exact Ev.nobind (min_sat _) hr
    | succ d ih =>
      intro m next hm hI
      refine Ev.step (fun k => by rw [spec_CountRows.l1]) ?_
      refine Ev.pos (by omega) ?_
      exact specInner hs.1 hs.2.1 (fun j hj => sz_at hs hj) hL now hn sum i r m (by omega) next hI (fun next' h' => ih (m + 1) next' (by omega) h')
  have k0 := key L 0 _ (by omega) (pi_start hs)
  refine Ev.step (fun k => by rw [spec_CountRows.l0]) ?_
  rw [w64 (x := (L : Int) + 1) (by omega) (by omega), show ((L : Int) + 1).toNat = L + 1 by omega]
  exact Ev.pos (by omega) (Ev.pos (by omega) (Ev.pos (by omega) k0))
/-- What the program's next row holds when the places below m have given. -/
def QI (now : List Int) (s : Int) (sizes : List Int) (L m : Nat) (next : List Int) : Prop := next.length = L + 1 ∧ ∀ u : Nat, u ≤ L → next.getD u 0 = sat (sm (gvB now s (m : Int) (u : Int)) sizes)
/-- And when the place m has given by j sizes. -/
def QJ (now : List Int) (s : Int) (sizes : List Int) (L m j : Nat) (next : List Int) : Prop := next.length = L + 1 ∧ ∀ u : Nat, u ≤ L → next.getD u 0 = sat (sm (gvB now s (m : Int) (u : Int)) sizes + sm (gvE now s (m : Int) (u : Int)) (sizes.take j))
theorem qi_start {now : List Int} {s : Int} {sizes : List Int} {L : Nat} : QI now s sizes L 0 (List.replicate (L + 1) 0) := by
  refine ⟨by simp, fun u hu => ?_⟩
  rw [getD_rep, sm_zero (fun n hn => by unfold gvB; rw [if_neg (by omega)]), sat0]
theorem qi_end {now next : List Int} {s : Int} {sizes : List Int} {L : Nat} (hs : Sz s sizes) (h : QI now s sizes L (L + 1) next) : next = nx now s sizes L :=
  nx_ext h.1 (fun u hu => by
    rw [h.2 u hu]; congr 1
    refine sm_congr (fun n hn' => ?_)
    have h2 := hs.2.2 n hn'
    have h3 := hs.1
    unfold gvB gv
    by_cases x1 : 0 ≤ (u : Int) - n - s
    · rw [if_pos (by omega), if_pos x1]
    · rw [if_neg (by omega), if_neg x1])
theorem qj_start {now next : List Int} {s : Int} {sizes : List Int} {L m : Nat} (h : QI now s sizes L m next) : QJ now s sizes L m 0 next := by
  refine ⟨h.1, fun u hu => ?_⟩
  rw [h.2 u hu, List.take_zero, sm, Int.add_zero]
theorem qj_end {now next : List Int} {s : Int} {sizes : List Int} {L m : Nat} (h : QJ now s sizes L m sizes.length next) : QI now s sizes L (m + 1) next := by
  refine ⟨h.1, fun u hu => ?_⟩
  rw [h.2 u hu, List.take_length]
  congr 1
  refine (sm_add (fun n hn' => ?_)).symm
  unfold gvB gvE
  by_cases x1 : (u : Int) - n - s = (m : Int)
  · rw [if_pos (by omega), if_neg (by omega), if_pos x1, x1]; omega
  · by_cases x2 : 0 ≤ (u : Int) - n - s ∧ (u : Int) - n - s < (m : Int)
    · rw [if_pos (by omega), if_pos x2, if_neg x1]; omega
    · rw [if_neg (by omega), if_neg x2, if_neg x1]; rfl
theorem qj_skip {now next : List Int} {s : Int} {sizes : List Int} {L m j : Nat} (h : QJ now s sizes L m j next) (hj : j < sizes.length) (hz : now.getD m 0 = 0 ∨ (L : Int) < (m : Int) + sizes.getD j 0 + s) : QJ now s sizes L m (j + 1) next := by
  refine ⟨h.1, fun u hu => ?_⟩
  have : gvE now s (m : Int) (u : Int) (sizes.getD j 0) = 0 := by
    unfold gvE
    by_cases e : (u : Int) - sizes.getD j 0 - s = (m : Int)
    · rw [if_pos e, Int.toNat_natCast]; omega
    · rw [if_neg e]
  rw [take_snoc sizes j hj, sm_snoc, this, Int.add_zero]; exact h.2 u hu
theorem qj_set {now next : List Int} {s : Int} {sizes : List Int} {L m j : Nat} (h : QJ now s sizes L m j next) (hn : Now now L) (hj : j < sizes.length) {q : Nat} (hq : q ≤ L) (e : (m : Int) + sizes.getD j 0 + s = (q : Int)) :
    QJ now s sizes L m (j + 1) (next.set q (sat (next.getD q 0 + now.getD m 0))) := by
  refine ⟨by simpa using h.1, fun u hu => ?_⟩
  rw [getD_set _ _ _ _ (by rw [h.1]; omega), take_snoc sizes j hj, sm_snoc]
  by_cases e2 : u = q
  · subst e2
    have : gvE now s (m : Int) (u : Int) (sizes.getD j 0) = now.getD m 0 := by
      unfold gvE; rw [if_pos (by omega), Int.toNat_natCast]
    rw [if_pos rfl, this, ← Int.add_assoc, h.2 u hu, sat_sat (hn.2 m).1]
  · have : gvE now s (m : Int) (u : Int) (sizes.getD j 0) = 0 := by
      unfold gvE; rw [if_neg (by omega)]
    rw [if_neg e2, this, Int.add_zero]; exact h.2 u hu
theorem qj_range {now next : List Int} {s : Int} {sizes : List Int} {L m j : Nat} (h : QJ now s sizes L m j next) (hn : Now now L) {q : Nat} (hq : q ≤ L) : 0 ≤ next.getD q 0 ∧ next.getD q 0 ≤ 1000000000 := by
  have p1 := sm_nonneg (l := sizes) (gvB_nn hn s (m : Int) (q : Int))
  have p2 := sm_nonneg (l := sizes.take j) (gvE_nn hn s (m : Int) (q : Int))
  rw [h.2 q hq]; exact sat_range (by omega)
/-- The program: the place m gives by each size. -/
theorem implInner {s : Int} {sizes : List Int} {L : Nat} (h1 : 0 ≤ s ∧ s ≤ 200) (h8 : sizes.length ≤ 8) (hz : ∀ j, j < sizes.length → 1 ≤ sizes.getD j 0 ∧ sizes.getD j 0 ≤ 200) (hL : L ≤ 3000) (now : List Int) (hn : Now now L) (sum : Int) (i : Nat) (r : Int × Int) (m : Nat) (hm : m ≤ L) (next : List Int) (hI : QI now s sizes L m next)
    (hr : ∀ next', QI now s sizes L (m + 1) next' → Ev (fun k => impl_CountRows.l1 k s sizes (L : Int) sum next' (i : Int) now (now.length : Int) ((m + 1 : Nat) : Int)) r) :
    Ev (fun k => impl_CountRows.l2 k s sizes (L : Int) sum next (m : Int) (now.getD m 0) (i : Int) now (now.length : Int) (m : Int) sizes (sizes.length : Int) 0) r := by
  refine inv_cps0 sizes.length (fun k next j => impl_CountRows.l2 k s sizes (L : Int) sum next (m : Int) (now.getD m 0) (i : Int) now (now.length : Int) (m : Int) sizes (sizes.length : Int) j) r (fun j next => QJ now s sizes L m j next) next (qj_start hI) (fun next j hj hJ hk => ?_) (fun next hJ => ?_)
  · have hsz := hz j hj
    have hb := w64 (x := (j : Int) + 1) (by omega) (by omega)
    have hln := hJ.1
    have hc := hn.2 m
    refine Ev.step (fun k => by rw [impl_CountRows.l2]) ?_
    rw [rdI sizes, hb, w64 (x := (m : Int) + sizes.getD j 0) (by omega) (by omega), w64 (x := (m : Int) + sizes.getD j 0 + s) (by omega) (by omega)]
    refine Ev.pos (by omega) (Ev.pos (by omega) (Ev.pos (by omega) ?_))
    refine Ev.ite (fun e0 => Ev.ite (fun e1 => ?_) (fun e1 => hk next (qj_skip hJ hj (.inr (by omega))))) (fun e0 => hk next (qj_skip hJ hj (.inl (by omega))))
    obtain ⟨q, hq⟩ : ∃ q : Nat, (m : Int) + sizes.getD j 0 + s = (q : Int) := ⟨((m : Int) + sizes.getD j 0 + s).toNat, by omega⟩
    have hqL : q ≤ L := by omega
    have hset := hk _ (qj_set hJ hn hj hqL hq)
    have hrg := qj_range hJ hn hqL
    rw [hq]
    refine Ev.pos (by omega) (Ev.pos (by omega) ?_)
    rw [rdI next, w64 (by omega) (by omega), mn_sat, Int.toNat_natCast]
    exact hset
  · have := hr next (qj_end hJ)
    refine Ev.step (fun k => by rw [impl_CountRows.l2]) ?_
    rw [w64 (x := (m : Int) + 1) (by omega) (by omega)]
    exact Ev.neg (by omega) this
/-- The program: each place gives. -/
theorem implRound {s : Int} {sizes : List Int} {L : Nat} (hs : Sz s sizes) (hL : L ≤ 3000) (t : List Int × Int) (i : Nat) (hi : i < 60) (ht : InvS L i t) (r : Int × Int)
    (hr : Ev (fun k => impl_CountRows.l0 k s sizes (L : Int) (stepS s sizes L i t).2 (stepS s sizes L i t).1 ((i + 1 : Nat) : Int)) r) :
    Ev (fun k => impl_CountRows.l0 k s sizes (L : Int) t.2 t.1 (i : Int)) r := by
  obtain ⟨now, sum⟩ := t
  have hn : Now now L := ht.1
  have hsum : 0 ≤ sum ∧ sum ≤ 1000000000 := ht.2
  have hln := hn.1
  have k0 : Ev (fun k => impl_CountRows.l1 k s sizes (L : Int) sum (List.replicate (L + 1) 0) (i : Int) now (now.length : Int) 0) r := by
    refine inv_cps0 now.length (fun k next m => impl_CountRows.l1 k s sizes (L : Int) sum next (i : Int) now (now.length : Int) m) r (fun m next => QI now s sizes L m next) _ qi_start (fun next m hm hI hk => ?_) (fun next hI => ?_)
    · refine Ev.step (fun k => by rw [impl_CountRows.l1]) ?_
      rw [rdI]
      refine Ev.pos (by omega) (Ev.pos (by omega) (Ev.pos (by omega) ?_))
      exact implInner hs.1 hs.2.1 (fun j hj => sz_at hs hj) hL now hn sum i r m (by omega) next hI hk
    · rw [hln] at hI
      have e := qi_end hs hI
      have hl2 := hI.1
      have h2 := (nx_now hn s sizes).2 L
      refine Ev.step (fun k => by rw [impl_CountRows.l1]) ?_
      rw [w64 (x := (i : Int) + 1) (by omega) (by omega)]
      refine Ev.neg (by omega) (Ev.pos (by omega) (Ev.pos (by omega) ?_))
      rw [rdI, e, w64 (by omega) (by omega), mn_sat]
      exact hr
  refine Ev.step (fun k => by rw [impl_CountRows.l0]) ?_
  rw [w64 (x := (L : Int) + 1) (by omega) (by omega), show ((L : Int) + 1).toNat = L + 1 by omega]
  exact Ev.pos (by omega) (Ev.pos (by omega) (Ev.pos (by omega) k0))
def start (L : Nat) : List Int := (List.replicate (L + 1) (0 : Int)).set 0 1
theorem start_now (L : Nat) : Now (start L) L := by
  refine ⟨by simp [start], fun u => ?_⟩
  unfold start
  rw [getD_set _ _ _ _ (by simp), getD_rep]; split <;> omega
def res (a s : Int) (sizes : List Int) : Int × Int := if szB a s sizes then ((iter (stepS s sizes (a + s).toNat) 60 0 (start (a + s).toNat, 0)).2, 0) else (0, 2)
theorem specRes (a s : Int) (sizes : List Int) : Ev (fun k => spec_CountRows.f k a s sizes) (res a s sizes) := by
  unfold spec_CountRows.f res
  refine Ev.bind (specSizes a s sizes) ?_
  cases e : szB a s sizes with
  | false => exact Ev.neg (by simp) (Ev.fin rfl)
  | true =>
    obtain ⟨ha, hs⟩ := sz_of e
    have h1 := hs.1
    obtain ⟨L, hL⟩ : ∃ L : Nat, a + s = (L : Int) := ⟨(a + s).toNat, by omega⟩
    refine Ev.pos rfl ?_
    rw [w64 (x := a + s) (by omega) (by omega), w64 (x := a + s + 1) (by omega) (by omega), hL, show ((L : Int) + 1).toNat = L + 1 by omega]
    refine Ev.pos (by omega) (Ev.pos (by omega) (Ev.nobind rfl (Ev.pos (by simp) ?_)))
    rw [Int.toNat_natCast]
    refine iter_cps0 60 (stepS s sizes L) (fun k t i => spec_CountRows.l0 k s sizes (L : Int) t.1 t.2 i) _ (InvS L) (start L, 0) ⟨start_now L, by simp⟩ (fun t i _ h => stepS_inv h) (fun t i hi h hr => specRound hs (by omega) t i hi h _ hr) (fun _ => ?_)
    refine Ev.step (fun k => by rw [spec_CountRows.l0]) ?_
    exact Ev.neg (by omega) (Ev.fin rfl)
theorem implRes (a s : Int) (sizes : List Int) (hl : sizes.length ≤ 1048576) : Ev (fun k => impl_CountRows.f k a s sizes) (res a s sizes) := by
  unfold impl_CountRows.f res
  refine Ev.bind (implSizes a s sizes hl) ?_
  cases e : szB a s sizes with
  | false => exact Ev.neg (by simp) (Ev.fin rfl)
  | true =>
    obtain ⟨ha, hs⟩ := sz_of e
    have h1 := hs.1
    obtain ⟨L, hL⟩ : ∃ L : Nat, a + s = (L : Int) := ⟨(a + s).toNat, by omega⟩
    refine Ev.pos rfl ?_
    rw [w64 (x := a + s) (by omega) (by omega), w64 (x := a + s + 1) (by omega) (by omega), hL, show ((L : Int) + 1).toNat = L + 1 by omega]
    refine Ev.pos (by omega) (Ev.pos (by omega) (Ev.nobind rfl (Ev.pos (by simp) ?_)))
    rw [Int.toNat_natCast]
    refine iter_cps0 60 (stepS s sizes L) (fun k t i => impl_CountRows.l0 k s sizes (L : Int) t.2 t.1 i) _ (InvS L) (start L, 0) ⟨start_now L, by simp⟩ (fun t i _ h => stepS_inv h) (fun t i hi h hr => implRound hs (by omega) t i hi h _ hr) (fun _ => ?_)
    refine Ev.step (fun k => by rw [impl_CountRows.l0]) ?_
    exact Ev.neg (by omega) (Ev.fin rfl)
theorem FnExactCountRows : laws_FnExactCountRows.Pure := by
  intro a0 a1 l2 w0 w1 m2 y2 w2
  refine Ev.rounds (g := fun k => laws_FnExactCountRows.f k a0 a1 l2) ?_
  unfold laws_FnExactCountRows.f
  refine Ev.ite (fun _ => Ev.fin rfl) (fun h0 => ?_)
  have t0 := toInts l2 (by omega)
  refine Ev.bind t0 (Ev.bind (specRes a0 a1 l2) (Ev.bind t0 (Ev.bind (implRes a0 a1 l2 (by omega)) (Ev.pos rfl ?_))))
  refine Ev.step (fun k => by rw [laws_FnExactCountRows.j0]) ?_
  exact Ev.neg (by simp) (Ev.bind t0 (Ev.bind (eqInts l2 l2 (by omega)) (Ev.pos (by simp) (Ev.fin rfl))))

end Go.Proofs.Ythgdpieoodohcaa.Pure
