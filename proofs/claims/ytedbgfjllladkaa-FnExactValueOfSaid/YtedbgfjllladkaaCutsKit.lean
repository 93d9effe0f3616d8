/- Cuts of a plate: what the reference's and the program's sizes come to is the same; the laws' own functions over lists of cuts. -/
import Derived.Test.YtedbgfjllladkaaKindsKit
import Derived.Test.YtedbgfjllladkaaPAxf56d
import Derived.Test.YtedbgfjllladkaaPAxf58d
import Derived.Test.YtedbgfjllladkaaPAxgCut
namespace Go.Proofs.Ytedbgfjllladkaa.CutsKit
set_option linter.unusedSimpArgs false
set_option linter.unusedVariables false
open Go.RowKit Go.Proofs.Ytedbgfjllladkaa.PA Go.Proofs.Ytedbgfjllladkaa.Base Go.Proofs.Ytedbgfjllladkaa.KindsKit Go.Proofs.YtedbgfjllladkaaW.PrintWords Go.Proofs.YtedbgfjllladkaaW.PrintLast Go.Proofs.YtedbgfjllladkaaW.PrintMore

theorem rdC (xs : List S75) (i : Nat) (h : i < xs.length) : rd_T75 xs (i : Int) = xs[i] := getD_nat xs z75 i h
theorem rdD (xs : List S77) (i : Nat) (h : i < xs.length) : rd_T77 xs (i : Int) = xs[i] := getD_nat xs z77 i h
theorem rdZ (xs : List S79) (i : Nat) (h : i < xs.length) : rd_T79 xs (i : Int) = xs[i] := getD_nat xs z79 i h
theorem rdZself (xs : List S79) (i : Nat) (x : S79) (h : i < xs.length) : rd_T79 (xs.set i x) (i : Int) = x := by
  rw [rdZ _ _ (by simpa using h)]; simp
theorem rdZset (xs : List S79) (i j : Nat) (x : S79) (h : i ≠ j) : rd_T79 (xs.set i x) (j : Int) = rd_T79 xs (j : Int) := by
  simp [rd_T79, List.getD_eq_getElem?_getD, List.getElem?_set_ne h]
def convC (c : S77) : S75 := ⟨c.f0, c.f1, c.f2, c.f3⟩
theorem szCuts (l : List S77) (m : Int) (h0 : 0 ≤ m) (h1 : m ≤ 1048576) (hl : l.length ≤ maxLen) : laws_szCutS.f l m = some (if m - (l.length : Int) < 0 then (-1 : Int) else m - (l.length : Int)) := by
  have hM : maxLen ≤ 9223372036854775807 := by decide
  have hl2 := Nat.le_trans hl hM
  unfold laws_szCutS.f
  rw [w64 (by omega) (by omega)]
  split <;> rfl
theorem toCuts (l : List S77) (h : l.length ≤ 1048576) : Ev (fun k => laws_toCutS.f k l) (l.map convC) := by
  unfold laws_toCutS.f
  refine Ev.pos (by omega) (Ev.pos (by omega) ?_)
  refine copy_ev0 l convC z75 (fun k x i => laws_toCutS.l0 k l x i) (fun x3 i hi r h3 hr => ?_) (fun x3 => ?_)
  · refine Ev.step (fun k => by rw [laws_toCutS.l0]) (Ev.pos (by omega) (Ev.pos (by omega) ?_))
    refine Ev.nobind rfl (Ev.pos (by omega) ?_)
    rw [rdD l i hi, w64 (x := (i : Int) + 1) (by omega) (by omega)]
    exact hr
  · refine Ev.step (fun k => by rw [laws_toCutS.l0]) ?_
    exact Ev.neg (by omega) (Ev.fin rfl)
theorem eqCuts (l : List S75) (h : l.length ≤ 1048576) : Ev (fun k => laws_eqCutS.f k l l) true := by
  unfold laws_eqCutS.f
  refine Ev.pos rfl ?_
  refine Ev.to (rangeAll_ev0 (fun k i => laws_eqCutS.l0 k l l i) l.length (fun _ => true) true false ?_ ?_ ?_) (by simp)
  · intro i hi _ r' hr
    refine Ev.step (fun k => by rw [laws_eqCutS.l0]) (Ev.pos (by omega) (Ev.pos (by omega) (Ev.pos (by omega) ?_)))
    refine Ev.nobind (a := true) (by simp [laws_eqCut.f]) (Ev.pos rfl ?_)
    rw [w64 (x := (i : Int) + 1) (by omega) (by omega)]; exact hr
  · intro i hi h'; cases h'
  · intro _
    refine Ev.step (fun k => by rw [laws_eqCutS.l0]) ?_
    exact Ev.neg (by omega) (Ev.fin rfl)

/-! ### sizes -/
def B8 (n : Int) : Prop := -128 ≤ n ∧ n ≤ 127
def okC (c : S75) : Prop := B8 c.f0 ∧ B8 c.f1 ∧ B8 c.f2 ∧ B8 c.f3
/-- An entry that no cut has made yet, or one that lies within the plate. -/
def okZ (x : S79) : Prop := (x.f0 = 0 ∧ x.f1 = 0) ∨ ((1 ≤ x.f0 ∧ x.f0 ≤ 24) ∧ 1 ≤ x.f1 ∧ x.f1 ≤ 24)
def nz (x : S79) : Bool := decide (x.f0 ≠ 0)
def told (s : List S79) : List Bool := s.map nz
theorem told_length (s : List S79) : (told s).length = s.length := by simp [told]
theorem rdTold (s : List S79) (i : Nat) (h : i < s.length) : rdOf false (told s) (i : Int) = nz (rd_T79 s (i : Int)) := by
  rw [rdZ s i h]; simp [rdOf, told, List.getD_eq_getElem?_getD, h]
theorem okZ_set (s : List S79) (i : Nat) (x : S79) (h : ∀ y ∈ s, okZ y) (hx : okZ x) : ∀ y ∈ s.set i x, okZ y := by
  intro y hy
  rcases List.mem_or_eq_of_mem_set hy with h' | h'
  · exact h y h'
  · rw [h']; exact hx
/-- What a cut leaves. -/
theorem two_sets (s : List S79) (a b : Nat) (own xa xb : S79) (h : a ≠ b) : ((((s.set a own).set b own).set a xa).set b xb) = (s.set a xa).set b xb := by
  rw [List.set_comm own own h, List.set_set, List.set_comm own xa h.symm, List.set_set]
theorem told_sets (s : List S79) (a b : Nat) (xa xb : S79) (ha : nz xa = true) (hb : nz xb = true) : (((told s).set a true).set b true) = told ((s.set a xa).set b xb) := by
  unfold told
  rw [List.map_set, List.map_set, ha, hb]

/-- A piece that is cut is one of the kinds. -/
def pok (ks : List S57) (c : S75) : Prop := c.f0 = 1 → 0 ≤ c.f2 ∧ c.f2 < (ks.length : Int)
/-- What is known of an answer that is no refusal, of the cuts from i on. -/
def okR (ks : List S57) (l : List S75) (i : Nat) (r : List S79 × Bool) : Prop := r.2 = true → r.1.length = l.length ∧ (∀ x ∈ r.1, okZ x) ∧ ∀ (j : Nat) (h : j < l.length), i ≤ j → pok ks l[j]
theorem okR_no (ks : List S57) (l : List S75) (i : Nat) : okR ks l i ([], false) := fun h => by cases h
theorem okR_up {ks : List S57} {l : List S75} {i : Nat} {r : List S79 × Bool} (hi : i < l.length) (hp : pok ks l[i]) (h : okR ks l (i + 1) r) : okR ks l i r := fun hr => by
  obtain ⟨h1, h2, h3⟩ := h hr
  refine ⟨h1, h2, fun j hj hij => ?_⟩
  by_cases e : i = j
  · subst e; exact hp
  · exact h3 j hj (by omega)
def given (s : List S79) (i a b : Int) : Prop := (i < a ∧ a < (s.length : Int)) ∧ (i < b ∧ b < (s.length : Int)) ∧ a ≠ b ∧ (rd_T79 s a).f0 = 0 ∧ (rd_T79 s b).f0 = 0
instance (s : List S79) (i a b : Int) : Decidable (given s i a b) := by unfold given; exact inferInstance
theorem specGiven (s : List S79) (i : Nat) (x y a b : Int) (hs : s.length ≤ 60) (hi : i < 60) (ha : B8 a) (hb : B8 b) : spec_l04Given.f s (i : Int) x y a b = some (decide (given s i a b)) := by
  obtain ⟨ha1, ha2⟩ := ha
  obtain ⟨hb1, hb2⟩ := hb
  unfold spec_l04Given.f
  rw [specIn, specIn, w64 (x := a) (by omega) (by omega), w64 (x := b) (by omega) (by omega), w64 (x := (i : Int) + 1) (by omega) (by omega), w64 (x := (s.length : Int) - 1) (by omega) (by omega), Option.bind_some]
  by_cases h1 : (i : Int) < a ∧ a < (s.length : Int)
  · have e1 : inB a ((i : Int) + 1) ((s.length : Int) - 1) = true := inB_iff.2 ⟨by omega, by omega⟩
    rw [e1, if_pos rfl, Option.bind_some]
    by_cases h2 : (i : Int) < b ∧ b < (s.length : Int)
    · have e2 : inB b ((i : Int) + 1) ((s.length : Int) - 1) = true := inB_iff.2 ⟨by omega, by omega⟩
      rw [e2, if_pos rfl]
      by_cases h3 : a = b
      · rw [if_pos h3, decide_eq_false (fun h => h.2.2.1 h3)]
      · rw [if_neg h3, if_pos (by omega), if_pos (by omega)]
        by_cases h4 : (rd_T79 s a).f0 = 0
        · rw [if_pos h4, if_pos (by omega), if_pos (by omega)]
          congr 1
          by_cases h5 : (rd_T79 s b).f0 = 0
          · rw [decide_eq_true (show given s i a b from ⟨h1, h2, h3, h4, h5⟩)]; simpa using h5
          · rw [decide_eq_false (fun h => h5 h.2.2.2.2)]; simpa using h5
        · rw [if_neg h4, decide_eq_false (fun h => h4 h.2.2.2.1)]
    · have e2 : inB b ((i : Int) + 1) ((s.length : Int) - 1) = false := by
        rw [Bool.eq_false_iff]; intro h; have := inB_iff.1 h; omega
      rw [e2, if_neg (by decide), decide_eq_false (fun h => h2 h.2.1)]
  · have e1 : inB a ((i : Int) + 1) ((s.length : Int) - 1) = false := by
      rw [Bool.eq_false_iff]; intro h; have := inB_iff.1 h; omega
    rw [e1, if_neg (by decide), decide_eq_false (fun h => h1 h.1)]

theorem specL0 (s : List S79) (a b : Nat) (p q t u : Int) (la : a < s.length) (lb : b < s.length) :
    ((((s.set ((a : Int)).toNat (⟨p, q⟩ : S79)).set ((a : Int)).toNat (⟨t, (rd_T79 (s.set ((a : Int)).toNat (⟨p, q⟩ : S79)) (a : Int)).f1⟩ : S79)).set ((b : Int)).toNat (⟨p, q⟩ : S79)).set ((b : Int)).toNat (⟨u, (rd_T79 (((s.set ((a : Int)).toNat (⟨p, q⟩ : S79)).set ((a : Int)).toNat (⟨t, (rd_T79 (s.set ((a : Int)).toNat (⟨p, q⟩ : S79)) (a : Int)).f1⟩ : S79)).set ((b : Int)).toNat (⟨p, q⟩ : S79)) (b : Int)).f1⟩ : S79)) = (s.set a (⟨t, q⟩ : S79)).set b (⟨u, q⟩ : S79) := by
  simp only [Int.toNat_natCast]
  rw [rdZself s a _ la, rdZself _ b _ (by simpa using lb), List.set_set, List.set_set]
theorem implL0 (s : List S79) (a b : Nat) (hab : a ≠ b) (p q t : Int) (la : a < s.length) (lb : b < s.length) :
    ((((s.set ((a : Int)).toNat (⟨p, q⟩ : S79)).set ((b : Int)).toNat (⟨p, q⟩ : S79)).set ((a : Int)).toNat (⟨t, (rd_T79 ((s.set ((a : Int)).toNat (⟨p, q⟩ : S79)).set ((b : Int)).toNat (⟨p, q⟩ : S79)) (a : Int)).f1⟩ : S79)).set ((b : Int)).toNat (⟨wrap64 ((rd_T79 (((s.set ((a : Int)).toNat (⟨p, q⟩ : S79)).set ((b : Int)).toNat (⟨p, q⟩ : S79)).set ((a : Int)).toNat (⟨t, (rd_T79 ((s.set ((a : Int)).toNat (⟨p, q⟩ : S79)).set ((b : Int)).toNat (⟨p, q⟩ : S79)) (a : Int)).f1⟩ : S79)) (b : Int)).f0 - t), (rd_T79 (((s.set ((a : Int)).toNat (⟨p, q⟩ : S79)).set ((b : Int)).toNat (⟨p, q⟩ : S79)).set ((a : Int)).toNat (⟨t, (rd_T79 ((s.set ((a : Int)).toNat (⟨p, q⟩ : S79)).set ((b : Int)).toNat (⟨p, q⟩ : S79)) (a : Int)).f1⟩ : S79)) (b : Int)).f1⟩ : S79)) = (s.set a (⟨t, q⟩ : S79)).set b (⟨wrap64 (p - t), q⟩ : S79) := by
  simp only [Int.toNat_natCast]
  have e1 : ∀ x y : S79, rd_T79 ((s.set a x).set b y) (a : Int) = x := fun x y => by rw [rdZset _ b a _ hab.symm, rdZself s a _ la]
  have e2 : ∀ x y z : S79, rd_T79 (((s.set a x).set b y).set a z) (b : Int) = y := fun x y z => by rw [rdZset _ a b _ hab, rdZself _ b _ (by simpa using lb)]
  rw [e1, e2, two_sets s a b _ _ _ hab]
theorem specL1 (s : List S79) (a b : Nat) (p q t u : Int) (la : a < s.length) (lb : b < s.length) :
    ((((s.set ((a : Int)).toNat (⟨p, q⟩ : S79)).set ((a : Int)).toNat (⟨(rd_T79 (s.set ((a : Int)).toNat (⟨p, q⟩ : S79)) (a : Int)).f0, t⟩ : S79)).set ((b : Int)).toNat (⟨p, q⟩ : S79)).set ((b : Int)).toNat (⟨(rd_T79 (((s.set ((a : Int)).toNat (⟨p, q⟩ : S79)).set ((a : Int)).toNat (⟨(rd_T79 (s.set ((a : Int)).toNat (⟨p, q⟩ : S79)) (a : Int)).f0, t⟩ : S79)).set ((b : Int)).toNat (⟨p, q⟩ : S79)) (b : Int)).f0, u⟩ : S79)) = (s.set a (⟨p, t⟩ : S79)).set b (⟨p, u⟩ : S79) := by
  simp only [Int.toNat_natCast]
  rw [rdZself s a _ la, rdZself _ b _ (by simpa using lb), List.set_set, List.set_set]
theorem implL1 (s : List S79) (a b : Nat) (hab : a ≠ b) (p q t : Int) (la : a < s.length) (lb : b < s.length) :
    ((((s.set ((a : Int)).toNat (⟨p, q⟩ : S79)).set ((b : Int)).toNat (⟨p, q⟩ : S79)).set ((a : Int)).toNat (⟨(rd_T79 ((s.set ((a : Int)).toNat (⟨p, q⟩ : S79)).set ((b : Int)).toNat (⟨p, q⟩ : S79)) (a : Int)).f0, t⟩ : S79)).set ((b : Int)).toNat (⟨(rd_T79 (((s.set ((a : Int)).toNat (⟨p, q⟩ : S79)).set ((b : Int)).toNat (⟨p, q⟩ : S79)).set ((a : Int)).toNat (⟨(rd_T79 ((s.set ((a : Int)).toNat (⟨p, q⟩ : S79)).set ((b : Int)).toNat (⟨p, q⟩ : S79)) (a : Int)).f0, t⟩ : S79)) (b : Int)).f0, wrap64 ((rd_T79 (((s.set ((a : Int)).toNat (⟨p, q⟩ : S79)).set ((b : Int)).toNat (⟨p, q⟩ : S79)).set ((a : Int)).toNat (⟨(rd_T79 ((s.set ((a : Int)).toNat (⟨p, q⟩ : S79)).set ((b : Int)).toNat (⟨p, q⟩ : S79)) (a : Int)).f0, t⟩ : S79)) (b : Int)).f1 - t)⟩ : S79)) = (s.set a (⟨p, t⟩ : S79)).set b (⟨p, wrap64 (q - t)⟩ : S79) := by
  simp only [Int.toNat_natCast]
  have e1 : ∀ x y : S79, rd_T79 ((s.set a x).set b y) (a : Int) = x := fun x y => by rw [rdZset _ b a _ hab.symm, rdZself s a _ la]
  have e2 : ∀ x y z : S79, rd_T79 (((s.set a x).set b y).set a z) (b : Int) = y := fun x y z => by rw [rdZset _ a b _ hab, rdZself _ b _ (by simpa using lb)]
  rw [e1, e2, two_sets s a b _ _ _ hab]
theorem cutStep (ks : List S57) (l : List S75) (hl : l.length ≤ 60) (i : Nat) (hi : i < l.length) (s : List S79) (hs : s.length = l.length) (hz : ∀ x ∈ s, okZ x)
    (c : S75) (hc : okC c) (own : S79) (h0 : (1 ≤ own.f0 ∧ own.f0 ≤ 24) ∧ 1 ≤ own.f1 ∧ own.f1 ≤ 24) (hside : c.f0 = 2 ∨ c.f0 = 3)
    (IH : ∀ s' : List S79, s'.length = l.length → (∀ x ∈ s', okZ x) → ∃ r, Ev (fun k => spec_l04Sizes.l0 k ks l s' ((i + 1 : Nat) : Int)) r ∧ Ev (fun k => impl_sizes.l0 k ks l s' (told s') l (l.length : Int) ((i + 1 : Nat) : Int)) r ∧ okR ks l (i + 1) r) :
    ∃ r, Ev (fun k => spec_l04Sizes.j3 k ks l s (i : Int) true c.f0 c.f1 c.f2 c.f3 own.f0 own.f1) r ∧ Ev (fun k => impl_sizes.j2 k ks l s (told s) (i : Int) l (l.length : Int) (i : Int) true c.f0 c.f1 c.f2 c.f3 own.f0 own.f1) r ∧ okR ks l (i + 1) r := by
  obtain ⟨c0, c1, c2, c3⟩ := c
  obtain ⟨p, q⟩ := own
  obtain ⟨⟨p0, p0'⟩, ⟨p1, p1'⟩, hA, hB⟩ := hc
  have hA' := hA
  have hB' := hB
  obtain ⟨p2, p2'⟩ := hA'
  obtain ⟨p3, p3'⟩ := hB'
  obtain ⟨⟨o0, o0'⟩, o1, o1'⟩ := h0
  simp only at p0 p0' p1 p1' p2 p2' p3 p3' o0 o0' o1 o1' hside hA hB ⊢
  have hg := specGiven s i c0 c1 c2 c3 (by omega) (by omega) hA hB
  have wa := Aside0.mk (w64 (x := c2) (by omega) (by omega))
  have wb := Aside0.mk (w64 (x := c3) (by omega) (by omega))
  have wt := Aside0.mk (w64 (x := c1) (by omega) (by omega))
  have w0 := Aside0.mk (w64 (x := c0) (by omega) (by omega))
  have w2 := Aside0.mk (w64 (x := c0 - 2) (by omega) (by omega))
  have w8_ := Aside0.mk (w8 (x := c0 - 2) (by omega) (by omega))
  have wi : Aside0 (wrap64 ((i : Int) + 1) = ((i + 1 : Nat) : Int)) := ⟨w64 (x := (i : Int) + 1) (by omega) (by omega)⟩
  have wx := Aside0.mk (w64 (x := p - 1) (by omega) (by omega))
  have wy := Aside0.mk (w64 (x := q - 1) (by omega) (by omega))
  by_cases g : given s i c2 c3
  · rw [decide_eq_true g] at hg
    obtain ⟨⟨ga, ga'⟩, ⟨gb, gb'⟩, gab, gza, gzb⟩ := g
    obtain ⟨a, rfl⟩ : ∃ a : Nat, c2 = (a : Int) := ⟨c2.toNat, by omega⟩
    obtain ⟨b, rfl⟩ : ∃ b : Nat, c3 = (b : Int) := ⟨c3.toNat, by omega⟩
    have la : a < s.length := by omega
    have lb : b < s.length := by omega
    have hab : a ≠ b := fun h => gab (by rw [h])
    have ta : rdOf false (told s) (a : Int) = false := by rw [rdTold s a la]; simp [nz, gza]
    have tb : rdOf false (told s) (b : Int) = false := by rw [rdTold s b lb]; simp [nz, gzb]
    have SPEC : ∀ (r : List S79 × Bool) (F : Nat → Option (List S79 × Bool)), Ev F r → (∀ k, (if c0 - 2 = 0 then ((spec_l00In.f c1 1 (p - 1)).bind fun t => if t = true then spec_l04Sizes.l0 k ks l ((s.set a (⟨c1, q⟩ : S79)).set b (⟨wrap64 (p - c1), q⟩ : S79)) ((i + 1 : Nat) : Int) else some (([] : List S79), false)) else ((spec_l00In.f c1 1 (q - 1)).bind fun t => if t = true then spec_l04Sizes.l0 k ks l ((s.set a (⟨p, c1⟩ : S79)).set b (⟨p, wrap64 (q - c1)⟩ : S79)) ((i + 1 : Nat) : Int) else some (([] : List S79), false))) = F k) →
        Ev (fun k => spec_l04Sizes.j3 k ks l s (i : Int) true c0 c1 (a : Int) (b : Int) p q) r := by
      intro r F hF hk
      refine Ev.step (fun k => by rw [spec_l04Sizes.j3]) ?_
      refine Ev.pos rfl ?_
      refine Ev.nobind hg ?_
      refine Ev.pos rfl ?_
      refine Ev.congr (fun k => ?_) hF
      rw [← hk k, w0.out, w2.out, wt.out, wx.out, wy.out, wi.out]
      rcases hside with h2 | h3
      · have hz2 : c0 - 2 = 0 := by omega
        simp only [if_pos hz2, if_pos (show (0 : Int) ≤ (a : Int) by omega), if_pos ga', if_pos (show (0 : Int) ≤ (b : Int) by omega), if_pos gb', Option.bind_some, specL0 s a b p q c1 _ la lb]
        try rfl
      · have hz2 : ¬ c0 - 2 = 0 := by omega
        have hz3 : c0 - 2 = 1 := by omega
        simp only [if_neg hz2, if_pos hz3, if_pos (show (0 : Int) ≤ (a : Int) by omega), if_pos ga', if_pos (show (0 : Int) ≤ (b : Int) by omega), if_pos gb', Option.bind_some, specL1 s a b p q c1 _ la lb]
        try rfl
    have IMPL : ∀ (r : List S79 × Bool) (F : Nat → Option (List S79 × Bool)), Ev F r → (∀ k, (if c0 - 2 = 0 then ((impl_within.f c1 1 (p - 1)).bind fun t => if t = true then impl_sizes.l0 k ks l ((s.set a (⟨c1, q⟩ : S79)).set b (⟨wrap64 (p - c1), q⟩ : S79)) (((told s).set a true).set b true) l (l.length : Int) ((i + 1 : Nat) : Int) else some (([] : List S79), false)) else ((impl_within.f c1 1 (q - 1)).bind fun t => if t = true then impl_sizes.l0 k ks l ((s.set a (⟨p, c1⟩ : S79)).set b (⟨p, wrap64 (q - c1)⟩ : S79)) (((told s).set a true).set b true) l (l.length : Int) ((i + 1 : Nat) : Int) else some (([] : List S79), false))) = F k) →
        Ev (fun k => impl_sizes.j2 k ks l s (told s) (i : Int) l (l.length : Int) (i : Int) true c0 c1 (a : Int) (b : Int) p q) r := by
      intro r F hF hk
      refine Ev.step (fun k => by rw [impl_sizes.j2]) ?_
      refine Ev.pos rfl ?_
      refine Ev.congr (fun k => ?_) hF
      rw [← hk k, wa.out, wb.out, w8_.out, w2.out, wt.out, wx.out, wy.out, wi.out]
      rw [if_neg (by omega), if_neg (by omega), if_neg (by omega), if_neg (by omega), if_neg (by omega), if_pos (by omega), if_pos (by rw [told_length]; omega), if_neg (by rw [ta]; decide), if_pos (by omega), if_pos (by rw [told_length]; omega), if_neg (by rw [tb]; decide)]
      rcases hside with h2 | h3
      · have hz2 : c0 - 2 = 0 := by omega
        simp only [if_pos hz2, if_pos ga', if_pos gb', Option.bind_some, implL0 s a b hab p q c1 la lb]
        simp only [Int.toNat_natCast]
      · have hz2 : ¬ c0 - 2 = 0 := by omega
        have hz3 : c0 - 2 = 1 := by omega
        simp only [if_neg hz2, if_pos hz3, if_pos ga', if_pos gb', Option.bind_some, implL1 s a b hab p q c1 la lb]
        simp only [Int.toNat_natCast]
    by_cases h2 : c0 - 2 = 0
    · by_cases hin : inB c1 1 (p - 1) = true
      · have hb := inB_iff.1 hin
        have wu := Aside0.mk (w64 (x := p - c1) (by omega) (by omega))
        obtain ⟨r, e1, e2, e3⟩ := IH ((s.set a (⟨c1, q⟩ : S79)).set b (⟨p - c1, q⟩ : S79)) (by simpa using hs) (okZ_set _ _ _ (okZ_set _ _ _ hz (.inr ⟨⟨by show 1 ≤ c1; omega, by show c1 ≤ 24; omega⟩, o1, o1'⟩)) (.inr ⟨⟨by show 1 ≤ p - c1; omega, by show p - c1 ≤ 24; omega⟩, o1, o1'⟩))
        refine ⟨r, SPEC r _ e1 (fun k => ?_), IMPL r _ e2 (fun k => ?_), e3⟩
        · rw [if_pos h2, specIn, hin, Option.bind_some, if_pos rfl, wu.out]
        · rw [if_pos h2, implIn, hin, Option.bind_some, if_pos rfl, wu.out, told_sets s a b (⟨c1, q⟩ : S79) (⟨p - c1, q⟩ : S79) (decide_eq_true (by show c1 ≠ 0; omega)) (decide_eq_true (by show p - c1 ≠ 0; omega))]
      · have hin' : inB c1 1 (p - 1) = false := by simpa using hin
        refine ⟨([], false), SPEC _ _ (Ev.now _) (fun k => ?_), IMPL _ _ (Ev.now _) (fun k => ?_), okR_no _ _ _⟩
        · rw [if_pos h2, specIn, hin', Option.bind_some, if_neg (by decide)]
        · rw [if_pos h2, implIn, hin', Option.bind_some, if_neg (by decide)]
    · by_cases hin : inB c1 1 (q - 1) = true
      · have hb := inB_iff.1 hin
        have wu := Aside0.mk (w64 (x := q - c1) (by omega) (by omega))
        obtain ⟨r, e1, e2, e3⟩ := IH ((s.set a (⟨p, c1⟩ : S79)).set b (⟨p, q - c1⟩ : S79)) (by simpa using hs) (okZ_set _ _ _ (okZ_set _ _ _ hz (.inr ⟨⟨o0, o0'⟩, by show 1 ≤ c1; omega, by show c1 ≤ 24; omega⟩)) (.inr ⟨⟨o0, o0'⟩, by show 1 ≤ q - c1; omega, by show q - c1 ≤ 24; omega⟩))
        refine ⟨r, SPEC r _ e1 (fun k => ?_), IMPL r _ e2 (fun k => ?_), e3⟩
        · rw [if_neg h2, specIn, hin, Option.bind_some, if_pos rfl, wu.out]
        · rw [if_neg h2, implIn, hin, Option.bind_some, if_pos rfl, wu.out, told_sets s a b (⟨p, c1⟩ : S79) (⟨p, q - c1⟩ : S79) (decide_eq_true (by show p ≠ 0; omega)) (decide_eq_true (by show p ≠ 0; omega))]
      · have hin' : inB c1 1 (q - 1) = false := by simpa using hin
        refine ⟨([], false), SPEC _ _ (Ev.now _) (fun k => ?_), IMPL _ _ (Ev.now _) (fun k => ?_), okR_no _ _ _⟩
        · rw [if_neg h2, specIn, hin', Option.bind_some, if_neg (by decide)]
        · rw [if_neg h2, implIn, hin', Option.bind_some, if_neg (by decide)]
  · rw [decide_eq_false g] at hg
    refine ⟨([], false), ?_, ?_, okR_no _ _ _⟩
    · refine Ev.step (fun k => by rw [spec_l04Sizes.j3]) ?_
      refine Ev.pos rfl ?_
      refine Ev.nobind hg ?_
      exact Ev.neg (by decide) (Ev.fin rfl)
    · refine Ev.step (fun k => by rw [impl_sizes.j2]) ?_
      refine Ev.pos rfl ?_
      rw [wa.out, wb.out]
      refine Ev.ite (fun _ => Ev.fin rfl) (fun q1 => ?_)
      refine Ev.ite (fun _ => Ev.fin rfl) (fun q2 => ?_)
      refine Ev.ite (fun _ => Ev.fin rfl) (fun q3 => ?_)
      refine Ev.ite (fun _ => Ev.fin rfl) (fun q4 => ?_)
      refine Ev.ite (fun _ => Ev.fin rfl) (fun q5 => ?_)
      obtain ⟨a, rfl⟩ : ∃ a : Nat, c2 = (a : Int) := ⟨c2.toNat, by omega⟩
      obtain ⟨b, rfl⟩ : ∃ b : Nat, c3 = (b : Int) := ⟨c3.toNat, by omega⟩
      unfold given at g
      refine Ev.pos (by omega) ?_
      refine Ev.pos (by rw [told_length]; omega) ?_
      rw [rdTold s a (by omega)]
      refine Ev.ite (fun _ => Ev.fin rfl) (fun q6 => ?_)
      refine Ev.pos (by omega) ?_
      refine Ev.pos (by rw [told_length]; omega) ?_
      rw [rdTold s b (by omega)]
      refine Ev.ite (fun _ => Ev.fin rfl) (fun q7 => ?_)
      exact absurd ⟨⟨by omega, by omega⟩, ⟨by omega, by omega⟩, q5, by simpa [nz] using q6, by simpa [nz] using q7⟩ g

def failR : List S79 × Bool := ([], false)
/-- One round, where the entry was made. -/
theorem round (ks : List S57) (hk : ks.length ≤ 8) (hks : ∀ x ∈ ks, B8 x.f0 ∧ B8 x.f1) (l : List S75) (hl : l.length ≤ 60) (i : Nat) (hi : i < l.length) (s : List S79) (hs : s.length = l.length) (hz : ∀ x ∈ s, okZ x)
    (hc : okC l[i]) (h0 : ((1 ≤ (rd_T79 s (i : Int)).f0 ∧ (rd_T79 s (i : Int)).f0 ≤ 24) ∧ 1 ≤ (rd_T79 s (i : Int)).f1 ∧ (rd_T79 s (i : Int)).f1 ≤ 24))
    (IH : ∀ s' : List S79, s'.length = l.length → (∀ x ∈ s', okZ x) → ∃ r, Ev (fun k => spec_l04Sizes.l0 k ks l s' ((i + 1 : Nat) : Int)) r ∧ Ev (fun k => impl_sizes.l0 k ks l s' (told s') l (l.length : Int) ((i + 1 : Nat) : Int)) r ∧ okR ks l (i + 1) r) :
    ∃ r, Ev (fun k => spec_l04Sizes.l0 k ks l s (i : Int)) r ∧ Ev (fun k => impl_sizes.l0 k ks l s (told s) l (l.length : Int) (i : Int)) r ∧ okR ks l i r := by
  have hzi : (rd_T79 s (i : Int)).f0 ≠ 0 := by omega
  have htold : rdOf false (told s) (i : Int) = true := by rw [rdTold s i (by omega)]; exact decide_eq_true hzi
  have hC := rdC l i hi
  obtain ⟨r0, r1, r2⟩ := IH s hs hz
  have wi : Aside0 (wrap64 ((i : Int) + 1) = ((i + 1 : Nat) : Int)) := ⟨w64 (x := (i : Int) + 1) (by omega) (by omega)⟩
  have CS := cutStep ks l hl i hi s hs hz l[i] hc (rd_T79 s (i : Int))
  have UP : ∀ r, pok ks l[i] → okR ks l (i + 1) r → okR ks l i r := fun r hp h => okR_up hi hp h
  generalize hcv : l[i] = c at hC hc CS UP
  generalize hown : rd_T79 s (i : Int) = own at h0 hzi CS
  have SP : ∀ (r : List S79 × Bool) (F : Nat → Option (List S79 × Bool)), Ev F r → (∀ k, (if c.f0 = 0 then (if (!(c.f0 == 0) || (!(c.f1 == 0) || (!(c.f2 == 0) || (!(c.f3 == 0))))) = true then (some (([] : List S79), false)) else (spec_l04Sizes.l0 k ks l s ((i + 1 : Nat) : Int))) else (if c.f0 = 1 then (if c.f1 = 0 then (if c.f3 = 0 then ((spec_l00In.f (wrap64 c.f2) 0 (wrap64 ((ks.length : Int) - 1))).bind fun t => (spec_l04Sizes.j2 k ks l s (i : Int) (!t) c.f0 c.f1 c.f2 c.f3 own.f0 own.f1)) else (spec_l04Sizes.j2 k ks l s (i : Int) true c.f0 c.f1 c.f2 c.f3 own.f0 own.f1)) else (spec_l04Sizes.j2 k ks l s (i : Int) true c.f0 c.f1 c.f2 c.f3 own.f0 own.f1)) else (if c.f0 = 2 then (spec_l04Sizes.j3 k ks l s (i : Int) (c.f0 == 2) c.f0 c.f1 c.f2 c.f3 own.f0 own.f1) else (spec_l04Sizes.j3 k ks l s (i : Int) (c.f0 == 3) c.f0 c.f1 c.f2 c.f3 own.f0 own.f1)))) = F k) →
      Ev (fun k => spec_l04Sizes.l0 k ks l s (i : Int)) r := by
    intro r F hF hk'
    refine Ev.step (fun k => by rw [spec_l04Sizes.l0]) ?_
    refine Ev.pos (by omega) ?_
    refine Ev.pos (by omega) ?_
    refine Ev.pos (by omega) ?_
    refine Ev.congr (fun k => ?_) hF
    rw [hown, hC, if_neg hzi, wi.out, ← hk' k]
  have IM : ∀ (r : List S79 × Bool) (F : Nat → Option (List S79 × Bool)), Ev F r → (∀ k, (if c.f0 = 0 then (if (!(c.f0 == 0) || (!(c.f1 == 0) || (!(c.f2 == 0) || (!(c.f3 == 0))))) = true then (some (([] : List S79), false)) else (impl_sizes.l0 k ks l s (told s) l (l.length : Int) ((i + 1 : Nat) : Int))) else (if c.f0 = 1 then (if c.f1 = 0 then (if c.f3 = 0 then ((impl_within.f (wrap64 c.f2) 0 (wrap64 ((ks.length : Int) - 1))).bind fun t221 => (if t221 = true then (if 0 ≤ (wrap64 c.f2) then (if (wrap64 c.f2) < (ks.length : Int) then (if (wrap64 ((rd_T57 ks (wrap64 c.f2)).f0)) = own.f0 then (if (wrap64 ((rd_T57 ks (wrap64 c.f2)).f1)) = own.f1 then (impl_sizes.l0 k ks l s (told s) l (l.length : Int) ((i + 1 : Nat) : Int)) else (some (([] : List S79), false))) else (some (([] : List S79), false))) else (none)) else (none)) else (some (([] : List S79), false)))) else (some (([] : List S79), false))) else (some (([] : List S79), false))) else (if c.f0 = 2 then (impl_sizes.j2 k ks l s (told s) (i : Int) l (l.length : Int) (i : Int) (c.f0 == 2) c.f0 c.f1 c.f2 c.f3 own.f0 own.f1) else (impl_sizes.j2 k ks l s (told s) (i : Int) l (l.length : Int) (i : Int) (c.f0 == 3) c.f0 c.f1 c.f2 c.f3 own.f0 own.f1)))) = F k) →
      Ev (fun k => impl_sizes.l0 k ks l s (told s) l (l.length : Int) (i : Int)) r := by
    intro r F hF hk'
    refine Ev.step (fun k => by rw [impl_sizes.l0]) ?_
    refine Ev.pos (by omega) ?_
    refine Ev.pos (by omega) ?_
    refine Ev.pos (by omega) ?_
    refine Ev.pos (by omega) ?_
    refine Ev.pos (by rw [told_length]; omega) ?_
    refine Ev.pos htold ?_
    refine Ev.congr (fun k => ?_) hF
    rw [hown, hC, wi.out, ← hk' k]
  by_cases q0 : c.f0 = 0
  · by_cases hq : (!(c.f0 == 0) || (!(c.f1 == 0) || (!(c.f2 == 0) || (!(c.f3 == 0))))) = true
    · refine ⟨failR, SP _ _ (Ev.now _) (fun k => ?_), IM _ _ (Ev.now _) (fun k => ?_), okR_no _ _ _⟩
      · rw [if_pos q0, if_pos hq]; rfl
      · rw [if_pos q0, if_pos hq]; rfl
    · obtain ⟨e1, e2⟩ := r2
      refine ⟨r0, SP _ _ r1 (fun k => ?_), IM _ _ e1 (fun k => ?_), UP _ (fun h => absurd (q0.symm.trans h) (by decide)) e2⟩
      · rw [if_pos q0, if_neg hq]
      · rw [if_pos q0, if_neg hq]
  · by_cases q1 : c.f0 = 1
    · have J2F : Ev (fun k => spec_l04Sizes.j2 k ks l s (i : Int) true c.f0 c.f1 c.f2 c.f3 own.f0 own.f1) failR := by
        refine Ev.step (fun k => by rw [spec_l04Sizes.j2]) ?_
        refine Ev.pos rfl ?_
        exact Ev.fin rfl
      by_cases qa : c.f1 = 0
      · by_cases qb : c.f3 = 0
        · obtain ⟨_, _, ⟨p2, p2'⟩, _⟩ := hc
          by_cases hin : inB c.f2 0 ((ks.length : Int) - 1) = true
          · have hb := inB_iff.1 hin
            obtain ⟨a, ea⟩ : ∃ a : Nat, c.f2 = (a : Int) := ⟨c.f2.toNat, by omega⟩
            have la : a < ks.length := by omega
            have wk := Aside0.mk (w64 (x := (ks.length : Int) - 1) (by omega) (by omega))
            have wa := Aside0.mk (w64 (x := c.f2) (by omega) (by omega))
            have J2S : ∀ r, Ev (fun k => if (!(own.f0 == (wrap64 ((rd_T57 ks c.f2).f0))) || (!(own.f1 == (wrap64 ((rd_T57 ks c.f2).f1))))) = true then some (([] : List S79), false) else spec_l04Sizes.l0 k ks l s ((i + 1 : Nat) : Int)) r → Ev (fun k => spec_l04Sizes.j2 k ks l s (i : Int) false c.f0 c.f1 c.f2 c.f3 own.f0 own.f1) r := by
              intro r hr
              refine Ev.step (fun k => by rw [spec_l04Sizes.j2]) ?_
              refine Ev.neg (by decide) ?_
              refine Ev.pos (by omega) ?_
              refine Ev.pos (by omega) ?_
              rw [wi.out]
              exact hr
            by_cases e0 : wrap64 ((rd_T57 ks c.f2).f0) = own.f0 ∧ wrap64 ((rd_T57 ks c.f2).f1) = own.f1
            · have hq : ¬ (!(own.f0 == (wrap64 ((rd_T57 ks c.f2).f0))) || (!(own.f1 == (wrap64 ((rd_T57 ks c.f2).f1))))) = true := by rw [e0.1, e0.2]; simp
              obtain ⟨e1, e2⟩ := r2
              refine ⟨r0, SP _ _ (J2S _ (Ev.neg hq r1)) (fun k => ?_), IM _ _ e1 (fun k => ?_), UP _ (fun _ => by omega) e2⟩
              · rw [if_neg q0, if_pos q1, if_pos qa, if_pos qb, wa.out, wk.out, specIn, hin]; rfl
              · rw [if_neg q0, if_pos q1, if_pos qa, if_pos qb, wa.out, wk.out, implIn, hin, Option.bind_some, if_pos rfl, if_pos (by omega), if_pos (by omega), if_pos e0.1, if_pos e0.2]
            · have hq : (!(own.f0 == (wrap64 ((rd_T57 ks c.f2).f0))) || (!(own.f1 == (wrap64 ((rd_T57 ks c.f2).f1))))) = true := by
                rw [Bool.or_eq_true]
                by_cases e1 : wrap64 ((rd_T57 ks c.f2).f0) = own.f0
                · refine .inr ?_
                  have e2 : ¬ wrap64 ((rd_T57 ks c.f2).f1) = own.f1 := fun h => e0 ⟨e1, h⟩
                  simpa using fun h => e2 h.symm
                · refine .inl ?_
                  simpa using fun h => e1 h.symm
              refine ⟨failR, SP _ _ (J2S _ (Ev.pos hq (Ev.now _))) (fun k => ?_), IM _ _ (Ev.now _) (fun k => ?_), okR_no _ _ _⟩
              · rw [if_neg q0, if_pos q1, if_pos qa, if_pos qb, wa.out, wk.out, specIn, hin]; rfl
              · rw [if_neg q0, if_pos q1, if_pos qa, if_pos qb, wa.out, wk.out, implIn, hin, Option.bind_some, if_pos rfl, if_pos (by omega), if_pos (by omega)]
                by_cases e1 : wrap64 ((rd_T57 ks c.f2).f0) = own.f0
                · rw [if_pos e1, if_neg (fun h => e0 ⟨e1, h⟩)]; rfl
                · rw [if_neg e1]; rfl
          · have hin' : inB c.f2 0 ((ks.length : Int) - 1) = false := by simpa using hin
            have wk := Aside0.mk (w64 (x := (ks.length : Int) - 1) (by omega) (by omega))
            have wa := Aside0.mk (w64 (x := c.f2) (by omega) (by omega))
            refine ⟨failR, SP _ _ J2F (fun k => ?_), IM _ _ (Ev.now _) (fun k => ?_), okR_no _ _ _⟩
            · rw [if_neg q0, if_pos q1, if_pos qa, if_pos qb, wa.out, wk.out, specIn, hin']; rfl
            · rw [if_neg q0, if_pos q1, if_pos qa, if_pos qb, wa.out, wk.out, implIn, hin', Option.bind_some, if_neg (by decide)]; rfl
        · refine ⟨failR, SP _ _ J2F (fun k => ?_), IM _ _ (Ev.now _) (fun k => ?_), okR_no _ _ _⟩
          · rw [if_neg q0, if_pos q1, if_pos qa, if_neg qb]
          · rw [if_neg q0, if_pos q1, if_pos qa, if_neg qb]; rfl
      · refine ⟨failR, SP _ _ J2F (fun k => ?_), IM _ _ (Ev.now _) (fun k => ?_), okR_no _ _ _⟩
        · rw [if_neg q0, if_pos q1, if_neg qa]
        · rw [if_neg q0, if_pos q1, if_neg qa]; rfl
    · by_cases q2 : c.f0 = 2 ∨ c.f0 = 3
      · obtain ⟨r, e1, e2, e3⟩ := CS h0 q2 IH
        refine ⟨r, SP _ _ e1 (fun k => ?_), IM _ _ e2 (fun k => ?_), UP _ (fun h => absurd h q1) e3⟩
        · rw [if_neg q0, if_neg q1]
          rcases q2 with q2 | q2
          · rw [if_pos q2, show (c.f0 == 2) = true from by rw [q2]; rfl]
          · rw [if_neg (by omega), show (c.f0 == 3) = true from by rw [q2]; rfl]
        · rw [if_neg q0, if_neg q1]
          rcases q2 with q2 | q2
          · rw [if_pos q2, show (c.f0 == 2) = true from by rw [q2]; rfl]
          · rw [if_neg (by omega), show (c.f0 == 3) = true from by rw [q2]; rfl]
      · have J3F : Ev (fun k => spec_l04Sizes.j3 k ks l s (i : Int) false c.f0 c.f1 c.f2 c.f3 own.f0 own.f1) failR := by
          refine Ev.step (fun k => by rw [spec_l04Sizes.j3]) ?_
          refine Ev.neg (by decide) ?_
          exact Ev.fin rfl
        have I2F : Ev (fun k => impl_sizes.j2 k ks l s (told s) (i : Int) l (l.length : Int) (i : Int) false c.f0 c.f1 c.f2 c.f3 own.f0 own.f1) failR := by
          refine Ev.step (fun k => by rw [impl_sizes.j2]) ?_
          refine Ev.neg (by decide) ?_
          exact Ev.fin rfl
        have e3 : (c.f0 == 3) = false := by simpa using fun h => q2 (.inr h)
        refine ⟨failR, SP _ _ J3F (fun k => ?_), IM _ _ I2F (fun k => ?_), okR_no _ _ _⟩
        · rw [if_neg q0, if_neg q1, if_neg (fun h => q2 (.inl h)), e3]
        · rw [if_neg q0, if_neg q1, if_neg (fun h => q2 (.inl h)), e3]
theorem loop (ks : List S57) (hk : ks.length ≤ 8) (hks : ∀ x ∈ ks, B8 x.f0 ∧ B8 x.f1) (l : List S75) (hl : l.length ≤ 60) (hc : ∀ c ∈ l, okC c) : ∀ (d i : Nat) (s : List S79), i + d = l.length → s.length = l.length → (∀ x ∈ s, okZ x) →
    ∃ r, Ev (fun k => spec_l04Sizes.l0 k ks l s (i : Int)) r ∧ Ev (fun k => impl_sizes.l0 k ks l s (told s) l (l.length : Int) (i : Int)) r ∧ okR ks l i r
  | 0, i, s, h, hs, hz => by
    refine ⟨(s, true), ?_, ?_, fun _ => ⟨hs, hz, fun j hj hij => by omega⟩⟩
    · refine Ev.step (fun k => by rw [spec_l04Sizes.l0]) ?_
      exact Ev.neg (by omega) (Ev.fin rfl)
    · refine Ev.step (fun k => by rw [impl_sizes.l0]) ?_
      exact Ev.neg (by omega) (Ev.fin rfl)
  | d + 1, i, s, h, hs, hz => by
    have hi : i < l.length := by omega
    have hsi : i < s.length := by omega
    have ho := hz s[i] (List.getElem_mem hsi)
    rw [← rdZ s i hsi] at ho
    by_cases h0 : (rd_T79 s (i : Int)).f0 = 0
    · refine ⟨failR, ?_, ?_, okR_no _ _ _⟩
      · refine Ev.step (fun k => by rw [spec_l04Sizes.l0]) ?_
        refine Ev.pos (by omega) ?_
        refine Ev.pos (by omega) ?_
        refine Ev.pos (by omega) ?_
        exact Ev.pos h0 (Ev.fin rfl)
      · refine Ev.step (fun k => by rw [impl_sizes.l0]) ?_
        refine Ev.pos (by omega) ?_
        refine Ev.pos (by omega) ?_
        refine Ev.pos (by omega) ?_
        refine Ev.pos (by omega) ?_
        refine Ev.pos (by rw [told_length]; omega) ?_
        refine Ev.neg (by rw [rdTold s i hsi]; simp [nz, h0]) ?_
        exact Ev.fin rfl
    · exact round ks hk hks l hl i hi s hs hz (hc _ (List.getElem_mem hi)) (ho.resolve_left (fun h => h0 h.1)) (fun s' hs' hz' => loop ks hk hks l hl hc d (i + 1) s' (by omega) hs' hz')
/-- What sizes comes to, and that both sides come to it. -/
theorem sizes (p q : Int) (ks : List S57) (l : List S75) (hks : ∀ x ∈ ks, B8 x.f0 ∧ B8 x.f1) (hkl : ks.length ≤ 1048576) (hll : l.length ≤ 1048576) (hc : ∀ c ∈ l, okC c) :
    ∃ r, Ev (fun k => spec_l04Sizes.f k p q ks l) r ∧ Ev (fun k => impl_sizes.f k p q ks l) r ∧ okR ks l 0 r := by
  have SF : Ev (fun k => spec_l04Sizes.j0 k p q ks l true) failR := by
    refine Ev.step (fun k => by rw [spec_l04Sizes.j0]) ?_
    refine Ev.pos rfl ?_
    exact Ev.fin rfl
  have IF : Ev (fun k => impl_sizes.j0 k p q ks l true) failR := by
    refine Ev.step (fun k => by rw [impl_sizes.j0]) ?_
    refine Ev.pos rfl ?_
    exact Ev.fin rfl
  have implP : impl_isPlate.f p q = some (inB p 1 24 && inB q 1 24) := by
    unfold impl_isPlate.f
    rw [implIn, implIn, Option.bind_some]
    cases inB p 1 24 <;> rfl
  by_cases h1 : inB p 1 24 = true
  · by_cases h2 : inB q 1 24 = true
    · by_cases h3 : kindsB ks = true
      · have hk : ks.length ≤ 8 := by
          unfold kindsB at h3
          rw [Bool.and_eq_true] at h3
          have := of_decide_eq_true h3.1
          omega
        by_cases h4 : inB (l.length : Int) 1 60 = true
        · have hb := inB_iff.1 h4
          have hp := inB_iff.1 h1
          have hq := inB_iff.1 h2
          have hrl : ((l.length : Int)).toNat = l.length := Int.toNat_natCast _
          have hz : ∀ x ∈ (List.replicate l.length z79).set 0 (⟨p, q⟩ : S79), okZ x := okZ_set _ _ _ (fun y hy => .inl (by rw [List.eq_of_mem_replicate hy]; exact ⟨rfl, rfl⟩)) (.inr ⟨⟨hp.1, hp.2⟩, hq.1, hq.2⟩)
          obtain ⟨r, e1, e2, e3⟩ := loop ks hk hks l (by omega) hc l.length 0 ((List.replicate l.length z79).set 0 (⟨p, q⟩ : S79)) (by omega) (by simp) hz
          have ht : (List.replicate l.length false).set 0 true = told ((List.replicate l.length z79).set 0 (⟨p, q⟩ : S79)) := by
            unfold told
            rw [List.map_set, List.map_replicate]
            have : nz (⟨p, q⟩ : S79) = true := decide_eq_true (by show p ≠ 0; omega)
            rw [this]
            rfl
          refine ⟨r, ?_, ?_, e3⟩
          · unfold spec_l04Sizes.f
            refine Ev.nobind (specPlate _) (Ev.pos h1 (Ev.nobind (specPlate _) (Ev.pos h2 (Ev.bind (specKinds ks hkl) ?_))))
            refine Ev.pos h3 (Ev.nobind (specIn _ _ _) ?_)
            rw [h4]
            refine Ev.step (fun k => by rw [spec_l04Sizes.j0]) ?_
            refine Ev.neg (by decide) ?_
            refine Ev.pos (by omega) ?_
            refine Ev.pos (by omega) ?_
            refine Ev.nobind rfl ?_
            refine Ev.pos (by simp; omega) ?_
            rw [hrl]
            exact e1
          · unfold impl_sizes.f
            refine Ev.nobind implP (Ev.pos (by rw [h1, h2]; rfl) (Ev.nobind (implKinds ks) (Ev.pos h3 (Ev.nobind (implIn _ _ _) ?_))))
            rw [h4]
            refine Ev.step (fun k => by rw [impl_sizes.j0]) ?_
            refine Ev.neg (by decide) ?_
            refine Ev.pos (by omega) ?_
            refine Ev.pos (by omega) ?_
            refine Ev.nobind rfl ?_
            refine Ev.pos (by omega) ?_
            refine Ev.nobind rfl ?_
            refine Ev.pos (by simp; omega) ?_
            refine Ev.pos (by simp; omega) ?_
            rw [hrl, show (0 : Int).toNat = 0 from rfl, ht]
            exact e2
        · have h4' : inB (l.length : Int) 1 60 = false := by simpa using h4
          refine ⟨failR, ?_, ?_, okR_no _ _ _⟩
          · unfold spec_l04Sizes.f
            refine Ev.nobind (specPlate _) (Ev.pos h1 (Ev.nobind (specPlate _) (Ev.pos h2 (Ev.bind (specKinds ks hkl) ?_))))
            refine Ev.pos h3 (Ev.nobind (specIn _ _ _) ?_)
            rw [h4']
            exact SF
          · unfold impl_sizes.f
            refine Ev.nobind implP (Ev.pos (by rw [h1, h2]; rfl) (Ev.nobind (implKinds ks) (Ev.pos h3 (Ev.nobind (implIn _ _ _) ?_))))
            rw [h4']
            exact IF
      · refine ⟨failR, ?_, ?_, okR_no _ _ _⟩
        · unfold spec_l04Sizes.f
          refine Ev.nobind (specPlate _) (Ev.pos h1 (Ev.nobind (specPlate _) (Ev.pos h2 (Ev.bind (specKinds ks hkl) ?_))))
          exact Ev.neg h3 SF
        · unfold impl_sizes.f
          exact Ev.nobind implP (Ev.pos (by rw [h1, h2]; rfl) (Ev.nobind (implKinds ks) (Ev.neg h3 IF)))
    · refine ⟨failR, ?_, ?_, okR_no _ _ _⟩
      · unfold spec_l04Sizes.f
        exact Ev.nobind (specPlate _) (Ev.pos h1 (Ev.nobind (specPlate _) (Ev.neg h2 SF)))
      · unfold impl_sizes.f
        have h2' : inB q 1 24 = false := by simpa using h2
        exact Ev.nobind implP (Ev.neg (by rw [h1, h2']; decide) IF)
  · refine ⟨failR, ?_, ?_, okR_no _ _ _⟩
    · unfold spec_l04Sizes.f
      exact Ev.nobind (specPlate _) (Ev.neg h1 SF)
    · unfold impl_sizes.f
      have h1' : inB p 1 24 = false := by simpa using h1
      exact Ev.nobind implP (Ev.neg (by rw [h1']; simp) IF)
theorem okKs (l : List S59) (h : ∀ x0 ∈ l, (Lit.int .i8 x0.f0).wf = true ∧ (Lit.int .i8 x0.f1).wf = true ∧ (Lit.int .i16 x0.f2).wf = true) : ∀ x ∈ l.map conv, B8 x.f0 ∧ B8 x.f1 := by
  intro x hx
  obtain ⟨y, hy, rfl⟩ := List.mem_map.1 hx
  exact ⟨wf8 (h y hy).1, wf8 (h y hy).2.1⟩
theorem okCs (l : List S77) (h : ∀ x0 ∈ l, (Lit.int .i8 x0.f0).wf = true ∧ (Lit.int .i8 x0.f1).wf = true ∧ (Lit.int .i8 x0.f2).wf = true ∧ (Lit.int .i8 x0.f3).wf = true) : ∀ c ∈ l.map convC, okC c := by
  intro x hx
  obtain ⟨y, hy, rfl⟩ := List.mem_map.1 hx
  exact ⟨wf8 (h y hy).1, wf8 (h y hy).2.1, wf8 (h y hy).2.2.1, wf8 (h y hy).2.2.2⟩
/-- The sums of what is handed on are small. -/
theorem few (n m : Nat) (h0 : ¬ (if (1048576 : Int) - (n : Int) < 0 then (-1 : Int) else (1048576 : Int) - (n : Int)) < 0) : n ≤ 1048576 ∧ (if (1048576 : Int) - (n : Int) < 0 then (-1 : Int) else (1048576 : Int) - (n : Int)) = (1048576 : Int) - (n : Int) := by
  split at h0 <;> omega
end Go.Proofs.Ytedbgfjllladkaa.CutsKit
