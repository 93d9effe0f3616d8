/- Two stones: a corner of one within the other; the seam, whichever stone comes first. · Both parts of a stone that is split: they touch along the cut, their seam is the cut, their areas sum to the stone's. · What both SeamSquares, the areas and both FirstStones come to. · What both JoinStones come to. · What the program's FirstStone comes to: it is the same for a stone that begins with another of its corners. · Both parts of a stone, joined, are the stone again: it begins with the corner where it has been split. · What the program's SplitStone comes to. · The law FnStonePairs says true at all codes. -/
import Derived.Test.YtmglnofmmgokkaaKitAll
import Derived.Test.YtmglnofmmgokkaaLoopsAll
import Derived.Test.YtmglnofmmgokkaaPAxf21
import Derived.Test.YtmglnofmmgokkaaPAxf31
import Derived.Test.YtmglnofmmgokkaaPAxm22
import Derived.Test.YtmglnofmmgokkaaPAxm17
import Derived.Test.YtmglnofmmgokkaaPAxm15
import Derived.Test.YtmglnofmmgokkaaPAxf19
import Derived.Test.YtmglnofmmgokkaaPAxf20
import Derived.Test.YtmglnofmmgokkaaPAxm21
import Derived.Test.YtmglnofmmgokkaaPAxm19
import Derived.Test.YtmglnofmmgokkaaPAxf43
import Derived.Test.YtmglnofmmgokkaaPAxf47
import Derived.Test.YtmglnofmmgokkaaPAxf61
import Derived.Test.YtmglnofmmgokkaaPAxm16
import Derived.Test.YtmglnofmmgokkaaPAxm20
import Derived.Test.YtmglnofmmgokkaaPAxm14
import Derived.Test.YtmglnofmmgokkaaPAxf3
namespace Go.Proofs.Ytmglnofmmgokkaa.PairGeo
set_option linter.unusedSimpArgs false
set_option linter.unusedVariables false
open Go.RowKit PA Base StonesKit LayKit Geo SeamKit HullGeo SplitKit TouchKit WhereKit DrawKit YtmglnofmmgokkaaW.PrintWords YtmglnofmmgokkaaW.PrintLast YtmglnofmmgokkaaW.PrintMore
theorem greatest (f : Nat → Int) : ∀ n : Nat, 1 ≤ n → ∃ m, m < n ∧ ∀ j, j < n → f j ≤ f m
 | 0, h => by omega
 | 1, _ => ⟨0, by omega, fun j hj => by rw [show j = 0 by omega]; exact Int.le_refl _⟩
 | n + 2, _ => by
  obtain ⟨m, hm, h⟩ := greatest f (n + 1) (by omega)
  by_cases c : f (n + 1) ≤ f m
  ·
   refine ⟨m, by omega, fun j hj => ?_⟩
   by_cases e : j = n + 1
   ·
    rw [e]; exact c
   ·
    exact h j (by omega)
  ·
   refine ⟨n + 1, by omega, fun j hj => ?_⟩
   by_cases e : j = n + 1
   ·
    rw [e]; exact Int.le_refl _
   ·
    have := h j (by omega); omega
theorem cone (a b : Int) (o A M B c : S34) : cr A M B * (off a b o c - off a b o M) = cr M B c * (off a b o A - off a b o M) + cr A M c * (off a b o B - off a b o M) := by
 unfold cr off; grind
theorem pred {n m : Nat} (h : m < n) (h3 : 3 ≤ n) : ∃ p, p < n ∧ (p + 1) % n = m ∧ (m + 1) % n ≠ p ∧ (m + 1) % n ≠ m := by
 by_cases c : m = 0
 ·
  subst c
  refine ⟨n - 1, by omega, by rw [show n - 1 + 1 = n by omega, Nat.mod_self], ?_, ?_⟩
  ·
   rw [Nat.mod_eq_of_lt (by omega)]; omega
  ·
   rw [Nat.mod_eq_of_lt (by omega)]; omega
 ·
  refine ⟨m - 1, by omega, by rw [show m - 1 + 1 = m by omega, Nat.mod_eq_of_lt h], ?_, ?_⟩
  ·
   by_cases d : m + 1 = n
   ·
    rw [d, Nat.mod_self]; omega
   ·
    rw [Nat.mod_eq_of_lt (by omega)]; omega
  ·
   by_cases d : m + 1 = n
   ·
    rw [d, Nat.mod_self]; omega
   ·
    rw [Nat.mod_eq_of_lt (by omega)]; omega
/-- The corner that is greatest along a line, and its neighbours. -/
theorem top {l : List S34} (h : okS l = true) (a b : Int) (o : S34) : ∃ A M B : S34, A ∈ l ∧ M ∈ l ∧ B ∈ l ∧ 0 < cr A M B ∧ (∃ p, p < l.length ∧ A = at_ l p ∧ M = at_ l ((p + 1) % l.length)) ∧ (∃ m, m < l.length ∧ M = at_ l m ∧ B = at_ l ((m + 1) % l.length)) ∧ off a b o A ≤ off a b o M ∧ off a b o B ≤ off a b o M ∧ ∀ x ∈ l, off a b o x ≤ off a b o M := by
 have hl := okS_len h
 obtain ⟨m, hm, hg⟩ := greatest (fun j => off a b o (at_ l j)) l.length (by omega)
 obtain ⟨p, hp, e1, e2, e3⟩ := pred hm hl.1
 have hn := nx_lt l m hm
 have hc := ok_cr h hp hn e2 (by rw [e1]; exact e3)
 rw [e1] at hc
 refine ⟨at_ l p, at_ l m, at_ l ((m + 1) % l.length), at_memS hp, at_memS hm, at_memS hn, hc, ⟨p, hp, rfl, by rw [e1]⟩, ⟨m, hm, rfl, rfl⟩, hg p hp, hg _ hn, fun x hx => ?_⟩
 obtain ⟨j, hj, rfl⟩ := List.getElem_of_mem hx
 have e : l[j] = at_ l j := by unfold at_; rw [getC hj]
 rw [e]; exact hg j hj
def In0 (l : List S34) (c : S34) : Prop := ∀ i, i < l.length → 0 ≤ cr (at_ l i) (at_ l ((i + 1) % l.length)) c
def In2 (l : List S34) (c : S34) : Prop := ∀ i, i < l.length → 0 < cr (at_ l i) (at_ l ((i + 1) % l.length)) c
theorem inside {l : List S34} (h : okS l = true) {c : S34} (hc : In0 l c) (a b : Int) (o : S34) : ∃ x ∈ l, off a b o c ≤ off a b o x := by
 obtain ⟨A, M, B, hA, hM, hB, hD, ⟨p, hp, p1, p2⟩, ⟨m, hm, m1, m2⟩, g1, g2, _⟩ := top h a b o
 refine ⟨M, hM, ?_⟩
 have e := cone a b o A M B c
 have s1 := hc m hm
 have s2 := hc p hp
 rw [← m1, ← m2] at s1
 rw [← p1, ← p2] at s2
 have t1 := Int.mul_nonpos_of_nonneg_of_nonpos s1 (show off a b o A - off a b o M ≤ 0 by omega)
 have t2 := Int.mul_nonpos_of_nonneg_of_nonpos s2 (show off a b o B - off a b o M ≤ 0 by omega)
 refine Int.le_of_not_gt (fun g => ?_)
 have := Int.mul_pos hD (show 0 < off a b o c - off a b o M by omega)
 omega
theorem off_eq (a b : Int) (o u v : S34) : off a b o u - off a b o v = off a b v u := by unfold off; grind
theorem inside_lt {l : List S34} (h : okS l = true) {c : S34} (hc : In2 l c) {a b : Int} (hab : a ≠ 0 ∨ b ≠ 0) (o : S34) : ∃ x ∈ l, off a b o c < off a b o x := by
 obtain ⟨A, M, B, hA, hM, hB, hD, ⟨p, hp, p1, p2⟩, ⟨m, hm, m1, m2⟩, g1, g2, _⟩ := top h a b o
 refine ⟨M, hM, ?_⟩
 have e := cone a b o A M B c
 have s1 := hc m hm
 have s2 := hc p hp
 rw [← m1, ← m2] at s1
 rw [← p1, ← p2] at s2
 have t1 := Int.mul_nonpos_of_nonneg_of_nonpos (Int.le_of_lt s1) (show off a b o A - off a b o M ≤ 0 by omega)
 have t2 := Int.mul_nonpos_of_nonneg_of_nonpos (Int.le_of_lt s2) (show off a b o B - off a b o M ≤ 0 by omega)
 refine Int.lt_of_not_ge (fun g => ?_)
 have t3 := Int.mul_nonneg (Int.le_of_lt hD) (show 0 ≤ off a b o c - off a b o M by omega)
 have z1 : off a b o A - off a b o M = 0 := by
  have : cr M B c * (off a b o A - off a b o M) = 0 := by omega
  rcases Int.mul_eq_zero.1 this with q | q
  ·
   omega
  ·
   exact q
 have z2 : off a b o B - off a b o M = 0 := by
  have : cr A M c * (off a b o B - off a b o M) = 0 := by omega
  rcases Int.mul_eq_zero.1 this with q | q
  ·
   omega
  ·
   exact q
 rw [off_eq] at z1 z2
 have x := off_x a b M A B
 have y := off_y a b M A B
 rw [z1, z2, Int.zero_mul, Int.zero_mul] at x y
 have d : cr M A B = - cr A M B := by unfold cr; grind
 rw [d] at x y
 have x' : cr A M B * a = 0 := by rw [Int.neg_mul] at x; omega
 have y' : cr A M B * b = 0 := by rw [Int.neg_mul] at y; omega
 rcases hab with q | q
 ·
  rcases Int.mul_eq_zero.1 x' with r | r
  ·
   omega
  ·
   exact q r
 ·
  rcases Int.mul_eq_zero.1 y' with r | r
  ·
   omega
  ·
   exact q r
theorem out_pos {p q c : S34} (hp : Sm p) (hq : Sm q) (hc : Sm c) (h : 0 < cr p q c) (st : Bool) : out p q st c = true := by
 unfold out; rw [sd_cr hp hq hc, decide_eq_true h, Bool.true_or]
theorem out_nn {p q c : S34} (hp : Sm p) (hq : Sm q) (hc : Sm c) (h : 0 ≤ cr p q c) : out p q true c = true := by
 unfold out
 rw [sd_cr hp hq hc]
 by_cases e : 0 < cr p q c
 ·
  rw [decide_eq_true e]; rfl
 ·
  rw [decide_eq_true (by omega : cr p q c = 0), Bool.true_and, Bool.or_true]
theorem key_dir {p q : S34} (h : key p ≠ key q) : q.f0 - p.f0 ≠ 0 ∨ q.f1 - p.f1 ≠ 0 := by unfold key at h; omega
theorem over_in {a b : List S34} (ha : okS a = true) (hb : okS b = true) {c : S34} (hc : c ∈ b) (h : In2 a c) : overB a b = true := by
 have c1 : cutB a b false = true := cut_all (fun i hi => ⟨c, hc, out_pos (ok_smA ha hi) (ok_smA ha (nx_lt a i hi)) (ok_sm hb c hc) (h i hi) _⟩)
 have c2 : cutB b a false = true := by
  refine cut_all (fun x hx => ?_)
  obtain ⟨y, hy, g⟩ := inside_lt ha h (key_dir (ok_key hb hx)) (at_ b x)
  have g0 := ok_left hb hx hc
  refine ⟨y, hy, out_pos (ok_smA hb hx) (ok_smA hb (nx_lt b x hx)) (ok_sm ha y hy) ?_ _⟩
  have g1 : cr (at_ b x) (at_ b ((x + 1) % b.length)) c < cr (at_ b x) (at_ b ((x + 1) % b.length)) y := g
  omega
 unfold overB; rw [c1, c2]; rfl
theorem touch_in {a b : List S34} (ha : okS a = true) (hb : okS b = true) {c : S34} (hc : c ∈ b) (h : In0 a c) : cutB a b true = true ∧ cutB b a true = true := by
 refine ⟨cut_all (fun i hi => ⟨c, hc, out_nn (ok_smA ha hi) (ok_smA ha (nx_lt a i hi)) (ok_sm hb c hc) (h i hi)⟩), cut_all (fun x hx => ?_)⟩
 obtain ⟨y, hy, g⟩ := inside ha h ((at_ b ((x + 1) % b.length)).f0 - (at_ b x).f0) ((at_ b ((x + 1) % b.length)).f1 - (at_ b x).f1) (at_ b x)
 have g0 := ok_left hb hx hc
 refine ⟨y, hy, out_nn (ok_smA hb hx) (ok_smA hb (nx_lt b x hx)) (ok_sm ha y hy) ?_⟩
 have g1 : cr (at_ b x) (at_ b ((x + 1) % b.length)) c ≤ cr (at_ b x) (at_ b ((x + 1) % b.length)) y := g
 omega
theorem scan_in {l : List S34} {p : S34} : ∀ (x : List S34) (i s r : Int), scanG (whF l p) id x i s = r → 0 < r → (∀ (j : Nat) c, x[j]? = some c → 0 ≤ sd c (at_ l (((i + (j : Int)).toNat + 1) % l.length)) p) ∧ (r = 2 → s = 2 ∧ ∀ (j : Nat) c, x[j]? = some c → 0 < sd c (at_ l (((i + (j : Int)).toNat + 1) % l.length)) p)
 | [], i, s, r, h, hr => ⟨fun j c hj => by simp at hj, fun h2 => ⟨by have : s = r := h; omega, fun j c hj => by simp at hj⟩⟩
 | c :: x, i, s, r, h, hr => by
  rw [scanG] at h
  by_cases c0 : sd c (at_ l ((i.toNat + 1) % l.length)) p < 0
  ·
   have hw : whF l p i c s = .inl 0 := by unfold whF; rw [if_pos c0]
   rw [hw] at h
   have : (0 : Int) = r := h
   omega
  ·
   have hw : whF l p i c s = .inr (if sd c (at_ l ((i.toNat + 1) % l.length)) p = 0 then 1 else s) := by
    unfold whF
    rw [if_neg c0]
    split <;> rfl
   rw [hw] at h
   obtain ⟨h1, h2⟩ := scan_in x (i + 1) _ r h hr
   refine ⟨fun j c' hj => ?_, fun e => ?_⟩
   ·
    cases j with
    | zero =>
     have e : c = c' := by simpa using hj
     subst e
     rw [Int.natCast_zero, Int.add_zero]; omega
    | succ j =>
     have := h1 j c' (by simpa using hj)
     rw [show i + 1 + (j : Int) = i + ((j + 1 : Nat) : Int) by omega] at this
     exact this
   ·
    obtain ⟨g1, g2⟩ := h2 e
    have c1 : ¬ sd c (at_ l ((i.toNat + 1) % l.length)) p = 0 := by
     intro q; rw [if_pos q] at g1; omega
    rw [if_neg c1] at g1
    refine ⟨g1, fun j c' hj => ?_⟩
    cases j with
    | zero =>
     have e : c = c' := by simpa using hj
     subst e
     rw [Int.natCast_zero, Int.add_zero]; omega
    | succ j =>
     have := g2 j c' (by simpa using hj)
     rw [show i + 1 + (j : Int) = i + ((j + 1 : Nat) : Int) by omega] at this
     exact this
theorem wh_in {l : List S34} (h : okS l = true) {p : S34} (hp : Sm p) (hw : 0 < wh l p) : In0 l p ∧ (wh l p = 2 → In2 l p) := by
 obtain ⟨h1, h2⟩ := scan_in l 0 2 (wh l p) rfl hw
 have e : ∀ i (hi : i < l.length), l[i]? = some (at_ l i) := by
  intro i hi
  unfold at_; rw [getC hi]; exact List.getElem?_eq_getElem hi
 refine ⟨fun i hi => ?_, fun g i hi => ?_⟩
 ·
  have := h1 i _ (e i hi)
  rw [Int.zero_add, Int.toNat_natCast, sd_cr (ok_smA h hi) (ok_smA h (nx_lt l i hi)) hp] at this
  exact this
 ·
  have := (h2 g).2 i _ (e i hi)
  rw [Int.zero_add, Int.toNat_natCast, sd_cr (ok_smA h hi) (ok_smA h (nx_lt l i hi)) hp] at this
  exact this
theorem pick_max {p r : S34} (hp : Sm p) (hr : Sm r) : pick (lt p r) r p = pick (lt r p) p r := by
 unfold pick
 by_cases c : lt p r = true
 ·
  have c1 := (lt_iff hp hr).1 c
  rw [if_pos c]
  by_cases d : lt r p = true
  ·
   have := (lt_iff hr hp).1 d; omega
  ·
   rw [if_neg d]
 ·
  rw [if_neg c]
  by_cases d : lt r p = true
  ·
   rw [if_pos d]
  ·
   rw [if_neg d]
   refine key_inj hp hr ?_
   have c1 : ¬ key p < key r := fun h => c ((lt_iff hp hr).2 h)
   have d1 : ¬ key r < key p := fun h => d ((lt_iff hr hp).2 h)
   omega
theorem pick_min {p r : S34} (hp : Sm p) (hr : Sm r) : pick (lt p r) p r = pick (lt r p) r p := by
 unfold pick
 by_cases c : lt p r = true
 ·
  have c1 := (lt_iff hp hr).1 c
  rw [if_pos c]
  by_cases d : lt r p = true
  ·
   have := (lt_iff hr hp).1 d; omega
  ·
   rw [if_neg d]
 ·
  rw [if_neg c]
  by_cases d : lt r p = true
  ·
   rw [if_pos d]
  ·
   rw [if_neg d]
   refine (key_inj hp hr ?_).symm
   have c1 : ¬ key p < key r := fun h => c ((lt_iff hp hr).2 h)
   have d1 : ¬ key r < key p := fun h => d ((lt_iff hr hp).2 h)
   omega
theorem com_symm {p q u v : S34} (hp : Sm p) (hq : Sm q) (hu : Sm u) (hv : Sm v) : com p q u v = com u v p q := by
 unfold com com1
 have h1 : Sm (pick (lt q p) q p) := pick_sm hq hp
 have h2 : Sm (pick (lt q p) p q) := pick_sm hp hq
 have h3 : Sm (pick (lt v u) v u) := pick_sm hv hu
 have h4 : Sm (pick (lt v u) u v) := pick_sm hu hv
 rw [pick_max h1 h3, pick_min h4 h2]
theorem has_symm {p q u v : S34} (hp : Sm p) (hq : Sm q) (hu : Sm u) (hv : Sm v) (hpq : key p ≠ key q) (huv : key u ≠ key v) : has p q u v = has u v p q := by
 unfold has
 by_cases c : cr p q u = 0 ∧ cr p q v = 0
 ·
  obtain ⟨d1, d2⟩ := cr_on hpq c.1 c.2
  rw [if_pos c.1, if_pos c.2, if_pos d1, if_pos d2, com_symm hp hq hu hv]
 ·
  have d : ¬ (cr u v p = 0 ∧ cr u v q = 0) := fun d => c (cr_on huv d.1 d.2)
  have e1 : (if cr p q u = 0 then (if cr p q v = 0 then com p q u v else 0) else 0) = 0 := by
   by_cases c1 : cr p q u = 0
   ·
    rw [if_pos c1, if_neg (fun c2 => c ⟨c1, c2⟩)]
   ·
    rw [if_neg c1]
  have e2 : (if cr u v p = 0 then (if cr u v q = 0 then com u v p q else 0) else 0) = 0 := by
   by_cases c1 : cr u v p = 0
   ·
    rw [if_pos c1, if_neg (fun c2 => d ⟨c1, c2⟩)]
   ·
    rw [if_neg c1]
  rw [e1, e2]
def hv (a b : List S34) (i j : Nat) : Int := has (at_ a i) (at_ a ((i + 1) % a.length)) (at_ b j) (at_ b ((j + 1) % b.length))
structure SeamOf (a b : List S34) (r : Int) : Prop where
 lo : 0 ≤ r
 over : overB a b = true → r = 0
 all : overB a b = false → ∀ i j, i < a.length → j < b.length → hv a b i j ≤ r
 one : r = 0 ∨ overB a b = false ∧ ∃ i j, i < a.length ∧ j < b.length ∧ r = hv a b i j
theorem over_symm (a b : List S34) : overB a b = overB b a := by unfold overB; exact Bool.and_comm _ _
theorem SeamOf.uniq {a b : List S34} {r s : Int} (h : SeamOf a b r) (g : SeamOf a b s) : r = s := by
 have key : ∀ {r s : Int}, SeamOf a b r → SeamOf a b s → r ≤ s := by
  intro r s h g
  rcases h.one with c | ⟨c, i, j, hi, hj, e⟩
  ·
   have := g.lo; omega
  ·
   rw [e]; exact g.all c i j hi hj
 have := key h g
 have := key g h
 omega
theorem hv_symm {a b : List S34} (ha : okS a = true) (hb : okS b = true) {i j : Nat} (hi : i < a.length) (hj : j < b.length) : hv a b i j = hv b a j i :=
 has_symm (ok_smA ha hi) (ok_smA ha (nx_lt a i hi)) (ok_smA hb hj) (ok_smA hb (nx_lt b j hj)) (ok_key ha hi) (ok_key hb hj)
theorem SeamOf.symm {a b : List S34} (ha : okS a = true) (hb : okS b = true) {r : Int} (h : SeamOf a b r) : SeamOf b a r := by
 refine ⟨h.lo, fun e => h.over (by rw [over_symm]; exact e), fun e i j hi hj => ?_, ?_⟩
 ·
  rw [← hv_symm ha hb hj hi]
  exact h.all (by rw [over_symm]; exact e) j i hj hi
 ·
  rcases h.one with c | ⟨c, i, j, hi, hj, e⟩
  ·
   exact .inl c
  ·
   exact .inr ⟨by rw [over_symm]; exact c, j, i, hj, hi, by rw [e, hv_symm ha hb hi hj]⟩
theorem SeamOf.seamed {a b : List S34} {r : Int} (h : SeamOf a b r) (hr : 0 < r) : overB a b = false ∧ Seamed a b := by
 rcases h.one with c | ⟨c, i, j, hi, hj, e⟩
 ·
  omega
 ·
  exact ⟨c, i, j, hi, hj, by rw [e] at hr; exact hr⟩
end Go.Proofs.Ytmglnofmmgokkaa.PairGeo
namespace Go.Proofs.Ytmglnofmmgokkaa.PairSplit
set_option linter.unusedSimpArgs false
set_option linter.unusedVariables false
open Go.RowKit PA Base StonesKit LayKit Geo SeamKit HullGeo SplitKit TouchKit WhereKit DrawKit PairGeo YtmglnofmmgokkaaW.PrintWords YtmglnofmmgokkaaW.PrintLast YtmglnofmmgokkaaW.PrintMore
theorem cr_rev (p q c : S34) : cr q p c = - cr p q c := by unfold cr; grind
theorem allF_at (p : Nat → Bool) : ∀ d i, allF p d i = true → ∀ x, i ≤ x → x < i + d → p x = true
 | 0, i, _, x, h1, h2 => by omega
 | d + 1, i, h, x, h1, h2 => by
  rw [allF, Bool.and_eq_true] at h
  by_cases e : x = i
  ·
   rw [e]; exact h.1
  ·
   exact allF_at p d (i + 1) h.2 x (by omega) (by omega)
theorem cut_no {a b : List S34} {i : Nat} (hi : i < a.length) (h : ∀ c ∈ b, out (at_ a i) (at_ a ((i + 1) % a.length)) false c = false) : cutB a b false = false := by
 rw [← Bool.not_eq_true]
 intro e
 unfold cutB at e
 have := allF_at _ _ _ e i (by omega) (by omega)
 unfold sdAny at this
 rw [List.any_eq_true] at this
 obtain ⟨c, hc, g⟩ := this
 rw [h c hc] at g
 cases g
/-- A stone, two of its corners (neither beside the other), and both parts. -/
structure Halves (a : List S34) (i k d e : Nat) : Prop where
 ok : okS a = true
 hi : i < a.length
 hk : k < a.length
 d2 : 2 ≤ d
 e2 : 2 ≤ e
 sum : d + e = a.length
 far : (i + d) % a.length = k
 back : (k + e) % a.length = i
theorem cut_of {a : List S34} (ho : okS a = true) {i k : Nat} (hi : i < a.length) (hk : k < a.length) (hn : SplitKit.near a.length i k = false) : Halves a i k (dist a.length i k) (dist a.length k i) := by
 have hl := okS_len ho
 unfold SplitKit.near at hn
 rw [Bool.or_eq_false_iff, Bool.or_eq_false_iff, decide_eq_false_iff_not, decide_eq_false_iff_not, decide_eq_false_iff_not] at hn
 obtain ⟨n1, n2, n3⟩ := hn
 unfold nxt at n2 n3
 have e1 : dist a.length i k = if i ≤ k then k - i else k + a.length - i := rfl
 have e2 : dist a.length k i = if k ≤ i then i - k else i + a.length - k := rfl
 have q1 : 2 ≤ dist a.length i k ∧ dist a.length i k < a.length ∧ (i + dist a.length i k = k ∨ i + dist a.length i k = k + a.length) := by
  rw [e1]; split at n2 <;> split at n3 <;> split <;> omega
 have q2 : 2 ≤ dist a.length k i ∧ dist a.length k i < a.length ∧ (k + dist a.length k i = i ∨ k + dist a.length k i = i + a.length) := by
  rw [e2]; split at n2 <;> split at n3 <;> split <;> omega
 refine ⟨ho, hi, hk, q1.1, q2.1, by omega, ?_, ?_⟩
 ·
  rcases q1.2.2 with c | c
  ·
   rw [c, Nat.mod_eq_of_lt hk]
  ·
   rw [c, Nat.add_mod_right, Nat.mod_eq_of_lt hk]
 ·
  rcases q2.2.2 with c | c
  ·
   rw [c, Nat.mod_eq_of_lt hi]
  ·
   rw [c, Nat.add_mod_right, Nat.mod_eq_of_lt hi]
section
variable {a : List S34} {i k d e : Nat}
theorem Halves.swap (h : Halves a i k d e) : Halves a k i e d := ⟨h.ok, h.hk, h.hi, h.e2, h.d2, by have := h.sum; omega, h.back, h.far⟩
theorem Halves.ok1 (h : Halves a i k d e) : okS (SplitKit.part a d i) = true := part_ok h.ok h.hi h.d2 (by have := h.sum; have := h.e2; omega)
theorem Halves.len1 (h : Halves a i k d e) : (SplitKit.part a d i).length = d + 1 := part_len a d i
theorem Halves.at1 (h : Halves a i k d e) {j : Nat} (hj : j ≤ d) : at_ (SplitKit.part a d i) j = at_ a ((i + j) % a.length) := part_at a d i j h.hi hj
theorem Halves.last1 (h : Halves a i k d e) : at_ (SplitKit.part a d i) d = at_ a k := by rw [h.at1 (Nat.le_refl _), h.far]
theorem Halves.first1 (h : Halves a i k d e) : at_ (SplitKit.part a d i) 0 = at_ a i := by rw [h.at1 (Nat.zero_le _), Nat.add_zero, Nat.mod_eq_of_lt h.hi]
theorem Halves.nx1 (h : Halves a i k d e) : (d + 1) % (SplitKit.part a d i).length = 0 := by rw [h.len1, Nat.mod_self]
theorem Halves.smi (h : Halves a i k d e) : Sm (at_ a i) := ok_smA h.ok h.hi
theorem Halves.smk (h : Halves a i k d e) : Sm (at_ a k) := ok_smA h.ok h.hk
theorem Halves.left1 (h : Halves a i k d e) {c : S34} (hc : c ∈ SplitKit.part a d i) : 0 ≤ cr (at_ a k) (at_ a i) c := by
 have := ok_left h.ok1 (i := d) (by rw [h.len1]; omega) hc
 rw [h.nx1, h.last1, h.first1] at this
 exact this
theorem Halves.left2 (h : Halves a i k d e) {c : S34} (hc : c ∈ SplitKit.part a e k) : 0 ≤ cr (at_ a i) (at_ a k) c := h.swap.left1 hc
theorem Halves.on1 (h : Halves a i k d e) {c : S34} (hc : c ∈ SplitKit.part a d i) (hz : cr (at_ a k) (at_ a i) c = 0) : c = at_ a i ∨ c = at_ a k := by
 obtain ⟨j, hj, rfl⟩ := List.getElem_of_mem hc
 have e1 : (SplitKit.part a d i)[j] = at_ (SplitKit.part a d i) j := by unfold at_; rw [getC hj]
 rw [e1] at hz ⊢
 by_cases c1 : j = d
 ·
  rw [c1, h.last1]; exact .inr rfl
 ·
  by_cases c2 : j = 0
  ·
   rw [c2, h.first1]; exact .inl rfl
  ·
   exfalso
   have := ok_cr h.ok1 (i := d) (j := j) (by rw [h.len1]; omega) hj c1 (by rw [h.nx1]; exact c2)
   rw [h.nx1, h.last1, h.first1] at this
   omega
theorem Halves.mem_i (h : Halves a i k d e) : at_ a i ∈ SplitKit.part a d i := by
 rw [← h.first1]; exact at_memS (by rw [h.len1]; omega)
theorem Halves.mem_k (h : Halves a i k d e) : at_ a k ∈ SplitKit.part a d i := by
 rw [← h.last1]; exact at_memS (by rw [h.len1]; omega)
theorem Halves.apart (h : Halves a i k d e) : overB (SplitKit.part a d i) (SplitKit.part a e k) = false := by
 have : cutB (SplitKit.part a d i) (SplitKit.part a e k) false = false := by
  refine cut_no (i := d) (by rw [h.len1]; omega) (fun c hc => ?_)
  rw [h.nx1, h.last1, h.first1]
  unfold out
  rw [sd_cr h.smk h.smi (ok_sm h.swap.ok1 c hc), Bool.false_and, Bool.or_false, decide_eq_false_iff_not]
  have := h.left2 hc
  have := cr_rev (at_ a i) (at_ a k) c
  omega
 unfold overB
 rw [this]; rfl
theorem Halves.meet (h : Halves a i k d e) : cutB (SplitKit.part a d i) (SplitKit.part a e k) true = true ∧ cutB (SplitKit.part a e k) (SplitKit.part a d i) true = true :=
 touch_in h.ok1 h.swap.ok1 h.swap.mem_k (fun j hj => ok_left h.ok1 hj h.mem_i)
theorem Halves.ne (h : Halves a i k d e) : key (at_ a k) ≠ key (at_ a i) := by
 have := ok_key h.ok1 (i := d) (by rw [h.len1]; omega)
 have e1 : (SplitKit.part a d i).getD d z34 = at_ a k := h.last1
 have e2 : (SplitKit.part a d i).getD ((d + 1) % (SplitKit.part a d i).length) z34 = at_ a i := by rw [h.nx1]; exact h.first1
 rw [e1, e2] at this
 exact this
theorem Halves.end_ (h : Halves a i k d e) {p q u v : S34} (hp : p ∈ SplitKit.part a d i) (hq : q ∈ SplitKit.part a d i) (hu : u ∈ SplitKit.part a e k) (hv : v ∈ SplitKit.part a e k) (hpq : key p ≠ key q) (hc1 : cr p q u = 0) (hc2 : cr p q v = 0) {x : S34} (hx : x ∈ ends p q u v) : x = at_ a i ∨ x = at_ a k := by
 obtain ⟨d1, d2⟩ := cr_on hpq hc1 hc2
 have one : ∀ x, x ∈ SplitKit.part a d i → cr u v x = 0 → Box x u v → x = at_ a i ∨ x = at_ a k := by
  intro x hx hz hb
  refine h.on1 hx ?_
  have s1 := (seg (a := (at_ a k).f0 - (at_ a i).f0) (b := (at_ a k).f1 - (at_ a i).f1) (o := at_ a i) hz hb).1 (h.left2 hu) (h.left2 hv)
  have s2 := h.left1 hx
  have s3 : 0 ≤ cr (at_ a i) (at_ a k) x := s1
  have := cr_rev (at_ a i) (at_ a k) x
  omega
 have two : ∀ x, x ∈ SplitKit.part a e k → cr p q x = 0 → Box x p q → x = at_ a i ∨ x = at_ a k := by
  intro x hx hz hb
  refine (h.swap.on1 hx ?_).symm
  have s1 := (seg (a := (at_ a i).f0 - (at_ a k).f0) (b := (at_ a i).f1 - (at_ a k).f1) (o := at_ a k) hz hb).1 (h.left1 hp) (h.left1 hq)
  have s2 := h.left2 hx
  have s3 : 0 ≤ cr (at_ a k) (at_ a i) x := s1
  have := cr_rev (at_ a i) (at_ a k) x
  omega
 rw [mem_ends] at hx
 rcases hx with ⟨rfl, hb⟩ | ⟨rfl, hb⟩ | ⟨rfl, hb⟩ | ⟨rfl, hb⟩
 ·
  exact one _ hp d1 hb
 ·
  exact one _ hq d2 hb
 ·
  exact two _ hu hc1 hb
 ·
  exact two _ hv hc2 hb
theorem Halves.hv_le (h : Halves a i k d e) {x y : Nat} (hx : x < (SplitKit.part a d i).length) (hy : y < (SplitKit.part a e k).length) : hv (SplitKit.part a d i) (SplitKit.part a e k) x y ≤ sq (at_ a i) (at_ a k) := by
 have n0 := sq_nonneg (at_ a i) (at_ a k)
 unfold hv has
 have hx' := nx_lt (SplitKit.part a d i) x hx
 have hy' := nx_lt (SplitKit.part a e k) y hy
 split
 ·
  rename_i c1
  split
  ·
   rename_i c2
   obtain ⟨_, _, m⟩ := com_is (ok_smA h.ok1 hx) (ok_smA h.ok1 hx') (ok_smA h.swap.ok1 hy) (ok_smA h.swap.ok1 hy') (ok_key h.ok1 hx) c1 c2
   rcases m with m | ⟨e', he, f, hf, _, m⟩
   ·
    omega
   ·
    rw [m]
    have ends_ : ∀ {z : S34}, z ∈ ends (at_ (SplitKit.part a d i) x) (at_ (SplitKit.part a d i) ((x + 1) % (SplitKit.part a d i).length)) (at_ (SplitKit.part a e k) y) (at_ (SplitKit.part a e k) ((y + 1) % (SplitKit.part a e k).length)) → z = at_ a i ∨ z = at_ a k :=
     fun hz => h.end_ (at_memS hx) (at_memS hx') (at_memS hy) (at_memS hy') (ok_key h.ok1 hx) c1 c2 hz
    rcases ends_ he with g | g <;> rcases ends_ hf with g' | g' <;> rw [g, g']
    ·
     rw [sq_self]; exact n0
    ·
     exact Int.le_refl _
    ·
     rw [sq_symm]; exact Int.le_refl _
    ·
     rw [sq_self]; exact n0
  ·
   exact n0
 ·
  exact n0
theorem Halves.hv_is (h : Halves a i k d e) : sq (at_ a i) (at_ a k) ≤ hv (SplitKit.part a d i) (SplitKit.part a e k) d e := by
 unfold hv has
 rw [h.nx1, h.swap.nx1, h.last1, h.first1, h.swap.last1, h.swap.first1]
 have c1 : cr (at_ a k) (at_ a i) (at_ a i) = 0 := cr_self2 _ _
 have c2 : cr (at_ a k) (at_ a i) (at_ a k) = 0 := cr_self3 _ _
 rw [if_pos c1, if_pos c2]
 obtain ⟨_, m, _⟩ := com_is h.smk h.smi h.smi h.smk h.ne c1 c2
 refine m _ ?_ _ ?_
 ·
  rw [mem_ends]; exact .inr (.inr (.inl ⟨rfl, by unfold Box; omega⟩))
 ·
  rw [mem_ends]; exact .inl ⟨rfl, by unfold Box; omega⟩
theorem Halves.seam (h : Halves a i k d e) {r : Int} (hr : SeamOf (SplitKit.part a d i) (SplitKit.part a e k) r) : r = sq (at_ a i) (at_ a k) := by
 have h1 := hr.all h.apart d e (by rw [h.len1]; omega) (by rw [h.swap.len1]; omega)
 have h2 := h.hv_is
 have n0 := sq_nonneg (at_ a i) (at_ a k)
 rcases hr.one with c | ⟨_, x, y, hx, hy, c⟩
 ·
  omega
 ·
  have := h.hv_le hx hy
  omega
def xx (p q : S34) : Int := p.f0 * q.f1 - q.f0 * p.f1
theorem xx_rev (p q : S34) : xx p q = - xx q p := by unfold xx; omega
/-- The sum of d edges from i on. -/
def sumE (l : List S34) (i : Nat) : Nat → Int
 | 0 => 0
 | d + 1 => sumE l i d + xx (at_ l ((i + d) % l.length)) (at_ l ((i + d + 1) % l.length))
theorem sumE_add (l : List S34) (i d : Nat) : ∀ e, sumE l i (d + e) = sumE l i d + sumE l (i + d) e
 | 0 => by rw [Nat.add_zero, sumE]; omega
 | e + 1 => by rw [← Nat.add_assoc, sumE, sumE, sumE_add l i d e, Nat.add_assoc i d e]; omega
theorem sumE_mod (l : List S34) {i j : Nat} (h : i % l.length = j % l.length) : ∀ d, sumE l i d = sumE l j d
 | 0 => rfl
 | d + 1 => by
  have e1 : (i + d) % l.length = (j + d) % l.length := by rw [Nat.add_mod, h, ← Nat.add_mod]
  have e2 : (i + d + 1) % l.length = (j + d + 1) % l.length := by rw [Nat.add_mod, e1, ← Nat.add_mod]
  rw [sumE, sumE, sumE_mod l h d, e1, e2]
def areaZ (l : List S34) : Int := sumE l 0 l.length
theorem area_rot (l : List S34) (i : Nat) : sumE l i l.length = areaZ l := by
 have h1 := sumE_add l 0 i l.length
 have h2 := sumE_add l 0 l.length i
 rw [Nat.zero_add] at h1 h2
 have h3 := sumE_mod l (i := l.length) (j := 0) (by rw [Nat.mod_self, Nat.zero_mod]) i
 rw [h3] at h2
 rw [Nat.add_comm l.length i] at h2
 unfold areaZ
 omega
theorem Halves.sum1 (h : Halves a i k d e) : ∀ m, m ≤ d → sumE (SplitKit.part a d i) 0 m = sumE a i m
 | 0, _ => rfl
 | m + 1, hm => by
  rw [sumE, sumE, h.sum1 m (by omega), Nat.zero_add, h.len1, Nat.mod_eq_of_lt (by omega : m < d + 1), Nat.mod_eq_of_lt (by omega : m + 1 < d + 1), h.at1 (by omega), h.at1 (by omega), Nat.add_assoc i m 1]
theorem Halves.area1 (h : Halves a i k d e) : areaZ (SplitKit.part a d i) = sumE a i d + xx (at_ a k) (at_ a i) := by
 unfold areaZ
 rw [h.len1, sumE, h.sum1 d (Nat.le_refl _), Nat.zero_add, h.len1, Nat.mod_self, Nat.mod_eq_of_lt (by omega : d < d + 1), h.last1, h.first1]
theorem Halves.areas (h : Halves a i k d e) : areaZ (SplitKit.part a d i) + areaZ (SplitKit.part a e k) = areaZ a := by
 rw [h.area1, h.swap.area1, xx_rev (at_ a k) (at_ a i)]
 have h1 := sumE_add a i d e
 rw [h.sum, area_rot] at h1
 have h2 := sumE_mod a (i := i + d) (j := k) (by rw [h.far, Nat.mod_eq_of_lt h.hk]) e
 omega
end
end Go.Proofs.Ytmglnofmmgokkaa.PairSplit
namespace Go.Proofs.Ytmglnofmmgokkaa.PairFns
set_option linter.unusedSimpArgs false
set_option linter.unusedVariables false
open Go.RowKit PA Base StonesKit LayKit Geo SeamKit HullGeo SplitKit TouchKit WhereKit DrawKit PairGeo PairSplit YtmglnofmmgokkaaW.PrintWords YtmglnofmmgokkaaW.PrintLast YtmglnofmmgokkaaW.PrintMore
theorem seams3 {a b : List S34} (ha : okS a = true) (hb : okS b = true) : ∃ r, Ev (fun k => spec_l03Seams.f k a b) r ∧ Ev (fun k => impl_seam.f k a b) r ∧ SeamOf a b r := by
 have la := okS_len ha
 have lb := okS_len hb
 unfold spec_l03Seams.f impl_seam.f
 have inner : ∀ (i : Nat), i < a.length → (∀ s, ∃ r, Ev (fun k => spec_l03Seams.l0 k a b s ((i + 1 : Nat) : Int)) r ∧ Ev (fun k => impl_seam.l0 k a b s a (a.length : Int) ((i + 1 : Nat) : Int)) r ∧ s ≤ r ∧ (∀ x y, i + 1 ≤ x → x < a.length → y < b.length → hv a b x y ≤ r) ∧ (r = s ∨ ∃ x y, x < a.length ∧ y < b.length ∧ r = hv a b x y)) →
   ∀ (d j : Nat) (s : Int), j + d = b.length → ∃ r, Ev (fun k => spec_l03Seams.l1 k a b s (i : Int) (j : Int)) r ∧ Ev (fun k => impl_seam.l1 k a b s (i : Int) a (a.length : Int) (i : Int) b (b.length : Int) (j : Int) ((rd_T34 a i).f0) ((rd_T34 a i).f1)) r ∧ s ≤ r ∧ (∀ x y, i + 1 ≤ x → x < a.length → y < b.length → hv a b x y ≤ r) ∧ (∀ y, j ≤ y → y < b.length → hv a b i y ≤ r) ∧ (r = s ∨ ∃ x y, x < a.length ∧ y < b.length ∧ r = hv a b x y) := by
  intro i hi hn d
  have hna := nx_lt a i hi
  have hta := tm i a.length hi (by omega)
  induction d with
  | zero =>
   intro j s hj
   obtain ⟨r, h1, h2, h3, h4, h5⟩ := hn s
   refine ⟨r, ?_, ?_, h3, h4, fun y g1 g2 => by omega, h5⟩
   ·
    refine Ev.step (fun k => by rw [spec_l03Seams.l1]) (Ev.neg (by omega) ?_)
    rw [w64 (x := (i : Int) + 1) (by omega) (by omega)]; exact h1
   ·
    refine Ev.step (fun k => by rw [impl_seam.l1]) (Ev.neg (by omega) ?_)
    rw [w64 (x := (i : Int) + 1) (by omega) (by omega)]; exact h2
  | succ d ih =>
   intro j s hj
   have hj' : j < b.length := by omega
   have hnb := nx_lt b j hj'
   have htb := tm j b.length hj' (by omega)
   have hs := specSeam (at_sm ha hi) (at_sm ha hna) (at_sm hb hj') (at_sm hb hnb) (ok_key ha hi)
   have hm := implCommon (at_sm ha hi) (at_sm ha hna) (at_sm hb hj') (at_sm hb hnb)
   have hG : has (a.getD i z34) (a.getD ((i + 1) % a.length) z34) (b.getD j z34) (b.getD ((j + 1) % b.length) z34) = hv a b i j := rfl
   rw [hG] at hs hm
   obtain ⟨r, h1, h2, h3, h4, h5, h6⟩ := ih (j + 1) (max s (hv a b i j)) (by omega)
   refine ⟨r, ?_, ?_, by omega, h4, fun y g1 g2 => ?_, ?_⟩
   ·
    refine Ev.step (fun k => by rw [spec_l03Seams.l1]) (Ev.pos (by omega) (Ev.pos (by omega) (Ev.pos (by omega) ?_)))
    refine Ev.nobind (a := (((i + 1) % a.length : Nat) : Int)) (by unfold spec_l03Next.f; rw [if_neg (by omega), hta]) (Ev.pos (by omega) (Ev.pos (by omega) (Ev.pos (by omega) ?_)))
    refine Ev.nobind (a := (((j + 1) % b.length : Nat) : Int)) (by unfold spec_l03Next.f; rw [if_neg (by omega), htb]) (Ev.pos (by omega) (Ev.pos (by omega) ?_))
    rw [rdC' a i, rdC' a ((i + 1) % a.length), rdC' b j, rdC' b ((j + 1) % b.length), w64 (x := (j : Int) + 1) (by omega) (by omega)]
    exact Ev.bind hs (Ev.nobind (specMax s _) h1)
   ·
    refine Ev.step (fun k => by rw [impl_seam.l1]) (Ev.pos (by omega) (Ev.pos (by omega) (Ev.pos (by omega) (Ev.neg (by omega) ?_))))
    rw [hta]
    refine Ev.pos (by omega) (Ev.pos (by omega) (Ev.neg (by omega) ?_))
    rw [htb]
    refine Ev.pos (by omega) (Ev.pos (by omega) ?_)
    rw [rdC' a i, rdC' a ((i + 1) % a.length), rdC' b j, rdC' b ((j + 1) % b.length), w64 (x := (j : Int) + 1) (by omega) (by omega)]
    rw [rdC' a i] at h2
    refine Ev.bind hm ?_
    rw [mx_max]; exact h2
   ·
    by_cases c : y = j
    ·
     rw [c]; omega
    ·
     exact h5 y (by omega) g2
   ·
    rcases h6 with g | g
    ·
     by_cases c : hv a b i j ≤ s
     ·
      exact .inl (by omega)
     ·
      exact .inr ⟨i, j, hi, hj', by omega⟩
    ·
     exact .inr g
 have outer : ∀ (d i : Nat) (s : Int), i + d = a.length → ∃ r, Ev (fun k => spec_l03Seams.l0 k a b s (i : Int)) r ∧ Ev (fun k => impl_seam.l0 k a b s a (a.length : Int) (i : Int)) r ∧ s ≤ r ∧ (∀ x y, i ≤ x → x < a.length → y < b.length → hv a b x y ≤ r) ∧ (r = s ∨ ∃ x y, x < a.length ∧ y < b.length ∧ r = hv a b x y) := by
  intro d
  induction d with
  | zero =>
   intro i s hi
   refine ⟨s, ?_, ?_, Int.le_refl _, fun x y g1 g2 => by omega, .inl rfl⟩
   ·
    refine Ev.step (fun k => by rw [spec_l03Seams.l0]) ?_
    exact Ev.neg (by omega) (Ev.fin rfl)
   ·
    refine Ev.step (fun k => by rw [impl_seam.l0]) ?_
    exact Ev.neg (by omega) (Ev.fin rfl)
  | succ d ih =>
   intro i s hi
   obtain ⟨r, h1, h2, h3, h4, h5, h6⟩ := inner i (by omega) (fun s => ih (i + 1) s (by omega)) b.length 0 s (by omega)
   refine ⟨r, ?_, ?_, h3, fun x y g1 g2 g3 => ?_, h6⟩
   ·
    refine Ev.step (fun k => by rw [spec_l03Seams.l0]) ?_
    exact Ev.pos (by omega) h1
   ·
    refine Ev.step (fun k => by rw [impl_seam.l0]) ?_
    exact Ev.pos (by omega) (Ev.pos (by omega) (Ev.pos (by omega) h2))
   ·
    by_cases c : x = i
    ·
     rw [c]; exact h5 y (by omega) g3
    ·
     exact h4 x y (by omega) g2 g3
 have hs := specOver a b (by omega) (by omega)
 have hm := implOver a b
 cases e : overB a b with
 | true =>
  rw [e] at hs hm
  exact ⟨0, Ev.bind hs (Ev.pos rfl (Ev.fin rfl)), Ev.nobind hm (Ev.pos rfl (Ev.fin rfl)), Int.le_refl _, fun _ => rfl, fun g => (by rw [e] at g; cases g), .inl rfl⟩
 | false =>
  rw [e] at hs hm
  obtain ⟨r, h1, h2, h3, h4, h5⟩ := outer a.length 0 0 (by omega)
  exact ⟨r, Ev.bind hs (Ev.neg (by decide) h1), Ev.nobind hm (Ev.neg (by decide) h2), h3, fun g => (by rw [e] at g; cases g), fun _ x y g1 g2 => h4 x y (by omega) g1 g2, h5.imp_right (fun g => ⟨e, g⟩)⟩
theorem xx_small {p q : S34} (hp : Sm p) (hq : Sm q) : (-1000000 ≤ p.f0 * q.f1 ∧ p.f0 * q.f1 ≤ 1000000) ∧ (-1000000 ≤ q.f0 * p.f1 ∧ q.f0 * p.f1 ≤ 1000000) := by
 unfold Sm at hp hq
 have h1 := prod_le (a := p.f0) (b := q.f1) (A := 1000) (B := 1000) (by omega) (by omega) (by omega) (by omega) (by omega) (by omega)
 have h2 := prod_le (a := q.f0) (b := p.f1) (A := 1000) (B := 1000) (by omega) (by omega) (by omega) (by omega) (by omega) (by omega)
 omega
theorem wxx {p q : S34} (hp : Sm p) (hq : Sm q) {s : Int} (h : -100000000 ≤ s ∧ s ≤ 100000000) : wrap64 (s + (wrap64 ((wrap64 ((wrap64 p.f0) * (wrap64 q.f1))) - (wrap64 ((wrap64 q.f0) * (wrap64 p.f1)))))) = s + xx p q := by
 have h2 := xx_small hp hq
 unfold Sm at hp hq
 unfold xx
 rw [w64 (x := p.f0) (by omega) (by omega), w64 (x := p.f1) (by omega) (by omega), w64 (x := q.f0) (by omega) (by omega), w64 (x := q.f1) (by omega) (by omega), w64 (x := p.f0 * q.f1) (by omega) (by omega), w64 (x := q.f0 * p.f1) (by omega) (by omega), w64 (x := p.f0 * q.f1 - q.f0 * p.f1) (by omega) (by omega), w64 (by omega) (by omega)]
theorem sumE_small {l : List S34} (h : okS l = true) (i : Nat) : ∀ d : Nat, -(2000000 * (d : Int)) ≤ sumE l i d ∧ sumE l i d ≤ 2000000 * (d : Int)
 | 0 => by rw [sumE]; omega
 | d + 1 => by
  have hl := okS_len h
  have ih := sumE_small h i d
  have := xx_small (ok_smA h (Nat.mod_lt (i + d) (by omega))) (ok_smA h (Nat.mod_lt (i + d + 1) (by omega)))
  rw [sumE]; unfold xx
  omega
theorem implArea {l : List S34} (h : okS l = true) : Ev (fun k => impl_Stone_area.f k l) (areaZ l) := by
 have hl := okS_len h
 unfold impl_Stone_area.f
 have key : ∀ (d i : Nat), i + d = l.length → Ev (fun k => impl_Stone_area.l0 k l (sumE l 0 i) l (l.length : Int) (i : Int)) (areaZ l) := by
  intro d
  induction d with
  | zero =>
   intro i hi
   refine Ev.step (fun k => by rw [impl_Stone_area.l0]) ?_
   exact Ev.neg (by omega) (Ev.fin (by rw [show i = l.length by omega]; rfl))
  | succ d ih =>
   intro i hi
   have hil : i < l.length := by omega
   have hnl := nx_lt l i hil
   have ht := tm i l.length hil (by omega)
   have hs := sumE_small h 0 i
   have ih := ih (i + 1) (by omega)
   rw [sumE, Nat.zero_add, Nat.mod_eq_of_lt hil] at ih
   refine Ev.step (fun k => by rw [impl_Stone_area.l0]) (Ev.pos (by omega) (Ev.pos (by omega) (Ev.pos (by omega) (Ev.neg (by omega) ?_))))
   rw [ht, w64 (x := (i : Int) + 1) (by omega) (by omega)]
   refine Ev.pos (by omega) (Ev.pos (by omega) ?_)
   rw [rdC', rdC']
   have hx := wxx (ok_smA h hil) (ok_smA h hnl) (s := sumE l 0 i) (by omega)
   unfold at_ at hx
   rw [hx]
   exact ih
 exact key l.length 0 (by omega)
theorem specArea {l : List S34} (h : okS l = true) : Ev (fun k => spec_l03Area.f k l) (areaZ l) := by
 have hl := okS_len h
 unfold spec_l03Area.f
 have key : ∀ (d i : Nat), i + d = l.length → Ev (fun k => spec_l03Area.l0 k l (sumE l 0 i) (i : Int)) (areaZ l) := by
  intro d
  induction d with
  | zero =>
   intro i hi
   refine Ev.step (fun k => by rw [spec_l03Area.l0]) ?_
   exact Ev.neg (by omega) (Ev.fin (by rw [show i = l.length by omega]; rfl))
  | succ d ih =>
   intro i hi
   have hil : i < l.length := by omega
   have hnl := nx_lt l i hil
   have ht := tm i l.length hil (by omega)
   have hs := sumE_small h 0 i
   have ih := ih (i + 1) (by omega)
   rw [sumE, Nat.zero_add, Nat.mod_eq_of_lt hil] at ih
   refine Ev.step (fun k => by rw [spec_l03Area.l0]) (Ev.pos (by omega) ?_)
   refine Ev.nobind (a := (((i + 1) % l.length : Nat) : Int)) (by unfold spec_l03Next.f; rw [if_neg (by omega), ht]) ?_
   refine Ev.pos (by omega) (Ev.pos (by omega) (Ev.pos (by omega) ?_))
   rw [rdC', rdC', w64 (x := (i : Int) + 1) (by omega) (by omega)]
   have hx := wxx (ok_smA h hil) (ok_smA h hnl) (s := sumE l 0 i) (by omega)
   unfold at_ at hx
   rw [hx]
   exact ih
 exact key l.length 0 (by omega)
end Go.Proofs.Ytmglnofmmgokkaa.PairFns
namespace Go.Proofs.Ytmglnofmmgokkaa.JoinKit
set_option linter.unusedSimpArgs false
set_option linter.unusedVariables false
open Go.RowKit PA Base StonesKit YtmglnofmmgokkaaW.PrintWords YtmglnofmmgokkaaW.PrintLast YtmglnofmmgokkaaW.PrintMore
theorem from_ (l : List S34) (hl : l.length ≤ 1000) (i : Nat) (hi : i ≤ l.length) : Ev (fun k => impl_Stone_from.f k l (i : Int)) (l.drop i ++ l.take i) := by
 unfold impl_Stone_from.f
 refine Ev.pos (by omega) (Ev.pos (by omega) ?_)
 rw [Int.toNat_natCast]
 refine Ev.bind (a := l.drop i ++ l.take i) ?_ (Ev.fin rfl)
 have h1 : (l.drop i).length = l.length - i := List.length_drop
 have h2 : (l.take i).length = i := by rw [List.length_take]; omega
 generalize l.drop i = p at h1 ⊢
 generalize l.take i = q at h2 ⊢
 unfold impl_Corner_62.f
 have e0 : ([p, q] : List (List S34)).length = 2 := rfl
 have r0 : rd_L3 [p, q] 0 = p := rfl
 have r1 : rd_L3 [p, q] 1 = q := rfl
 have a1 : wrap64 ((0 : Int) + 1) = 1 := w64 (by omega) (by omega)
 have a2 : wrap64 ((1 : Int) + 1) = 2 := w64 (by omega) (by omega)
 have b1 : wrap64 (0 + (p.length : Int)) = (p.length : Int) := by rw [w64 (by omega) (by omega)]; omega
 have b2 : wrap64 ((p.length : Int) + (q.length : Int)) = (p.length : Int) + (q.length : Int) := w64 (by omega) (by omega)
 rw [e0]
 refine Ev.step (fun k => by rw [impl_Corner_62.l0]) ?_
 rw [e0, r0, a1, b1]
 refine Ev.pos (by omega) (Ev.pos (by omega) (Ev.pos (by omega) (Ev.neg (by omega) ?_)))
 refine Ev.step (fun k => by rw [impl_Corner_62.l0]) ?_
 rw [e0, r1, a2, b2]
 refine Ev.pos (by omega) (Ev.pos (by omega) (Ev.pos (by omega) (Ev.neg (by omega) ?_)))
 refine Ev.step (fun k => by rw [impl_Corner_62.l0]) ?_
 refine Ev.neg (by omega) (Ev.nobind (a := []) ?_ ?_)
 ·
  unfold impl_Corner_70.f
  rw [if_pos (by omega), if_pos (by omega)]
 refine Ev.step (fun k => by rw [impl_Corner_62.l1]) ?_
 rw [e0, r0, a1]
 refine Ev.pos (by omega) (Ev.pos (by omega) (Ev.pos (by omega) (Ev.pos (by simp; omega) ?_)))
 refine Ev.step (fun k => by rw [impl_Corner_62.l1]) ?_
 rw [e0, r1, a2]
 refine Ev.pos (by omega) (Ev.pos (by omega) (Ev.pos (by omega) (Ev.pos (by simp; omega) ?_)))
 refine Ev.step (fun k => by rw [impl_Corner_62.l1]) ?_
 exact Ev.neg (by omega) (Ev.fin (by simp))
/-- m corners from place i on, round and round. -/
def rot (l : List S34) (i m : Nat) : List S34 := (List.range m).map fun t => l.getD ((i + t) % l.length) z34
theorem rot_length (l : List S34) (i m : Nat) : (rot l i m).length = m := by simp [rot]
theorem rot_succ (l : List S34) (i m : Nat) : rot l i (m + 1) = l.getD (i % l.length) z34 :: rot l (i + 1) m := by
 unfold rot
 rw [List.range_succ_eq_map, List.map_cons, List.map_map]
 congr 1
 apply List.map_congr_left
 intro t _
 simp only [Function.comp]
 congr 2
 omega
theorem rot_mod (l : List S34) (i j m : Nat) (h : i % l.length = j % l.length) : rot l i m = rot l j m := by
 unfold rot
 apply List.map_congr_left
 intro t _
 rw [Nat.add_mod, h, ← Nat.add_mod]
theorem rot_full (l : List S34) (i : Nat) (hi : i < l.length) : l.drop i ++ l.take i = rot l i l.length := by
 apply List.ext_getElem
 ·
  rw [rot_length]; simp; omega
 ·
  intro t h1 h2
  rw [rot_length] at h2
  simp only [rot, List.getElem_map, List.getElem_range]
  by_cases c : t < l.length - i
  ·
   rw [List.getElem_append_left (by simp; omega), List.getElem_drop, Nat.mod_eq_of_lt (by omega), List.getD_eq_getElem?_getD, List.getElem?_eq_getElem (by omega)]
   rfl
  ·
   rw [List.getElem_append_right (by simp; omega), List.getElem_take]
   have e : (i + t) % l.length = t - (l.length - i) := by
    rw [show i + t = (t - (l.length - i)) + l.length by omega, Nat.add_mod_right, Nat.mod_eq_of_lt (by omega)]
   rw [e, List.getD_eq_getElem?_getD, List.getElem?_eq_getElem (by omega)]
   simp
theorem rot_drop2 (l : List S34) (i m : Nat) : (rot l i (m + 2)).drop 2 = rot l (i + 2) m := by
 rw [rot_succ, rot_succ]
 rfl
theorem rot_mem {l : List S34} {i m : Nat} (h : 1 ≤ l.length) {c : S34} (hc : c ∈ rot l i m) : c ∈ l := by
 unfold rot at hc
 obtain ⟨t, _, rfl⟩ := List.mem_map.1 hc
 have hlt : (i + t) % l.length < l.length := Nat.mod_lt _ (by omega)
 rw [List.getD_eq_getElem?_getD, List.getElem?_eq_getElem hlt]
 exact List.getElem_mem hlt
def nxt (n i : Nat) : Nat := if i + 1 < n then i + 1 else 0
theorem nxt_lt {n i : Nat} (h : i < n) : nxt n i < n := by unfold nxt; split <;> omega
theorem nxt_mod {n i : Nat} (h : i < n) : nxt n i = (i + 1) % n := by
 unfold nxt
 split
 ·
  exact (Nat.mod_eq_of_lt (by omega)).symm
 ·
  have : i + 1 = n := by omega
  rw [this, Nat.mod_self]
theorem tmn (i n : Nat) (h : i < n) (hn : n ≤ 1048576) : Int.tmod (wrap64 ((i : Int) + 1)) (n : Int) = ((nxt n i : Nat) : Int) := by
 rw [tm i n h hn, nxt_mod h]
def prv (n i : Nat) : Nat := if i = 0 then n - 1 else i - 1
theorem prv_lt {n i : Nat} (h : i < n) : prv n i < n := by unfold prv; split <;> omega
theorem tmp_ (i n : Nat) (h : i < n) (hn : n ≤ 1048576) : Int.tmod (wrap64 ((wrap64 ((i : Int) + (n : Int))) - 1)) (n : Int) = ((prv n i : Nat) : Int) := by
 rw [w64 (x := (i : Int) + n) (by omega) (by omega), w64 (by omega) (by omega), Int.tmod_eq_emod_of_nonneg (by omega)]
 unfold prv
 split
 ·
  rename_i h0
  subst h0
  rw [show ((0 : Nat) : Int) + (n : Int) - 1 = ((n - 1 : Nat) : Int) by omega]
  exact Int.emod_eq_of_lt (by omega) (by omega)
 ·
  rw [show (i : Int) + (n : Int) - 1 = ((i - 1 : Nat) : Int) + (n : Int) by omega, Int.add_emod_right]
  exact Int.emod_eq_of_lt (by omega) (by omega)
theorem specPart {l : List S34} (hl : l.length ≤ 1048576) (b : Nat) (hb : b < l.length) : ∀ (d i : Nat) (acc : List S34), d < l.length → i < l.length → (i + d = b ∨ i + d = b + l.length) → acc.length + d ≤ 1048576 →
  Ev (fun k => spec_l03Part.l0 k l (b : Int) acc (l.length : Int) (i : Int)) (acc ++ rot l i (d + 1))
 | 0, i, acc, _, hi, h, ha => by
  refine Ev.step (fun k => by rw [spec_l03Part.l0]) ?_
  refine Ev.pos (by omega) (Ev.pos (by omega) (Ev.pos (by omega) (Ev.nobind rfl (Ev.pos (by omega) (Ev.fin ?_)))))
  rw [rdC', rot_succ, Nat.mod_eq_of_lt hi]; rfl
 | d + 1, i, acc, hd, hi, h, ha => by
  have hn := nxt_lt hi
  have hx : nxt l.length i + d = b ∨ nxt l.length i + d = b + l.length := by unfold nxt; split <;> omega
  refine Ev.step (fun k => by rw [spec_l03Part.l0]) ?_
  refine Ev.pos (by omega) (Ev.pos (by omega) (Ev.pos (by omega) (Ev.nobind rfl (Ev.neg (by omega) (Ev.neg (by omega) ?_)))))
  rw [tmn i l.length hi hl]
  refine Ev.to (specPart hl b hb d (nxt l.length i) _ (by omega) hn hx (by simp; omega)) ?_
  rw [rdC', List.append_assoc, rot_succ l i (d + 1), Nat.mod_eq_of_lt hi, rot_mod l (nxt l.length i) (i + 1) (d + 1) (by rw [nxt_mod hi, Nat.mod_mod])]
  rfl
def strt : Nat → List S34 → Nat → List S34
 | 0, l, _ => l
 | d + 1, l, i => if sd (l.getD (prv l.length i) z34) (l.getD i z34) (l.getD (nxt l.length i) z34) = 0 then strt d (l.eraseIdx i) i else strt d l (i + 1)
theorem strt_mem : ∀ (d : Nat) (l : List S34) (i : Nat) (c : S34), c ∈ strt d l i → c ∈ l
 | 0, l, i, c, h => h
 | d + 1, l, i, c, h => by
  unfold strt at h
  split at h
  ·
   exact List.mem_of_mem_eraseIdx (strt_mem d _ i c h)
  ·
   exact strt_mem d l (i + 1) c h
theorem strt_len : ∀ (d : Nat) (l : List S34) (i : Nat), (strt d l i).length ≤ l.length
 | 0, l, i => Nat.le_refl _
 | d + 1, l, i => by
  unfold strt
  split
  ·
   have := strt_len d (l.eraseIdx i) i
   have h2 := List.length_eraseIdx_le l i
   omega
  ·
   exact strt_len d l (i + 1)
def fin_ (l : List S34) : List S34 × Int := if (decide (3 ≤ (l.length : Int)) && convB l) = true then (if (l.length : Int) > 8 then ([], 3) else (l, 0)) else ([], 4)
theorem specStrt : ∀ (d : Nat) (l : List S34) (i : Nat), i + d = l.length → l.length ≤ 1000 → Ev (fun k => spec_l03Joined.l0 k l (i : Int)) (fin_ (strt d l i))
 | 0, l, i, h, hl => by
  refine Ev.step (fun k => by rw [spec_l03Joined.l0]) ?_
  refine Ev.neg (by omega) ?_
  refine Ev.bind (specConvex l (by omega)) ?_
  unfold fin_ strt
  refine Ev.ite (fun h1 => ?_) (fun h1 => Ev.fin (by rw [if_neg h1]))
  rw [if_pos h1]
  exact Ev.ite (fun h2 => Ev.fin (by rw [if_pos h2])) (fun h2 => Ev.fin (by rw [if_neg h2]))
 | d + 1, l, i, h, hl => by
  have hi : i < l.length := by omega
  have hp := prv_lt hi
  have hn := nxt_lt hi
  have t1 := tmp_ i l.length hi (by omega)
  have t2 := tmn i l.length hi (by omega)
  have ha := w64 (x := (i : Int) + 1) (by omega) (by omega)
  refine Ev.step (fun k => by rw [spec_l03Joined.l0]) ?_
  rw [t1, t2]
  refine Ev.pos (by omega) (Ev.neg (by omega) (Ev.pos (by omega) (Ev.pos (by omega) (Ev.pos (by omega) (Ev.pos (by omega) (Ev.pos (by omega) ?_))))))
  refine Ev.nobind (specSide _ _ _) ?_
  rw [rdC', rdC', rdC', strt]
  refine Ev.ite (fun h1 => ?_) (fun h1 => ?_)
  ·
   rw [if_pos h1]
   refine Ev.nobind rfl (Ev.pos (by omega) (Ev.nobind rfl (Ev.pos (by simp; omega) (Ev.nobind rfl ?_))))
   rw [ha]
   refine Ev.pos (by omega) (Ev.pos (by omega) (Ev.nobind rfl (Ev.pos (by simp; omega) ?_)))
   have e : [] ++ l.take ((i : Nat) : Int).toNat ++ l.drop (((i : Nat) : Int) + 1).toNat = l.eraseIdx i := by
    rw [List.nil_append, Int.toNat_natCast, show (((i : Nat) : Int) + 1).toNat = i + 1 by omega, List.eraseIdx_eq_take_drop_succ]
   rw [e]
   have hle : (l.eraseIdx i).length = l.length - 1 := by rw [List.length_eraseIdx, if_pos hi]
   exact specStrt d (l.eraseIdx i) i (by omega) (by omega)
  ·
   rw [if_neg h1, ha]
   exact specStrt d l (i + 1) (by omega) hl
theorem implStrt : ∀ (d : Nat) (l : List S34) (i : Nat), i + d = l.length → l.length ≤ 1000 → Ev (fun k => impl_straight.l0 k l (i : Int)) (strt d l i)
 | 0, l, i, h, hl => by
  refine Ev.step (fun k => by rw [impl_straight.l0]) ?_
  exact Ev.neg (by omega) (Ev.fin rfl)
 | d + 1, l, i, h, hl => by
  have hi : i < l.length := by omega
  have hp := prv_lt hi
  have hn := nxt_lt hi
  have t1 := tmp_ i l.length hi (by omega)
  have t2 := tmn i l.length hi (by omega)
  have ha := w64 (x := (i : Int) + 1) (by omega) (by omega)
  refine Ev.step (fun k => by rw [impl_straight.l0]) ?_
  rw [t1, t2]
  refine Ev.pos (by omega) (Ev.neg (by omega) (Ev.pos (by omega) (Ev.pos (by omega) (Ev.pos (by omega) (Ev.pos (by omega) (Ev.pos (by omega) ?_))))))
  refine Ev.nobind (implSide _ _ _) ?_
  rw [rdC', rdC', rdC', strt]
  refine Ev.ite (fun h1 => ?_) (fun h1 => ?_)
  ·
   rw [if_pos h1]
   have hle : (l.eraseIdx i).length = l.length - 1 := by rw [List.length_eraseIdx, if_pos hi]
   refine Ev.nobind (a := l.eraseIdx i) ?_ (implStrt d (l.eraseIdx i) i (by omega) (by omega))
   unfold impl_Corner_61.f
   rw [if_pos rfl, ha, if_pos (by omega), if_pos (by omega), if_pos (by omega), if_neg (by omega), if_pos (by omega), if_pos (by omega), if_pos (by omega), Int.toNat_natCast]
  ·
   rw [if_neg h1, ha]
   exact implStrt d l (i + 1) (by omega) hl
theorem sd_self (a b : S34) : sd a b a = 0 := by
 unfold sd impl_side.f
 simp [wrap64]
theorem apart {l : List S34} (h : okS l = true) {j k : Nat} (hj : j < l.length) (hk : k < l.length) (he : l.getD j z34 = l.getD k z34) : j = k := by
 have hlen := okS_len h
 unfold okS at h
 rw [Bool.and_eq_true] at h
 have hc := h.2
 unfold convB at hc
 rw [List.all_eq_true] at hc
 have key : ∀ a b : Nat, a < l.length → b < l.length → l.getD a z34 = l.getD b z34 → b ≠ (a + 1) % l.length → b = a := by
  intro a b ha hb e hn
  have := hc a (by simpa using ha)
  rw [List.all_eq_true] at this
  have := this b (by simpa using hb)
  unfold cvx at this
  simp only [Bool.or_eq_true, decide_eq_true_eq] at this
  rcases this with (h1 | h1) | h1
  ·
   exact h1
  ·
   exact absurd h1 hn
  ·
   unfold at_ at h1
   rw [← e, sd_self] at h1
   omega
 by_cases c : k = (j + 1) % l.length
 ·
  have hne : j ≠ (k + 1) % l.length := by
   rw [← nxt_mod hk]
   rw [← nxt_mod hj] at c
   unfold nxt at c ⊢
   split at c <;> split <;> omega
  exact key k j hk hj he.symm hne
 ·
  exact (key j k hj hk he c).symm
def neC (a b : S34) : Bool := !(a.f0 == b.f0) || !(a.f1 == b.f1)
theorem neC_iff (a b : S34) : neC a b = true ↔ a ≠ b := by
 unfold neC
 cases a; cases b
 simp
 omega
theorem neC_self (a : S34) : neC a a = false := by unfold neC; simp
theorem index_ (l : List S34) (hl : l.length ≤ 1000) (c : S34) : ∀ (d i : Nat), i + d = l.length →
  (∃ j, i ≤ j ∧ j < l.length ∧ l.getD j z34 = c ∧ Ev (fun k => impl_Corner_42.l0 k l (l.length : Int) (i : Int) c.f0 c.f1) (j : Int)) ∨
  ((∀ j, i ≤ j → j < l.length → l.getD j z34 ≠ c) ∧ Ev (fun k => impl_Corner_42.l0 k l (l.length : Int) (i : Int) c.f0 c.f1) (-1))
 | 0, i, h => by
  refine .inr ⟨fun j h1 h2 => by omega, ?_⟩
  refine Ev.step (fun k => by rw [impl_Corner_42.l0]) ?_
  exact Ev.neg (by omega) (Ev.fin rfl)
 | d + 1, i, h => by
  have ha := w64 (x := (i : Int) + 1) (by omega) (by omega)
  have ST : ∀ (r : Int), (if (c.f0 == (l.getD i z34).f0 && (c.f1 == (l.getD i z34).f1)) = true then (r = (i : Int)) else Ev (fun k => impl_Corner_42.l0 k l (l.length : Int) (((i + 1 : Nat)) : Int) c.f0 c.f1) r) → Ev (fun k => impl_Corner_42.l0 k l (l.length : Int) (i : Int) c.f0 c.f1) r := by
   intro r hr
   refine Ev.step (fun k => by rw [impl_Corner_42.l0]) ?_
   refine Ev.pos (by omega) (Ev.pos (by omega) (Ev.pos (by omega) ?_))
   rw [rdC', ha]
   refine Ev.ite (fun h1 => ?_) (fun h1 => ?_)
   ·
    rw [if_pos h1] at hr; exact Ev.fin hr.symm
   ·
    rw [if_neg h1] at hr; exact hr
  by_cases q : l.getD i z34 = c
  ·
   refine .inl ⟨i, by omega, by omega, q, ST _ ?_⟩
   rw [if_pos (by rw [q]; simp)]
  ·
   have hq : ¬ (c.f0 == (l.getD i z34).f0 && (c.f1 == (l.getD i z34).f1)) = true := by
    intro hh
    apply q
    rw [Bool.and_eq_true, beq_iff_eq, beq_iff_eq] at hh
    generalize l.getD i z34 = x at hh
    cases x; cases c
    simp only at hh
    rw [hh.1, hh.2]
   rcases index_ l hl c d (i + 1) (by omega) with ⟨j, h1, h2, h3, h4⟩ | ⟨h1, h2⟩
   ·
    exact .inl ⟨j, by omega, h2, h3, ST _ (by rw [if_neg hq]; exact h4)⟩
   ·
    refine .inr ⟨fun j g1 g2 => ?_, ST _ (by rw [if_neg hq]; exact h2)⟩
    by_cases e : j = i
    ·
     rw [e]; exact q
    ·
     exact h1 j (by omega) g2
section
variable (a b : List S34)
def mt (i j : Nat) : Prop := a.getD i z34 = b.getD (nxt b.length j) z34 ∧ a.getD (nxt a.length i) z34 = b.getD j z34
theorem specStep (i j : Nat) (hi : i < a.length) (hj : j < b.length) (ha : a.length ≤ 8) (hb : b.length ≤ 8) (R : List S34 × Int)
  (h : (¬ mt a b i j ∧ Ev (fun k => spec_JoinStones.l1 k a b (i : Int) ((j + 1 : Nat) : Int)) R) ∨ (mt a b i j ∧ Ev (fun k => spec_JoinStones.j3 k a b (i : Int) (j : Int) (i : Int) ((nxt a.length i : Nat) : Int) false) R)) :
  Ev (fun k => spec_JoinStones.l1 k a b (i : Int) (j : Int)) R := by
 have hn := nxt_lt hi
 have hm := nxt_lt hj
 have t1 := tmn i a.length hi (by omega)
 have t2 := tmn j b.length hj (by omega)
 have e1 : spec_l03Next.f a (i : Int) = some ((nxt a.length i : Nat) : Int) := by unfold spec_l03Next.f; rw [if_neg (by omega), t1]
 have e2 : spec_l03Next.f b (j : Int) = some ((nxt b.length j : Nat) : Int) := by unfold spec_l03Next.f; rw [if_neg (by omega), t2]
 have GO : ¬ mt a b i j → Ev (fun k => spec_JoinStones.l1 k a b (i : Int) ((j + 1 : Nat) : Int)) R → Ev (fun k => spec_JoinStones.j3 k a b (i : Int) (j : Int) (i : Int) ((nxt a.length i : Nat) : Int) true) R := by
  intro _ hr
  refine Ev.step (fun k => by rw [spec_JoinStones.j3]) ?_
  refine Ev.pos rfl ?_
  rw [w64 (x := (j : Int) + 1) (by omega) (by omega)]
  exact hr
 refine Ev.step (fun k => by rw [spec_JoinStones.l1]) ?_
 refine Ev.pos (by omega) ?_
 refine Ev.nobind e1 (Ev.pos (by omega) (Ev.pos (by omega) ?_))
 refine Ev.nobind e2 (Ev.pos (by omega) (Ev.pos (by omega) ?_))
 rw [rdC', rdC', rdC', rdC']
 have n1 := neC_iff (a.getD i z34) (b.getD (nxt b.length j) z34)
 have n2 := neC_iff (a.getD (nxt a.length i) z34) (b.getD j z34)
 unfold neC at n1 n2
 refine Ev.ite (fun h1 => ?_) (fun h1 => ?_)
 ·
  rw [n1] at h1
  rcases h with ⟨g1, g2⟩ | ⟨g1, g2⟩
  ·
   exact GO g1 g2
  ·
   exact absurd g1.1 h1
 ·
  rw [n1] at h1
  have h1' := Classical.not_not.1 h1
  refine Ev.pos (by omega) (Ev.pos (by omega) (Ev.pos (by omega) ?_))
  rcases h with ⟨g1, g2⟩ | ⟨g1, g2⟩
  ·
   rw [n2.2 (fun e => g1 ⟨h1', e⟩)]
   exact GO g1 g2
  ·
   have : (!((a.getD (nxt a.length i) z34).f0 == (b.getD j z34).f0) || !((a.getD (nxt a.length i) z34).f1 == (b.getD j z34).f1)) = false := by rw [g1.2]; exact neC_self _
   rw [this]
   exact g2
theorem specNone (i : Nat) (hi : i < a.length) (ha : a.length ≤ 8) (hb : b.length ≤ 8) (R : List S34 × Int) (J : Nat) (hJ : J ≤ b.length) (h : Ev (fun k => spec_JoinStones.l1 k a b (i : Int) (J : Int)) R) :
  ∀ (d j : Nat), j + d = J → (∀ q, j ≤ q → q < J → ¬ mt a b i q) → Ev (fun k => spec_JoinStones.l1 k a b (i : Int) (j : Int)) R
 | 0, j, e, _ => by
  have : j = J := by omega
  rw [this]; exact h
 | d + 1, j, e, hq => specStep a b i j hi (by omega) ha hb R (.inl ⟨hq j (by omega) (by omega), specNone i hi ha hb R J hJ h d (j + 1) (by omega) (fun q h1 h2 => hq q (by omega) h2)⟩)
/-- Both stones joined along the edge that they have in common. -/
def both (i j : Nat) : List S34 := rot a (i + 1) a.length ++ rot b (j + 2) (b.length - 2)
def out (i j : Nat) : List S34 × Int := fin_ (strt (both a b i j).length (both a b i j) 0)
theorem both_len (i j : Nat) : (both a b i j).length = a.length + (b.length - 2) := by unfold both; rw [List.length_append, rot_length, rot_length]
theorem specJoin (i j : Nat) (hi : i < a.length) (hj : j < b.length) (ha : a.length ≤ 8) (hb : b.length ≤ 8) (ha3 : 3 ≤ a.length) (hb3 : 3 ≤ b.length) :
  Ev (fun k => spec_JoinStones.j3 k a b (i : Int) (j : Int) (i : Int) ((nxt a.length i : Nat) : Int) false) (out a b i j) := by
 have hn := nxt_lt hi
 have hm := nxt_lt hj
 have hm2 := nxt_lt hm
 have hp := prv_lt hj
 have t2 := tmn j b.length hj (by omega)
 have t3 := tmn (nxt b.length j) b.length hm (by omega)
 have e2 : spec_l03Next.f b (j : Int) = some ((nxt b.length j : Nat) : Int) := by unfold spec_l03Next.f; rw [if_neg (by omega), t2]
 have e3 : spec_l03Next.f b ((nxt b.length j : Nat) : Int) = some ((nxt b.length (nxt b.length j) : Nat) : Int) := by unfold spec_l03Next.f; rw [if_neg (by omega), t3]
 have P1 : Ev (fun k => spec_l03Part.f k a ((nxt a.length i : Nat) : Int) (i : Int)) (rot a (i + 1) a.length) := by
  unfold spec_l03Part.f
  have := specPart (l := a) (by omega) i hi (a.length - 1) (nxt a.length i) [] (by omega) hn (by unfold nxt; split <;> omega) (by simp; omega)
  rw [show a.length - 1 + 1 = a.length by omega, List.nil_append, rot_mod a (nxt a.length i) (i + 1) a.length (by rw [nxt_mod hi, Nat.mod_mod])] at this
  exact this
 have P2 : Ev (fun k => spec_l03Part.f k b ((nxt b.length (nxt b.length j) : Nat) : Int) ((prv b.length j : Nat) : Int)) (rot b (j + 2) (b.length - 2)) := by
  unfold spec_l03Part.f
  have := specPart (l := b) (by omega) (prv b.length j) hp (b.length - 3) (nxt b.length (nxt b.length j)) [] (by omega) hm2 (by unfold prv nxt; split <;> split <;> split <;> omega) (by simp; omega)
  rw [show b.length - 3 + 1 = b.length - 2 by omega, List.nil_append, rot_mod b (nxt b.length (nxt b.length j)) (j + 2) (b.length - 2) (by rw [nxt_mod hm, nxt_mod hj, Nat.mod_mod, Nat.mod_add_mod])] at this
  exact this
 refine Ev.step (fun k => by rw [spec_JoinStones.j3]) ?_
 refine Ev.neg (by decide) ?_
 refine Ev.bind P1 ?_
 refine Ev.nobind e2 ?_
 refine Ev.nobind e3 ?_
 refine Ev.neg (by omega) ?_
 rw [tmp_ j b.length hj (by omega)]
 refine Ev.bind P2 ?_
 rw [rot_length, rot_length]
 refine Ev.pos (by omega) ?_
 refine Ev.bind (a := out a b i j) ?_ (Ev.fin rfl)
 unfold spec_l03Joined.f
 exact specStrt (both a b i j).length (both a b i j) 0 (by omega) (by rw [both_len]; omega)
theorem implJoin (i j : Nat) (hi : i < a.length) (hj : j < b.length) (ha : a.length ≤ 8) (hb : b.length ≤ 8) (ha3 : 3 ≤ a.length) (hb3 : 3 ≤ b.length) (fa : Fit a) (fb : Fit b) (pa : ∀ c ∈ a, placed c = true) (pb : ∀ c ∈ b, placed c = true) (x : Int) :
  Ev (fun k => impl_JoinStones.j2 k a b ((nxt a.length i : Nat) : Int) (j : Int) a (a.length : Int) x false) (out a b i j) := by
 have hn := nxt_lt hi
 have F1 := from_ a (by omega) (nxt a.length i) (by omega)
 rw [rot_full a _ hn, rot_mod a (nxt a.length i) (i + 1) a.length (by rw [nxt_mod hi, Nat.mod_mod])] at F1
 have F2 := from_ b (by omega) j (by omega)
 rw [rot_full b _ hj] at F2
 have D : (rot b j b.length).drop 2 = rot b (j + 2) (b.length - 2) := by
  rw [← rot_drop2, show b.length - 2 + 2 = b.length by omega]
 refine Ev.step (fun k => by rw [impl_JoinStones.j2]) ?_
 refine Ev.neg (by decide) ?_
 refine Ev.bind F1 ?_
 refine Ev.bind F2 ?_
 rw [rot_length]
 refine Ev.pos (by omega) ?_
 rw [D]
 refine Ev.nobind rfl ?_
 rw [rot_length, rot_length]
 refine Ev.pos (by omega) ?_
 have S : Ev (fun k => impl_straight.f k (rot a (i + 1) a.length ++ rot b (j + 2) (b.length - 2))) (strt (both a b i j).length (both a b i j) 0) := by
  unfold impl_straight.f
  exact implStrt (both a b i j).length (both a b i j) 0 (by omega) (by rw [both_len]; omega)
 refine Ev.bind S ?_
 have MEM : ∀ c ∈ strt (both a b i j).length (both a b i j) 0, c ∈ a ∨ c ∈ b := by
  intro c hc
  have := strt_mem _ _ _ c hc
  unfold both at this
  rcases List.mem_append.1 this with h | h
  ·
   exact .inl (rot_mem (by omega) h)
  ·
   exact .inr (rot_mem (by omega) h)
 have LEN := Nat.le_trans (strt_len (both a b i j).length (both a b i j) 0) (Nat.le_of_eq (both_len a b i j))
 have hfit : Fit (strt (both a b i j).length (both a b i j) 0) := fun c hc => (MEM c hc).elim (fa c) (fb c)
 have hpl : (strt (both a b i j).length (both a b i j) 0).all placed = true := by
  rw [List.all_eq_true]
  exact fun c hc => (MEM c hc).elim (pa c) (pb c)
 unfold out fin_
 generalize strt (both a b i j).length (both a b i j) 0 = L at hfit hpl LEN ⊢
 refine Ev.bind (implConvexL hfit (by omega)) ?_
 rw [hpl, Bool.and_true, Bool.and_comm]
 refine Ev.ite (fun h1 => ?_) (fun h1 => Ev.fin (by rw [if_neg h1]))
 rw [if_pos h1]
 exact Ev.ite (fun h2 => Ev.fin (by rw [if_pos h2])) (fun h2 => Ev.fin (by rw [if_neg h2]))
set_option maxHeartbeats 2000000 in
theorem loops (fa : Fit a) (fb : Fit b) (oa : okS a = true) (ob : okS b = true) (pa : ∀ c ∈ a, placed c = true) (pb : ∀ c ∈ b, placed c = true) : ∀ (d i : Nat), i + d = a.length →
  ∃ R : List S34 × Int, Ev (fun k => spec_JoinStones.l0 k a b (i : Int)) R ∧ Ev (fun k => impl_JoinStones.l0 k a b a (a.length : Int) (i : Int)) R ∧ ((∀ x y, i ≤ x → x < a.length → y < b.length → ¬ mt a b x y) ∨ ∃ x y, x < a.length ∧ y < b.length ∧ mt a b x y ∧ R = out a b x y)
 | 0, i, h => by
  refine ⟨([], 6), ?_, ?_, .inl (fun x y g1 g2 => by omega)⟩
  ·
   refine Ev.step (fun k => by rw [spec_JoinStones.l0]) ?_
   exact Ev.neg (by omega) (Ev.fin rfl)
  ·
   refine Ev.step (fun k => by rw [impl_JoinStones.l0]) ?_
   exact Ev.neg (by omega) (Ev.fin rfl)
 | d + 1, i, h => by
  have la := okS_len oa
  have lb := okS_len ob
  have hi : i < a.length := by omega
  have hn := nxt_lt hi
  have t1 := Aside0.mk (tmn i a.length hi (by omega))
  have wi := Aside0.mk (w64 (x := (i : Int) + 1) (by omega) (by omega))
  obtain ⟨R, r1, r2, r3⟩ := loops fa fb oa ob pa pb d (i + 1) (by omega)
  have NX : (∀ q, q < b.length → ¬ mt a b i q) → ((∀ x y, i ≤ x → x < a.length → y < b.length → ¬ mt a b x y) ∨ ∃ x y, x < a.length ∧ y < b.length ∧ mt a b x y ∧ R = out a b x y) := by
   intro hq
   rcases r3 with g | g
   ·
    refine .inl (fun x y g1 g2 g3 => ?_)
    by_cases c : x = i
    ·
     rw [c]; exact hq y g3
    ·
     exact g x y (by omega) g2 g3
   ·
    exact .inr g
  have SN : (∀ q, q < b.length → ¬ mt a b i q) → Ev (fun k => spec_JoinStones.l0 k a b (i : Int)) R := by
   intro hq
   refine Ev.step (fun k => by rw [spec_JoinStones.l0]) ?_
   refine Ev.pos (by omega) ?_
   refine specNone a b i hi la.2 lb.2 R b.length (Nat.le_refl _) ?_ b.length 0 (by omega) (fun q _ h2 => hq q h2)
   refine Ev.step (fun k => by rw [spec_JoinStones.l1]) ?_
   refine Ev.neg (by omega) ?_
   rw [wi.out]
   exact r1
  have IN : ∀ at_' : Int, Ev (fun k => impl_JoinStones.j2 k a b ((nxt a.length i : Nat) : Int) at_' a (a.length : Int) (i : Int) true) R := by
   intro at_'
   refine Ev.step (fun k => by rw [impl_JoinStones.j2]) ?_
   refine Ev.pos rfl ?_
   rw [wi.out]
   exact r2
  have IX := index_ b (by omega) (a.getD (nxt a.length i) z34) b.length 0 (by omega)
  have IMPL : ∀ (v : Int) (Q : List S34 × Int), Ev (fun k => impl_Corner_42.l0 k b (b.length : Int) 0 (a.getD (nxt a.length i) z34).f0 (a.getD (nxt a.length i) z34).f1) v →
    Ev (fun k => (if v < 0 then (impl_JoinStones.j2 k a b ((nxt a.length i : Nat) : Int) v a (a.length : Int) (i : Int) true) else (if (b.length : Int) = 0 then (none) else (if 0 ≤ (Int.tmod (wrap64 (v + 1)) (b.length : Int)) then (if (Int.tmod (wrap64 (v + 1)) (b.length : Int)) < (b.length : Int) then (impl_JoinStones.j2 k a b ((nxt a.length i : Nat) : Int) v a (a.length : Int) (i : Int) (neC (rd_T34 b (Int.tmod (wrap64 (v + 1)) (b.length : Int))) (rd_T34 a (i : Int)))) else (none)) else (none))))) Q →
    Ev (fun k => impl_JoinStones.l0 k a b a (a.length : Int) (i : Int)) Q := by
   intro v Q hv hQ
   refine Ev.step (fun k => by rw [impl_JoinStones.l0]) ?_
   rw [t1.out]
   refine Ev.pos (by omega) (Ev.pos (by omega) (Ev.pos (by omega) (Ev.neg (by omega) (Ev.pos (by omega) (Ev.pos (by omega) ?_)))))
   rw [rdC' a (nxt a.length i)]
   unfold impl_Corner_42.f
   exact Ev.bind hv hQ
  rcases IX with ⟨j, _, hj, hc, hv⟩ | ⟨hno, hv⟩
  ·
   have hm := nxt_lt hj
   have t2 := Aside0.mk (tmn j b.length hj (by omega))
   by_cases q : b.getD (nxt b.length j) z34 = a.getD i z34
   ·
    refine ⟨out a b i j, ?_, ?_, .inr ⟨i, j, hi, hj, ⟨q.symm, hc.symm⟩, rfl⟩⟩
    ·
     refine Ev.step (fun k => by rw [spec_JoinStones.l0]) ?_
     refine Ev.pos (by omega) ?_
     refine specNone a b i hi la.2 lb.2 _ j (by omega) ?_ j 0 (by omega) (fun p _ h2 hmt => ?_)
     ·
      exact specStep a b i j hi hj la.2 lb.2 _ (.inr ⟨⟨q.symm, hc.symm⟩, specJoin a b i j hi hj la.2 lb.2 la.1 lb.1⟩)
     ·
      have := apart ob (j := p) (k := j) (by omega) hj (by rw [← hmt.2, hc])
      omega
    ·
     refine IMPL (j : Int) _ hv ?_
     refine Ev.neg (by omega) (Ev.neg (by omega) ?_)
     rw [t2.out]
     refine Ev.pos (by omega) (Ev.pos (by omega) ?_)
     rw [rdC', rdC', q, neC_self]
     exact implJoin a b i j hi hj la.2 lb.2 la.1 lb.1 fa fb pa pb (i : Int)
   ·
    have NM : ∀ p, p < b.length → ¬ mt a b i p := by
     intro p hp hmt
     have := apart ob (j := p) (k := j) hp hj (by rw [← hmt.2, hc])
     subst this
     exact q hmt.1.symm
    refine ⟨R, SN NM, ?_, NX NM⟩
    ·
     refine IMPL (j : Int) _ hv ?_
     refine Ev.neg (by omega) (Ev.neg (by omega) ?_)
     rw [t2.out]
     refine Ev.pos (by omega) (Ev.pos (by omega) ?_)
     rw [rdC', rdC', (neC_iff _ _).2 q]
     exact IN _
  ·
   refine ⟨R, SN (fun p hp hmt => hno p (by omega) hp hmt.2.symm), ?_, NX (fun p hp hmt => hno p (by omega) hp hmt.2.symm)⟩
   refine IMPL (-1) _ hv ?_
   exact Ev.pos (by omega) (IN _)
theorem joins (fa : Fit a) (fb : Fit b) (oa : okS a = true) (ob : okS b = true) (hm : ∃ x y, x < a.length ∧ y < b.length ∧ mt a b x y) : ∃ x y, x < a.length ∧ y < b.length ∧ mt a b x y ∧ Ev (fun k => spec_JoinStones.f k a b) (out a b x y) ∧ Ev (fun k => impl_JoinStones.f k a b) (out a b x y) := by
 have placed_of : ∀ {l : List S34}, okS l = true → ∀ c ∈ l, placed c = true := by
  intro l h
  unfold okS at h
  rw [Bool.and_eq_true, Bool.and_eq_true] at h
  exact List.all_eq_true.1 h.1.2
 obtain ⟨R, r1, r2, r3⟩ := loops a b fa fb oa ob (placed_of oa) (placed_of ob) a.length 0 (by omega)
 obtain ⟨x0, y0, hx0, hy0, h0⟩ := hm
 rcases r3 with g | ⟨x, y, hx, hy, h1, rfl⟩
 ·
  exact absurd h0 (g x0 y0 (by omega) hx0 hy0)
 refine ⟨x, y, hx, hy, h1, ?_, ?_⟩
 ·
  unfold spec_JoinStones.f
  refine Ev.bind (Ev.to (specOk fa) oa) (Ev.pos rfl (Ev.bind (Ev.to (specOk fb) ob) ?_))
  refine Ev.step (fun k => by rw [spec_JoinStones.j0]) ?_
  exact Ev.neg (by decide) r1
 ·
  unfold impl_JoinStones.f
  refine Ev.bind (Ev.to (implOk fa) oa) (Ev.pos rfl (Ev.bind (Ev.to (implOk fb) ob) ?_))
  refine Ev.step (fun k => by rw [impl_JoinStones.j0]) ?_
  exact Ev.neg (by decide) r2
end
end Go.Proofs.Ytmglnofmmgokkaa.JoinKit
namespace Go.Proofs.Ytmglnofmmgokkaa.FirstKit
set_option linter.unusedSimpArgs false
set_option linter.unusedVariables false
open Go.RowKit PA Base StonesKit Geo SeamKit HullGeo SplitKit TouchKit YtmglnofmmgokkaaW.PrintWords YtmglnofmmgokkaaW.PrintLast YtmglnofmmgokkaaW.PrintMore
def step (l : List S34) (i : Nat) (at_' : Nat) : Nat := if lt (l.getD i z34) (l.getD at_' z34) = true then i else at_'
def firstAt (l : List S34) : Nat := iter (step l) l.length 0 0
theorem step_lt {l : List S34} {i s : Nat} (hi : i < l.length) (hs : s < l.length) : step l i s < l.length := by unfold step; split <;> assumption
def turned (l : List S34) : List S34 := DrawKit.rot (firstAt l) l
theorem implFirst {l : List S34} (h1 : 1 ≤ l.length) (hl : l.length ≤ 8) : Ev (fun k => impl_FirstStone.l0 k l 0 l (l.length : Int) 0) (turned l, 0) := by
 refine iter_cps0 l.length (step l) (fun k s i => impl_FirstStone.l0 k l (s : Int) l (l.length : Int) i) _ (fun _ s => s < l.length) 0 (by omega) (fun s i hi h => step_lt hi h) (fun s i hi h hr => ?_) (fun hv => ?_)
 ·
  refine Ev.step (fun k => by rw [impl_FirstStone.l0]) (Ev.pos (by omega) (Ev.pos (by omega) (Ev.pos (by omega) (Ev.pos (by omega) (Ev.pos (by omega) ?_)))))
  rw [rdC' l i, rdC' l s, w64 (x := (i : Int) + 1) (by omega) (by omega)]
  refine Ev.nobind (implLess _ _) ?_
  unfold step at hr
  refine Ev.ite (fun c => ?_) (fun c => ?_)
  ·
   rw [if_pos c] at hr; exact hr
  ·
   rw [if_neg c] at hr; exact hr
 ·
  have hf : iter (step l) l.length 0 0 = firstAt l := rfl
  rw [hf] at hv ⊢
  refine Ev.step (fun k => by rw [impl_FirstStone.l0]) (Ev.neg (by omega) ?_)
  exact Ev.bind (JoinKit.from_ l (by omega) (firstAt l) (by omega)) (Ev.fin rfl)
theorem implRes {l : List S34} (hf : Fit l) (e : okS l = true) : Ev (fun k => impl_FirstStone.f k l) (turned l, 0) := by
 have h := okS_len e
 have ho := implOk hf
 rw [e] at ho
 unfold impl_FirstStone.f
 exact Ev.bind ho (Ev.pos rfl (implFirst (by omega) h.2))
theorem first_is {l : List S34} (h : okS l = true) : firstAt l < l.length ∧ ∀ j, j < l.length → key (at_ l (firstAt l)) ≤ key (at_ l j) := by
 have hl := okS_len h
 have := iter_inv (f := step l) (Inv := fun i s => s < l.length ∧ ∀ j, j < i → key (at_ l s) ≤ key (at_ l j)) l.length 0 0 (fun s j h1 h2 hi => by
  refine ⟨step_lt (by omega) hi.1, fun x hx => ?_⟩
  have q := lt_iff (a := at_ l j) (b := at_ l s) (ok_smA h (by omega)) (ok_smA h hi.1)
  unfold step
  by_cases c : lt (l.getD j z34) (l.getD s z34) = true
  ·
   rw [if_pos c]
   have q1 := q.1 c
   by_cases e : x = j
   ·
    rw [e]; exact Int.le_refl _
   ·
    have := hi.2 x (by omega); omega
  ·
   rw [if_neg c]
   by_cases e : x = j
   ·
    rw [e]
    have : ¬ key (at_ l j) < key (at_ l s) := fun g => c (q.2 g)
    omega
   ·
    exact hi.2 x (by omega)) ⟨by omega, fun j hj => by omega⟩
 rw [Nat.zero_add] at this
 exact this
theorem key_at {l : List S34} (h : okS l = true) {i j : Nat} (hi : i < l.length) (hj : j < l.length) (he : key (at_ l i) = key (at_ l j)) : i = j :=
 JoinKit.apart h hi hj (key_inj (ok_smA h hi) (ok_smA h hj) he)
theorem turned_rot {l : List S34} (h : okS l = true) {m : Nat} (hm : m < l.length) : turned (DrawKit.rot m l) = turned l := by
 have hl := okS_len h
 have hr := DrawKit.rot_ok hm h
 have hlen := DrawKit.rot_len (m := m) (l := l) (by omega)
 obtain ⟨a1, a2⟩ := first_is h
 obtain ⟨b1, b2⟩ := first_is hr
 unfold turned
 generalize firstAt l = p at a1 a2
 generalize firstAt (DrawKit.rot m l) = q at b1 b2
 rw [hlen] at b1
 have e : (m + q) % l.length = p := by
  refine key_at h (Nat.mod_lt _ (by omega)) a1 ?_
  have c1 := a2 ((m + q) % l.length) (Nat.mod_lt _ (by omega))
  have c2 := b2 ((p + (l.length - m)) % l.length) (by rw [hlen]; exact Nat.mod_lt _ (by omega))
  rw [DrawKit.rot_at hm b1, DrawKit.rot_at hm (Nat.mod_lt _ (by omega)), Nat.add_mod_mod, show m + (p + (l.length - m)) = p + l.length by omega, Nat.add_mod_right, Nat.mod_eq_of_lt a1] at c2
  omega
 have l1 : (DrawKit.rot q (DrawKit.rot m l)).length = l.length := by rw [DrawKit.rot_len (by omega), hlen]
 have l2 : (DrawKit.rot p l).length = l.length := DrawKit.rot_len (by omega)
 refine List.ext_getElem (by omega) (fun j h1 h2 => ?_)
 have f1 := DrawKit.rot_at (m := q) (l := DrawKit.rot m l) (by omega) (i := j) (by omega)
 have f2 := DrawKit.rot_at (m := p) (l := l) (by omega) (i := j) (by omega)
 rw [hlen, DrawKit.rot_at hm (Nat.mod_lt _ (by omega)), Nat.add_mod_mod, ← Nat.add_assoc, Nat.add_mod, e] at f1
 rw [Nat.add_mod_mod, ← f2] at f1
 unfold at_ at f1
 rw [getC h1, getC h2] at f1
 exact f1
end Go.Proofs.Ytmglnofmmgokkaa.FirstKit
namespace Go.Proofs.Ytmglnofmmgokkaa.PairJoin
set_option linter.unusedSimpArgs false
set_option linter.unusedVariables false
open Go.RowKit PA Base StonesKit Geo SeamKit HullGeo SplitKit TouchKit PairSplit YtmglnofmmgokkaaW.PrintWords YtmglnofmmgokkaaW.PrintLast YtmglnofmmgokkaaW.PrintMore
theorem strt_same {l : List S34} (h : okS l = true) : ∀ (d i : Nat), i + d = l.length → JoinKit.strt d l i = l
 | 0, i, _ => rfl
 | d + 1, i, hi => by
  have hl := okS_len h
  have hil : i < l.length := by omega
  have hp := JoinKit.prv_lt hil
  have hn := JoinKit.nxt_lt hil
  have e1 : (JoinKit.prv l.length i + 1) % l.length = i := by
   unfold JoinKit.prv
   split
   ·
    rename_i c; rw [c, show l.length - 1 + 1 = l.length by omega, Nat.mod_self]
   ·
    rw [show i - 1 + 1 = i by omega, Nat.mod_eq_of_lt hil]
  have e2 : JoinKit.nxt l.length i ≠ JoinKit.prv l.length i ∧ JoinKit.nxt l.length i ≠ i := by
   unfold JoinKit.prv JoinKit.nxt; split <;> split <;> omega
  have hc := ok_cr h hp hn e2.1 (by rw [e1]; exact e2.2)
  rw [e1, ← sd_cr (ok_smA h hp) (ok_smA h hil) (ok_smA h hn)] at hc
  unfold at_ at hc
  rw [JoinKit.strt, if_neg (by omega)]
  exact strt_same h d (i + 1) (by omega)
theorem fin_ok {l : List S34} (h : okS l = true) : JoinKit.fin_ l = (l, 0) := by
 have hl := okS_len h
 have hc := h
 unfold okS at hc
 rw [Bool.and_eq_true] at hc
 unfold JoinKit.fin_
 rw [if_pos (by rw [Bool.and_eq_true, decide_eq_true_eq]; exact ⟨by omega, hc.2⟩), if_neg (by omega)]
theorem at_ext {l m : List S34} (h : l.length = m.length) (e : ∀ j, j < l.length → at_ l j = at_ m j) : l = m := by
 refine List.ext_getElem h (fun j h1 h2 => ?_)
 have := e j h1
 unfold at_ at this
 rw [getC h1, getC h2] at this
 exact this
section
variable {a : List S34} {i k d e : Nat}
theorem joinRot_at (l : List S34) (i m j : Nat) (h : j < m) : at_ (JoinKit.rot l i m) j = at_ l ((i + j) % l.length) := by
 unfold JoinKit.rot at_
 rw [List.getD_eq_getElem?_getD, List.getElem?_map, List.getElem?_range h]
 rfl
theorem at_app {l m : List S34} (j : Nat) : at_ (l ++ m) j = if j < l.length then at_ l j else at_ m (j - l.length) := by
 unfold at_
 split
 ·
  rename_i c; rw [List.getD_eq_getElem?_getD, List.getD_eq_getElem?_getD, List.getElem?_append_left c]
 ·
  rename_i c; rw [List.getD_eq_getElem?_getD, List.getD_eq_getElem?_getD, List.getElem?_append_right (by omega)]
theorem Halves.both (h : Halves a i k d e) : JoinKit.both (SplitKit.part a d i) (SplitKit.part a e k) d e = DrawKit.rot i a := by
 have hs := h.sum
 have h2 := h.e2
 have l1 := h.len1
 have l2 := h.swap.len1
 have lr := DrawKit.rot_len (m := i) (l := a) (by have := h.hi; omega)
 refine at_ext (by rw [JoinKit.both_len, l1, l2, lr]; omega) (fun j hj => ?_)
 rw [JoinKit.both_len, l1, l2] at hj
 rw [DrawKit.rot_at h.hi (by omega)]
 unfold JoinKit.both
 rw [at_app, JoinKit.rot_length, l1, l2]
 split
 ·
  rename_i c
  rw [joinRot_at _ _ _ _ c, l1, Nat.add_mod_left, Nat.mod_eq_of_lt c, h.at1 (by omega)]
 ·
  rename_i c
  rw [joinRot_at _ _ _ _ (by omega), l2, show e + 2 + (j - (d + 1)) = (j - d) + (e + 1) by omega, Nat.add_mod_right, Nat.mod_eq_of_lt (by omega), h.swap.at1 (by omega), ← h.far, Nat.mod_add_mod, show i + d + (j - d) = i + j by omega]
theorem Halves.outIs (h : Halves a i k d e) : JoinKit.out (SplitKit.part a d i) (SplitKit.part a e k) d e = (DrawKit.rot i a, 0) := by
 have hr := DrawKit.rot_ok h.hi h.ok
 unfold JoinKit.out
 rw [Halves.both h, strt_same hr _ _ (by omega), fin_ok hr]
theorem nxt_at {l : List S34} {x : Nat} (hx : x < l.length) : l.getD (JoinKit.nxt l.length x) z34 = at_ l ((x + 1) % l.length) := by
 rw [JoinKit.nxt_mod hx]; rfl
theorem Halves.match_ (h : Halves a i k d e) : JoinKit.mt (SplitKit.part a d i) (SplitKit.part a e k) d e := by
 unfold JoinKit.mt
 rw [nxt_at (by rw [h.swap.len1]; omega), nxt_at (by rw [h.len1]; omega), h.nx1, h.swap.nx1]
 exact ⟨h.last1.trans h.swap.first1.symm, h.first1.trans h.swap.last1.symm⟩
theorem Halves.only (h : Halves a i k d e) {x y : Nat} (hx : x < (SplitKit.part a d i).length) (hy : y < (SplitKit.part a e k).length) (hm : JoinKit.mt (SplitKit.part a d i) (SplitKit.part a e k) x y) : x = d ∧ y = e := by
 unfold JoinKit.mt at hm
 rw [nxt_at hx, nxt_at hy] at hm
 obtain ⟨m1, m2⟩ := hm
 have hx' := nx_lt (SplitKit.part a d i) x hx
 have hy' := nx_lt (SplitKit.part a e k) y hy
 have z1 := h.left2 (at_memS hy')
 have z2 := h.left2 (at_memS hy)
 have w1 := h.left1 (at_memS hx)
 have w2 := h.left1 (at_memS hx')
 have n1 := cr_rev (at_ a i) (at_ a k) (at_ (SplitKit.part a d i) x)
 have n2 := cr_rev (at_ a i) (at_ a k) (at_ (SplitKit.part a d i) ((x + 1) % (SplitKit.part a d i).length))
 have m1' : at_ (SplitKit.part a d i) x = at_ (SplitKit.part a e k) ((y + 1) % (SplitKit.part a e k).length) := m1
 have m2' : at_ (SplitKit.part a d i) ((x + 1) % (SplitKit.part a d i).length) = at_ (SplitKit.part a e k) y := m2
 rw [← m1'] at z1
 rw [← m2'] at z2
 have p1 := h.on1 (at_memS hx) (by omega)
 have p2 := h.on1 (at_memS hx') (by omega)
 have hd := h.d2
 have he := h.e2
 have idx : ∀ t, t < (SplitKit.part a d i).length → (at_ (SplitKit.part a d i) t = at_ a i ∨ at_ (SplitKit.part a d i) t = at_ a k) → t = 0 ∨ t = d := by
  intro t ht g
  rcases g with g | g
  ·
   left
   exact JoinKit.apart h.ok1 ht (by omega) (g.trans h.first1.symm)
  ·
   right
   exact JoinKit.apart h.ok1 ht (by rw [h.len1]; omega) (g.trans h.last1.symm)
 have q1 := idx x hx p1
 have q2 := idx _ hx' p2
 have xd : x = d := by
  rcases q1 with c | c
  ·
   subst c
   rw [h.len1, Nat.zero_add, Nat.mod_eq_of_lt (by omega)] at q2
   omega
  ·
   exact c
 refine ⟨xd, ?_⟩
 subst xd
 rw [h.nx1, h.first1] at m2'
 exact (JoinKit.apart h.swap.ok1 (by rw [h.swap.len1]; omega) hy (h.swap.last1.trans m2')).symm
theorem Halves.joined (h : Halves a i k d e) (f1 : Fit (SplitKit.part a d i)) (f2 : Fit (SplitKit.part a e k)) : Ev (fun r => spec_JoinStones.f r (SplitKit.part a d i) (SplitKit.part a e k)) (DrawKit.rot i a, 0) ∧ Ev (fun r => impl_JoinStones.f r (SplitKit.part a d i) (SplitKit.part a e k)) (DrawKit.rot i a, 0) := by
 obtain ⟨x, y, hx, hy, hm, j1, j2⟩ := JoinKit.joins _ _ f1 f2 h.ok1 h.swap.ok1 ⟨d, e, by rw [h.len1]; omega, by rw [h.swap.len1]; omega, Halves.match_ h⟩
 obtain ⟨rfl, rfl⟩ := Halves.only h hx hy hm
 rw [Halves.outIs h] at j1 j2
 exact ⟨j1, j2⟩
end
end Go.Proofs.Ytmglnofmmgokkaa.PairJoin
namespace Go.Proofs.Ytmglnofmmgokkaa.SplitKit
set_option linter.unusedSimpArgs false
set_option linter.unusedVariables false
open Go.RowKit PA Base StonesKit YtmglnofmmgokkaaW.PrintWords YtmglnofmmgokkaaW.PrintLast YtmglnofmmgokkaaW.PrintMore
theorem implPart {l : List S34} (hl : l.length ≤ 1048576) (b : Nat) (hb : b < l.length) : ∀ (d i : Nat) (acc : List S34), d < l.length → i < l.length → (i + d = b ∨ i + d = b + l.length) → acc.length + d ≤ 1048576 →
  Ev (fun k => impl_Stone_upTo.l0 k l (i : Int) (b : Int) acc) (acc ++ ptT l d i)
 | 0, i, acc, _, hi, h, ha => by
  refine Ev.step (fun k => by rw [impl_Stone_upTo.l0]) ?_
  exact Ev.pos (by omega) (Ev.fin (by simp [ptT]))
 | d + 1, i, acc, hd, hi, h, ha => by
  have hn : nxt l.length i < l.length := by unfold nxt; split <;> omega
  have hx : nxt l.length i + d = b ∨ nxt l.length i + d = b + l.length := by unfold nxt; split <;> omega
  refine Ev.step (fun k => by rw [impl_Stone_upTo.l0]) ?_
  refine Ev.neg (by omega) (Ev.neg (by omega) ?_)
  rw [tmn i l.length hi hl]
  refine Ev.pos (by omega) (Ev.pos (by omega) (Ev.pos (by omega) ?_))
  refine Ev.to (implPart hl b hb d (nxt l.length i) _ (by omega) hn hx (by simp; omega)) ?_
  rw [rdC', List.append_assoc]; rfl
theorem implP {l : List S34} (hl : l.length ≤ 1048575) {i b : Nat} (hi : i < l.length) (hb : b < l.length) : Ev (fun k => impl_Stone_upTo.f k l (i : Int) (b : Int)) (part l (dist l.length i b) i) := by
 have h := dist_ok hi hb
 unfold impl_Stone_upTo.f
 refine Ev.pos (by omega) (Ev.pos (by omega) ?_)
 refine Ev.to (implPart (by omega) b hb _ i _ h.1 hi h.2 (by simp; omega)) ?_
 rw [rdC']; rfl
theorem implIt {l : List S34} (hl : l.length ≤ 1048575) {i b : Nat} (hi : i < l.length) (hb : b < l.length) : Ev (fun k => impl_SplitStone.j0 k l (i : Int) (b : Int) (l.length : Int) 0) (if near l.length i b then ([], [], 4) else (part l (dist l.length i b) i, part l (dist l.length b i) b, 0)) := by
 have bad : Ev (fun k => impl_SplitStone.j1 k l (i : Int) (b : Int) true) ([], [], 4) := by
  refine Ev.step (fun k => by rw [impl_SplitStone.j1]) ?_
  exact Ev.pos rfl (Ev.fin rfl)
 refine Ev.step (fun k => by rw [impl_SplitStone.j0]) ?_
 refine Ev.pos rfl ?_
 rw [tmn i l.length hi (by omega), tmn b l.length hb (by omega)]
 unfold near
 refine Ev.ite (fun e => ?_) (fun e => Ev.neg (by omega) ?_)
 ·
  rw [decide_eq_true (by omega)]; exact bad
 rw [decide_eq_false (by omega), Bool.false_or]
 refine Ev.ite (fun e => ?_) (fun e => ?_)
 ·
  rw [decide_eq_true (by omega)]; exact bad
 rw [decide_eq_false (by omega), Bool.false_or]
 by_cases q : nxt l.length b = i
 ·
  rw [decide_eq_true q, q]; simpa using bad
 ·
  have e2 : (((nxt l.length b : Nat) : Int) == (i : Int)) = false := by rw [beq_eq_false_iff_ne]; omega
  rw [decide_eq_false q, e2]
  refine Ev.step (fun k => by rw [impl_SplitStone.j1]) ?_
  exact Ev.neg (by simp) (Ev.bind (implP hl hi hb) (Ev.bind (implP hl hb hi) (Ev.fin rfl)))
theorem implRes {l : List S34} (hf : Fit l) (hl : l.length ≤ 1048576) (a b : Int) : Ev (fun k => impl_SplitStone.f k l a b) (res l a b) := by
 unfold impl_SplitStone.f res
 have bad : ∀ c : Int, c ≠ 0 → Ev (fun k => impl_SplitStone.j0 k l a b (l.length : Int) c) ([], [], c) := by
  intro c hc
  refine Ev.step (fun k => by rw [impl_SplitStone.j0]) ?_
  exact Ev.neg hc (Ev.fin rfl)
 refine Ev.bind (implOk hf) ?_
 rw [w64 (by omega) (by omega)]
 refine Ev.nobind (implIn _ _ _) ?_
 cases ha : inB a 0 ((l.length : Int) - 1) with
 | false =>
  refine Ev.neg (by simp) (Ev.nobind (codeOf _ _) ?_)
  cases okS l with
  | false => exact bad 1 (by decide)
  | true => exact bad 2 (by decide)
 | true =>
  refine Ev.pos rfl (Ev.nobind (implIn _ _ _) (Ev.nobind (codeOf _ _) ?_))
  cases ho : okS l with
  | false => exact bad 1 (by decide)
  | true =>
   have hl := okS_len ho
   cases hb : inB b 0 ((l.length : Int) - 1) with
   | false => exact bad 2 (by decide)
   | true =>
    rw [inB_iff] at ha hb
    obtain ⟨i, rfl⟩ : ∃ i : Nat, a = (i : Int) := ⟨a.toNat, by omega⟩
    obtain ⟨j, rfl⟩ : ∃ j : Nat, b = (j : Int) := ⟨b.toNat, by omega⟩
    exact implIt (by omega) (by omega) (by omega)
end Go.Proofs.Ytmglnofmmgokkaa.SplitKit
namespace Go.Proofs.Ytmglnofmmgokkaa.Pure
set_option linter.unusedSimpArgs false
set_option linter.unusedVariables false
open Go.RowKit PA Base StonesKit LayKit Geo SeamKit SplitKit GenKit TouchKit WhereKit PairGeo PairSplit PairFns PairJoin YtmglnofmmgokkaaW.PrintWords YtmglnofmmgokkaaW.PrintLast YtmglnofmmgokkaaW.PrintMore
theorem wfu8 {x : Int} (h : (Lit.int .u8 x).wf = true) : 0 ≤ x ∧ x ≤ 255 := by
 simp [Lit.wf, IntKind.min, IntKind.max, IntKind.signed, IntKind.bits] at h; omega
theorem fit_of_ok {l : List S34} (h : okS l = true) : Fit l := by
 intro c hc
 have := ok_sm h c hc
 unfold Geo.Sm at this
 omega
theorem implV {l : List S34} (h : okS l = true) : Ev (fun k => impl_ValidStone.f k l) true := by
 have := implOk (fit_of_ok h)
 rw [h] at this; exact this
theorem specV {l : List S34} (h : okS l = true) : Ev (fun k => spec_l03Ok.f k l) true := by
 have := specOk (fit_of_ok h)
 rw [h] at this; exact this
def tch (a b : List S34) : Bool := !overB a b && (cutB a b true && cutB b a true)
theorem tch_symm (a b : List S34) : tch a b = tch b a := by
 unfold tch
 rw [over_symm a b, Bool.and_comm (cutB a b true)]
section
variable {a b : List S34} (ha : okS a = true) (hb : okS b = true)
include ha hb
theorem iOver : Ev (fun k => impl_DoOverlap.f k a b) (overB a b, 0) := by
 unfold impl_DoOverlap.f
 exact Ev.bind (implV ha) (Ev.pos rfl (Ev.bind (implV hb) (Ev.pos rfl (Ev.nobind (implOver a b) (Ev.fin rfl)))))
theorem sOver : Ev (fun k => spec_DoOverlap.f k a b) (overB a b, 0) := by
 have la := okS_len ha
 have lb := okS_len hb
 unfold spec_DoOverlap.f
 exact Ev.bind (specV ha) (Ev.pos rfl (Ev.bind (specV hb) (Ev.pos rfl (Ev.bind (specOver a b (by omega) (by omega)) (Ev.fin rfl)))))
theorem iTouch : Ev (fun k => impl_DoTouch.f k a b) (tch a b, 0) := by
 have h3 := implOver a b
 have h4 := implParts a b true
 have h5 := implParts b a true
 unfold impl_DoTouch.f
 refine Ev.bind (implV ha) (Ev.pos rfl (Ev.bind (implV hb) ?_))
 refine Ev.step (fun k => by rw [impl_DoTouch.j0]) (Ev.neg (by decide) (Ev.nobind h3 ?_))
 unfold tch
 cases overB a b with
 | true => exact Ev.pos rfl (Ev.fin rfl)
 | false =>
  refine Ev.neg (by decide) (Ev.nobind h4 ?_)
  cases cutB a b true with
  | false => exact Ev.pos rfl (Ev.fin rfl)
  | true => exact Ev.neg (by decide) (Ev.nobind h5 (Ev.fin (by simp)))
theorem sTouch : Ev (fun k => spec_DoTouch.f k a b) (tch a b, 0) := by
 have la := okS_len ha
 have lb := okS_len hb
 have h3 := specOver a b (by omega) (by omega)
 have h4 := specApart a b false (by omega) (by omega)
 have h5 := specApart b a false (by omega) (by omega)
 unfold spec_DoTouch.f
 refine Ev.bind (specV ha) (Ev.pos rfl (Ev.bind (specV hb) ?_))
 refine Ev.step (fun k => by rw [spec_DoTouch.j0]) (Ev.neg (by decide) (Ev.bind h3 ?_))
 unfold tch
 rw [Bool.not_false] at h4 h5
 cases overB a b with
 | true => exact Ev.pos rfl (Ev.fin rfl)
 | false =>
  refine Ev.neg (by decide) (Ev.bind h4 ?_)
  cases cutB a b true with
  | false => exact Ev.pos rfl (Ev.fin rfl)
  | true => exact Ev.neg (by decide) (Ev.bind h5 (Ev.fin (by simp)))
theorem seamsAll : ∃ r, Ev (fun k => spec_SeamSquare.f k a b) (r, 0) ∧ Ev (fun k => impl_SeamSquare.f k a b) (r, 0) ∧ SeamOf a b r := by
 obtain ⟨r, h1, h2, h3⟩ := seams3 ha hb
 refine ⟨r, ?_, ?_, h3⟩
 ·
  unfold spec_SeamSquare.f
  exact Ev.bind (specV ha) (Ev.pos rfl (Ev.bind (specV hb) (Ev.pos rfl (Ev.bind h1 (Ev.fin rfl)))))
 ·
  unfold impl_SeamSquare.f
  exact Ev.bind (implV ha) (Ev.pos rfl (Ev.bind (implV hb) (Ev.pos rfl (Ev.bind h2 (Ev.fin rfl)))))
theorem seam_tch {r : Int} (h : SeamOf a b r) (hr : 0 < r) : overB a b = false ∧ tch a b = true := by
 obtain ⟨h1, h2⟩ := h.seamed hr
 obtain ⟨t1, t2⟩ := seam_touch ha hb h2
 refine ⟨h1, ?_⟩
 unfold tch; rw [h1, t1, t2]; rfl
end
theorem iArea {l : List S34} (h : okS l = true) : Ev (fun k => impl_AreaTwice.f k l) (areaZ l, 0) := by
 unfold impl_AreaTwice.f
 exact Ev.bind (implV h) (Ev.pos rfl (Ev.bind (implArea h) (Ev.fin rfl)))
theorem sArea {l : List S34} (h : okS l = true) : Ev (fun k => spec_AreaTwice.f k l) (areaZ l, 0) := by
 unfold spec_AreaTwice.f
 exact Ev.bind (specV h) (Ev.pos rfl (Ev.bind (specArea h) (Ev.fin rfl)))
theorem iWhere {l : List S34} (h : okS l = true) {c : S34} (hc : Sm c) : Ev (fun k => impl_WhereIs.f k l (wrap64 c.f0) (wrap64 c.f1)) (wh l c, 0) := by
 have hl := okS_len h
 unfold Geo.Sm at hc
 have w1 : IntKind.i16.wrap c.f0 = c.f0 := w16 (by omega) (by omega)
 have w2 : IntKind.i16.wrap c.f1 = c.f1 := w16 (by omega) (by omega)
 have i1 : impl_within.f c.f0 (-1000) 1000 = some true := by rw [implIn, show inB c.f0 (-1000) 1000 = true by rw [inB_iff]; omega]
 have i2 : impl_within.f c.f1 (-1000) 1000 = some true := by rw [implIn, show inB c.f1 (-1000) 1000 = true by rw [inB_iff]; omega]
 rw [w64 (x := c.f0) (by omega) (by omega), w64 (x := c.f1) (by omega) (by omega)]
 unfold impl_WhereIs.f
 rw [w1, w2]
 exact Ev.bind (implV h) (Ev.nobind i1 (Ev.pos rfl (Ev.nobind i2 (Ev.nobind rfl (Ev.pos rfl (Ev.bind (implWh l c (by omega)) (Ev.fin rfl)))))))
theorem sameSt (l : List S34) (hl : l.length ≤ 1000) : Ev (fun k => spec_SameStone.f k l l) true := by
 have key : ∀ (d i : Nat), i + d = l.length → Ev (fun k => spec_l03Same.l0 k l l (i : Int)) true := by
  intro d
  induction d with
  | zero =>
   intro i h
   refine Ev.step (fun k => by rw [spec_l03Same.l0]) ?_
   exact Ev.neg (by omega) (Ev.fin rfl)
  | succ d ih =>
   intro i h
   refine Ev.step (fun k => by rw [spec_l03Same.l0]) (Ev.pos (by omega) (Ev.pos (by omega) (Ev.pos (by omega) (Ev.neg (by simp) ?_))))
   rw [w64 (x := (i : Int) + 1) (by omega) (by omega)]
   exact ih (i + 1) (by omega)
 unfold spec_SameStone.f spec_l03Same.f
 exact Ev.bind (Ev.pos rfl (key l.length 0 (by omega))) (Ev.fin rfl)
theorem p6Stone {l : List Int} (h : U8 l) : ∃ st, Ev (fun k => spec_P6Stone.f k l) st ∧ okS st = true := by
 obtain ⟨v, p1, t1, e1, v0, v1, a0, a1⟩ := pick_ok h (p := 0) 0 (by omega) (by omega) (n := 9) (by omega) (by omega)
 obtain ⟨st, p', t', e2, hd, _, _⟩ := DrawKit.drawn_ok h (x := v) (by omega) t1 (p := p1) (by omega) (by omega)
 refine ⟨st, ?_, hd.ok⟩
 unfold spec_P6Stone.f
 exact Ev.nobind rfl (Ev.nobind e1 (Ev.bind e2 (Ev.fin rfl)))
theorem p6Pick {l : List Int} (h : U8 l) {n : Nat} (h1 : 1 ≤ n) (h2 : n ≤ 100) : ∃ i : Nat, i < n ∧ spec_P6Pick.f l (n : Int) = some (i : Int) := by
 obtain ⟨v, p1, t1, e1, v0, v1, _, _⟩ := pick_ok h (p := 0) 0 (by omega) (by omega) (n := (n : Int)) (by omega) (by omega)
 refine ⟨v.toNat, by omega, ?_⟩
 unfold spec_P6Pick.f
 have e0 : spec_l00From.f l = some (l, 0, 0) := rfl
 rw [e0, Option.bind_some]
 show (spec_l00Src_pick.f l 0 0 (n : Int)).bind _ = _
 rw [e1, Option.bind_some, Int.toNat_of_nonneg v0]
theorem resNear {a : List S34} (ha : okS a = true) {i k : Nat} (hi : i < a.length) (hk : k < a.length) : SplitKit.res a (i : Int) (k : Int) = if SplitKit.near a.length i k then ([], [], 4) else (SplitKit.part a (dist a.length i k) i, SplitKit.part a (dist a.length k i) k, 0) := by
 unfold SplitKit.res
 rw [if_pos ha, if_pos (by rw [Bool.and_eq_true, inB_iff, inB_iff]; omega), Int.toNat_natCast, Int.toNat_natCast]
theorem first_ {a : List S34} (ha : okS a = true) {i : Nat} (hi : i < a.length) : Ev (fun r => laws_FnStonePairs.j4 r a (DrawKit.rot i a) false) true := by
 have hr := DrawKit.rot_ok hi ha
 have hl := okS_len ha
 have f1 := FirstKit.implRes (fit_of_ok hr) hr
 have f2 := FirstKit.implRes (fit_of_ok ha) ha
 rw [FirstKit.turned_rot ha hi] at f1
 have hlen : (FirstKit.turned a).length ≤ 1000 := by
  have := (FirstKit.first_is ha).1
  unfold FirstKit.turned
  rw [DrawKit.rot_len (by omega)]; omega
 refine Ev.step (fun k => by rw [laws_FnStonePairs.j4]) (Ev.neg (by decide) (Ev.bind f1 (Ev.bind f2 (Ev.pos rfl (Ev.pos rfl ?_)))))
 exact Ev.bind (sameSt _ hlen) (Ev.fin rfl)
theorem halves {a : List S34} {i k d e : Nat} (h : Halves a i k d e) : Ev (fun r => laws_FnStonePairs.j3 r a (a.length : Int) (i : Int) (k : Int) 0 (SplitKit.part a d i) (SplitKit.part a e k) false) true := by
 have o1 := h.ok1
 have o2 := h.swap.ok1
 have hl := okS_len h.ok
 have hi := h.hi
 have hk := h.hk
 obtain ⟨r, _, s2, s3⟩ := seamsAll o1 o2
 have hr := h.seam s3
 have ht : tch (SplitKit.part a d i) (SplitKit.part a e k) = true := by
  unfold tch
  rw [h.apart, h.meet.1, h.meet.2]; rfl
 have it := iTouch o1 o2
 rw [ht] at it
 obtain ⟨j1, j2⟩ := Halves.joined h (fit_of_ok o1) (fit_of_ok o2)
 have hA := h.areas
 have hb := sumE_small h.ok 0 a.length
 have hsq := wsq h.smi h.smk
 refine Ev.step (fun k => by rw [laws_FnStonePairs.j3]) (Ev.neg (by decide) (Ev.pos rfl ?_))
 refine Ev.bind (iArea o1) (Ev.bind (iArea o2) (Ev.bind (sArea h.ok) (Ev.bind it (Ev.bind s2 ?_))))
 refine Ev.pos (by omega) (Ev.pos (by omega) (Ev.pos (by omega) (Ev.pos (by omega) ?_)))
 refine Ev.bind j2 (Ev.bind j1 ?_)
 rw [rdC', rdC']
 unfold at_ at hsq hr
 refine Ev.pos rfl (Ev.pos rfl (Ev.pos rfl (Ev.pos ?_ ?_)))
 ·
  show wrap64 (areaZ (SplitKit.part a d i) + areaZ (SplitKit.part a e k)) = areaZ a
  rw [hA]
  unfold areaZ
  exact w64 (by omega) (by omega)
 refine Ev.pos rfl (Ev.pos rfl (Ev.pos rfl (Ev.pos ?_ ?_)))
 ·
  exact hr.trans hsq.symm
 refine Ev.pos rfl (Ev.pos rfl (Ev.bind (sameSt (DrawKit.rot i a) (by rw [DrawKit.rot_len (by omega)]; omega)) ?_))
 exact first_ h.ok hi
theorem split_ {a : List S34} (ha : okS a = true) {i k : Nat} (hi : i < a.length) (hk : k < a.length) {R : Bool} (hn : SplitKit.near a.length i k = true) : Ev (fun r => laws_FnStonePairs.j3 r a (a.length : Int) (i : Int) (k : Int) 4 [] [] false) true := by
 have hl := okS_len ha
 unfold SplitKit.near at hn
 rw [Bool.or_eq_true, Bool.or_eq_true, decide_eq_true_eq, decide_eq_true_eq, decide_eq_true_eq] at hn
 refine Ev.step (fun k => by rw [laws_FnStonePairs.j3]) (Ev.neg (by decide) (Ev.neg (by decide) ?_))
 rw [tmn i a.length hi (by omega), tmn k a.length hk (by omega)]
 refine Ev.ite (fun _ => Ev.fin rfl) (fun c1 => Ev.neg (by omega) (Ev.ite (fun _ => Ev.fin rfl) (fun c2 => Ev.fin ?_)))
 rw [beq_iff_eq]
 omega
theorem parts_ {a : List S34} (ha : okS a = true) {l0 l1 : List Int} (h0 : U8 l0) (h1 : U8 l1) {b : List S34} {o t : Bool} : Ev (fun r => laws_FnStonePairs.l0 r l0 l1 a b o t (b.length : Int)) true := by
 have hl := okS_len ha
 obtain ⟨i, hi, p1⟩ := p6Pick h1 (n := a.length) (by omega) (by omega)
 obtain ⟨k, hk, p0⟩ := p6Pick h0 (n := a.length) (by omega) (by omega)
 have r1 := SplitKit.implRes (fit_of_ok ha) (by omega) (i : Int) (k : Int)
 have r2 := SplitKit.specRes (fit_of_ok ha) (i : Int) (k : Int)
 rw [resNear ha hi hk] at r1 r2
 refine Ev.step (fun k => by rw [laws_FnStonePairs.l0]) (Ev.neg (by omega) (Ev.nobind p1 (Ev.nobind p0 (Ev.bind r1 (Ev.bind r2 ?_)))))
 cases hn : SplitKit.near a.length i k with
 | true =>
  refine Ev.pos rfl (Ev.bind (sameSt [] (by simp)) (Ev.pos rfl (Ev.bind (sameSt [] (by simp)) (Ev.pos rfl (Ev.neg (by show ¬ ((4 : Int) = 0); decide) ?_)))))
  exact split_ ha hi hk (R := true) hn
 | false =>
  have h := cut_of ha hi hk hn
  have l1 := h.len1
  have l2 := h.swap.len1
  have hs := h.sum
  refine Ev.pos rfl (Ev.bind (sameSt (SplitKit.part a (dist a.length i k) i) (by omega)) (Ev.pos rfl (Ev.bind (sameSt (SplitKit.part a (dist a.length k i) k) (by omega)) (Ev.pos rfl (Ev.pos rfl ?_)))))
  exact halves h
theorem corners {a b : List S34} (ha : okS a = true) (hb : okS b = true) {l0 l1 : List Int} (h0 : U8 l0) (h1 : U8 l1) : ∀ (d i : Nat), i + d = b.length → Ev (fun r => laws_FnStonePairs.l0 r l0 l1 a b (overB a b) (tch a b) (i : Int)) true
 | 0, i, hi => by
  rw [show i = b.length by omega]
  exact parts_ ha h0 h1
 | d + 1, i, hi => by
  have hl := okS_len hb
  have hi' : i < b.length := by omega
  have ih := corners ha hb h0 h1 d (i + 1) (by omega)
  have hm : at_ b i ∈ b := at_memS hi'
  have hsm := ok_smA hb hi'
  have hw := iWhere ha hsm
  have hin := wh_in ha hsm
  have hin2 : wh a (at_ b i) = 2 → overB a b = true := fun e => over_in ha hb hm ((hin (by omega)).2 e)
  have hin1 : wh a (at_ b i) = 1 → overB a b = false → tch a b = true := fun e g => by
   obtain ⟨t1, t2⟩ := touch_in ha hb hm (hin (by omega)).1
   unfold tch; rw [g, t1, t2]; rfl
  refine Ev.step (fun k => by rw [laws_FnStonePairs.l0]) (Ev.pos (by omega) (Ev.pos (by omega) ?_))
  rw [rdC', w64 (x := (i : Int) + 1) (by omega) (by omega)]
  refine Ev.bind hw (Ev.pos rfl (Ev.ite (fun e => ?_) (fun _ => Ev.ite (fun e => ?_) (fun _ => ih))))
  ·
   exact Ev.pos (hin2 e) (Ev.ite (fun _ => ih) (fun _ => ih))
  ·
   refine Ev.ite (fun _ => ih) (fun g => ?_)
   exact Ev.pos (hin1 e (by rw [← Bool.not_eq_true]; exact g)) ih
theorem main {l0 l1 : List Int} (h0 : U8 l0) (h1 : U8 l1) : Ev (fun k => laws_FnStonePairs.j0 k l0 l1 false) true := by
 obtain ⟨a, ea, ha⟩ := p6Stone h0
 obtain ⟨b, eb, hb⟩ := p6Stone h1
 obtain ⟨r, s1, s2, s3⟩ := seamsAll ha hb
 obtain ⟨r', _, s2', s3'⟩ := seamsAll hb ha
 have er : r' = r := s3'.uniq (s3.symm ha hb)
 rw [er] at s2'
 have o2 := iOver hb ha
 rw [over_symm b a] at o2
 have t2 := iTouch hb ha
 rw [tch_symm b a] at t2
 have self := iOver ha ha
 rw [over_self ha] at self
 have J : Ev (fun k => laws_FnStonePairs.j1 k l0 l1 a b (overB a b) (tch a b) false) true := by
  refine Ev.step (fun k => by rw [laws_FnStonePairs.j1]) (Ev.neg (by decide) ?_)
  exact corners ha hb h0 h1 b.length 0 (by omega)
 have T : overB a b = true → tch a b = false ∧ ¬ r > 0 := fun e => ⟨by unfold tch; rw [e]; rfl, by rw [s3.over e]; decide⟩
 have P : r > 0 → tch a b = true := fun e => (seam_tch ha hb s3 e).2
 refine Ev.step (fun k => by rw [laws_FnStonePairs.j0]) (Ev.neg (by decide) (Ev.bind ea (Ev.bind eb ?_)))
 refine Ev.bind (iOver ha hb) (Ev.bind (sOver ha hb) (Ev.bind o2 (Ev.bind (iTouch ha hb) (Ev.bind (sTouch ha hb) (Ev.bind t2 ?_)))))
 refine Ev.bind s2 (Ev.bind s1 (Ev.bind s2' (Ev.bind self ?_)))
 refine Ev.pos rfl (Ev.pos rfl (Ev.neg (by simp) (Ev.pos rfl (Ev.neg (by simp) (Ev.pos rfl (Ev.pos rfl (Ev.neg (by simp) ?_)))))))
 refine Ev.pos rfl (Ev.neg (by simp) (Ev.pos rfl (Ev.pos rfl (Ev.pos rfl (Ev.pos rfl (Ev.pos rfl (Ev.pos rfl (Ev.pos rfl ?_))))))))
 refine Ev.ite (fun e => ?_) (fun e => ?_)
 ·
  obtain ⟨x, y⟩ := T e
  refine Ev.neg (by show ¬ tch a b = true; rw [x]; decide) (Ev.neg y ?_)
  exact J
 ·
  refine Ev.ite (fun g => ?_) (fun _ => J)
  show Ev (fun k => laws_FnStonePairs.j1 k l0 l1 a b (overB a b) (tch a b) (!tch a b)) true
  have q := P g
  have J' := J
  generalize tch a b = z at q J' ⊢
  rw [q] at J' ⊢
  exact J'
theorem FnStonePairs : laws_FnStonePairs.Pure := by
 intro l0 l1 _ _ w0 _ _ w1
 have h0 : U8 l0 := fun x hx => wfu8 (w0 x hx)
 have h1 : U8 l1 := fun x hx => wfu8 (w1 x hx)
 have skip : Ev (fun k => laws_FnStonePairs.j0 k l0 l1 true) true := by
  refine Ev.step (fun k => by rw [laws_FnStonePairs.j0]) ?_
  exact Ev.pos rfl (Ev.fin rfl)
 have key : Ev (fun k => laws_FnStonePairs.f k l0 l1) true := by
  unfold laws_FnStonePairs.f
  refine Ev.nobind rfl (Ev.ite (fun _ => skip) (fun _ => Ev.nobind rfl ?_))
  cases (decide ((l1.length : Int) > 4096)) with
  | true => exact skip
  | false => exact main h0 h1
 obtain ⟨k, hk⟩ := key
 exact ⟨k, hk k (Nat.le_refl _)⟩
end Go.Proofs.Ytmglnofmmgokkaa.Pure
