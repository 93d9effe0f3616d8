/- Both searches for the cuts go alike: the reference's list is longer than sixty where the program fails. -/
import Derived.Test.YtpkbamcfncambaaWorthKit
import Derived.Test.YtpkbamcfncambaaPAxf24
import Derived.Test.YtpkbamcfncambaaPAxf25
namespace Go.Proofs.Ytpkbamcfncambaa.AddKit
set_option linter.unusedSimpArgs false
set_option linter.unusedVariables false
open Go.RowKit Go.Proofs.Ytpkbamcfncambaa.PA Go.Proofs.Ytpkbamcfncambaa.Base Go.Proofs.Ytpkbamcfncambaa.KindsKit Go.Proofs.Ytpkbamcfncambaa.BestKit Go.Proofs.Ytpkbamcfncambaa.WorthKit Go.Proofs.YtpkbamcfncambaaW.PrintWords Go.Proofs.YtpkbamcfncambaaW.PrintLast Go.Proofs.YtpkbamcfncambaaW.PrintMore

abbrev Leaf := List S61 → Int → List Int → Int → Int → Int → Int → Int → Int → List S43 → Option (List S61)
theorem shift {α : Type} {g : Nat → Option α} {r : α} (h : Ev g r) (j : Nat) : Ev (fun k => g (k + j)) r := by
  obtain ⟨K, hK⟩ := h
  exact ⟨K, fun k hk => hK (k + j) (by omega)⟩
/-- The least place that fits, or none. -/
theorem least (p : Int → Prop) [DecidablePred p] : ∀ (n : Nat), (∃ a : Int, (1 ≤ a ∧ a < 1 + n) ∧ p a ∧ ∀ m, 1 ≤ m → m < a → ¬ p m) ∨ ∀ m, 1 ≤ m → m < 1 + (n : Int) → ¬ p m
  | 0 => .inr (fun m h1 h2 => by omega)
  | n + 1 => by
    rcases least p n with ⟨a, ⟨h1, h2⟩, hp, hm⟩ | h
    · exact .inl ⟨a, ⟨h1, by omega⟩, hp, hm⟩
    · by_cases hp : p (1 + n)
      · exact .inl ⟨1 + n, ⟨by omega, by omega⟩, hp, fun m h1 h2 => h m h1 h2⟩
      · refine .inr (fun m h1 h2 hq => ?_)
        by_cases e : m = 1 + n
        · exact hp (e ▸ hq)
        · exact h m h1 (by omega) hq
section
variable (T : List Int) (ks : List S43)
def across (w h v at_ : Int) : Prop := wrap64 (rd T (at_ * 25 + h) + rd T ((w - at_) * 25 + h)) = v
def down (w h v at_ : Int) : Prop := wrap64 (rd T (w * 25 + at_) + rd T (w * 25 + (h - at_))) = v
instance (w h v at_ : Int) : Decidable (across T w h v at_) := by unfold across; infer_instance
instance (w h v at_ : Int) : Decidable (down T w h v at_) := by unfold down; infer_instance
def isB (w h v : Int) (x : S43) : Bool := decide (wrap64 x.f0 = w ∧ wrap64 x.f1 = h ∧ wrap64 x.f2 = v)
theorem find_is (v w h : Int) : impl_cutter_add.find v w h ks = some (idx (isB w h v) ks) := by
  unfold impl_cutter_add.find
  refine idxO_idx ks (fun x _ => ?_)
  unfold impl_cutter_add.isK isB
  split
  · split
    · simp [*]
    · simp [*]
  · simp [*]
variable (P : Nat → Leaf) (y : List S61) (own : Nat) (w h v : Int) (b0 : 1 ≤ w ∧ w ≤ 24) (b1 : 1 ≤ h ∧ h ≤ 24)
include b0 b1 in
theorem s1_reach (r : List S61) (a : Int) (ha : a ≤ w) (hr : ∀ j, Ev (fun k => spec_l04Cut.l1 (P (k + j)) k y T w h ks v own a) r) :
    ∀ (d : Nat) (i : Int), i + d = a → 1 ≤ i → (∀ m, i ≤ m → m < a → ¬ across T w h v m) → ∀ j, Ev (fun k => spec_l04Cut.l1 (P (k + j)) k y T w h ks v own i) r
  | 0, i, e, h1, hn, j => by
    obtain rfl : i = a := by omega
    exact hr j
  | d + 1, i, e, h1, hn, j => by
    have e1 : wrap64 (w - i) = w - i := w64 (by omega) (by omega)
    have e2 : wrap64 (i + 1) = i + 1 := w64 (by omega) (by omega)
    refine Ev.step (fun k => by rw [spec_l04Cut.l1, show k + 1 + j = k + (j + 1) by omega]) ?_
    refine Ev.pos (by omega) ?_
    refine Ev.pos (by omega) ?_
    refine Ev.pos (by omega) ?_
    refine Ev.pos (by omega) ?_
    refine Ev.pos (by omega) ?_
    rw [e1, e2]
    refine Ev.pos (by omega) ?_
    refine Ev.pos (by omega) ?_
    refine Ev.neg (hn i (by omega) (by omega)) ?_
    exact s1_reach r a ha hr d (i + 1) (by omega) (by omega) (fun m q1 q2 => hn m (by omega) q2) (j + 1)
include b0 b1 in
theorem s1_hit (r : List S61) (a : Int) (ha : 1 ≤ a ∧ a < w) (hp : across T w h v a) (hr : Ev (fun k => P k y own T 2 a a h (w - a) h ks) r) (j : Nat) : Ev (fun k => spec_l04Cut.l1 (P (k + j)) k y T w h ks v own a) r := by
  have e1 : wrap64 (w - a) = w - a := w64 (by omega) (by omega)
  refine Ev.step (fun k => by rw [spec_l04Cut.l1, show k + 1 + j = k + (j + 1) by omega]) ?_
  refine Ev.pos (by omega) ?_
  refine Ev.pos (by omega) ?_
  refine Ev.pos (by omega) ?_
  refine Ev.pos (by omega) ?_
  refine Ev.pos (by omega) ?_
  rw [e1]
  refine Ev.pos (by omega) ?_
  refine Ev.pos (by omega) ?_
  refine Ev.pos hp ?_
  exact Ev.bind (shift hr (j + 1)) (Ev.fin rfl)
include b0 b1 in
theorem s2_reach (r : List S61) (a : Int) (ha : a < h) (hr : ∀ j, Ev (fun k => spec_l04Cut.l2 (P (k + j)) k y T w h ks v own a) r) :
    ∀ (d : Nat) (i : Int), i + d = a → 1 ≤ i → (∀ m, i ≤ m → m < a → ¬ down T w h v m) → ∀ j, Ev (fun k => spec_l04Cut.l2 (P (k + j)) k y T w h ks v own i) r
  | 0, i, e, h1, hn, j => by
    obtain rfl : i = a := by omega
    exact hr j
  | d + 1, i, e, h1, hn, j => by
    have e1 : wrap64 (h - i) = h - i := w64 (by omega) (by omega)
    have e2 : wrap64 (i + 1) = i + 1 := w64 (by omega) (by omega)
    refine Ev.step (fun k => by rw [spec_l04Cut.l2, show k + 1 + j = k + (j + 1) by omega]) ?_
    refine Ev.pos (by omega) ?_
    refine Ev.pos (by omega) ?_
    refine Ev.pos (by omega) ?_
    refine Ev.pos (by omega) ?_
    rw [e1, e2]
    refine Ev.pos (by omega) ?_
    refine Ev.pos (by omega) ?_
    refine Ev.neg (hn i (by omega) (by omega)) ?_
    exact s2_reach r a ha hr d (i + 1) (by omega) (by omega) (fun m q1 q2 => hn m (by omega) q2) (j + 1)
include b0 b1 in
theorem s2_hit (r : List S61) (a : Int) (ha : 1 ≤ a ∧ a < h) (hp : down T w h v a) (hr : Ev (fun k => P k y own T 3 a w a w (h - a) ks) r) (j : Nat) : Ev (fun k => spec_l04Cut.l2 (P (k + j)) k y T w h ks v own a) r := by
  have e1 : wrap64 (h - a) = h - a := w64 (by omega) (by omega)
  refine Ev.step (fun k => by rw [spec_l04Cut.l2, show k + 1 + j = k + (j + 1) by omega]) ?_
  refine Ev.pos (by omega) ?_
  refine Ev.pos (by omega) ?_
  refine Ev.pos (by omega) ?_
  refine Ev.pos (by omega) ?_
  rw [e1]
  refine Ev.pos (by omega) ?_
  refine Ev.pos (by omega) ?_
  refine Ev.pos hp ?_
  exact Ev.bind (shift hr (j + 1)) (Ev.fin rfl)
theorem s0_step (hl : ks.length ≤ 1048576) (r : List S61) (n : Nat) (hn : n ≤ ks.length) (hno : ∀ x ∈ ks.take n, isB w h v x = false) (hr : ∀ j, Ev (fun k => spec_l04Cut.l0 (P (k + j)) k y T w h ks v own (n : Int)) r) :
    ∀ (d i : Nat), i + d = n → ∀ j, Ev (fun k => spec_l04Cut.l0 (P (k + j)) k y T w h ks v own (i : Int)) r
  | 0, i, e, j => by
    obtain rfl : i = n := by omega
    exact hr j
  | d + 1, i, e, j => by
    have e2 : wrap64 ((i : Int) + 1) = ((i + 1 : Nat) : Int) := by rw [w64 (by omega) (by omega)]; omega
    have hi : i < ks.length := by omega
    have hm := hno ks[i] (by rw [List.mem_take_iff_getElem]; exact ⟨i, by omega, rfl⟩)
    have go := s0_step hl r n hn hno hr d (i + 1) (by omega) (j + 1)
    refine Ev.step (fun k => by rw [spec_l04Cut.l0, show k + 1 + j = k + (j + 1) by omega]) ?_
    refine Ev.pos (by omega) ?_
    refine Ev.pos (by omega) ?_
    rw [rdK ks i hi, e2]
    refine Ev.ite (fun q0 => ?_) (fun q0 => go)
    refine Ev.ite (fun q1 => ?_) (fun q1 => go)
    refine Ev.ite (fun q2 => ?_) (fun q2 => go)
    exact absurd hm (by simp [isB, q0, q1, q2])
theorem s0_hit (hl : ks.length ≤ 1048576) (n : Nat) (hn : n < ks.length) (hp : isB w h v ks[n] = true) (ho : own < y.length) (j : Nat) : Ev (fun k => spec_l04Cut.l0 (P (k + j)) k y T w h ks v own (n : Int)) (y.set own ⟨1, 0, IntKind.i8.wrap (n : Int), 0⟩) := by
  simp only [isB, decide_eq_true_eq] at hp
  refine Ev.step (fun k => by rw [spec_l04Cut.l0, show k + 1 + j = k + (j + 1) by omega]) ?_
  refine Ev.pos (by omega) ?_
  refine Ev.pos (by omega) ?_
  rw [rdK ks n hn]
  refine Ev.pos hp.1 ?_
  refine Ev.pos hp.2.1 ?_
  refine Ev.pos hp.2.2 ?_
  refine Ev.pos (by omega) ?_
  refine Ev.pos (by omega) ?_
  exact Ev.fin rfl
theorem s0_end (r : List S61) (hr : ∀ j, Ev (fun k => spec_l04Cut.l1 (P (k + j)) k y T w h ks v own 1) r) (j : Nat) : Ev (fun k => spec_l04Cut.l0 (P (k + j)) k y T w h ks v own (ks.length : Int)) r := by
  refine Ev.step (fun k => by rw [spec_l04Cut.l0, show k + 1 + j = k + (j + 1) by omega]) ?_
  exact Ev.neg (by omega) (hr (j + 1))
theorem s1_end (r : List S61) (hr : ∀ j, Ev (fun k => spec_l04Cut.l2 (P (k + j)) k y T w h ks v own 1) r) (j : Nat) : Ev (fun k => spec_l04Cut.l1 (P (k + j)) k y T w h ks v own w) r := by
  refine Ev.step (fun k => by rw [spec_l04Cut.l1, show k + 1 + j = k + (j + 1) by omega]) ?_
  exact Ev.neg (by omega) (hr (j + 1))
-- ---- the program's search
abbrev Res := List S61 × Int × Bool
include b0 b1 in
theorem i0_reach (r : Res) (a : Int) (ha : a ≤ w) (hr : Ev (fun k => impl_cutter_add.l0 k y T ks own 2 a w h v) r) :
    ∀ (d : Nat) (i : Int), i + d = a → 1 ≤ i → (∀ m, i ≤ m → m < a → ¬ across T w h v m) → Ev (fun k => impl_cutter_add.l0 k y T ks own 2 i w h v) r
  | 0, i, e, h1, hn => by
    obtain rfl : i = a := by omega
    exact hr
  | d + 1, i, e, h1, hn => by
    have e1 : wrap64 (w - i) = w - i := w64 (by omega) (by omega)
    have e2 : wrap64 (i + 1) = i + 1 := w64 (by omega) (by omega)
    refine Ev.step (fun k => by rw [impl_cutter_add.l0]) ?_
    refine Ev.pos (by omega) ?_
    refine Ev.pos (by omega) ?_
    refine Ev.pos (by omega) ?_
    refine Ev.pos (by omega) ?_
    refine Ev.pos (by omega) ?_
    rw [e1, e2]
    refine Ev.pos (by omega) ?_
    refine Ev.pos (by omega) ?_
    refine Ev.neg (hn i (by omega) (by omega)) ?_
    exact i0_reach r a ha hr d (i + 1) (by omega) (by omega) (fun m q1 q2 => hn m (by omega) q2)
include b0 b1 in
theorem i0_hit (r : Res) (a : Int) (ha : 1 ≤ a ∧ a < w) (hp : across T w h v a) (hr : Ev (fun k => impl_cutter_add.j3 k y T ks own 2 a a h (w - a) h) r) : Ev (fun k => impl_cutter_add.l0 k y T ks own 2 a w h v) r := by
  have e1 : wrap64 (w - a) = w - a := w64 (by omega) (by omega)
  refine Ev.step (fun k => by rw [impl_cutter_add.l0]) ?_
  refine Ev.pos (by omega) ?_
  refine Ev.pos (by omega) ?_
  refine Ev.pos (by omega) ?_
  refine Ev.pos (by omega) ?_
  refine Ev.pos (by omega) ?_
  rw [e1]
  refine Ev.pos (by omega) ?_
  refine Ev.pos (by omega) ?_
  refine Ev.pos hp ?_
  refine Ev.step (fun k => by rw [impl_cutter_add.j1]) ?_
  rw [e1]
  exact Ev.neg (by omega) hr
theorem i0_end (r : Res) (hr : Ev (fun k => impl_cutter_add.l1 k y T ks own 3 1 w h v) r) : Ev (fun k => impl_cutter_add.l0 k y T ks own 2 w w h v) r := by
  refine Ev.step (fun k => by rw [impl_cutter_add.l0]) ?_
  refine Ev.neg (by omega) ?_
  refine Ev.step (fun k => by rw [impl_cutter_add.j1]) ?_
  exact Ev.pos (by omega) hr
include b0 b1 in
theorem i1_reach (r : Res) (a : Int) (ha : a < h) (hr : Ev (fun k => impl_cutter_add.l1 k y T ks own 3 a w h v) r) :
    ∀ (d : Nat) (i : Int), i + d = a → 1 ≤ i → (∀ m, i ≤ m → m < a → ¬ down T w h v m) → Ev (fun k => impl_cutter_add.l1 k y T ks own 3 i w h v) r
  | 0, i, e, h1, hn => by
    obtain rfl : i = a := by omega
    exact hr
  | d + 1, i, e, h1, hn => by
    have e1 : wrap64 (h - i) = h - i := w64 (by omega) (by omega)
    have e2 : wrap64 (i + 1) = i + 1 := w64 (by omega) (by omega)
    refine Ev.step (fun k => by rw [impl_cutter_add.l1]) ?_
    refine Ev.pos (by omega) ?_
    refine Ev.pos (by omega) ?_
    refine Ev.pos (by omega) ?_
    refine Ev.pos (by omega) ?_
    rw [e1, e2]
    refine Ev.pos (by omega) ?_
    refine Ev.pos (by omega) ?_
    refine Ev.neg (hn i (by omega) (by omega)) ?_
    exact i1_reach r a ha hr d (i + 1) (by omega) (by omega) (fun m q1 q2 => hn m (by omega) q2)
include b0 b1 in
theorem i1_hit (r : Res) (a : Int) (ha : 1 ≤ a ∧ a < h) (hp : down T w h v a) (hr : Ev (fun k => impl_cutter_add.j3 k y T ks own 3 a w a w (h - a)) r) : Ev (fun k => impl_cutter_add.l1 k y T ks own 3 a w h v) r := by
  have e1 : wrap64 (h - a) = h - a := w64 (by omega) (by omega)
  refine Ev.step (fun k => by rw [impl_cutter_add.l1]) ?_
  refine Ev.pos (by omega) ?_
  refine Ev.pos (by omega) ?_
  refine Ev.pos (by omega) ?_
  refine Ev.pos (by omega) ?_
  rw [e1]
  refine Ev.pos (by omega) ?_
  refine Ev.pos (by omega) ?_
  exact Ev.pos hp hr
include b0 b1 in
/-- What both do with a part of some worth: a kind's entry, or the same cut. -/
theorem choose (hl : ks.length ≤ 1048576) (hv : v ≠ 0) (hs : Src ks T w h v) (ho : own < y.length) :
    (∃ n : Nat, (∀ P : Nat → Leaf, Ev (fun k => spec_l04Cut.l0 (P k) k y T w h ks v own 0) (y.set own ⟨1, 0, IntKind.i8.wrap (n : Int), 0⟩)) ∧ idx (isB w h v) ks = (n : Int)) ∨
    (∃ how a p0 p1 p2 p3 : Int, ((1 ≤ p0 ∧ p0 ≤ w) ∧ (1 ≤ p1 ∧ p1 ≤ h) ∧ (1 ≤ p2 ∧ p2 ≤ w) ∧ (1 ≤ p3 ∧ p3 ≤ h) ∧ p0 + p1 < w + h ∧ p2 + p3 < w + h) ∧ idx (isB w h v) ks = -1 ∧
      (∀ (P : Nat → Leaf) r, Ev (fun k => P k y own T how a p0 p1 p2 p3 ks) r → Ev (fun k => spec_l04Cut.l0 (P k) k y T w h ks v own 0) r) ∧
      ∀ r, Ev (fun k => impl_cutter_add.j3 k y T ks own how a p0 p1 p2 p3) r → Ev (fun k => impl_cutter_add.l0 k y T ks own 2 1 w h v) r) := by
  by_cases hk : ∃ x ∈ ks, isB w h v x = true
  · have hany : ks.any (isB w h v) = true := by simpa using hk
    have hlt := List.findIdx_lt_length_of_exists hk
    have hno : ∀ x ∈ ks.take (ks.findIdx (isB w h v)), isB w h v x = false := by
      intro x hx
      obtain ⟨i, hi, rfl⟩ := List.mem_take_iff_getElem.1 hx
      have := List.not_of_lt_findIdx (p := isB w h v) (xs := ks) (i := i) (by omega)
      simpa using this
    refine .inl ⟨ks.findIdx (isB w h v), fun P => ?_, idx_at hlt hno (List.findIdx_getElem (w := hlt))⟩
    exact s0_step T ks P y own w h v hl _ (ks.findIdx (isB w h v)) (Nat.le_of_lt hlt) hno (s0_hit T ks P y own w h v hl _ hlt (List.findIdx_getElem (w := hlt)) ho) (ks.findIdx (isB w h v)) 0 (Nat.zero_add _) 0
  · have hno : ∀ x ∈ ks, isB w h v x = false := fun x hx => by
      by_cases e : isB w h v x = true
      · exact absurd ⟨x, hx, e⟩ hk
      · simpa using e
    have hto : ∀ (P : Nat → Leaf) r, (∀ j, Ev (fun k => spec_l04Cut.l1 (P (k + j)) k y T w h ks v own 1) r) → Ev (fun k => spec_l04Cut.l0 (P k) k y T w h ks v own 0) r := fun P r hr =>
      s0_step T ks P y own w h v hl r ks.length (Nat.le_refl _) (fun x hx => hno x (List.mem_of_mem_take hx)) (s0_end T ks P y own w h v r hr) ks.length 0 (by omega) 0
    rcases least (across T w h v) (w - 1).toNat with ⟨a, ⟨h1, h2⟩, hp, hm⟩ | hnone
    · refine .inr ⟨2, a, a, h, w - a, h, by omega, idx_none hno, fun P r hr => hto P r ?_, fun r hr => ?_⟩
      · exact s1_reach T ks P y own w h v b0 b1 r a (by omega) (s1_hit T ks P y own w h v b0 b1 r a (by omega) hp hr) (a - 1).toNat 1 (by omega) (by omega) hm
      · exact i0_reach T ks y own w h v b0 b1 r a (by omega) (i0_hit T ks y own w h v b0 b1 r a (by omega) hp hr) (a - 1).toNat 1 (by omega) (by omega) hm
    · have hno1 : ∀ m, 1 ≤ m → m < w → ¬ across T w h v m := fun m q1 q2 => hnone m q1 (by omega)
      have hd : ∃ i : Int, (1 ≤ i ∧ i < h) ∧ down T w h v i := by
        rcases hs with e | ⟨i, hi, q0, q1, q2⟩ | ⟨i, hi, q⟩ | ⟨i, hi, q⟩
        · exact absurd e hv
        · exfalso
          rw [rdK ks i hi] at q0 q1 q2
          have := hno ks[i] (List.getElem_mem hi)
          simp [isB, q0, q1, q2] at this
        · exact absurd q (hno1 i hi.1 hi.2)
        · exact ⟨i, hi, q⟩
      rcases least (down T w h v) (h - 1).toNat with ⟨a, ⟨h1, h2⟩, hp, hm⟩ | hnone2
      · refine .inr ⟨3, a, w, a, w, h - a, by omega, idx_none hno, fun P r hr => hto P r ?_, fun r hr => ?_⟩
        · refine s1_reach T ks P y own w h v b0 b1 r w (by omega) (s1_end T ks P y own w h v r ?_) (w - 1).toNat 1 (by omega) (by omega) (fun m q1 q2 => hno1 m q1 q2)
          exact s2_reach T ks P y own w h v b0 b1 r a (by omega) (s2_hit T ks P y own w h v b0 b1 r a (by omega) hp hr) (a - 1).toNat 1 (by omega) (by omega) hm
        · refine i0_reach T ks y own w h v b0 b1 r w (by omega) (i0_end T ks y own w h v r ?_) (w - 1).toNat 1 (by omega) (by omega) (fun m q1 q2 => hno1 m q1 q2)
          exact i1_reach T ks y own w h v b0 b1 r a (by omega) (i1_hit T ks y own w h v b0 b1 r a (by omega) hp hr) (a - 1).toNat 1 (by omega) (by omega) hm
      · obtain ⟨i, hi, q⟩ := hd
        exact absurd q (hnone2 i hi.1 (by omega))
end
/-- What the two searches answer from the list `l` on. -/
def Alike (T : List Int) (ks : List S43) (w h : Int) (l : List S61) : Prop :=
  ∃ s, Ev (fun k => spec_l04Cut.f k l T w h ks) s ∧ l.length < s.length ∧
    ((s.length ≤ 60 ∧ Ev (fun k => impl_cutter_add.f k l w h T ks) (s, IntKind.i8.wrap (l.length : Int), true)) ∨
     (60 < s.length ∧ ∃ t b, l.length ≤ t.length ∧ Ev (fun k => impl_cutter_add.f k l w h T ks) (t, b, false)))
theorem parts (T : List Int) (ks : List S43) (y : List S61) (hy : y.length ≤ 60) (own : Nat) (ho : own < y.length) (how a p0 p1 p2 p3 : Int)
    (h0 : ∀ l : List S61, l.length ≤ 60 → Alike T ks p0 p1 l) (h1 : ∀ l : List S61, l.length ≤ 60 → Alike T ks p2 p3 l) :
    ∃ s, Ev (fun k => spec_l04Cut.q (spec_l04Cut.f k) y own T how a p0 p1 p2 p3 ks) s ∧ y.length < s.length ∧
      ((s.length ≤ 60 ∧ Ev (fun k => impl_cutter_add.j3 k y T ks own how a p0 p1 p2 p3) (s, IntKind.i8.wrap (own : Int), true)) ∨
       (60 < s.length ∧ ∃ t b, y.length ≤ t.length ∧ Ev (fun k => impl_cutter_add.j3 k y T ks own how a p0 p1 p2 p3) (t, b, false))) := by
  obtain ⟨s1, e1, g1, c1⟩ := h0 y hy
  rcases c1 with ⟨l1, i1⟩ | ⟨l1, t, b, gt, i1⟩
  · obtain ⟨s2, e2, g2, c2⟩ := h1 s1 l1
    refine ⟨s2.set own ⟨how, IntKind.i8.wrap a, IntKind.i8.wrap (y.length : Int), IntKind.i8.wrap (s1.length : Int)⟩, ?_, by rw [List.length_set]; omega, ?_⟩
    · unfold spec_l04Cut.q
      refine Ev.neg (by omega) ?_
      refine Ev.bind e1 ?_
      refine Ev.neg (by omega) ?_
      refine Ev.bind e2 ?_
      refine Ev.pos (by omega) ?_
      refine Ev.pos (by omega) ?_
      exact Ev.fin (by rw [Int.toNat_natCast])
    · rw [List.length_set]
      rcases c2 with ⟨l2, i2⟩ | ⟨l2, t, b, gt, i2⟩
      · refine .inl ⟨l2, Ev.step (fun k => by rw [impl_cutter_add.j3]) ?_⟩
        refine Ev.bind i1 ?_
        refine Ev.pos rfl ?_
        refine Ev.bind i2 ?_
        refine Ev.pos (by omega) ?_
        refine Ev.pos (show (own : Int) < (s2.length : Int) by omega) ?_
        exact Ev.fin (by rw [Int.toNat_natCast])
      · refine .inr ⟨l2, t.set own ⟨how, IntKind.i8.wrap a, IntKind.i8.wrap (y.length : Int), b⟩, IntKind.i8.wrap (own : Int), by rw [List.length_set]; omega, Ev.step (fun k => by rw [impl_cutter_add.j3]) ?_⟩
        refine Ev.bind i1 ?_
        refine Ev.pos rfl ?_
        refine Ev.bind i2 ?_
        refine Ev.pos (by omega) ?_
        refine Ev.pos (show (own : Int) < (t.length : Int) by omega) ?_
        exact Ev.fin (by rw [Int.toNat_natCast])
  · refine ⟨s1, ?_, g1, .inr ⟨l1, t, 0, gt, Ev.step (fun k => by rw [impl_cutter_add.j3]) ?_⟩⟩
    · unfold spec_l04Cut.q
      refine Ev.neg (by omega) ?_
      refine Ev.bind e1 ?_
      exact Ev.pos (by omega) (Ev.fin rfl)
    · refine Ev.bind i1 ?_
      exact Ev.neg (by simp) (Ev.fin rfl)
theorem alike (T : List Int) (ks : List S43) (hl : ks.length ≤ 1048576) (a0 a1 : Int) (b0 : 1 ≤ a0 ∧ a0 ≤ 24) (b1 : 1 ≤ a1 ∧ a1 ≤ 24)
    (hT : ∀ w h : Int, (1 ≤ w ∧ w ≤ a0) → (1 ≤ h ∧ h ≤ a1) → Src ks T w h (rd T (w * 25 + h))) :
    ∀ (n : Nat) (w h : Int), w + h ≤ n → (1 ≤ w ∧ w ≤ a0) → (1 ≤ h ∧ h ≤ a1) → ∀ l : List S61, l.length ≤ 60 → Alike T ks w h l
  | 0, w, h, e, hw, hh, l, hl6 => by omega
  | n + 1, w, h, e, hw, hh, l, hl6 => by
    have yl : (l ++ [(⟨0, 0, 0, 0⟩ : S61)]).length = l.length + 1 := by simp
    have SPEC : ∀ s, Ev (fun k => if rd T (w * 25 + h) = 0 then some (l ++ [(⟨0, 0, 0, 0⟩ : S61)]) else spec_l04Cut.l0 (spec_l04Cut.q (spec_l04Cut.f k)) k (l ++ [(⟨0, 0, 0, 0⟩ : S61)]) T w h ks (rd T (w * 25 + h)) (l.length : Int) 0) s → Ev (fun k => spec_l04Cut.f k l T w h ks) s := fun s hs => by
      refine Ev.step (fun k => by rw [spec_l04Cut.f, spec_l04Cut.b]) ?_
      refine Ev.pos (by omega) ?_
      refine Ev.pos (by omega) ?_
      refine Ev.pos (by omega) ?_
      refine Ev.pos (by omega) ?_
      refine Ev.pos (by omega) ?_
      exact Ev.nobind rfl hs
    have IMPL : l.length < 60 → ∀ r, Ev (fun k => if rd T (w * 25 + h) = 0 then some (l ++ [(⟨0, 0, 0, 0⟩ : S61)], IntKind.i8.wrap (l.length : Int), true) else (impl_cutter_add.find (rd T (w * 25 + h)) w h ks).bind fun t => (if t ≥ 0 then (if 0 ≤ (l.length : Int) then (if (l.length : Int) < ((l ++ [(⟨0, 0, 0, 0⟩ : S61)]).length : Int) then some ((l ++ [(⟨0, 0, 0, 0⟩ : S61)]).set (l.length : Int).toNat ⟨1, 0, IntKind.i8.wrap t, 0⟩, IntKind.i8.wrap (l.length : Int), true) else none) else none) else impl_cutter_add.l0 k (l ++ [(⟨0, 0, 0, 0⟩ : S61)]) T ks (l.length : Int) 2 1 w h (rd T (w * 25 + h)))) r → Ev (fun k => impl_cutter_add.f k l w h T ks) r := fun h6 r hr => by
      refine Ev.step (fun k => by rw [impl_cutter_add.f]) ?_
      refine Ev.pos (by omega) ?_
      refine Ev.pos (by omega) ?_
      refine Ev.pos (by omega) ?_
      refine Ev.pos (by omega) ?_
      refine Ev.neg (by omega) ?_
      refine Ev.pos (by omega) ?_
      exact Ev.nobind rfl hr
    have FULL : l.length = 60 → Ev (fun k => impl_cutter_add.f k l w h T ks) (l, 0, false) := fun h6 => by
      refine Ev.step (fun k => by rw [impl_cutter_add.f]) ?_
      refine Ev.pos (by omega) ?_
      refine Ev.pos (by omega) ?_
      refine Ev.pos (by omega) ?_
      refine Ev.pos (by omega) ?_
      exact Ev.pos (by omega) (Ev.fin rfl)
    have hsrc := hT w h hw hh
    generalize hv : rd T (w * 25 + h) = v at SPEC IMPL hsrc
    generalize hyy : l ++ [(⟨0, 0, 0, 0⟩ : S61)] = y at SPEC IMPL yl
    by_cases v0 : v = 0
    · refine ⟨y, SPEC y (Ev.pos v0 (Ev.fin rfl)), by omega, ?_⟩
      by_cases h6 : l.length = 60
      · exact .inr ⟨by omega, l, 0, Nat.le_refl _, FULL h6⟩
      · exact .inl ⟨by omega, IMPL (by omega) _ (Ev.pos v0 (Ev.fin rfl))⟩
    · rcases choose T ks y l.length w h v (by omega) (by omega) hl v0 hsrc (by omega) with ⟨m, hs, hi⟩ | ⟨how, a, p0, p1, p2, p3, hp, hi, hs, hj⟩
      · refine ⟨y.set l.length ⟨1, 0, IntKind.i8.wrap (m : Int), 0⟩, SPEC _ (Ev.neg v0 (hs _)), by rw [List.length_set]; omega, ?_⟩
        rw [List.length_set]
        by_cases h6 : l.length = 60
        · exact .inr ⟨by omega, l, 0, Nat.le_refl _, FULL h6⟩
        · refine .inl ⟨by omega, IMPL (by omega) _ (Ev.neg v0 ?_)⟩
          refine Ev.nobind (find_is ks v w h) ?_
          rw [hi]
          refine Ev.pos (by omega) ?_
          refine Ev.pos (by omega) ?_
          refine Ev.pos (by omega) ?_
          exact Ev.fin (by rw [Int.toNat_natCast])
      · by_cases h6 : l.length = 60
        · refine ⟨y, SPEC _ (Ev.neg v0 (hs (fun k => spec_l04Cut.q (spec_l04Cut.f k)) y ?_)), by omega, .inr ⟨by omega, l, 0, Nat.le_refl _, FULL h6⟩⟩
          unfold spec_l04Cut.q
          exact Ev.pos (by omega) (Ev.fin rfl)
        · obtain ⟨s, es, gs, c⟩ := parts T ks y (by omega) l.length (by omega) how a p0 p1 p2 p3
            (fun l' hl' => alike T ks hl a0 a1 b0 b1 hT n p0 p1 (by omega) (by omega) (by omega) l' hl')
            (fun l' hl' => alike T ks hl a0 a1 b0 b1 hT n p2 p3 (by omega) (by omega) (by omega) l' hl')
          have TO : ∀ r, Ev (fun k => impl_cutter_add.j3 k y T ks l.length how a p0 p1 p2 p3) r → Ev (fun k => impl_cutter_add.f k l w h T ks) r := fun r hr => by
            refine IMPL (by omega) _ (Ev.neg v0 ?_)
            refine Ev.nobind (find_is ks v w h) ?_
            rw [hi]
            exact Ev.neg (by omega) (hj r hr)
          refine ⟨s, SPEC _ (Ev.neg v0 (hs (fun k => spec_l04Cut.q (spec_l04Cut.f k)) s es)), by omega, ?_⟩
          rcases c with ⟨c1, c2⟩ | ⟨c1, t, b, c2, c3⟩
          · exact .inl ⟨c1, TO _ c2⟩
          · exact .inr ⟨c1, t, b, by omega, TO _ c3⟩
end Go.Proofs.Ytpkbamcfncambaa.AddKit
