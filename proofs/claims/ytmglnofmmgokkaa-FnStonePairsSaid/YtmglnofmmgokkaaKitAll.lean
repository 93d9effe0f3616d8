/- Edges on one line: what they have in common, told in two ways. No Go and no memory in it. · Hulls: an edge that has all corners on its one side; which corner comes next; that such corners make a stone. No Go and no memory in it. · Going round a list of corners, from each to the one that has all others on its one side: it comes back to the first, and what it passes is a stone. No Go and no memory in it. · What the functions on stones come to, the reference's and the program's; the laws' own small functions over lists of corners. · Stones that lie apart, stones that overlap: what the reference's and the program's functions come to. · Seams of stones: what the reference's and the program's functions come to. · Where a point lies to a stone: both sides come to one scan. · The program's code of two answers. · The laws' generator: it draws numbers in their range. · What the reference's HullOf comes to. · Stones that are drawn: valid ones, near to their place. · A stone that is split: its parts are stones. · Stones with a seam touch; a stone overlaps itself; a corner lies on its stone. -/
import Derived.Test.YtmglnofmmgokkaaPAxf58
import Derived.Test.YtmglnofmmgokkaaLoopsAll
import Derived.Test.YtmglnofmmgokkaaPAxgImpl
import Derived.Test.YtmglnofmmgokkaaPAxgSpec
import Derived.Test.YtmglnofmmgokkaaPAxgImplO
import Derived.Test.YtmglnofmmgokkaaPAxgSpecO
import Derived.Test.YtmglnofmmgokkaaPAxf31
import Derived.Test.YtmglnofmmgokkaaPAxm22
import Derived.Test.YtmglnofmmgokkaaPAxf60
import Derived.Test.YtmglnofmmgokkaaPAxf67
import Derived.Test.YtmglnofmmgokkaaPAxm21
import Derived.Test.YtmglnofmmgokkaaPAxf35
import Derived.Test.YtmglnofmmgokkaaPAxm20
import Derived.Test.YtmglnofmmgokkaaPAxf51
import Derived.Test.YtmglnofmmgokkaaPAxf24
import Derived.Test.YtmglnofmmgokkaaPAxf15
namespace Go.Proofs.Ytmglnofmmgokkaa.Geo
set_option linter.unusedSimpArgs false
set_option linter.unusedVariables false
open PA
def Sm (a : S34) : Prop := (-1000 ≤ a.f0 ∧ a.f0 ≤ 1000) ∧ (-1000 ≤ a.f1 ∧ a.f1 ≤ 1000)
/-- The order of corners, as one number. -/
def key (a : S34) : Int := 2001 * a.f0 + a.f1
def cr (p q c : S34) : Int := (q.f0 - p.f0) * (c.f1 - p.f1) - (q.f1 - p.f1) * (c.f0 - p.f0)
def lt (a b : S34) : Bool := decide (a.f0 < b.f0) || (decide (a.f0 = b.f0) && decide (a.f1 < b.f1))
theorem lt_iff {a b : S34} (ha : Sm a) (hb : Sm b) : lt a b = true ↔ key a < key b := by
 unfold lt key
 unfold Sm at ha hb
 simp only [Bool.or_eq_true, Bool.and_eq_true, decide_eq_true_eq]
 omega
theorem key_inj {a b : S34} (ha : Sm a) (hb : Sm b) (h : key a = key b) : a = b := by
 unfold key at h
 unfold Sm at ha hb
 cases a; cases b
 simp only [S34.mk.injEq]
 dsimp only at h ha hb
 omega
def sq (a b : S34) : Int := (a.f0 - b.f0) * (a.f0 - b.f0) + (a.f1 - b.f1) * (a.f1 - b.f1)
theorem self_nonneg (a : Int) : 0 ≤ a * a := by
 by_cases h : 0 ≤ a
 ·
  exact Int.mul_nonneg h h
 ·
  have := Int.mul_nonneg (show 0 ≤ -a by omega) (show 0 ≤ -a by omega)
  rwa [Int.neg_mul_neg] at this
theorem sq_nonneg (a b : S34) : 0 ≤ sq a b := by
 have h1 := self_nonneg (a.f0 - b.f0)
 have h2 := self_nonneg (a.f1 - b.f1)
 unfold sq; omega
theorem sq_self (a : S34) : sq a a = 0 := by unfold sq; simp
theorem sq_symm (a b : S34) : sq a b = sq b a := by unfold sq; grind
/-- Two points, one beside the other in a direction whose key is K. -/
structure Al (dx dy K : Int) (u v : S34) : Prop where
 hx : (u.f0 - v.f0) * K = dx * (key u - key v)
 hy : (u.f1 - v.f1) * K = dy * (key u - key v)
theorem Al.of_cr {p q u : S34} (h : cr p q u = 0) : Al (q.f0 - p.f0) (q.f1 - p.f1) (2001 * (q.f0 - p.f0) + (q.f1 - p.f1)) u p := by
 unfold cr at h
 constructor <;> unfold key <;> grind
theorem Al.of_end (p q : S34) : Al (q.f0 - p.f0) (q.f1 - p.f1) (2001 * (q.f0 - p.f0) + (q.f1 - p.f1)) q p := by
 constructor <;> unfold key <;> grind
theorem Al.self (dx dy K : Int) (p : S34) : Al dx dy K p p := by constructor <;> simp
theorem Al.sub {dx dy K : Int} {u v p : S34} (hu : Al dx dy K u p) (hv : Al dx dy K v p) : Al dx dy K u v := by
 obtain ⟨a, b⟩ := hu
 obtain ⟨c, d⟩ := hv
 constructor
 ·
  have e : (u.f0 - v.f0) * K = (u.f0 - p.f0) * K - (v.f0 - p.f0) * K := by grind
  rw [e, a, c]; grind
 ·
  have e : (u.f1 - v.f1) * K = (u.f1 - p.f1) * K - (v.f1 - p.f1) * K := by grind
  rw [e, b, d]; grind
theorem Al.neg {dx dy K : Int} {u v : S34} (h : Al dx dy K u v) : Al (-dx) (-dy) (-K) u v := by
 obtain ⟨a, b⟩ := h
 constructor <;> grind
theorem Al.swap {dx dy K : Int} {u v : S34} (h : Al dx dy K u v) : Al dx dy K v u := by
 obtain ⟨a, b⟩ := h
 constructor <;> grind
theorem sg1 {a K d t : Int} (hK : 0 < K) (h : a * K = d * t) (hd : 0 ≤ d) (ht : 0 ≤ t) : 0 ≤ a := by
 by_cases c : 0 ≤ a
 ·
  exact c
 ·
  have h1 := Int.mul_nonneg hd ht
  have h2 := Int.mul_neg_of_neg_of_pos (show a < 0 by omega) hK
  omega
theorem sg2 {a K d t : Int} (hK : 0 < K) (h : a * K = d * t) (hd : d ≤ 0) (ht : 0 ≤ t) : a ≤ 0 := by
 have := sg1 (a := -a) (d := -d) hK (by rw [Int.neg_mul, Int.neg_mul, h]) (by omega) ht
 omega
theorem sg3 {a K d t : Int} (hK : 0 < K) (h : a * K = d * t) (hd : 0 < d) (ht : 0 < t) : 0 < a := by
 by_cases c : 0 < a
 ·
  exact c
 ·
  have h1 := Int.mul_pos hd ht
  have h2 := Int.mul_nonneg (show 0 ≤ -a by omega) (show 0 ≤ K by omega)
  rw [Int.neg_mul] at h2
  omega
theorem sg4 {a K d t : Int} (hK : 0 < K) (h : a * K = d * t) (hd : d < 0) (ht : 0 < t) : a < 0 := by
 have := sg3 (a := -a) (d := -d) hK (by rw [Int.neg_mul, Int.neg_mul, h]) (by omega) ht
 omega
def Box (c u v : S34) : Prop := (min u.f0 v.f0 ≤ c.f0 ∧ c.f0 ≤ max u.f0 v.f0) ∧ (min u.f1 v.f1 ≤ c.f1 ∧ c.f1 ≤ max u.f1 v.f1)
instance (c u v : S34) : Decidable (Box c u v) := by unfold Box; infer_instance
theorem box_swap {c u v : S34} : Box c u v ↔ Box c v u := by unfold Box; omega
theorem box_in {dx dy K : Int} {c u v : S34} (hK : 0 < K) (hcu : Al dx dy K c u) (hvc : Al dx dy K v c) (h1 : key u ≤ key c) (h2 : key c ≤ key v) : Box c u v := by
 have x1 : 0 ≤ key c - key u := by omega
 have x2 : 0 ≤ key v - key c := by omega
 unfold Box
 by_cases dxs : 0 ≤ dx <;> by_cases dys : 0 ≤ dy
 ·
  have := sg1 hK hcu.hx dxs x1; have := sg1 hK hvc.hx dxs x2; have := sg1 hK hcu.hy dys x1; have := sg1 hK hvc.hy dys x2; omega
 ·
  have := sg1 hK hcu.hx dxs x1; have := sg1 hK hvc.hx dxs x2; have := sg2 hK hcu.hy (by omega) x1; have := sg2 hK hvc.hy (by omega) x2; omega
 ·
  have := sg2 hK hcu.hx (by omega) x1; have := sg2 hK hvc.hx (by omega) x2; have := sg1 hK hcu.hy dys x1; have := sg1 hK hvc.hy dys x2; omega
 ·
  have := sg2 hK hcu.hx (by omega) x1; have := sg2 hK hvc.hx (by omega) x2; have := sg2 hK hcu.hy (by omega) x1; have := sg2 hK hvc.hy (by omega) x2; omega
theorem box_out {dx dy K : Int} {c u v : S34} (hK : 0 < K) (hd : K = 2001 * dx + dy) (huc : Al dx dy K u c) (hvc : Al dx dy K v c) (h1 : key c < key u) (h2 : key c < key v) : ¬ Box c u v := by
 have x1 : 0 < key u - key c := by omega
 have x2 : 0 < key v - key c := by omega
 unfold Box
 rcases Int.lt_trichotomy dx 0 with h | h | h
 ·
  have := sg4 hK huc.hx h x1; have := sg4 hK hvc.hx h x2; omega
 ·
  have hy : 0 < dy := by omega
  have := sg3 hK huc.hy hy x1; have := sg3 hK hvc.hy hy x2; omega
 ·
  have := sg3 hK huc.hx h x1; have := sg3 hK hvc.hx h x2; omega
theorem box_out2 {dx dy K : Int} {c u v : S34} (hK : 0 < K) (hd : K = 2001 * dx + dy) (hcu : Al dx dy K c u) (hcv : Al dx dy K c v) (h1 : key u < key c) (h2 : key v < key c) : ¬ Box c u v := by
 have x1 : 0 < key c - key u := by omega
 have x2 : 0 < key c - key v := by omega
 unfold Box
 rcases Int.lt_trichotomy dx 0 with h | h | h
 ·
  have := sg4 hK hcu.hx h x1; have := sg4 hK hcv.hx h x2; omega
 ·
  have hy : 0 < dy := by omega
  have := sg3 hK hcu.hy hy x1; have := sg3 hK hcv.hy hy x2; omega
 ·
  have := sg3 hK hcu.hx h x1; have := sg3 hK hcv.hx h x2; omega
theorem box_iff {dx dy K : Int} {c u v : S34} (hK : 0 < K) (hd : K = 2001 * dx + dy) (hcu : Al dx dy K c u) (hcv : Al dx dy K c v) : Box c u v ↔ min (key u) (key v) ≤ key c ∧ key c ≤ max (key u) (key v) := by
 constructor
 ·
  intro hb
  by_cases a : key c < key u ∧ key c < key v
  ·
   exact absurd hb (box_out hK hd hcu.swap hcv.swap a.1 a.2)
  ·
   by_cases b : key u < key c ∧ key v < key c
   ·
    exact absurd hb (box_out2 hK hd hcu hcv b.1 b.2)
   ·
    omega
 ·
  intro h
  by_cases a : key u ≤ key c ∧ key c ≤ key v
  ·
   exact box_in hK hcu hcv.swap a.1 a.2
  ·
   exact box_swap.2 (box_in hK hcv hcu.swap (by omega) (by omega))
theorem sq_key {dx dy K : Int} {u v : S34} (h : Al dx dy K u v) : sq u v * (K * K) = (dx * dx + dy * dy) * ((key u - key v) * (key u - key v)) := by
 obtain ⟨a, b⟩ := h
 have e : sq u v * (K * K) = ((u.f0 - v.f0) * K) * ((u.f0 - v.f0) * K) + ((u.f1 - v.f1) * K) * ((u.f1 - v.f1) * K) := by unfold sq; grind
 rw [e, a, b]; grind
theorem mul_self_le {t s : Int} (h1 : -s ≤ t) (h2 : t ≤ s) : t * t ≤ s * s := by
 have := Int.mul_nonneg (show 0 ≤ s - t by omega) (show 0 ≤ s + t by omega)
 grind
theorem sq_mono {dx dy K : Int} {e f p q : S34} (hK : 0 < K) (h : Al dx dy K e f) (h' : Al dx dy K q p) (h1 : -(key q - key p) ≤ key e - key f) (h2 : key e - key f ≤ key q - key p) : sq e f ≤ sq q p := by
 have a := sq_key h
 have b := sq_key h'
 have c := mul_self_le h1 h2
 have n : 0 ≤ dx * dx + dy * dy := by have := self_nonneg dx; have := self_nonneg dy; omega
 have d := Int.mul_le_mul_of_nonneg_left c n
 rw [← a, ← b] at d
 exact Int.le_of_mul_le_mul_right d (Int.mul_pos hK hK)
def pick (b : Bool) (u v : S34) : S34 := if b = true then u else v
def com2 (p1 q1 : S34) : Int := if lt p1 q1 = true then sq q1 p1 else 0
def com1 (p0 q0 r0 s0 : S34) : Int := com2 (pick (lt p0 r0) r0 p0) (pick (lt s0 q0) s0 q0)
def com (p q u v : S34) : Int := com1 (pick (lt q p) q p) (pick (lt q p) p q) (pick (lt v u) v u) (pick (lt v u) u v)
def endAt (l : List S34) (c u v : S34) : List S34 := if Box c u v then l ++ [c] else l
def ends (p q u v : S34) : List S34 := endAt (endAt (endAt (endAt [] p u v) q u v) u p q) v p q
theorem mem_endAt {l : List S34} {c u v x : S34} : x ∈ endAt l c u v ↔ x ∈ l ∨ (x = c ∧ Box c u v) := by
 unfold endAt
 split
 ·
  rename_i h; simp [h]
 ·
  rename_i h; simp [h]
theorem mem_ends {p q u v x : S34} : x ∈ ends p q u v ↔ (x = p ∧ Box p u v) ∨ (x = q ∧ Box q u v) ∨ (x = u ∧ Box u p q) ∨ (x = v ∧ Box v p q) := by
 unfold ends
 rw [mem_endAt, mem_endAt, mem_endAt, mem_endAt]
 simp only [List.not_mem_nil, false_or, or_assoc]
theorem pick_key (b : Bool) (u v : S34) : key (pick b u v) = if b = true then key u else key v := by unfold pick; split <;> rfl
theorem pick_cases (b : Bool) (u v : S34) : pick b u v = u ∨ pick b u v = v := by unfold pick; split <;> simp
theorem pick_sm {b : Bool} {u v : S34} (hu : Sm u) (hv : Sm v) : Sm (pick b u v) := by unfold pick; split <;> assumption
theorem pick_lo {u v : S34} (hu : Sm u) (hv : Sm v) : key (pick (lt v u) v u) = min (key u) (key v) := by
 rw [pick_key]
 by_cases c : lt v u = true
 ·
  rw [if_pos c]; have := (lt_iff hv hu).1 c; omega
 ·
  rw [if_neg c]; have : ¬ key v < key u := fun h => c ((lt_iff hv hu).2 h); omega
theorem pick_hi {u v : S34} (hu : Sm u) (hv : Sm v) : key (pick (lt v u) u v) = max (key u) (key v) := by
 rw [pick_key]
 by_cases c : lt v u = true
 ·
  rw [if_pos c]; have := (lt_iff hv hu).1 c; omega
 ·
  rw [if_neg c]; have : ¬ key v < key u := fun h => c ((lt_iff hv hu).2 h); omega
theorem com_is {p q u v : S34} (sp : Sm p) (sq_ : Sm q) (su : Sm u) (sv : Sm v) (hpq : key p ≠ key q) (hu : cr p q u = 0) (hv : cr p q v = 0) :
  0 ≤ com p q u v ∧ (∀ e ∈ ends p q u v, ∀ f ∈ ends p q u v, sq e f ≤ com p q u v) ∧ (com p q u v = 0 ∨ ∃ e ∈ ends p q u v, ∃ f ∈ ends p q u v, e ≠ f ∧ com p q u v = sq e f) := by
 obtain ⟨dx, dy, K, hK, hd, hqp, hup, hvp⟩ : ∃ dx dy K : Int, 0 < K ∧ K = 2001 * dx + dy ∧ Al dx dy K q p ∧ Al dx dy K u p ∧ Al dx dy K v p := by
  have a := Al.of_end p q
  have b := Al.of_cr hu
  have c := Al.of_cr hv
  have e : 2001 * (q.f0 - p.f0) + (q.f1 - p.f1) = key q - key p := by unfold key; omega
  by_cases h : 0 < key q - key p
  ·
   exact ⟨_, _, _, by rw [e]; exact h, rfl, a, b, c⟩
  ·
   exact ⟨_, _, _, by rw [e]; omega, by omega, a.neg, b.neg, c.neg⟩
 have hpp := Al.self dx dy K p
 have four : ∀ x, (x = p ∨ x = q ∨ x = u ∨ x = v) → Al dx dy K x p ∧ Sm x := by
  intro x hx
  rcases hx with rfl | rfl | rfl | rfl
  ·
   exact ⟨hpp, sp⟩
  ·
   exact ⟨hqp, sq_⟩
  ·
   exact ⟨hup, su⟩
  ·
   exact ⟨hvp, sv⟩
 have b1 := box_iff hK hd (hpp.sub hup) (hpp.sub hvp)
 have b2 := box_iff hK hd (hqp.sub hup) (hqp.sub hvp)
 have b3 := box_iff hK hd (hup.sub hpp) (hup.sub hqp)
 have b4 := box_iff hK hd (hvp.sub hpp) (hvp.sub hqp)
 have inE : ∀ x ∈ ends p q u v, (x = p ∨ x = q ∨ x = u ∨ x = v) ∧ max (min (key p) (key q)) (min (key u) (key v)) ≤ key x ∧ key x ≤ min (max (key p) (key q)) (max (key u) (key v)) := by
  intro x hx
  rw [mem_ends, b1, b2, b3, b4] at hx
  rcases hx with ⟨rfl, h⟩ | ⟨rfl, h⟩ | ⟨rfl, h⟩ | ⟨rfl, h⟩
  ·
   exact ⟨Or.inl rfl, by omega⟩
  ·
   exact ⟨Or.inr (Or.inl rfl), by omega⟩
  ·
   exact ⟨Or.inr (Or.inr (Or.inl rfl)), by omega⟩
  ·
   exact ⟨Or.inr (Or.inr (Or.inr rfl)), by omega⟩
 have ofE : ∀ x, (x = p ∨ x = q ∨ x = u ∨ x = v) → max (min (key p) (key q)) (min (key u) (key v)) ≤ key x → key x ≤ min (max (key p) (key q)) (max (key u) (key v)) → x ∈ ends p q u v := by
  intro x hx h1 h2
  rw [mem_ends, b1, b2, b3, b4]
  rcases hx with rfl | rfl | rfl | rfl
  ·
   exact Or.inl ⟨rfl, by omega⟩
  ·
   exact Or.inr (Or.inl ⟨rfl, by omega⟩)
  ·
   exact Or.inr (Or.inr (Or.inl ⟨rfl, by omega⟩))
  ·
   exact Or.inr (Or.inr (Or.inr ⟨rfl, by omega⟩))
 unfold com com1
 have kp0 := pick_lo sp sq_
 have kq0 := pick_hi sp sq_
 have kr0 := pick_lo su sv
 have ks0 := pick_hi su sv
 have cp0 := pick_cases (lt q p) q p
 have cq0 := pick_cases (lt q p) p q
 have cr0 := pick_cases (lt v u) v u
 have cs0 := pick_cases (lt v u) u v
 have mp0 : Sm (pick (lt q p) q p) := pick_sm sq_ sp
 have mq0 : Sm (pick (lt q p) p q) := pick_sm sp sq_
 have mr0 : Sm (pick (lt v u) v u) := pick_sm sv su
 have ms0 : Sm (pick (lt v u) u v) := pick_sm su sv
 generalize pick (lt q p) q p = p0 at *
 generalize pick (lt q p) p q = q0 at *
 generalize pick (lt v u) v u = r0 at *
 generalize pick (lt v u) u v = s0 at *
 have kp1 : key (pick (lt p0 r0) r0 p0) = max (key p0) (key r0) := by
  rw [pick_key]
  by_cases c : lt p0 r0 = true
  ·
   rw [if_pos c]; have := (lt_iff mp0 mr0).1 c; omega
  ·
   rw [if_neg c]; have : ¬ key p0 < key r0 := fun h => c ((lt_iff mp0 mr0).2 h); omega
 have kq1 : key (pick (lt s0 q0) s0 q0) = min (key q0) (key s0) := by
  rw [pick_key]
  by_cases c : lt s0 q0 = true
  ·
   rw [if_pos c]; have := (lt_iff ms0 mq0).1 c; omega
  ·
   rw [if_neg c]; have : ¬ key s0 < key q0 := fun h => c ((lt_iff ms0 mq0).2 h); omega
 have cp1 : pick (lt p0 r0) r0 p0 = p ∨ pick (lt p0 r0) r0 p0 = q ∨ pick (lt p0 r0) r0 p0 = u ∨ pick (lt p0 r0) r0 p0 = v := by
  rcases pick_cases (lt p0 r0) r0 p0 with h | h <;> rw [h]
  ·
   rcases cr0 with h | h <;> rw [h] <;> simp
  ·
   rcases cp0 with h | h <;> rw [h] <;> simp
 have cq1 : pick (lt s0 q0) s0 q0 = p ∨ pick (lt s0 q0) s0 q0 = q ∨ pick (lt s0 q0) s0 q0 = u ∨ pick (lt s0 q0) s0 q0 = v := by
  rcases pick_cases (lt s0 q0) s0 q0 with h | h <;> rw [h]
  ·
   rcases cs0 with h | h <;> rw [h] <;> simp
  ·
   rcases cq0 with h | h <;> rw [h] <;> simp
 have mp1 : Sm (pick (lt p0 r0) r0 p0) := pick_sm mr0 mp0
 have mq1 : Sm (pick (lt s0 q0) s0 q0) := pick_sm ms0 mq0
 generalize pick (lt p0 r0) r0 p0 = p1 at *
 generalize pick (lt s0 q0) s0 q0 = q1 at *
 rw [kp0, kr0] at kp1
 rw [kq0, ks0] at kq1
 unfold com2
 by_cases c : lt p1 q1 = true
 ·
  have hlt := (lt_iff mp1 mq1).1 c
  simp only [if_pos c]
  refine ⟨sq_nonneg _ _, fun e he f hf => ?_, Or.inr ⟨q1, ofE q1 cq1 (by omega) (by omega), p1, ofE p1 cp1 (by omega) (by omega), fun h => by rw [h] at hlt; omega, rfl⟩⟩
  obtain ⟨e1, e2, e3⟩ := inE e he
  obtain ⟨f1, f2, f3⟩ := inE f hf
  exact sq_mono hK ((four e e1).1.sub (four f f1).1) ((four q1 cq1).1.sub (four p1 cp1).1) (by omega) (by omega)
 ·
  have hge : ¬ key p1 < key q1 := fun h => c ((lt_iff mp1 mq1).2 h)
  simp only [if_neg c]
  refine ⟨Int.le_refl _, fun e he f hf => ?_, Or.inl trivial⟩
  obtain ⟨e1, e2, e3⟩ := inE e he
  obtain ⟨f1, f2, f3⟩ := inE f hf
  have : e = f := key_inj (four e e1).2 (four f f1).2 (by omega)
  rw [this, sq_self]; exact Int.le_refl _
theorem prod_small {a b : Int} (ha : -2000 ≤ a ∧ a ≤ 2000) (hb : -2000 ≤ b ∧ b ≤ 2000) : -4000000 ≤ a * b ∧ a * b ≤ 4000000 := by
 have h1 := Int.mul_nonneg (show 0 ≤ 2000 - a by omega) (show 0 ≤ 2000 + b by omega)
 have h2 := Int.mul_nonneg (show 0 ≤ 2000 + a by omega) (show 0 ≤ 2000 - b by omega)
 have h3 := Int.mul_nonneg (show 0 ≤ 2000 - a by omega) (show 0 ≤ 2000 - b by omega)
 have h4 := Int.mul_nonneg (show 0 ≤ 2000 + a by omega) (show 0 ≤ 2000 + b by omega)
 constructor <;> grind
end Go.Proofs.Ytmglnofmmgokkaa.Geo
namespace Go.Proofs.Ytmglnofmmgokkaa.HullGeo
set_option linter.unusedSimpArgs false
set_option linter.unusedVariables false
open PA Geo
theorem neg_of_mul_neg {A x B y : Int} (hA : 0 < A) (hB : 0 < B) (h : A * x = B * y) : (0 < y → 0 < x) ∧ (y < 0 → x < 0) ∧ (y = 0 → x = 0) := by
 refine ⟨fun hy => ?_, fun hy => ?_, fun hy => ?_⟩
 ·
  have := Int.mul_pos hB hy
  by_cases c : 0 < x
  ·
   exact c
  ·
   have := Int.mul_nonpos_of_nonneg_of_nonpos (Int.le_of_lt hA) (show x ≤ 0 by omega)
   omega
 ·
  have := Int.mul_neg_of_pos_of_neg hB hy
  rw [← h] at this
  by_cases c : x < 0
  ·
   exact c
  ·
   have := Int.mul_nonneg (Int.le_of_lt hA) (show 0 ≤ x by omega)
   omega
 ·
  rw [hy, Int.mul_zero] at h
  rcases Int.mul_eq_zero.1 h with h | h
  ·
   omega
  ·
   exact h
/-- A multiple by no more than one. -/
theorem scal {A B u v : Int} (hB : 0 < B) (hAB : B ≤ A) (h : A * v = B * u) : (0 ≤ u → 0 ≤ v ∧ v ≤ u) ∧ (u ≤ 0 → u ≤ v ∧ v ≤ 0) := by
 have hA : 0 < A := by omega
 obtain ⟨h1, h2, h3⟩ := neg_of_mul_neg hA hB h
 refine ⟨fun hu => ?_, fun hu => ?_⟩
 ·
  have h0 : 0 ≤ v := by
   rcases Int.lt_or_eq_of_le hu with hu | hu
   ·
    have := h1 hu; omega
   ·
    have := h3 hu.symm; omega
  refine ⟨h0, ?_⟩
  by_cases c : v ≤ u
  ·
   exact c
  ·
   have e1 : B * v ≤ A * v := Int.mul_le_mul_of_nonneg_right hAB h0
   have e2 : B * u < B * v := Int.mul_lt_mul_of_pos_left (by omega) hB
   omega
 ·
  have h0 : v ≤ 0 := by
   rcases Int.lt_or_eq_of_le hu with hu | hu
   ·
    have := h2 hu; omega
   ·
    have := h3 hu; omega
  refine ⟨?_, h0⟩
  by_cases c : u ≤ v
  ·
   exact c
  ·
   have e1 : A * v ≤ B * v := Int.mul_le_mul_of_nonpos_right hAB h0
   have e2 : B * v < B * u := Int.mul_lt_mul_of_pos_left (by omega) hB
   omega
/-- How far a corner lies beyond the line through o in the direction (a, b). -/
def off (a b : Int) (o c : S34) : Int := a * (c.f1 - o.f1) - b * (c.f0 - o.f0)
theorem off_plk (a b : Int) (o u v w : S34) : off a b o u * cr o v w = off a b o v * cr o u w - off a b o w * cr o u v := by
 unfold off cr; grind
theorem off_x (a b : Int) (o u v : S34) : off a b o u * (v.f0 - o.f0) = off a b o v * (u.f0 - o.f0) - cr o u v * a := by
 unfold off cr; grind
theorem off_y (a b : Int) (o u v : S34) : off a b o u * (v.f1 - o.f1) = off a b o v * (u.f1 - o.f1) - cr o u v * b := by
 unfold off cr; grind
theorem cr_swap (o u v : S34) : cr o u v = - cr o v u := by unfold cr; grind
theorem cr_self2 (o v : S34) : cr o v v = 0 := by unfold cr; grind
theorem cr_self3 (o v : S34) : cr o v o = 0 := by unfold cr; grind
theorem cr_cyc (o u v : S34) : cr o u v = cr u v o := by unfold cr; grind
/-- Seen from o, with all on the one side of a line, u comes first and lies behind v or beside it. -/
theorem turn {a b : Int} {o u v w : S34} (hu : 0 < off a b o u) (hv : 0 < off a b o v) (hw : 0 < off a b o w) (h1 : cr o u v ≤ 0) (h2 : 0 ≤ cr o u w) : 0 ≤ cr o v w := by
 have e := off_plk a b o u v w
 have e1 := Int.mul_nonneg (Int.le_of_lt hv) h2
 have e2 := Int.mul_nonneg (Int.le_of_lt hw) (show 0 ≤ - cr o u v by omega)
 rw [Int.mul_neg] at e2
 by_cases c : 0 ≤ cr o v w
 ·
  exact c
 ·
  have := Int.mul_neg_of_pos_of_neg hu (show cr o v w < 0 by omega)
  omega
theorem turn0 {a b : Int} {o u v w : S34} (hu : 0 < off a b o u) (hv : 0 < off a b o v) (hw : 0 < off a b o w) (h1 : cr o u v ≤ 0) (h2 : 0 ≤ cr o u w) (h : cr o v w = 0) : cr o u v = 0 ∧ cr o u w = 0 := by
 have e := off_plk a b o u v w
 have e1 := Int.mul_nonneg (Int.le_of_lt hv) h2
 have e2 := Int.mul_nonneg (Int.le_of_lt hw) (show 0 ≤ - cr o u v by omega)
 rw [Int.mul_neg] at e2
 rw [h, Int.mul_zero] at e
 have f1 : off a b o v * cr o u w = 0 := by omega
 have f2 : off a b o w * cr o u v = 0 := by omega
 rcases Int.mul_eq_zero.1 f1 with g | g
 ·
  omega
 ·
  rcases Int.mul_eq_zero.1 f2 with g' | g'
  ·
   omega
  ·
   exact ⟨g', g⟩
/-- Two in one direction: one of them lies before the other. -/
theorem near {a b : Int} {o u v : S34} (hu : 0 < off a b o u) (hv : 0 < off a b o v) (h : cr o u v = 0) : Box u o v ∨ Box v o u := by
 have ex := off_x a b o u v
 have ey := off_y a b o u v
 rw [h, Int.zero_mul, Int.sub_zero] at ex ey
 by_cases c : off a b o v ≤ off a b o u
 ·
  right
  have sx := scal hv c ex
  have sy := scal hv c ey
  unfold Box
  by_cases x : 0 ≤ u.f0 - o.f0 <;> by_cases y : 0 ≤ u.f1 - o.f1
  ·
   have := sx.1 x; have := sy.1 y; omega
  ·
   have := sx.1 x; have := sy.2 (by omega); omega
  ·
   have := sx.2 (by omega); have := sy.1 y; omega
  ·
   have := sx.2 (by omega); have := sy.2 (by omega); omega
 ·
  left
  have sx := scal hu (by omega) ex.symm
  have sy := scal hu (by omega) ey.symm
  unfold Box
  by_cases x : 0 ≤ v.f0 - o.f0 <;> by_cases y : 0 ≤ v.f1 - o.f1
  ·
   have := sx.1 x; have := sy.1 y; omega
  ·
   have := sx.1 x; have := sy.2 (by omega); omega
  ·
   have := sx.2 (by omega); have := sy.1 y; omega
  ·
   have := sx.2 (by omega); have := sy.2 (by omega); omega
theorem ext {u v : S34} (h : u.f0 = v.f0) (h2 : u.f1 = v.f1) : u = v := by cases u; cases v; simp_all
/-- From o, n has the corners of S to its one side; those in one line lie between. -/
def Sup (o n : S34) (S : List S34) : Prop := ∀ c ∈ S, 0 ≤ cr o n c ∧ (cr o n c = 0 → Box c o n)
def Side (a b : Int) (o : S34) (S : List S34) : Prop := ∀ c ∈ S, c = o ∨ 0 < off a b o c
theorem box_self (o n : S34) : Box o o n := by unfold Box; omega
theorem box_self2 (o n : S34) : Box n o n := by unfold Box; omega
theorem box_trans {c o n m : S34} (h : Box c o n) (h2 : Box n o m) : Box c o m := by
 unfold Box at *; omega
/-- The next corner is another one. -/
theorem sup_new {a b : Int} {o n c : S34} {S : List S34} (hn : 0 < off a b o n) (hc : 0 < off a b o c) (hS : Side a b o S) (h : Sup o n S) (hu : cr o n c < 0 ∨ (cr o n c = 0 ∧ Box n o c)) : Sup o c (S ++ [c]) := by
 intro x hx
 rcases List.mem_append.1 hx with hx | hx
 ·
  obtain ⟨h1, h2⟩ := h x hx
  rcases hS x hx with rfl | hox
  ·
   rw [cr_self3]; exact ⟨Int.le_refl _, fun _ => box_self _ _⟩
  ·
   refine ⟨turn hn hc hox (by omega) h1, fun e => ?_⟩
   obtain ⟨g1, g2⟩ := turn0 hn hc hox (by omega) h1 e
   rcases hu with hu | hu
   ·
    omega
   ·
    exact box_trans (h2 g2) hu.2
 ·
  rw [List.mem_singleton] at hx
  subst hx
  rw [cr_self2]; exact ⟨Int.le_refl _, fun _ => box_self2 _ _⟩
/-- The next corner stays. -/
theorem sup_old {a b : Int} {o n c : S34} {S : List S34} (hn : 0 < off a b o n) (hc : c = o ∨ 0 < off a b o c) (h : Sup o n S) (hu : c = o ∨ ¬ (cr o n c < 0 ∨ (cr o n c = 0 ∧ Box n o c))) : Sup o n (S ++ [c]) := by
 intro x hx
 rcases List.mem_append.1 hx with hx | hx
 ·
  exact h x hx
 ·
  rw [List.mem_singleton] at hx
  subst hx
  rcases hc with rfl | hc
  ·
   rw [cr_self3]; exact ⟨Int.le_refl _, fun _ => box_self _ _⟩
  ·
   have hu : ¬ (cr o n x < 0 ∨ (cr o n x = 0 ∧ Box n o x)) := by
    rcases hu with rfl | hu
    ·
     exfalso; unfold off at hc; rw [Int.sub_self, Int.sub_self, Int.mul_zero, Int.mul_zero] at hc; omega
    ·
     exact hu
   refine ⟨by omega, fun e => ?_⟩
   rcases near hn hc e with g | g
   ·
    exact absurd (Or.inr ⟨e, g⟩) hu
   ·
    exact g
/-- What is told of an edge. -/
structure Edg (o n : S34) (S : List S34) : Prop where
 ne : n ≠ o
 mem : n ∈ S
 sup : Sup o n S
theorem prod_le {a b A B : Int} (h1 : -A ≤ a) (h2 : a ≤ A) (h3 : -B ≤ b) (h4 : b ≤ B) (hA : 0 ≤ A) (hB : 0 ≤ B) : -(A * B) ≤ a * b ∧ a * b ≤ A * B := by
 have k1 := Int.mul_nonneg (show 0 ≤ A - a by omega) (show 0 ≤ B - b by omega)
 have k2 := Int.mul_nonneg (show 0 ≤ A + a by omega) (show 0 ≤ B + b by omega)
 have k3 := Int.mul_nonneg (show 0 ≤ A - a by omega) (show 0 ≤ B + b by omega)
 have k4 := Int.mul_nonneg (show 0 ≤ A + a by omega) (show 0 ≤ B - b by omega)
 have e1 : (A - a) * (B - b) = A * B - A * b - a * B + a * b := by grind
 have e2 : (A + a) * (B + b) = A * B + A * b + a * B + a * b := by grind
 have e3 : (A - a) * (B + b) = A * B + A * b - a * B - a * b := by grind
 have e4 : (A + a) * (B - b) = A * B - A * b + a * B - a * b := by grind
 rw [e1] at k1; rw [e2] at k2; rw [e3] at k3; rw [e4] at k4
 omega
/-- Behind an edge all corners lie on the one side of a line through its end. -/
theorem side_next {o n : S34} {S : List S34} (ho : Sm o) (hS : ∀ c ∈ S, Sm c) (h : Edg o n S) : ∃ a b, Side a b n S := by
 have hn := hS n h.mem
 refine ⟨10000000 * (n.f0 - o.f0) - (n.f1 - o.f1), 10000000 * (n.f1 - o.f1) + (n.f0 - o.f0), fun c hc => ?_⟩
 by_cases e : c = n
 ·
  exact Or.inl e
 ·
  right
  have hsc := hS c hc
  obtain ⟨h1, h2⟩ := h.sup c hc
  have id : off (10000000 * (n.f0 - o.f0) - (n.f1 - o.f1)) (10000000 * (n.f1 - o.f1) + (n.f0 - o.f0)) n c = 10000000 * cr o n c - ((n.f0 - o.f0) * (c.f0 - n.f0) + (n.f1 - o.f1) * (c.f1 - n.f1)) := by unfold off cr; grind
  rw [id]
  unfold Sm at ho hn hsc
  have p1 := prod_le (a := n.f0 - o.f0) (b := c.f0 - n.f0) (A := 2000) (B := 2000) (by omega) (by omega) (by omega) (by omega) (by omega) (by omega)
  have p2 := prod_le (a := n.f1 - o.f1) (b := c.f1 - n.f1) (A := 2000) (B := 2000) (by omega) (by omega) (by omega) (by omega) (by omega) (by omega)
  by_cases z : cr o n c = 0
  ·
   have hb := h2 z
   rw [z, Int.mul_zero, Int.zero_sub]
   unfold Box at hb
   have q : ∀ a b : Int, (0 < a → b ≤ 0) → (a < 0 → 0 ≤ b) → a * b ≤ 0 := by
    intro a b g1 g2
    rcases Int.lt_trichotomy a 0 with g | g | g
    ·
     exact Int.mul_nonpos_of_nonpos_of_nonneg (by omega) (g2 g)
    ·
     rw [g, Int.zero_mul]; exact Int.le_refl _
    ·
     exact Int.mul_nonpos_of_nonneg_of_nonpos (by omega) (g1 g)
   have q2 : ∀ a b : Int, b ≠ 0 → (0 < a → b ≤ 0) → (a < 0 → 0 ≤ b) → (a = 0 → b = 0) → a * b < 0 := by
    intro a b g0 g1 g2 g3
    rcases Int.lt_trichotomy a 0 with g | g | g
    ·
     exact Int.mul_neg_of_neg_of_pos g (by have := g2 g; omega)
    ·
     exact absurd (g3 g) g0
    ·
     exact Int.mul_neg_of_pos_of_neg g (by have := g1 g; omega)
   by_cases ex : c.f0 = n.f0
   ·
    have ey : c.f1 ≠ n.f1 := fun ey => e (ext ex ey)
    have := q (n.f0 - o.f0) (c.f0 - n.f0) (by omega) (by omega)
    have := q2 (n.f1 - o.f1) (c.f1 - n.f1) (by omega) (by omega) (by omega) (by omega)
    omega
   ·
    have := q2 (n.f0 - o.f0) (c.f0 - n.f0) (by omega) (by omega) (by omega) (by omega)
    have := q (n.f1 - o.f1) (c.f1 - n.f1) (by omega) (by omega)
    omega
  ·
   have : 1 ≤ cr o n c := by omega
   omega
/-- At the least corner, too. -/
theorem side_first {o : S34} {S : List S34} (hk : ∀ c ∈ S, c = o ∨ key o < key c) : Side 1 (-2001) o S := by
 intro c hc
 rcases hk c hc with h | h
 ·
  exact Or.inl h
 ·
  right
  unfold off; unfold key at h; omega
/-- No two edges end in one corner. -/
theorem edge_inj {u v w : S34} {S : List S34} (hu : u ∈ S) (hv : v ∈ S) (h1 : Edg u w S) (h2 : Edg v w S) : u = v := by
 obtain ⟨a1, a2⟩ := h1.sup v hv
 obtain ⟨b1, b2⟩ := h2.sup u hu
 have e : cr u w v = - cr v w u := by unfold cr; grind
 have z1 : cr u w v = 0 := by omega
 have z2 : cr v w u = 0 := by omega
 have c1 := a2 z1
 have c2 := b2 z2
 unfold Box at c1 c2
 exact ext (by omega) (by omega)
/-- No corner at which an edge begins lies within another edge. -/
theorem edge_corner {o n v b : S34} {S : List S34} (ho : o ∈ S) (hn : n ∈ S) (h : Edg o n S) (hv : v ∈ S) (h2 : Edg v b S) (e1 : v ≠ o) (e2 : v ≠ n) : 0 < cr o n v := by
 obtain ⟨a1, a2⟩ := h.sup v hv
 by_cases z : cr o n v = 0
 ·
  exfalso
  have hb := a2 z
  obtain ⟨p1, p2⟩ := h2.sup o ho
  obtain ⟨q1, q2⟩ := h2.sup n hn
  have idx : cr v b o * (n.f0 - v.f0) = cr v b n * (o.f0 - v.f0) - cr o n v * (b.f0 - v.f0) := by unfold cr; grind
  have idy : cr v b o * (n.f1 - v.f1) = cr v b n * (o.f1 - v.f1) - cr o n v * (b.f1 - v.f1) := by unfold cr; grind
  rw [z, Int.zero_mul, Int.sub_zero] at idx idy
  unfold Box at hb
  -- both lie on the line of the second edge
  have opp : ∀ G1 G2 x y : Int, 0 < G1 → 0 ≤ G2 → G1 * x = G2 * y → (0 < x → y ≤ 0) → (x < 0 → 0 ≤ y) → x = 0 := by
   intro G1 G2 x y g1 g2 g g3 g4
   rcases Int.lt_trichotomy x 0 with c | c | c
   ·
    have := Int.mul_neg_of_pos_of_neg g1 c
    have := Int.mul_nonneg g2 (g4 c)
    omega
   ·
    exact c
   ·
    have := Int.mul_pos g1 c
    have := Int.mul_nonpos_of_nonneg_of_nonpos g2 (g3 c)
    omega
  have z1 : cr v b o = 0 := by
   by_cases c : cr v b o = 0
   ·
    exact c
   ·
    have x := opp _ _ _ _ (by omega) q1 idx (by omega) (by omega)
    have y := opp _ _ _ _ (by omega) q1 idy (by omega) (by omega)
    exact absurd (ext (by omega) (by omega)) e2
  have z2 : cr v b n = 0 := by
   by_cases c : cr v b n = 0
   ·
    exact c
   ·
    have x := opp _ _ _ _ (by omega) p1 idx.symm (by omega) (by omega)
    have y := opp _ _ _ _ (by omega) p1 idy.symm (by omega) (by omega)
    exact absurd (ext (by omega) (by omega)) e1
  have c1 := p2 z1
  have c2 := q2 z2
  unfold Box at c1 c2
  have ne1 : ¬ (v.f0 = o.f0 ∧ v.f1 = o.f1) := fun g => e1 (ext g.1 g.2)
  have ne2 : ¬ (v.f0 = n.f0 ∧ v.f1 = n.f1) := fun g => e2 (ext g.1 g.2)
  have nb : ¬ (b.f0 = v.f0 ∧ b.f1 = v.f1) := fun g => h2.ne (ext g.1 g.2)
  rw [z] at a1
  -- a coordinate that differs
  have X : o.f0 = v.f0 ∧ n.f0 = v.f0 ∨ (o.f0 = v.f0 ∧ n.f0 ≠ v.f0) ∨ (o.f0 ≠ v.f0 ∧ n.f0 = v.f0) := by omega
  have Y : o.f1 = v.f1 ∧ n.f1 = v.f1 ∨ (o.f1 = v.f1 ∧ n.f1 ≠ v.f1) ∨ (o.f1 ≠ v.f1 ∧ n.f1 = v.f1) := by omega
  unfold cr at z
  rcases X with X | X | X <;> rcases Y with Y | Y | Y <;> first
   | omega
   | (simp only [X.1, X.2, Y.1, Y.2] at *; omega)
   | skip
  all_goals
   exfalso
   have zz : (n.f0 - o.f0) * (v.f1 - o.f1) = (n.f1 - o.f1) * (v.f0 - o.f0) := by omega
   first
    | (rw [X.1, Y.2, Int.sub_self, Int.mul_zero] at zz
       rcases Int.mul_eq_zero.1 zz with g | g <;> omega)
    | (rw [Y.1, X.2, Int.sub_self, Int.mul_zero] at zz
       rcases Int.mul_eq_zero.1 zz.symm with g | g <;> omega)
 ·
  omega
end Go.Proofs.Ytmglnofmmgokkaa.HullGeo
namespace Go.Proofs.Ytmglnofmmgokkaa.HullWrap
set_option linter.unusedSimpArgs false
set_option linter.unusedVariables false
open PA Geo HullGeo
instance : DecidableEq S34 := fun a b => decidable_of_iff (a.f0 = b.f0 ∧ a.f1 = b.f1) ⟨fun h => ext h.1 h.2, fun h => h ▸ ⟨rfl, rfl⟩⟩
def better (o n c : S34) : Prop := n = o ∨ cr o n c < 0 ∨ (cr o n c = 0 ∧ Box n o c)
instance (o n c : S34) : Decidable (better o n c) := by unfold better; infer_instance
def upd (o c n : S34) : S34 := if c = o then n else if better o n c then c else n
/-- The corner that comes next behind o. -/
def nxt (l : List S34) (o : S34) : S34 := l.foldl (fun n c => upd o c n) o
def ScanI (o n : S34) (S : List S34) : Prop := (n = o ∧ ∀ c ∈ S, c = o) ∨ Edg o n S
theorem scan_step {a b : Int} {o n c : S34} {S : List S34} (hs : Side a b o (S ++ [c])) (h : ScanI o n S) : ScanI o (upd o c n) (S ++ [c]) := by
 have hsS : Side a b o S := fun x hx => hs x (List.mem_append_left _ hx)
 have hsc := hs c (List.mem_append_right _ List.mem_cons_self)
 unfold upd
 by_cases e : c = o
 ·
  rw [if_pos e]
  rcases h with h | h
  ·
   left
   refine ⟨h.1, fun x hx => ?_⟩
   rcases List.mem_append.1 hx with hx | hx
   ·
    exact h.2 x hx
   ·
    rw [List.mem_singleton] at hx; rw [hx, e]
  ·
   right
   have hn : 0 < off a b o n := by
    rcases hsS n h.mem with q | q
    ·
     exact absurd q h.ne
    ·
     exact q
   exact ⟨h.ne, List.mem_append_left _ h.mem, sup_old hn hsc h.sup (Or.inl e)⟩
 ·
  rw [if_neg e]
  have hoc : 0 < off a b o c := by
   rcases hsc with q | q
   ·
    exact absurd q e
   ·
    exact q
  rcases h with h | h
  ·
   rw [if_pos (show better o n c from Or.inl h.1)]
   right
   refine ⟨e, List.mem_append_right _ List.mem_cons_self, fun x hx => ?_⟩
   rcases List.mem_append.1 hx with hx | hx
   ·
    rw [h.2 x hx, cr_self3]; exact ⟨Int.le_refl _, fun _ => box_self _ _⟩
   ·
    rw [List.mem_singleton] at hx
    rw [hx, cr_self2]; exact ⟨Int.le_refl _, fun _ => box_self2 _ _⟩
  ·
   have hn : 0 < off a b o n := by
    rcases hsS n h.mem with q | q
    ·
     exact absurd q h.ne
    ·
     exact q
   right
   by_cases q : better o n c
   ·
    rw [if_pos q]
    rcases q with q | q
    ·
     exact absurd q h.ne
    ·
     exact ⟨e, List.mem_append_right _ List.mem_cons_self, sup_new hn hoc hsS h.sup q⟩
   ·
    rw [if_neg q]
    exact ⟨h.ne, List.mem_append_left _ h.mem, sup_old hn hsc h.sup (Or.inr (fun g => q (Or.inr g)))⟩
theorem scan_all {a b : Int} {o : S34} : ∀ (T S : List S34) (n : S34), Side a b o (S ++ T) → ScanI o n S → ScanI o (T.foldl (fun n c => upd o c n) n) (S ++ T)
 | [], S, n, hs, h => by rw [List.append_nil]; exact h
 | c :: T, S, n, hs, h => by
  have e : S ++ c :: T = (S ++ [c]) ++ T := by simp
  rw [e] at hs ⊢
  exact scan_all T (S ++ [c]) _ hs (scan_step (fun x hx => hs x (List.mem_append_left _ hx)) h)
theorem nxt_is {a b : Int} {o : S34} {l : List S34} (hs : Side a b o l) : (nxt l o = o ∧ ∀ c ∈ l, c = o) ∨ Edg o (nxt l o) l := by
 have := scan_all (a := a) (b := b) (o := o) l [] o (by simpa using hs) (Or.inl ⟨rfl, by simp⟩)
 rw [List.nil_append] at this
 exact this
def at_ (l : List S34) (i : Nat) : S34 := l.getD i z34
theorem at_get {l : List S34} {i : Nat} (h : i < l.length) : at_ l i = l[i] := by
 unfold at_
 rw [List.getD_eq_getElem?_getD, List.getElem?_eq_getElem h]; rfl
theorem at_mem {l : List S34} {i : Nat} (h : i < l.length) : at_ l i ∈ l := by rw [at_get h]; exact List.getElem_mem h
theorem at_snoc {l : List S34} {x : S34} : at_ (l ++ [x]) l.length = x := by
 unfold at_
 rw [List.getD_eq_getElem?_getD, List.getElem?_append_right (Nat.le_refl _), Nat.sub_self]; rfl
theorem at_left {l m : List S34} {i : Nat} (h : i < l.length) : at_ (l ++ m) i = at_ l i := by
 unfold at_
 rw [List.getD_eq_getElem?_getD, List.getD_eq_getElem?_getD, List.getElem?_append_left h]
/-- The round, from a corner on. -/
def wrapL (l : List S34) (first : S34) : Nat → S34 → List S34 → List S34
 | 0, _, out => out
 | d + 1, now, out => if nxt l now = first then out ++ [now] else wrapL l first d (nxt l now) (out ++ [now])
/-- What has been passed so far. -/
structure Pth (l : List S34) (first : S34) (vs : List S34) : Prop where
 pos : 0 < vs.length
 hd : at_ vs 0 = first
 nd : vs.Nodup
 mem : ∀ x ∈ vs, x ∈ l
 edge : ∀ i, i + 1 < vs.length → Edg (at_ vs i) (at_ vs (i + 1)) l
structure Hul (l : List S34) (first : S34) (vs : List S34) : Prop where
 path : Pth l first vs
 last : Edg (at_ vs (vs.length - 1)) first l
theorem nodup_le {l : List S34} : ∀ {vs : List S34}, vs.Nodup → (∀ x ∈ vs, x ∈ l) → vs.length ≤ l.length := by
 intro vs
 induction vs generalizing l with
 | nil => intro _ _; exact Nat.zero_le _
 | cons v vs ih =>
  intro hn hm
  rw [List.nodup_cons] at hn
  have h1 := ih (l := l.erase v) hn.2 (fun x hx => (List.mem_erase_of_ne (fun (e : x = v) => hn.1 (by rw [← e]; exact hx))).2 (hm x (List.mem_cons_of_mem _ hx)))
  have h2 := hm v List.mem_cons_self
  have h3 := List.length_erase_of_mem h2
  have h4 := List.length_pos_of_mem h2
  rw [List.length_cons]; omega
theorem at_inj {vs : List S34} (hn : vs.Nodup) {i j : Nat} (hi : i < vs.length) (hj : j < vs.length) (h : at_ vs i = at_ vs j) : i = j := by
 rw [at_get hi, at_get hj] at h
 exact (List.getElem_inj hn).1 h
theorem side_at {l : List S34} {first : S34} (hS : ∀ c ∈ l, Sm c) (hk : ∀ c ∈ l, c = first ∨ key first < key c) {vs : List S34} (h : Pth l first vs) : ∀ i, i < vs.length → ∃ a b, Side a b (at_ vs i) l
 | 0, hi => by rw [h.hd]; exact ⟨_, _, side_first hk⟩
 | i + 1, hi => side_next (hS _ (h.mem _ (at_mem (by omega)))) hS (h.edge i hi)
theorem path_snoc {l : List S34} {first n : S34} {vs : List S34} (h : Pth l first vs) (he : Edg (at_ vs (vs.length - 1)) n l) (hf : n ≠ first) : Pth l first (vs ++ [n]) := by
 have hp := h.pos
 have hnew : n ∉ vs := by
  intro hm
  obtain ⟨j, hj, e⟩ := List.getElem_of_mem hm
  rw [← at_get hj] at e
  cases j with
  | zero => exact hf (by rw [← e, h.hd])
  | succ j =>
   have h1 := h.edge j hj
   rw [e] at h1
   have h2 := edge_inj (h.mem _ (at_mem (by omega))) (h.mem _ (at_mem (by omega))) h1 he
   have := at_inj h.nd (by omega) (by omega) h2
   omega
 refine ⟨by simp, by rw [at_left hp]; exact h.hd, ?_, fun x hx => ?_, fun i hi => ?_⟩
 ·
  rw [List.nodup_append]
  refine ⟨h.nd, by simp, fun a ha b hb => ?_⟩
  rw [List.mem_singleton] at hb
  rw [hb]; exact fun e => hnew (e ▸ ha)
 ·
  rcases List.mem_append.1 hx with hx | hx
  ·
   exact h.mem x hx
  ·
   rw [List.mem_singleton] at hx
   rw [hx]; exact he.mem
 ·
  rw [List.length_append, List.length_singleton] at hi
  by_cases e : i + 1 < vs.length
  ·
   rw [at_left e, at_left (by omega)]; exact h.edge i e
  ·
   have e2 : i + 1 = vs.length := by omega
   rw [e2, at_snoc, at_left (by omega)]
   have e3 : i = vs.length - 1 := by omega
   rw [e3]; exact he
theorem wrap_is {l : List S34} {first : S34} (hS : ∀ c ∈ l, Sm c) (hk : ∀ c ∈ l, c = first ∨ key first < key c) (hm : ∃ c ∈ l, c ≠ first) : ∀ (d : Nat) (now : S34) (out : List S34), out.length + d = l.length → Pth l first (out ++ [now]) → Hul l first (wrapL l first d now out)
 | 0, now, out, h, hp => by
  have := nodup_le hp.nd hp.mem
  rw [List.length_append, List.length_singleton] at this
  omega
 | d + 1, now, out, h, hp => by
  obtain ⟨a, b, hs⟩ := side_at hS hk hp out.length (by simp)
  rw [at_snoc] at hs
  have hlast : at_ (out ++ [now]) ((out ++ [now]).length - 1) = now := by
   rw [List.length_append, List.length_singleton, Nat.add_sub_cancel, at_snoc]
  have he : Edg now (nxt l now) l := by
   rcases nxt_is hs with q | q
   ·
    exfalso
    obtain ⟨c, hc, hne⟩ := hm
    have hf : first ∈ l := by rw [← hp.hd]; exact hp.mem _ (at_mem hp.pos)
    exact hne ((q.2 c hc).trans (q.2 first hf).symm)
   ·
    exact q
  rw [wrapL]
  by_cases e : nxt l now = first
  ·
   rw [if_pos e]
   exact ⟨hp, by rw [hlast, ← e]; exact he⟩
  ·
   rw [if_neg e]
   exact wrap_is hS hk hm d _ _ (by rw [List.length_append, List.length_singleton]; omega) (path_snoc hp (by rw [hlast]; exact he) e)
/-- The least corner of a list. -/
def leastFrom (c : S34) (l : List S34) : S34 := l.foldl (fun m c => if lt c m = true then c else m) c
theorem least_is : ∀ (l : List S34) (c : S34), Sm c → (∀ x ∈ l, Sm x) → (leastFrom c l = c ∨ leastFrom c l ∈ l) ∧ (key (leastFrom c l) ≤ key c) ∧ ∀ x ∈ l, key (leastFrom c l) ≤ key x
 | [], c, hc, hl => ⟨Or.inl rfl, Int.le_refl _, fun x hx => by cases hx⟩
 | y :: l, c, hc, hl => by
  have hy := hl y List.mem_cons_self
  have hl' : ∀ x ∈ l, Sm x := fun x hx => hl x (List.mem_cons_of_mem _ hx)
  show (leastFrom (if lt y c = true then y else c) l = c ∨ leastFrom (if lt y c = true then y else c) l ∈ y :: l) ∧ (key (leastFrom (if lt y c = true then y else c) l) ≤ key c) ∧ ∀ x ∈ y :: l, key (leastFrom (if lt y c = true then y else c) l) ≤ key x
  by_cases e : lt y c = true
  ·
   rw [if_pos e]
   obtain ⟨h1, h2, h3⟩ := least_is l y hy hl'
   have := (lt_iff hy hc).1 e
   refine ⟨Or.inr ?_, by omega, fun x hx => ?_⟩
   ·
    rcases h1 with h1 | h1
    ·
     rw [h1]; exact List.mem_cons_self
    ·
     exact List.mem_cons_of_mem _ h1
   ·
    rcases List.mem_cons.1 hx with rfl | hx
    ·
     exact h2
    ·
     exact h3 x hx
  ·
   rw [if_neg e]
   obtain ⟨h1, h2, h3⟩ := least_is l c hc hl'
   have : ¬ key y < key c := fun g => e ((lt_iff hy hc).2 g)
   refine ⟨?_, h2, fun x hx => ?_⟩
   ·
    rcases h1 with h1 | h1
    ·
     exact Or.inl h1
    ·
     exact Or.inr (List.mem_cons_of_mem _ h1)
   ·
    rcases List.mem_cons.1 hx with rfl | hx
    ·
     omega
    ·
     exact h3 x hx
def first : List S34 → S34
 | [] => z34
 | c :: l => leastFrom c l
theorem first_is {l : List S34} (hS : ∀ c ∈ l, Sm c) (hne : l ≠ []) : first l ∈ l ∧ ∀ c ∈ l, c = first l ∨ key (first l) < key c := by
 cases l with
 | nil => exact absurd rfl hne
 | cons c l =>
  obtain ⟨h1, h2, h3⟩ := least_is l c (hS c List.mem_cons_self) (fun x hx => hS x (List.mem_cons_of_mem _ hx))
  have hm : leastFrom c l ∈ c :: l := by
   rcases h1 with h1 | h1
   ·
    rw [h1]; exact List.mem_cons_self
   ·
    exact List.mem_cons_of_mem _ h1
  refine ⟨hm, fun x hx => ?_⟩
  show x = leastFrom c l ∨ key (leastFrom c l) < key x
  have hle : key (leastFrom c l) ≤ key x := by
   rcases List.mem_cons.1 hx with rfl | hx
   ·
    exact h2
   ·
    exact h3 x hx
  by_cases e : key (leastFrom c l) < key x
  ·
   exact Or.inr e
  ·
   exact Or.inl (key_inj (hS x hx) (hS _ hm) (by omega))
/-- The corners round a list. -/
def round (l : List S34) : List S34 := wrapL l (first l) l.length (first l) []
theorem round_is {l : List S34} (hS : ∀ c ∈ l, Sm c) (hne : l ≠ []) (hm : ∃ c ∈ l, c ≠ first l) : Hul l (first l) (round l) := by
 obtain ⟨h1, h2⟩ := first_is hS hne
 refine wrap_is hS h2 hm l.length (first l) [] (by simp) ⟨by simp, rfl, by simp, fun x hx => ?_, fun i hi => ?_⟩
 ·
  rw [List.nil_append, List.mem_singleton] at hx
  rw [hx]; exact h1
 ·
  simp at hi
theorem round_one {l : List S34} (hS : ∀ c ∈ l, Sm c) (hne : l ≠ []) (hm : ¬ ∃ c ∈ l, c ≠ first l) : round l = [first l] := by
 obtain ⟨h1, h2⟩ := first_is hS hne
 have hs : Side 1 (-2001) (first l) l := side_first h2
 have hx : nxt l (first l) = first l := by
  rcases nxt_is hs with q | q
  ·
   exact q.1
  ·
   exact absurd ⟨_, q.mem, q.ne⟩ hm
 unfold round
 obtain ⟨n, hn⟩ : ∃ n, l.length = n + 1 := ⟨l.length - 1, by have := List.length_pos_iff.2 hne; omega⟩
 rw [hn, wrapL, if_pos hx]; rfl
/-- Each corner, and the one behind it. -/
theorem Hul.edge_at {l : List S34} {first : S34} {vs : List S34} (h : Hul l first vs) {i : Nat} (hi : i < vs.length) : Edg (at_ vs i) (at_ vs ((i + 1) % vs.length)) l := by
 by_cases e : i + 1 < vs.length
 ·
  rw [Nat.mod_eq_of_lt e]; exact h.path.edge i e
 ·
  have e2 : i = vs.length - 1 := by omega
  have e3 : i + 1 = vs.length := by omega
  rw [e3, Nat.mod_self, h.path.hd, e2]; exact h.last
theorem Hul.convex {l : List S34} {first : S34} {vs : List S34} (h : Hul l first vs) {i j : Nat} (hi : i < vs.length) (hj : j < vs.length) (h1 : j ≠ i) (h2 : j ≠ (i + 1) % vs.length) : 0 < cr (at_ vs i) (at_ vs ((i + 1) % vs.length)) (at_ vs j) := by
 have hn : (i + 1) % vs.length < vs.length := Nat.mod_lt _ (by omega)
 exact edge_corner (h.path.mem _ (at_mem hi)) (h.path.mem _ (at_mem hn)) (h.edge_at hi) (h.path.mem _ (at_mem hj)) (h.edge_at hj) (fun e => h1 (at_inj h.path.nd hj hi e)) (fun e => h2 (at_inj h.path.nd hj hn e))
end Go.Proofs.Ytmglnofmmgokkaa.HullWrap
namespace Go.Proofs.Ytmglnofmmgokkaa.StonesKit
set_option linter.unusedSimpArgs false
set_option linter.unusedVariables false
open Go.RowKit PA Base YtmglnofmmgokkaaW.PrintWords YtmglnofmmgokkaaW.PrintLast YtmglnofmmgokkaaW.PrintMore
def Fit (l : List S34) : Prop := ∀ c ∈ l, (-32768 ≤ c.f0 ∧ c.f0 ≤ 32767) ∧ (-32768 ≤ c.f1 ∧ c.f1 ≤ 32767)
theorem rdC (xs : List S34) (i : Nat) (h : i < xs.length) : rd_T34 xs (i : Int) = xs[i] := getD_nat xs z34 i h
theorem rdC' (xs : List S34) (i : Nat) : rd_T34 xs (i : Int) = xs.getD i z34 := by simp [rd_T34]
theorem specIn (n b c : Int) : spec_l00In.f n b c = some (inB n b c) := inB_ite
theorem implIn (n b c : Int) : impl_within.f n b c = some (inB n b c) := inB_ite
theorem tm (i n : Nat) (h : i < n) (hn : n ≤ 1048576) : Int.tmod (wrap64 ((i : Int) + 1)) (n : Int) = (((i + 1) % n : Nat) : Int) := by
 rw [w64 (by omega) (by omega), Int.tmod_eq_emod_of_nonneg (by omega)]; simp
/-- The side of c beside a and b. -/
def sd (a b c : S34) : Int := (impl_side.f a.f0 a.f1 b.f0 b.f1 c.f0 c.f1).getD 0
theorem implSide (a b c : S34) : impl_side.f a.f0 a.f1 b.f0 b.f1 c.f0 c.f1 = some (sd a b c) := rfl
theorem specSide (a b c : S34) : spec_l03Side.f a.f0 a.f1 b.f0 b.f1 c.f0 c.f1 = some (sd a b c) := rfl
def at_ (l : List S34) (i : Nat) : S34 := l.getD i z34
def cvx (l : List S34) (i j : Nat) : Bool := decide (j = i) || decide (j = (i + 1) % l.length) || decide (0 < sd (at_ l i) (at_ l ((i + 1) % l.length)) (at_ l j))
def convB (l : List S34) : Bool := (List.range l.length).all fun i => (List.range l.length).all fun j => cvx l i j
def placed (c : S34) : Bool := inB c.f0 (-1000) 1000 && inB c.f1 (-1000) 1000
def okS (l : List S34) : Bool := inB (l.length : Int) 3 8 && l.all placed && convB l
theorem all_range {α : Type} (l : List α) (z : α) (p : α → Bool) : (List.range l.length).all (fun j => p (l.getD j z)) = l.all p := by
 rw [Bool.eq_iff_iff, List.all_eq_true, List.all_eq_true]
 constructor
 ·
  intro h x hx
  obtain ⟨i, hi, rfl⟩ := List.getElem_of_mem hx
  have := h i (by simpa using hi)
  simpa [List.getD_eq_getElem?_getD, hi] using this
 ·
  intro h i hi
  have hi' : i < l.length := by simpa using hi
  rw [List.getD_eq_getElem?_getD, List.getElem?_eq_getElem hi']
  exact h _ (List.getElem_mem hi')
theorem specPlace (n : Int) : spec_l03Place.f n = some (inB n (-1000) 1000) := by simp [spec_l03Place.f, specIn]
theorem specCorner {c : S34} (h : (-32768 ≤ c.f0 ∧ c.f0 ≤ 32767) ∧ (-32768 ≤ c.f1 ∧ c.f1 ≤ 32767)) : spec_l03Corner.f c.f0 c.f1 = some (placed c) := by
 unfold spec_l03Corner.f placed
 rw [w64 (by omega) (by omega), w64 (by omega) (by omega), specPlace, specPlace, Option.bind_some]
 cases inB c.f0 (-1000) 1000 <;> simp
theorem implPlaced {c : S34} (h : (-32768 ≤ c.f0 ∧ c.f0 ≤ 32767) ∧ (-32768 ≤ c.f1 ∧ c.f1 ≤ 32767)) : impl_isPlaced.f c.f0 c.f1 = some (placed c) := by
 unfold impl_isPlaced.f placed
 rw [w64 (by omega) (by omega), w64 (by omega) (by omega), implIn, implIn, Option.bind_some]
 cases inB c.f0 (-1000) 1000 <;> simp
theorem ite_b (b : Bool) : (if b = true then true else false) = b := by cases b <;> rfl
theorem nx_lt (l : List S34) (i : Nat) (h : i < l.length) : (i + 1) % l.length < l.length := Nat.mod_lt _ (by omega)
theorem specConvex (l : List S34) (hl : l.length ≤ 1048576) : Ev (fun k => spec_l03Convex.f k l) (decide (3 ≤ (l.length : Int)) && convB l) := by
 unfold spec_l03Convex.f
 refine Ev.ite (fun e => Ev.fin ?_) (fun e => ?_)
 ·
  rw [decide_eq_false (by omega)]; rfl
 ·
  rw [decide_eq_true (by omega), Bool.true_and]
  refine Ev.to (rangeAll_ev0 (fun k i => spec_l03Convex.l0 k l i) l.length (fun i => (List.range l.length).all fun j => cvx l i j) true false ?_ ?_ ?_) (ite_b _)
  all_goals first
   | (intro i hi hp r' hr)
   | (intro i hi hp)
   | (intro hp)
  ·
   have hn := nx_lt l i hi
   have ht := tm i l.length hi hl
   refine Ev.step (fun k => by rw [spec_l03Convex.l0]) (Ev.pos (by omega) ?_)
   refine Ev.nobind (a := (((i + 1) % l.length : Nat) : Int)) (by unfold spec_l03Next.f; rw [if_neg (by omega), ht]) ?_
   refine Ev.to (rangeAll_ev0 (fun k j => spec_l03Convex.l1 k l i (((i + 1) % l.length : Nat) : Int) j) l.length (fun j => cvx l i j) r' r' ?_ ?_ ?_) (by simp)
   ·
    intro j hj hq r2 hr2
    have ha := w64 (x := (j : Int) + 1) (by omega) (by omega)
    have hq' := hq
    unfold cvx at hq'
    simp only [Bool.or_eq_true, decide_eq_true_eq] at hq'
    refine Ev.step (fun k => by rw [spec_l03Convex.l1]) (Ev.pos (by omega) ?_)
    rw [ha]
    refine Ev.ite (fun _ => hr2) (fun e1 => Ev.ite (fun _ => hr2) (fun e2 => ?_))
    refine Ev.pos (by omega) (Ev.pos (by omega) (Ev.pos (by omega) (Ev.pos (by omega) (Ev.pos (by omega) ?_))))
    refine Ev.nobind (specSide _ _ _) (Ev.neg ?_ hr2)
    rw [rdC', rdC', rdC']
    have : 0 < sd (at_ l i) (at_ l ((i + 1) % l.length)) (at_ l j) := by
     rcases hq' with (h | h) | h
     ·
      omega
     ·
      omega
     ·
      exact h
    unfold at_ at this; omega
   ·
    intro j hj hq
    exfalso
    rw [List.all_eq_true] at hp
    have := hp j (by simpa using hj)
    rw [hq] at this; cases this
   ·
    intro _
    have ha := w64 (x := (i : Int) + 1) (by omega) (by omega)
    refine Ev.step (fun k => by rw [spec_l03Convex.l1]) (Ev.neg (by omega) ?_)
    rw [ha]; exact hr
  ·
   have hn := nx_lt l i hi
   have ht := tm i l.length hi hl
   refine Ev.step (fun k => by rw [spec_l03Convex.l0]) (Ev.pos (by omega) ?_)
   refine Ev.nobind (a := (((i + 1) % l.length : Nat) : Int)) (by unfold spec_l03Next.f; rw [if_neg (by omega), ht]) ?_
   refine Ev.to (rangeAll_ev0 (fun k j => spec_l03Convex.l1 k l i (((i + 1) % l.length : Nat) : Int) j) l.length (fun j => cvx l i j) false false ?_ ?_ ?_) (by simp)
   ·
    intro j hj hq r2 hr2
    have ha := w64 (x := (j : Int) + 1) (by omega) (by omega)
    have hq' := hq
    unfold cvx at hq'
    simp only [Bool.or_eq_true, decide_eq_true_eq] at hq'
    refine Ev.step (fun k => by rw [spec_l03Convex.l1]) (Ev.pos (by omega) ?_)
    rw [ha]
    refine Ev.ite (fun _ => hr2) (fun e1 => Ev.ite (fun _ => hr2) (fun e2 => ?_))
    refine Ev.pos (by omega) (Ev.pos (by omega) (Ev.pos (by omega) (Ev.pos (by omega) (Ev.pos (by omega) ?_))))
    refine Ev.nobind (specSide _ _ _) (Ev.neg ?_ hr2)
    rw [rdC', rdC', rdC']
    have : 0 < sd (at_ l i) (at_ l ((i + 1) % l.length)) (at_ l j) := by
     rcases hq' with (h | h) | h
     ·
      omega
     ·
      omega
     ·
      exact h
    unfold at_ at this; omega
   ·
    intro j hj hq
    unfold cvx at hq
    simp only [Bool.or_eq_false_iff, decide_eq_false_iff_not] at hq
    obtain ⟨⟨q1, q2⟩, q3⟩ := hq
    refine Ev.step (fun k => by rw [spec_l03Convex.l1]) (Ev.pos (by omega) (Ev.neg (by omega) (Ev.neg (by omega) ?_)))
    refine Ev.pos (by omega) (Ev.pos (by omega) (Ev.pos (by omega) (Ev.pos (by omega) (Ev.pos (by omega) ?_))))
    refine Ev.nobind (specSide _ _ _) (Ev.pos ?_ (Ev.fin rfl))
    rw [rdC', rdC', rdC']
    unfold at_ at q3; omega
   ·
    intro h; rw [h] at hp; cases hp
  ·
   exact Ev.step (fun k => by rw [spec_l03Convex.l0]) (Ev.neg (by omega) (Ev.fin rfl))
theorem specOk {l : List S34} (hf : Fit l) : Ev (fun k => spec_l03Ok.f k l) (okS l) := by
 unfold spec_l03Ok.f okS
 refine Ev.nobind (specIn _ _ _) (Ev.ite (fun e => ?_) (fun e => ?_))
 ·
  rw [e]
  rw [inB_iff] at e
  refine Ev.to (rangeAll_ev0 (fun k i => spec_l03Ok.l0 k l i) l.length (fun i => placed (l.getD i z34)) (decide (3 ≤ (l.length : Int)) && convB l) false ?_ ?_ ?_) ?_
  ·
   intro i hi hp r' hr
   have ha := w64 (x := (i : Int) + 1) (by omega) (by omega)
   refine Ev.step (fun k => by rw [spec_l03Ok.l0]) (Ev.pos (by omega) (Ev.pos (by omega) ?_))
   rw [rdC l i hi, ha]
   refine Ev.nobind (specCorner (hf _ (List.getElem_mem hi))) (Ev.pos ?_ hr)
   simpa [List.getD_eq_getElem?_getD, hi] using hp
  ·
   intro i hi hp
   refine Ev.step (fun k => by rw [spec_l03Ok.l0]) (Ev.pos (by omega) (Ev.pos (by omega) ?_))
   rw [rdC l i hi]
   refine Ev.nobind (specCorner (hf _ (List.getElem_mem hi))) (Ev.neg ?_ (Ev.fin rfl))
   have : placed l[i] = false := by simpa [List.getD_eq_getElem?_getD, hi] using hp
   rw [this]; decide
  ·
   intro _
   refine Ev.step (fun k => by rw [spec_l03Ok.l0]) (Ev.neg (by omega) ?_)
   exact Ev.bind (specConvex l (by omega)) (Ev.now _)
  ·
   rw [all_range l z34 placed, decide_eq_true e.1]
   cases l.all placed <;> rfl
 ·
  rw [Bool.not_eq_true] at e; rw [e]; exact Ev.fin rfl
theorem implConvexL {l : List S34} (hf : Fit l) (hl : l.length ≤ 1048575) : Ev (fun k => impl_isConvex.f k l) (convB l && (decide (3 ≤ (l.length : Int)) && l.all placed)) := by
 unfold impl_isConvex.f
 have fin0 : impl_isConvex_1_any.f l = some (!(l.all placed)) := by
  unfold impl_isConvex_1_any.f
  rw [idxO_any (q := fun c => !placed c) l (fun c hc => by unfold impl_isConvex_1.f; rw [implPlaced (hf c hc)]; rfl)]
  congr 1
  rw [Bool.eq_iff_iff]; simp [List.any_eq_true, List.all_eq_true]
 refine Ev.to (rangeAll_ev0 (fun k i => impl_isConvex.l0 k l (l.length : Int) l (l.length : Int) i) l.length (fun i => (List.range l.length).all fun j => cvx l i j) (decide (3 ≤ (l.length : Int)) && l.all placed) false ?_ ?_ ?_) (by unfold convB; cases ((List.range l.length).all fun i => (List.range l.length).all fun j => cvx l i j) <;> rfl)
 ·
  intro i hi hp r' hr
  have hn := nx_lt l i hi
  have ht := tm i l.length hi (by omega)
  refine Ev.step (fun k => by rw [impl_isConvex.l0]) (Ev.pos (by omega) (Ev.pos (by omega) (Ev.pos (by omega) (Ev.neg (by omega) ?_))))
  rw [ht]
  refine Ev.pos (by omega) (Ev.pos (by omega) ?_)
  refine Ev.to (rangeAll_ev0 (fun k j => impl_isConvex.l1 k l (l.length : Int) i l (l.length : Int) i l (l.length : Int) j ((rd_T34 l i).f0) ((rd_T34 l i).f1) ((rd_T34 l (((i + 1) % l.length : Nat) : Int)).f0) ((rd_T34 l (((i + 1) % l.length : Nat) : Int)).f1)) l.length (fun j => cvx l i j) r' r' ?_ ?_ ?_) (by simp)
  ·
   intro j hj hq r2 hr2
   have ha := w64 (x := (j : Int) + 1) (by omega) (by omega)
   have hq' := hq
   unfold cvx at hq'
   simp only [Bool.or_eq_true, decide_eq_true_eq] at hq'
   refine Ev.step (fun k => by rw [impl_isConvex.l1]) (Ev.pos (by omega) (Ev.pos (by omega) (Ev.pos (by omega) ?_)))
   rw [ha]
   refine Ev.ite (fun _ => hr2) (fun e1 => Ev.neg (by omega) ?_)
   rw [ht]
   refine Ev.ite (fun _ => hr2) (fun e2 => ?_)
   refine Ev.nobind (implSide _ _ _) (Ev.neg ?_ hr2)
   rw [rdC', rdC', rdC']
   have : 0 < sd (at_ l i) (at_ l ((i + 1) % l.length)) (at_ l j) := by
    rcases hq' with (h | h) | h
    ·
     omega
    ·
     omega
    ·
     exact h
   unfold at_ at this; omega
  ·
   intro j hj hq
   exfalso
   rw [List.all_eq_true] at hp
   have := hp j (by simpa using hj)
   rw [hq] at this; cases this
  ·
   intro _
   have ha := w64 (x := (i : Int) + 1) (by omega) (by omega)
   refine Ev.step (fun k => by rw [impl_isConvex.l1]) (Ev.neg (by omega) ?_)
   rw [ha]; exact hr
 ·
  intro i hi hp
  have hn := nx_lt l i hi
  have ht := tm i l.length hi (by omega)
  refine Ev.step (fun k => by rw [impl_isConvex.l0]) (Ev.pos (by omega) (Ev.pos (by omega) (Ev.pos (by omega) (Ev.neg (by omega) ?_))))
  rw [ht]
  refine Ev.pos (by omega) (Ev.pos (by omega) ?_)
  refine Ev.to (rangeAll_ev0 (fun k j => impl_isConvex.l1 k l (l.length : Int) i l (l.length : Int) i l (l.length : Int) j ((rd_T34 l i).f0) ((rd_T34 l i).f1) ((rd_T34 l (((i + 1) % l.length : Nat) : Int)).f0) ((rd_T34 l (((i + 1) % l.length : Nat) : Int)).f1)) l.length (fun j => cvx l i j) false false ?_ ?_ ?_) (by simp)
  ·
   intro j hj hq r2 hr2
   have ha := w64 (x := (j : Int) + 1) (by omega) (by omega)
   have hq' := hq
   unfold cvx at hq'
   simp only [Bool.or_eq_true, decide_eq_true_eq] at hq'
   refine Ev.step (fun k => by rw [impl_isConvex.l1]) (Ev.pos (by omega) (Ev.pos (by omega) (Ev.pos (by omega) ?_)))
   rw [ha]
   refine Ev.ite (fun _ => hr2) (fun e1 => Ev.neg (by omega) ?_)
   rw [ht]
   refine Ev.ite (fun _ => hr2) (fun e2 => ?_)
   refine Ev.nobind (implSide _ _ _) (Ev.neg ?_ hr2)
   rw [rdC', rdC', rdC']
   have : 0 < sd (at_ l i) (at_ l ((i + 1) % l.length)) (at_ l j) := by
    rcases hq' with (h | h) | h
    ·
     omega
    ·
     omega
    ·
     exact h
   unfold at_ at this; omega
  ·
   intro j hj hq
   unfold cvx at hq
   simp only [Bool.or_eq_false_iff, decide_eq_false_iff_not] at hq
   obtain ⟨⟨q1, q2⟩, q3⟩ := hq
   refine Ev.step (fun k => by rw [impl_isConvex.l1]) (Ev.pos (by omega) (Ev.pos (by omega) (Ev.pos (by omega) (Ev.neg (by omega) (Ev.neg (by omega) ?_)))))
   rw [ht]
   refine Ev.neg (by omega) ?_
   refine Ev.nobind (implSide _ _ _) (Ev.pos ?_ (Ev.fin rfl))
   rw [rdC', rdC', rdC']
   unfold at_ at q3; omega
  ·
   intro h; rw [h] at hp; cases hp
 ·
  intro _
  refine Ev.step (fun k => by rw [impl_isConvex.l0]) (Ev.neg (by omega) ?_)
  rw [fin0]
  refine Ev.ite (fun e => ?_) (fun e => ?_)
  ·
   rw [decide_eq_true (by omega)]; exact Ev.fin (by simp)
  ·
   rw [decide_eq_false (by omega)]; exact Ev.fin rfl
theorem implConvex {l : List S34} (hf : Fit l) (hl : l.length ≤ 8) : Ev (fun k => impl_isConvex.f k l) (convB l && (decide (3 ≤ (l.length : Int)) && l.all placed)) := implConvexL hf (by omega)
theorem implOk {l : List S34} (hf : Fit l) : Ev (fun k => impl_ValidStone.f k l) (okS l) := by
 unfold impl_ValidStone.f
 refine Ev.ite (fun e => ?_) (fun e => Ev.fin ?_)
 ·
  refine Ev.bind (implConvex hf (by omega)) (Ev.fin ?_)
  unfold okS inB
  rw [decide_eq_true e]
  cases convB l <;> cases decide (3 ≤ (l.length : Int)) <;> cases l.all placed <;> rfl
 ·
  unfold okS inB; rw [decide_eq_false e]; simp
theorem okS_len {l : List S34} (h : okS l = true) : 3 ≤ l.length ∧ l.length ≤ 8 := by
 unfold okS at h
 rw [Bool.and_eq_true, Bool.and_eq_true, inB_iff] at h
 omega
end Go.Proofs.Ytmglnofmmgokkaa.StonesKit
namespace Go.Proofs.Ytmglnofmmgokkaa.LayKit
set_option linter.unusedSimpArgs false
set_option linter.unusedVariables false
open Go.RowKit PA Base StonesKit YtmglnofmmgokkaaW.PrintWords YtmglnofmmgokkaaW.PrintLast YtmglnofmmgokkaaW.PrintMore
def allF (p : Nat → Bool) : Nat → Nat → Bool
 | 0, _ => true
 | d + 1, i => p i && allF p d (i + 1)
def out (p q : S34) (st : Bool) (c : S34) : Bool := decide (0 < sd p q c) || (st && decide (sd p q c = 0))
def sdAny (a b : List S34) (st : Bool) (i : Nat) : Bool := b.any (out (at_ a i) (at_ a ((i + 1) % a.length)) st)
def cutB (a b : List S34) (st : Bool) : Bool := allF (sdAny a b st) a.length 0
theorem implParts (a b : List S34) (st : Bool) : impl_parts.f a b st = some (!cutB a b st) := by
 unfold impl_parts.f cutB
 have key : ∀ d i, impl_parts.l a b st d i = some (!allF (sdAny a b st) d i) := by
  intro d
  induction d with
  | zero => intro i; rfl
  | succ d ih =>
   intro i
   rw [impl_parts.l, allF]
   have hp : impl_parts.p a b st (i : Int) (((i + 1) % a.length : Nat) : Int) = some (sdAny a b st i) := by
    unfold impl_parts.p sdAny
    rw [rdC', rdC']
    refine idxO_any (q := out (at_ a i) (at_ a ((i + 1) % a.length)) st) b (fun c _ => ?_)
    unfold impl_parts_1.f
    have := implSide (at_ a i) (at_ a ((i + 1) % a.length)) c
    unfold at_ at this ⊢
    rw [this]; rfl
   rw [hp, Option.bind_some]
   cases sdAny a b st i with
   | true => rw [if_pos rfl, ih, Bool.true_and]
   | false => rw [if_neg (by decide), Bool.false_and]; rfl
 exact key a.length 0
theorem specApart (a b : List S34) (line : Bool) (ha : a.length ≤ 1048576) (hb : b.length ≤ 1048576) : Ev (fun k => spec_l03Apart.f k a b line) (!cutB a b (!line)) := by
 unfold spec_l03Apart.f cutB
 have inner : ∀ (i : Nat) (r : Bool), i < a.length → ∀ (d j : Nat) (fl : Bool), j + d = b.length →
   Ev (fun k => if (fl && !((b.drop j).any (out (at_ a i) (at_ a ((i + 1) % a.length)) (!line)))) = true then some true else spec_l03Apart.l0 k a b line ((i + 1 : Nat) : Int)) r → Ev (fun k => spec_l03Apart.l1 k a b line (i : Int) fl (j : Int)) r := by
  intro i r hi d
  have hn := nx_lt a i hi
  have ht := tm i a.length hi ha
  have hw := w64 (x := (i : Int) + 1) (by omega) (by omega)
  induction d with
  | zero =>
   intro j fl hj h
   rw [List.drop_of_length_le (by omega), List.any_nil, Bool.not_false, Bool.and_true] at h
   refine Ev.step (fun k => by rw [spec_l03Apart.l1]) (Ev.neg (by omega) ?_)
   rw [hw]; exact h
  | succ d ih =>
   intro j fl hj h
   have hj' : j < b.length := by omega
   rw [drop_at b j hj', List.any_cons] at h
   refine Ev.step (fun k => by rw [spec_l03Apart.l1]) (Ev.pos (by omega) (Ev.pos (by omega) (Ev.pos (by omega) ?_)))
   refine Ev.nobind (a := (((i + 1) % a.length : Nat) : Int)) (by unfold spec_l03Next.f; rw [if_neg (by omega), ht]) (Ev.pos (by omega) (Ev.pos (by omega) (Ev.pos (by omega) ?_)))
   rw [rdC', rdC', rdC b j hj', w64 (x := (j : Int) + 1) (by omega) (by omega)]
   refine Ev.nobind (specSide (at_ a i) (at_ a ((i + 1) % a.length)) b[j]) ?_
   have ihf := ih (j + 1) false (by omega)
   have iht := ih (j + 1) fl (by omega)
   rw [Bool.false_and] at ihf
   unfold out at h
   refine Ev.ite (fun e => ?_) (fun e => ?_)
   ·
    rw [decide_eq_true (by omega : 0 < sd (at_ a i) (at_ a ((i + 1) % a.length)) b[j]), Bool.true_or, Bool.true_or, Bool.not_true, Bool.and_false] at h
    exact ihf h
   ·
    rw [decide_eq_false (by omega : ¬ 0 < sd (at_ a i) (at_ a ((i + 1) % a.length)) b[j]), Bool.false_or] at h
    refine Ev.ite (fun e2 => ?_) (fun e2 => ?_)
    ·
     rw [decide_eq_true e2, Bool.and_true] at h
     cases line with
     | true =>
      rw [Bool.not_true, Bool.false_or] at h
      exact Ev.pos rfl (iht h)
     | false =>
      rw [Bool.not_false, Bool.true_or, Bool.not_true, Bool.and_false] at h
      exact Ev.neg (by decide) (ihf h)
    ·
     rw [decide_eq_false e2, Bool.and_false, Bool.false_or] at h
     exact iht h
 have key : ∀ d i : Nat, i + d = a.length → Ev (fun k => spec_l03Apart.l0 k a b line (i : Int)) (!allF (sdAny a b (!line)) d i) := by
  intro d
  induction d with
  | zero =>
   intro i h
   refine Ev.step (fun k => by rw [spec_l03Apart.l0]) ?_
   exact Ev.neg (by omega) (Ev.fin rfl)
  | succ d ih =>
   intro i h
   refine Ev.step (fun k => by rw [spec_l03Apart.l0]) (Ev.pos (by omega) ?_)
   refine inner i _ (by omega) b.length 0 true (by omega) ?_
   rw [List.drop_zero, Bool.true_and, allF]
   show Ev (fun k => if (!sdAny a b (!line) i) = true then some true else spec_l03Apart.l0 k a b line ((i + 1 : Nat) : Int)) _
   cases sdAny a b (!line) i with
   | true => exact Ev.neg (by decide) (Ev.to (ih (i + 1) (by omega)) (by simp))
   | false => exact Ev.pos rfl (Ev.fin rfl)
 exact key a.length 0 (by omega)
def overB (a b : List S34) : Bool := cutB a b false && cutB b a false
theorem implOver (a b : List S34) : impl_overlap.f a b = some (overB a b) := by
 unfold impl_overlap.f overB
 rw [implParts, implParts, Option.bind_some, Option.bind_some]
 cases cutB a b false <;> cases cutB b a false <;> rfl
theorem specOver (a b : List S34) (ha : a.length ≤ 1048576) (hb : b.length ≤ 1048576) : Ev (fun k => spec_l03Over.f k a b) (overB a b) := by
 unfold spec_l03Over.f overB
 refine Ev.bind (specApart a b true ha hb) ?_
 rw [Bool.not_true]
 cases cutB a b false with
 | false => exact Ev.pos rfl (Ev.fin rfl)
 | true => exact Ev.neg (by decide) (Ev.bind (specApart b a true hb ha) (Ev.fin (by simp)))
end Go.Proofs.Ytmglnofmmgokkaa.LayKit
namespace Go.Proofs.Ytmglnofmmgokkaa.SeamKit
set_option linter.unusedSimpArgs false
set_option linter.unusedVariables false
open Go.RowKit PA Base StonesKit LayKit Geo YtmglnofmmgokkaaW.PrintWords YtmglnofmmgokkaaW.PrintLast YtmglnofmmgokkaaW.PrintMore
theorem specMin (x y : Int) : spec_l00Min.f x y = some (min x y) := by
 unfold spec_l00Min.f
 by_cases c : x < y
 ·
  rw [if_pos c]; congr 1; omega
 ·
  rw [if_neg c]; congr 1; omega
theorem specMax (x y : Int) : spec_l00Max.f x y = some (max x y) := by
 unfold spec_l00Max.f
 by_cases c : x > y
 ·
  rw [if_pos c]; congr 1; omega
 ·
  rw [if_neg c]; congr 1; omega
theorem mx_max (x y : Int) : mx x y = max x y := by unfold mx; split <;> omega
theorem sm_range {a : S34} (h : Sm a) : (-1000 ≤ a.f0 ∧ a.f0 ≤ 1000) ∧ (-1000 ≤ a.f1 ∧ a.f1 ≤ 1000) := h
theorem sd_cr {p q c : S34} (hp : Sm p) (hq : Sm q) (hc : Sm c) : sd p q c = cr p q c := by
 unfold Sm at hp hq hc
 have h1 := prod_small (a := q.f0 - p.f0) (b := c.f1 - p.f1) (by omega) (by omega)
 have h2 := prod_small (a := q.f1 - p.f1) (b := c.f0 - p.f0) (by omega) (by omega)
 unfold sd impl_side.f cr
 rw [Option.getD_some, w64 (x := p.f0) (by omega) (by omega), w64 (x := p.f1) (by omega) (by omega), w64 (x := q.f0) (by omega) (by omega), w64 (x := q.f1) (by omega) (by omega), w64 (x := c.f0) (by omega) (by omega), w64 (x := c.f1) (by omega) (by omega),
  w64 (x := q.f0 - p.f0) (by omega) (by omega), w64 (x := c.f1 - p.f1) (by omega) (by omega), w64 (x := q.f1 - p.f1) (by omega) (by omega), w64 (x := c.f0 - p.f0) (by omega) (by omega), w64 (x := (q.f0 - p.f0) * (c.f1 - p.f1)) (by omega) (by omega), w64 (x := (q.f1 - p.f1) * (c.f0 - p.f0)) (by omega) (by omega), w64 (by omega) (by omega)]
theorem wsq {a b : S34} (ha : Sm a) (hb : Sm b) : wrap64 ((wrap64 ((wrap64 ((wrap64 a.f0) - (wrap64 b.f0))) * (wrap64 ((wrap64 a.f0) - (wrap64 b.f0))))) + (wrap64 ((wrap64 ((wrap64 a.f1) - (wrap64 b.f1))) * (wrap64 ((wrap64 a.f1) - (wrap64 b.f1)))))) = sq a b := by
 have ha' := sm_range ha
 have hb' := sm_range hb
 have h1 := prod_small (a := a.f0 - b.f0) (b := a.f0 - b.f0) (by omega) (by omega)
 have h2 := prod_small (a := a.f1 - b.f1) (b := a.f1 - b.f1) (by omega) (by omega)
 unfold sq
 rw [w64 (x := a.f0) (by omega) (by omega), w64 (x := a.f1) (by omega) (by omega), w64 (x := b.f0) (by omega) (by omega), w64 (x := b.f1) (by omega) (by omega), w64 (x := a.f0 - b.f0) (by omega) (by omega), w64 (x := a.f1 - b.f1) (by omega) (by omega),
  w64 (x := (a.f0 - b.f0) * (a.f0 - b.f0)) (by omega) (by omega), w64 (x := (a.f1 - b.f1) * (a.f1 - b.f1)) (by omega) (by omega), w64 (by omega) (by omega)]
theorem implLess (a b : S34) : impl_cornerLess.f a.f0 a.f1 b.f0 b.f1 = some (lt a b) := by
 unfold impl_cornerLess.f lt
 by_cases c : a.f0 < b.f0
 ·
  rw [if_pos c, decide_eq_true c]; rfl
 ·
  rw [if_neg c, decide_eq_false c]
  by_cases d : a.f0 = b.f0
  ·
   rw [if_pos d, decide_eq_true d]; rfl
  ·
   rw [if_neg d, decide_eq_false d]; rfl
theorem common3 {p1 q0 s0 : S34} (hp : Sm p1) (hq : Sm q0) (hs : Sm s0) : Ev (fun k => impl_common.j3 k p1.f0 p1.f1 q0.f0 q0.f1 s0.f0 s0.f1) (com2 p1 (pick (lt s0 q0) s0 q0)) := by
 refine Ev.step (fun k => by rw [impl_common.j3]) (Ev.nobind (implLess s0 q0) ?_)
 unfold com2
 cases lt s0 q0 with
 | true =>
  refine Ev.pos rfl (Ev.nobind (implLess p1 s0) ?_)
  rw [wsq hs hp]
  refine Ev.ite (fun c => ?_) (fun c => ?_)
  ·
   rw [show pick true s0 q0 = s0 from rfl, if_pos c]; exact Ev.fin rfl
  ·
   rw [show pick true s0 q0 = s0 from rfl, if_neg c]; exact Ev.fin rfl
 | false =>
  refine Ev.neg (by decide) (Ev.nobind (implLess p1 q0) ?_)
  rw [wsq hq hp]
  refine Ev.ite (fun c => ?_) (fun c => ?_)
  ·
   rw [show pick false s0 q0 = q0 from rfl, if_pos c]; exact Ev.fin rfl
  ·
   rw [show pick false s0 q0 = q0 from rfl, if_neg c]; exact Ev.fin rfl
theorem common2 {p0 q0 r0 s0 : S34} (hp : Sm p0) (hq : Sm q0) (hr : Sm r0) (hs : Sm s0) : Ev (fun k => impl_common.j2 k p0.f0 p0.f1 q0.f0 q0.f1 r0.f0 r0.f1 s0.f0 s0.f1) (com1 p0 q0 r0 s0) := by
 refine Ev.step (fun k => by rw [impl_common.j2]) (Ev.nobind (implLess p0 r0) ?_)
 unfold com1
 cases lt p0 r0 with
 | true => exact Ev.pos rfl (common3 hr hq hs)
 | false => exact Ev.neg (by decide) (common3 hp hq hs)
theorem common1 {p0 q0 u v : S34} (hp : Sm p0) (hq : Sm q0) (hu : Sm u) (hv : Sm v) : Ev (fun k => impl_common.j1 k p0.f0 p0.f1 q0.f0 q0.f1 u.f0 u.f1 v.f0 v.f1) (com1 p0 q0 (pick (lt v u) v u) (pick (lt v u) u v)) := by
 refine Ev.step (fun k => by rw [impl_common.j1]) (Ev.nobind (implLess v u) ?_)
 cases lt v u with
 | true => exact Ev.pos rfl (common2 hp hq hv hu)
 | false => exact Ev.neg (by decide) (common2 hp hq hu hv)
theorem common0 {p q u v : S34} (hp : Sm p) (hq : Sm q) (hu : Sm u) (hv : Sm v) : Ev (fun k => impl_common.j0 k false p.f0 p.f1 q.f0 q.f1 u.f0 u.f1 v.f0 v.f1) (com p q u v) := by
 refine Ev.step (fun k => by rw [impl_common.j0]) (Ev.neg (by decide) (Ev.nobind (implLess q p) ?_))
 unfold com
 cases lt q p with
 | true => exact Ev.pos rfl (common1 hq hp hu hv)
 | false => exact Ev.neg (by decide) (common1 hp hq hu hv)
def has (p q u v : S34) : Int := if cr p q u = 0 then (if cr p q v = 0 then com p q u v else 0) else 0
theorem implCommon {p q u v : S34} (hp : Sm p) (hq : Sm q) (hu : Sm u) (hv : Sm v) : Ev (fun k => impl_common.f k p.f0 p.f1 q.f0 q.f1 u.f0 u.f1 v.f0 v.f1) (has p q u v) := by
 unfold impl_common.f has
 refine Ev.nobind (implSide p q u) ?_
 rw [sd_cr hp hq hu]
 refine Ev.ite (fun c => ?_) (fun c => ?_)
 ·
  rw [if_pos c]
  refine Ev.nobind (implSide p q v) ?_
  rw [sd_cr hp hq hv]
  by_cases d : cr p q v = 0
  ·
   rw [if_pos d, show (cr p q v != 0) = false from by rw [d]; rfl]
   exact common0 hp hq hu hv
  ·
   rw [if_neg d, show (cr p q v != 0) = true from by simpa using d]
   refine Ev.step (fun k => by rw [impl_common.j0]) ?_
   exact Ev.pos rfl (Ev.fin rfl)
 ·
  rw [if_neg c]
  refine Ev.step (fun k => by rw [impl_common.j0]) ?_
  exact Ev.pos rfl (Ev.fin rfl)
theorem specBetween {c u v : S34} (hc : Sm c) (hu : Sm u) (hv : Sm v) : spec_l03Between.f c.f0 c.f1 u.f0 u.f1 v.f0 v.f1 = some (decide (Box c u v)) := by
 unfold Sm at hc hu hv
 unfold spec_l03Between.f
 rw [w64 (x := c.f0) (by omega) (by omega), w64 (x := c.f1) (by omega) (by omega), w64 (x := u.f0) (by omega) (by omega), w64 (x := u.f1) (by omega) (by omega), w64 (x := v.f0) (by omega) (by omega), w64 (x := v.f1) (by omega) (by omega)]
 simp only [specMin, specMax, specIn, Option.bind_some]
 by_cases c0 : inB c.f0 (min u.f0 v.f0) (max u.f0 v.f0) = true
 ·
  rw [if_pos c0]
  rw [inB_iff] at c0
  congr 1
  rw [Bool.eq_iff_iff, inB_iff, decide_eq_true_eq]
  exact ⟨fun h => (⟨c0, h⟩ : Box c u v), fun h => h.2⟩
 ·
  rw [if_neg c0]
  congr 1
  rw [inB_iff] at c0
  exact (decide_eq_false (fun h : Box c u v => c0 h.1)).symm
theorem endAt_len (l : List S34) (c u v : S34) : (endAt l c u v).length ≤ l.length + 1 := by unfold endAt; split <;> simp
def Best (M : Int) (l : List S34) (i : Nat) (b : Int) : Prop := 0 ≤ b ∧ b ≤ M ∧ ∀ x y, x < i → y < x → sq (l.getD x z34) (l.getD y z34) ≤ b
theorem getC {l : List S34} {i : Nat} (h : i < l.length) : l.getD i z34 = l[i] := by
 rw [List.getD_eq_getElem?_getD, List.getElem?_eq_getElem h]; rfl
theorem maxLoop (l : List S34) (hl : l.length ≤ 4) (hs : ∀ x ∈ l, Sm x) (M : Int) (h0 : 0 ≤ M) (h1 : ∀ e ∈ l, ∀ f ∈ l, sq e f ≤ M) (h2 : M = 0 ∨ ∃ e ∈ l, ∃ f ∈ l, e ≠ f ∧ M = sq e f) : Ev (fun k => spec_l03Seam.l0 k l 0 0) M := by
 refine inv_cps0 l.length (fun k s i => spec_l03Seam.l0 k l s i) M (Best M l) 0 ⟨Int.le_refl _, h0, fun x y hx => by omega⟩ (fun s i hi hv hr => ?_) (fun s hv => ?_)
 ·
  refine Ev.step (fun k => by rw [spec_l03Seam.l0]) (Ev.pos (by omega) ?_)
  refine inv_cps0 i (fun k s j => spec_l03Seam.l1 k l s (i : Int) j) M (fun j b => Best M l i b ∧ ∀ y, y < j → sq (l.getD i z34) (l.getD y z34) ≤ b) s ⟨hv, fun y hy => by omega⟩ (fun t j hj hw hq => ?_) (fun t hw => ?_)
  ·
   have hi1 : l.getD i z34 ∈ l := by rw [getC hi]; exact List.getElem_mem hi
   have hj1 : l.getD j z34 ∈ l := by rw [getC (by omega)]; exact List.getElem_mem (by omega)
   refine Ev.step (fun k => by rw [spec_l03Seam.l1]) (Ev.pos (by omega) (Ev.pos (by omega) (Ev.pos (by omega) (Ev.pos (by omega) (Ev.pos (by omega) ?_)))))
   rw [rdC' l i, rdC' l j, wsq (hs _ hi1) (hs _ hj1), w64 (x := (j : Int) + 1) (by omega) (by omega)]
   refine Ev.nobind (specMax _ _) (hq _ ?_)
   have hM := h1 _ hi1 _ hj1
   refine ⟨⟨by have := hw.1.1; omega, by have := hw.1.2.1; omega, fun x y hx hy => by have := hw.1.2.2 x y hx hy; omega⟩, fun y hy => ?_⟩
   by_cases e : y = j
   ·
    rw [e]; omega
   ·
    have := hw.2 y (by omega); omega
  ·
   refine Ev.step (fun k => by rw [spec_l03Seam.l1]) (Ev.neg (by omega) ?_)
   rw [w64 (x := (i : Int) + 1) (by omega) (by omega)]
   refine hr t ⟨hw.1.1, hw.1.2.1, fun x y hx hy => ?_⟩
   by_cases e : x = i
   ·
    rw [e]; exact hw.2 y (by omega)
   ·
    exact hw.1.2.2 x y (by omega) hy
 ·
  refine Ev.step (fun k => by rw [spec_l03Seam.l0]) (Ev.neg (by omega) (Ev.fin ?_))
  rcases h2 with h2 | ⟨e, he, f, hf, hne, h2⟩
  ·
   have := hv.1; have := hv.2.1; omega
  ·
   obtain ⟨a, ha, rfl⟩ := List.getElem_of_mem he
   obtain ⟨b, hb, rfl⟩ := List.getElem_of_mem hf
   have hv2 := hv.2.1
   by_cases c : b < a
   ·
    have := hv.2.2 a b ha c
    rw [getC ha, getC hb] at this; omega
   ·
    by_cases d : a < b
    ·
     have := hv.2.2 b a hb d
     rw [getC ha, getC hb, sq_symm] at this; omega
    ·
     have : a = b := by omega
     subst this; exact absurd rfl hne
theorem specSeam {p q u v : S34} (hp : Sm p) (hq : Sm q) (hu : Sm u) (hv : Sm v) (hpq : key p ≠ key q) : Ev (fun k => spec_l03Seam.f k p.f0 p.f1 q.f0 q.f1 u.f0 u.f1 v.f0 v.f1) (has p q u v) := by
 have core : cr p q u = 0 → cr p q v = 0 → Ev (fun k => spec_l03Seam.l0 k (ends p q u v) 0 0) (com p q u v) := by
  intro c d
  obtain ⟨m0, m1, m2⟩ := com_is hp hq hu hv hpq c d
  refine maxLoop (ends p q u v) ?_ (fun x hx => ?_) (com p q u v) m0 m1 m2
  ·
   have e1 := endAt_len [] p u v
   have e2 := endAt_len (endAt [] p u v) q u v
   have e3 := endAt_len (endAt (endAt [] p u v) q u v) u p q
   have e4 := endAt_len (endAt (endAt (endAt [] p u v) q u v) u p q) v p q
   unfold ends
   have e0 : ([] : List S34).length = 0 := rfl
   omega
  ·
   rw [mem_ends] at hx
   rcases hx with ⟨rfl, _⟩ | ⟨rfl, _⟩ | ⟨rfl, _⟩ | ⟨rfl, _⟩ <;> assumption
 unfold spec_l03Seam.f has
 refine Ev.nobind (specSide p q u) ?_
 rw [sd_cr hp hq hu]
 refine Ev.ite (fun c => ?_) (fun c => ?_)
 ·
  rw [if_pos c]
  refine Ev.nobind (specSide p q v) ?_
  rw [sd_cr hp hq hv]
  by_cases d : cr p q v = 0
  ·
   rw [if_pos d, show (cr p q v != 0) = false from by rw [d]; rfl]
   have hc := core c d
   unfold ends at hc
   have e1 := endAt_len [] p u v
   have e2 := endAt_len (endAt [] p u v) q u v
   have e3 := endAt_len (endAt (endAt [] p u v) q u v) u p q
   have e0 : ([] : List S34).length = 0 := rfl
   have s4 : ∀ l : List S34, l.length ≤ 3 → l = endAt (endAt (endAt [] p u v) q u v) u p q → Ev (fun k => spec_l03Seam.j3 k l p.f0 p.f1 q.f0 q.f1 v.f0 v.f1) (com p q u v) := by
    intro l hl e
    rw [← e] at hc
    refine Ev.step (fun k => by rw [spec_l03Seam.j3]) (Ev.nobind (specBetween hv hp hq) ?_)
    unfold endAt at hc
    by_cases b : Box v p q
    ·
     rw [if_pos b] at hc
     refine Ev.pos (decide_eq_true b) (Ev.pos (by omega) (Ev.step (fun k => by rw [spec_l03Seam.j4]) hc))
    ·
     rw [if_neg b] at hc
     exact Ev.neg (by rw [decide_eq_false b]; decide) (Ev.step (fun k => by rw [spec_l03Seam.j4]) hc)
   have s3 : ∀ l : List S34, l.length ≤ 2 → l = endAt (endAt [] p u v) q u v → Ev (fun k => spec_l03Seam.j2 k l p.f0 p.f1 q.f0 q.f1 u.f0 u.f1 v.f0 v.f1) (com p q u v) := by
    intro l hl e
    refine Ev.step (fun k => by rw [spec_l03Seam.j2]) (Ev.nobind (specBetween hu hp hq) ?_)
    rw [← e] at s4
    unfold endAt at s4
    by_cases b : Box u p q
    ·
     refine Ev.pos (decide_eq_true b) (Ev.pos (by omega) (s4 _ (by simp; omega) (by rw [if_pos b])))
    ·
     exact Ev.neg (by rw [decide_eq_false b]; decide) (s4 _ (by omega) (by rw [if_neg b]))
   have s2 : ∀ l : List S34, l.length ≤ 1 → l = endAt [] p u v → Ev (fun k => spec_l03Seam.j1 k l p.f0 p.f1 q.f0 q.f1 u.f0 u.f1 v.f0 v.f1) (com p q u v) := by
    intro l hl e
    refine Ev.step (fun k => by rw [spec_l03Seam.j1]) (Ev.nobind (specBetween hq hu hv) ?_)
    rw [← e] at s3
    unfold endAt at s3
    by_cases b : Box q u v
    ·
     refine Ev.pos (decide_eq_true b) (Ev.pos (by omega) (s3 _ (by simp; omega) (by rw [if_pos b])))
    ·
     exact Ev.neg (by rw [decide_eq_false b]; decide) (s3 _ (by omega) (by rw [if_neg b]))
   refine Ev.step (fun k => by rw [spec_l03Seam.j0]) (Ev.neg (by decide) (Ev.nobind (a := []) rfl (Ev.nobind (specBetween hp hu hv) ?_)))
   unfold endAt at s2
   by_cases b : Box p u v
   ·
    refine Ev.pos (decide_eq_true b) (Ev.pos (by simp) (s2 _ (by simp) (by rw [if_pos b])))
   ·
    exact Ev.neg (by rw [decide_eq_false b]; decide) (s2 _ (by simp) (by rw [if_neg b]))
  ·
   rw [if_neg d, show (cr p q v != 0) = true from by simpa using d]
   refine Ev.step (fun k => by rw [spec_l03Seam.j0]) ?_
   exact Ev.pos rfl (Ev.fin rfl)
 ·
  rw [if_neg c]
  refine Ev.step (fun k => by rw [spec_l03Seam.j0]) ?_
  exact Ev.pos rfl (Ev.fin rfl)
theorem ok_sm {l : List S34} (h : okS l = true) : ∀ x ∈ l, Sm x := by
 intro x hx
 unfold okS at h
 rw [Bool.and_eq_true, Bool.and_eq_true, List.all_eq_true] at h
 have := h.1.2 x hx
 unfold placed at this
 rw [Bool.and_eq_true, inB_iff, inB_iff] at this
 exact this
theorem at_sm {l : List S34} (h : okS l = true) {i : Nat} (hi : i < l.length) : Sm (l.getD i z34) := by
 rw [getC hi]; exact ok_sm h _ (List.getElem_mem hi)
theorem ok_key {l : List S34} (h : okS l = true) {i : Nat} (hi : i < l.length) : key (l.getD i z34) ≠ key (l.getD ((i + 1) % l.length) z34) := by
 have hn := nx_lt l i hi
 have hl := okS_len h
 have s1 := at_sm h hi
 have s2 := at_sm h hn
 intro e
 have e2 := key_inj s1 s2 e
 obtain ⟨j, hj, j1, j2⟩ : ∃ j, j < l.length ∧ j ≠ i ∧ j ≠ (i + 1) % l.length := by
  by_cases a : 0 ≠ i ∧ 0 ≠ (i + 1) % l.length
  ·
   exact ⟨0, by omega, a.1, a.2⟩
  ·
   by_cases b : 1 ≠ i ∧ 1 ≠ (i + 1) % l.length
   ·
    exact ⟨1, by omega, b.1, b.2⟩
   ·
    exact ⟨2, by omega, by omega, by omega⟩
 have hc : convB l = true := by
  unfold okS at h
  rw [Bool.and_eq_true] at h; exact h.2
 unfold convB at hc
 rw [List.all_eq_true] at hc
 have hc1 := hc i (by simpa using hi)
 rw [List.all_eq_true] at hc1
 have hc2 := hc1 j (by simpa using hj)
 unfold cvx at hc2
 rw [decide_eq_false j1, decide_eq_false j2, Bool.false_or, Bool.false_or, decide_eq_true_eq] at hc2
 unfold at_ at hc2
 rw [← e2, sd_cr s1 s1 (at_sm h hj)] at hc2
 unfold cr at hc2
 simp at hc2
end Go.Proofs.Ytmglnofmmgokkaa.SeamKit
namespace Go.Proofs.Ytmglnofmmgokkaa.WhereKit
set_option linter.unusedSimpArgs false
set_option linter.unusedVariables false
open Go.RowKit PA Base StonesKit YtmglnofmmgokkaaW.PrintWords YtmglnofmmgokkaaW.PrintLast YtmglnofmmgokkaaW.PrintMore
def whF (l : List S34) (p : S34) (i : Int) (c : S34) (s : Int) : Int ⊕ Int :=
 if sd c (at_ l ((i.toNat + 1) % l.length)) p < 0 then .inl 0 else if sd c (at_ l ((i.toNat + 1) % l.length)) p = 0 then .inr 1 else .inr s
def wh (l : List S34) (p : S34) : Int := scanG (whF l p) id l 0 2
theorem implWh (l : List S34) (p : S34) (hl : l.length ≤ 1048576) : Ev (fun k => impl_Stone_where.f k l p.f0 p.f1) (wh l p) := by
 unfold impl_Stone_where.f wh
 refine scan_ev0 l (whF l p) id (fun k s i => impl_Stone_where.l0 k l s l (l.length : Int) i p.f0 p.f1) (fun _ _ => True) 2 trivial (fun _ _ _ _ _ _ => trivial) (fun s i h r _ h1 h2 => ?_) (fun s _ => ?_)
 ·
  have hn := nx_lt l i h
  have ht := tm i l.length h hl
  have ha := w64 (x := (i : Int) + 1) (by omega) (by omega)
  refine Ev.step (fun k => by rw [impl_Stone_where.l0]) (Ev.pos (by omega) (Ev.pos (by omega) (Ev.pos (by omega) (Ev.neg (by omega) ?_))))
  rw [ht]
  refine Ev.pos (by omega) (Ev.pos (by omega) ?_)
  rw [rdC l i h, rdC', ha]
  refine Ev.nobind (implSide l[i] (l.getD ((i + 1) % l.length) z34) p) ?_
  unfold whF at_ at h1 h2
  rw [Int.toNat_natCast] at h1 h2
  refine Ev.ite (fun e => Ev.fin (h1 0 (by rw [if_pos e]))) (fun e => Ev.ite (fun e2 => ?_) (fun e2 => ?_))
  ·
   exact h2 1 (by rw [if_neg e, if_pos e2]) trivial
  ·
   exact h2 s (by rw [if_neg e, if_neg e2]) trivial
 ·
  refine Ev.step (fun k => by rw [impl_Stone_where.l0]) ?_
  exact Ev.neg (by omega) (Ev.fin rfl)
end Go.Proofs.Ytmglnofmmgokkaa.WhereKit
namespace Go.Proofs.Ytmglnofmmgokkaa.StonesKit
set_option linter.unusedSimpArgs false
set_option linter.unusedVariables false
open Go.RowKit PA Base YtmglnofmmgokkaaW.PrintWords YtmglnofmmgokkaaW.PrintLast YtmglnofmmgokkaaW.PrintMore
theorem codeOf (a b : Bool) : impl_codeOf.f a b = some (if a then (if b then 0 else 2) else 1) := by
 cases a <;> cases b <;> rfl
end Go.Proofs.Ytmglnofmmgokkaa.StonesKit
namespace Go.Proofs.Ytmglnofmmgokkaa.GenKit
set_option linter.unusedSimpArgs false
set_option linter.unusedVariables false
open Go.RowKit PA Base StonesKit YtmglnofmmgokkaaW.PrintWords YtmglnofmmgokkaaW.PrintLast YtmglnofmmgokkaaW.PrintMore
theorem bits255 (x : Int) : 0 ≤ Go.bits .and .u64 x 255 ∧ Go.bits .and .u64 x 255 ≤ 255 := by
 have h : ((BitVec.ofInt (IntKind.u64.bits) x) &&& (BitVec.ofInt (IntKind.u64.bits) 255)).toNat ≤ 255 := by
  rw [BitVec.toNat_and]
  exact Nat.le_trans Nat.and_le_right (by decide)
 unfold Go.bits
 simp only []
 rw [IntKind.wrap_u64]
 omega
def U8 (l : List Int) : Prop := ∀ x ∈ l, 0 ≤ x ∧ x ≤ 255
theorem rd_u8 {l : List Int} (h : U8 l) (i : Int) : 0 ≤ rd l i ∧ rd l i ≤ 255 := by
 unfold rd
 rw [List.getD_eq_getElem?_getD]
 cases e : l[i.toNat]? with
 | none => simp
 | some x => exact h x (List.mem_of_getElem? e)
theorem next_ok {l : List Int} (h : U8 l) {p : Int} (t : Int) (h0 : 0 ≤ p) (h1 : p ≤ 4611686018427387904) : ∃ v t', spec_l00Src_next.f l p t = some (v, p + 1, t') ∧ 0 ≤ v ∧ v ≤ 255 := by
 have hw := w64 (x := p + 1) (by omega) (by omega)
 unfold spec_l00Src_next.f
 rw [hw]
 have hr := rd_u8 h p
 have hwr := w64 (x := rd l p) (by omega) (by omega)
 by_cases c : p < (l.length : Int)
 ·
  rw [if_pos c, if_pos h0, if_pos (by omega)]
  exact ⟨_, _, rfl, by rw [hwr]; omega, by rw [hwr]; omega⟩
 ·
  rw [if_neg c]
  by_cases d : p + 1 ≤ (l.length : Int)
  ·
   rw [if_pos d]; exact ⟨_, _, rfl, by omega, by omega⟩
  ·
   rw [if_neg d]
   have hb := bits255 ((IntKind.u64.wrap ((IntKind.u64.wrap (IntKind.u64.wrap (t * 6364136223846793005))) + 1442695040888963407)) / 1099511627776)
   refine ⟨_, _, rfl, ?_, ?_⟩
   ·
    rw [w64 (by omega) (by omega)]; omega
   ·
    rw [w64 (by omega) (by omega)]; omega
theorem pick_ok {l : List Int} (h : U8 l) {p : Int} (t : Int) (h0 : 0 ≤ p) (h1 : p ≤ 4611686018427387904) {n : Int} (hn : 1 ≤ n) (hn2 : n ≤ 200) : ∃ v p' t', spec_l00Src_pick.f l p t n = some (v, p', t') ∧ 0 ≤ v ∧ v < n ∧ p ≤ p' ∧ p' ≤ p + 1 := by
 unfold spec_l00Src_pick.f
 by_cases c : n ≤ 1
 ·
  rw [if_pos c]; exact ⟨_, _, _, rfl, by omega, by omega, by omega, by omega⟩
 ·
  rw [if_neg c]
  obtain ⟨v, t', e, e1, e2⟩ := next_ok h t h0 h1
  rw [e, Option.bind_some, if_neg (by show ¬ n > 200; omega), if_neg (by omega : ¬ n = 0)]
  refine ⟨_, _, _, rfl, ?_, ?_, by show p ≤ p + 1; omega, by show p + 1 ≤ p + 1; omega⟩
  ·
   exact Int.tmod_nonneg _ e1
  ·
   exact Int.tmod_lt_of_pos _ (by omega)
theorem near_ok {l : List Int} (h : U8 l) {p : Int} (t : Int) (h0 : 0 ≤ p) (h1 : p ≤ 4611686018427380000) {x : Int} (hx : 0 ≤ x ∧ x ≤ 100) : ∃ a b p' t', spec_l03Near.f l p t x 0 9 = some (a, b, p', t') ∧ (x ≤ a ∧ a ≤ x + 8) ∧ (0 ≤ b ∧ b ≤ 8) ∧ p ≤ p' ∧ p' ≤ p + 2 := by
 obtain ⟨v, p1, t1, e, a1, a2, a3, a4⟩ := pick_ok h t h0 (by omega) (n := 9) (by omega) (by omega)
 obtain ⟨u, p2, t2, e', b1, b2, b3, b4⟩ := pick_ok h t1 (by omega : 0 ≤ p1) (by omega) (n := 9) (by omega) (by omega)
 unfold spec_l03Near.f
 rw [e, Option.bind_some]
 simp only []
 rw [e', Option.bind_some]
 refine ⟨_, _, _, _, rfl, ?_, ?_, by show p ≤ p2; omega, by show p2 ≤ p + 2; omega⟩
 ·
  show x ≤ IntKind.i16.wrap (wrap64 (x + v)) ∧ IntKind.i16.wrap (wrap64 (x + v)) ≤ x + 8
  rw [w64 (by omega) (by omega), w16 (by omega) (by omega)]; omega
 ·
  show 0 ≤ IntKind.i16.wrap (wrap64 (0 + u)) ∧ IntKind.i16.wrap (wrap64 (0 + u)) ≤ 8
  rw [w64 (by omega) (by omega), w16 (by omega) (by omega)]; omega
end Go.Proofs.Ytmglnofmmgokkaa.GenKit
namespace Go.Proofs.Ytmglnofmmgokkaa.HullSpec
set_option linter.unusedSimpArgs false
set_option linter.unusedVariables false
open Go.RowKit PA Base StonesKit Geo SeamKit HullWrap YtmglnofmmgokkaaW.PrintWords YtmglnofmmgokkaaW.PrintLast YtmglnofmmgokkaaW.PrintMore
theorem placed_sm {c : S34} : placed c = true ↔ Sm c := by
 unfold placed Sm
 rw [Bool.and_eq_true, inB_iff, inB_iff]
theorem specLess (a b : S34) : spec_l03Before.f a.f0 a.f1 b.f0 b.f1 = some (lt a b) := by
 unfold spec_l03Before.f lt
 by_cases h1 : a.f0 < b.f0
 ·
  rw [if_pos h1, decide_eq_true h1, Bool.true_or]
 ·
  rw [if_neg h1, decide_eq_false h1, Bool.false_or]
  by_cases h2 : a.f0 = b.f0
  ·
   rw [if_pos h2, decide_eq_true h2, Bool.true_and]
  ·
   rw [if_neg h2, decide_eq_false h2, Bool.false_and]
theorem beq_c (a b : S34) : ((a.f0 == b.f0 && (a.f1 == b.f1)) = true) ↔ a = b := by
 rw [Bool.and_eq_true, beq_iff_eq, beq_iff_eq]
 exact ⟨fun h => HullGeo.ext h.1 h.2, fun h => h ▸ ⟨rfl, rfl⟩⟩
def endR (vs : List S34) : List S34 × Int := if vs.length < 3 then ([], 4) else if vs.length > 8 then ([], 3) else (vs, 0)
def hullRes (l : List S34) : List S34 × Int := if l.length > 100 then ([], 2) else if l.all placed = true then (if l = [] then ([], 4) else endR (round l)) else ([], 2)
theorem scan3 {l out : List S34} {f now : S34} (hl : l.length ≤ 100) (hS : ∀ c ∈ l, Sm c) (hn : Sm now) (r : List S34 × Int)
  (h : Ev (fun k => spec_HullOf.l3 k l out (l.length : Int) f.f0 f.f1 now.f0 now.f1 (nxt l now).f0 (nxt l now).f1) r) : Ev (fun k => spec_HullOf.l3 k l out 0 f.f0 f.f1 now.f0 now.f1 now.f0 now.f1) r := by
 refine fold_cps0 l (fun c n => upd now c n) (fun k (n : S34) i => spec_HullOf.l3 k l out i f.f0 f.f1 now.f0 now.f1 n.f0 n.f1) r (fun _ n => Sm n) now hn (fun n i hi hv => ?_) (fun n i hi hv hr => ?_) (fun _ => h)
 ·
  show Sm (upd now l[i] n)
  unfold upd
  split
  ·
   exact hv
  ·
   split
   ·
    exact hS _ (List.getElem_mem hi)
   ·
    exact hv
 ·
  have hc := hS _ (List.getElem_mem hi)
  have hr : Ev (fun k => spec_HullOf.l3 k l out ((i + 1 : Nat) : Int) f.f0 f.f1 now.f0 now.f1 (upd now l[i] n).f0 (upd now l[i] n).f1) r := hr
  refine Ev.step (fun k => by rw [spec_HullOf.l3]) (Ev.pos (by omega) (Ev.pos (by omega) ?_))
  rw [rdC l i hi, w64 (x := (i : Int) + 1) (by omega) (by omega)]
  unfold upd at hr
  refine Ev.ite (fun e => ?_) (fun e => ?_)
  ·
   rw [if_pos ((beq_c _ _).1 e)] at hr; exact hr
  ·
   have e' : ¬ l[i] = now := fun g => e ((beq_c _ _).2 g)
   rw [if_neg e'] at hr
   refine Ev.nobind (specSide now n l[i]) (Ev.ite (fun q => ?_) (fun q => ?_))
   ·
    rw [if_pos (show better now n l[i] from Or.inl ((beq_c _ _).1 q))] at hr; exact hr
   ·
    have q' : ¬ n = now := fun g => q ((beq_c _ _).2 g)
    rw [sd_cr hn hv hc]
    refine Ev.ite (fun z => ?_) (fun z => ?_)
    ·
     rw [if_pos (show better now n l[i] from Or.inr (Or.inl z))] at hr; exact hr
    ·
     refine Ev.ite (fun y => ?_) (fun y => ?_)
     ·
      refine Ev.nobind (specBetween hv hn hc) (Ev.ite (fun x => ?_) (fun x => ?_))
      ·
       rw [if_pos (show better now n l[i] from Or.inr (Or.inr ⟨y, of_decide_eq_true x⟩))] at hr; exact hr
      ·
       rw [if_neg (fun (g : better now n l[i]) => by
        rcases g with g | g | g
        ·
         exact q' g
        ·
         exact z g
        ·
         exact x (decide_eq_true g.2))] at hr
       exact hr
     ·
      rw [if_neg (fun (g : better now n l[i]) => by
       rcases g with g | g | g
       ·
        exact q' g
       ·
        exact z g
       ·
        exact y g.1)] at hr
      exact hr
theorem wrap2 {l : List S34} {f : S34} (hl : l.length ≤ 100) (hS : ∀ c ∈ l, Sm c) (hf : f ∈ l) (hk : ∀ c ∈ l, c = f ∨ key f < key c) : ∀ (d : Nat) (now : S34) (out : List S34), out.length + d = l.length → Pth l f (out ++ [now]) → Ev (fun k => spec_HullOf.l2 k l out f.f0 f.f1 now.f0 now.f1) (endR (wrapL l f d now out))
 | 0, now, out, h, hp => by
  have := nodup_le hp.nd hp.mem
  rw [List.length_append, List.length_singleton] at this
  omega
 | d + 1, now, out, h, hp => by
  have hnow : now ∈ l := hp.mem _ (List.mem_append_right _ List.mem_cons_self)
  obtain ⟨a, b, hs⟩ := side_at hS hk hp out.length (by simp)
  rw [at_snoc] at hs
  have hlast : HullWrap.at_ (out ++ [now]) ((out ++ [now]).length - 1) = now := by
   rw [List.length_append, List.length_singleton, Nat.add_sub_cancel, at_snoc]
  refine Ev.step (fun k => by rw [spec_HullOf.l2]) (Ev.pos (by omega) ?_)
  rw [show (⟨now.f0, now.f1⟩ : S34) = now from rfl]
  refine scan3 hl hS (hS _ hnow) _ ?_
  refine Ev.step (fun k => by rw [spec_HullOf.l3]) (Ev.neg (by omega) ?_)
  have hlen : ((out ++ [now]).length : Int) = (out.length : Int) + 1 := by rw [List.length_append, List.length_singleton]; omega
  rw [wrapL]
  refine Ev.ite (fun e => ?_) (fun e => ?_)
  ·
   have e' := (beq_c _ _).1 e
   rw [if_pos e']
   unfold endR
   refine Ev.ite (fun q => ?_) (fun q => ?_)
   ·
    rw [if_pos (show (out ++ [now]).length < 3 by omega)]; exact Ev.fin rfl
   ·
    rw [if_neg (show ¬ (out ++ [now]).length < 3 by omega)]
    refine Ev.ite (fun z => ?_) (fun z => ?_)
    ·
     rw [if_pos (show (out ++ [now]).length > 8 by omega)]; exact Ev.fin rfl
    ·
     rw [if_neg (show ¬ (out ++ [now]).length > 8 by omega)]; exact Ev.fin rfl
  ·
   have e' : ¬ nxt l now = f := fun g => e ((beq_c _ _).2 g)
   rw [if_neg e']
   rcases nxt_is hs with q | q
   ·
    exfalso
    have := q.2 f hf
    exact e' (q.1.trans this.symm)
   ·
    exact wrap2 hl hS hf hk d _ _ (by rw [List.length_append, List.length_singleton]; omega) (path_snoc hp (by rw [hlast]; exact q) e')
theorem specHull {l : List S34} (hf : Fit l) : Ev (fun k => spec_HullOf.f k l) (hullRes l) := by
 unfold spec_HullOf.f hullRes
 refine Ev.ite (fun e => ?_) (fun e => ?_)
 ·
  rw [if_pos (by omega)]; exact Ev.fin rfl
 ·
  rw [if_neg (by omega)]
  have hl : l.length ≤ 100 := by omega
  rw [← all_range l z34 placed]
  refine rangeAll_ev0 (fun k i => spec_HullOf.l0 k l i) l.length (fun i => placed (l.getD i z34)) _ _ ?_ ?_ ?_
  ·
   intro i hi hp r' hr
   refine Ev.step (fun k => by rw [spec_HullOf.l0]) (Ev.pos (by omega) (Ev.pos (by omega) ?_))
   rw [rdC l i hi, w64 (x := (i : Int) + 1) (by omega) (by omega)]
   refine Ev.nobind (specCorner (hf _ (List.getElem_mem hi))) (Ev.pos ?_ hr)
   simpa [List.getD_eq_getElem?_getD, hi] using hp
  ·
   intro i hi hp
   refine Ev.step (fun k => by rw [spec_HullOf.l0]) (Ev.pos (by omega) (Ev.pos (by omega) ?_))
   rw [rdC l i hi]
   refine Ev.nobind (specCorner (hf _ (List.getElem_mem hi))) (Ev.neg ?_ (Ev.fin rfl))
   have : placed l[i] = false := by simpa [List.getD_eq_getElem?_getD, hi] using hp
   rw [this]; decide
  ·
   intro hall
   rw [all_range l z34 placed, List.all_eq_true] at hall
   have hS : ∀ c ∈ l, Sm c := fun c hc => placed_sm.1 (hall c hc)
   refine Ev.step (fun k => by rw [spec_HullOf.l0]) (Ev.neg (by omega) (Ev.ite (fun z => ?_) (fun z => ?_)))
   ·
    rw [if_pos (List.eq_nil_of_length_eq_zero (by omega))]; exact Ev.fin rfl
   ·
    have hne : l ≠ [] := fun g => z (by rw [g]; rfl)
    rw [if_neg hne]
    refine Ev.pos (by omega) ?_
    have h0 : 0 < l.length := by omega
    have r0 : rd_T34 l 0 = l[0] := rdC l 0 h0
    rw [r0]
    obtain ⟨x, t, ht⟩ : ∃ x t, l = x :: t := by
     cases l with
     | nil => exact absurd rfl hne
     | cons x t => exact ⟨x, t, rfl⟩
    have hx : l[0] = x := by simp [ht]
    have key1 : Ev (fun k => spec_HullOf.l1 k l ((1 : Nat) : Int) l[0].f0 l[0].f1) (endR (round l)) := by
     refine fold_cps l (fun c m => if lt c m = true then c else m) (fun k (m : S34) i => spec_HullOf.l1 k l i m.f0 m.f1) _ (fun _ _ => True) (fun _ _ _ _ => trivial) (fun m i hi _ hr => ?_) (l.length - 1) 1 l[0] (by omega) trivial (fun _ => ?_)
     ·
      have hr : Ev (fun k => spec_HullOf.l1 k l ((i + 1 : Nat) : Int) (if lt l[i] m = true then l[i] else m).f0 (if lt l[i] m = true then l[i] else m).f1) (endR (round l)) := hr
      refine Ev.step (fun k => by rw [spec_HullOf.l1]) (Ev.pos (by omega) (Ev.pos (by omega) ?_))
      rw [rdC l i hi, w64 (x := (i : Int) + 1) (by omega) (by omega)]
      refine Ev.nobind (specLess _ _) (Ev.ite (fun q => ?_) (fun q => ?_))
      ·
       rw [if_pos q] at hr; exact hr
      ·
       rw [if_neg q] at hr; exact hr
     ·
      have hfi : (l.drop 1).foldl (fun m c => if lt c m = true then c else m) l[0] = first l := by
       rw [hx, ht]; rfl
      obtain ⟨h1, h2⟩ := first_is hS hne
      show Ev (fun k => spec_HullOf.l1 k l (l.length : Int) ((l.drop 1).foldl (fun m c => if lt c m = true then c else m) l[0]).f0 ((l.drop 1).foldl (fun m c => if lt c m = true then c else m) l[0]).f1) _
      rw [hfi]
      refine Ev.step (fun k => by rw [spec_HullOf.l1]) (Ev.neg (by omega) ?_)
      refine wrap2 hl hS h1 h2 l.length (first l) [] (by simp) ⟨by simp, rfl, by simp, fun y hy => ?_, fun i hi => ?_⟩
      ·
       rw [List.nil_append, List.mem_singleton] at hy
       rw [hy]; exact h1
      ·
       simp at hi
    exact key1
/-- What is told as a hull is a stone. -/
theorem hull_ok {l vs : List S34} (h : hullRes l = (vs, 0)) : okS vs = true ∧ vs.length ≤ l.length ∧ (∀ x ∈ vs, x ∈ l) ∧ Hul l (first l) vs ∧ (∀ c ∈ l, Sm c) := by
 unfold hullRes at h
 split at h
 ·
  simp at h
 ·
  split at h
  ·
   rename_i h1 h2
   have hS : ∀ c ∈ l, Sm c := fun c hc => placed_sm.1 (List.all_eq_true.1 h2 c hc)
   split at h
   ·
    simp at h
   ·
    rename_i hne
    unfold endR at h
    split at h
    ·
     simp at h
    ·
     split at h
     ·
      simp at h
     ·
      rename_i h3 h4
      simp only [Prod.mk.injEq, and_true] at h
      have hm : ∃ c ∈ l, c ≠ first l := by
       by_cases c : ∃ c ∈ l, c ≠ first l
       ·
        exact c
       ·
        rw [round_one hS hne c] at h3; simp at h3
      have hh := round_is hS hne hm
      rw [h] at hh h3 h4
      refine ⟨?_, nodup_le hh.path.nd hh.path.mem, hh.path.mem, hh, hS⟩
      unfold okS
      rw [Bool.and_eq_true, Bool.and_eq_true, inB_iff]
      refine ⟨⟨by omega, ?_⟩, ?_⟩
      ·
       rw [List.all_eq_true]
       exact fun c hc => placed_sm.2 (hS c (hh.path.mem c hc))
      ·
       unfold convB
       rw [List.all_eq_true]
       intro i hi
       rw [List.all_eq_true]
       intro j hj
       rw [List.mem_range] at hi hj
       unfold cvx
       rw [Bool.or_eq_true, Bool.or_eq_true, decide_eq_true_eq, decide_eq_true_eq, decide_eq_true_eq]
       by_cases e1 : j = i
       ·
        exact Or.inl (Or.inl e1)
       ·
        by_cases e2 : j = (i + 1) % vs.length
        ·
         exact Or.inl (Or.inr e2)
        ·
         right
         have hn : (i + 1) % vs.length < vs.length := Nat.mod_lt _ (by omega)
         have sm : ∀ {q : Nat}, q < vs.length → Sm (StonesKit.at_ vs q) := fun hq => hS _ (hh.path.mem _ (at_mem hq))
         rw [sd_cr (sm hi) (sm hn) (sm hj)]
         exact hh.convex hi hj e1 e2
  ·
   simp at h
end Go.Proofs.Ytmglnofmmgokkaa.HullSpec
namespace Go.Proofs.Ytmglnofmmgokkaa.DrawKit
set_option linter.unusedSimpArgs false
set_option linter.unusedVariables false
open Go.RowKit PA Base StonesKit Geo SeamKit GenKit HullSpec YtmglnofmmgokkaaW.PrintWords YtmglnofmmgokkaaW.PrintLast YtmglnofmmgokkaaW.PrintMore
theorem modn {a n : Nat} (h : a < 2 * n) : a % n = if a < n then a else a - n := by
 split
 ·
  rename_i c; exact Nat.mod_eq_of_lt c
 ·
  rename_i c; rw [Nat.mod_eq_sub_mod (by omega), Nat.mod_eq_of_lt (by omega)]
def rot (m : Nat) (l : List S34) : List S34 := l.drop m ++ l.take m
theorem rot_len {m : Nat} {l : List S34} (h : m ≤ l.length) : (rot m l).length = l.length := by
 unfold rot; rw [List.length_append, List.length_drop, List.length_take]; omega
theorem rot_mem {m : Nat} {l : List S34} {x : S34} : x ∈ rot m l ↔ x ∈ l := by
 unfold rot
 rw [List.mem_append, Or.comm, ← List.mem_append, List.take_append_drop]
theorem rot_at {m : Nat} {l : List S34} (h : m < l.length) {i : Nat} (hi : i < l.length) : at_ (rot m l) i = at_ l ((m + i) % l.length) := by
 unfold at_ rot
 rw [modn (by omega), List.getD_eq_getElem?_getD, List.getD_eq_getElem?_getD]
 by_cases c : m + i < l.length
 ·
  rw [if_pos c, List.getElem?_append_left (by rw [List.length_drop]; omega), List.getElem?_drop]
 ·
  rw [if_neg c, List.getElem?_append_right (by rw [List.length_drop]; omega), List.length_drop, List.getElem?_take, if_pos (by omega)]
  congr 2; omega
theorem rot_conv {m : Nat} {l : List S34} (h : m < l.length) (hc : convB l = true) : convB (rot m l) = true := by
 unfold convB at hc ⊢
 rw [rot_len (by omega)]
 rw [List.all_eq_true] at hc ⊢
 intro i hi
 rw [List.mem_range] at hi
 rw [List.all_eq_true]
 intro j hj
 rw [List.mem_range] at hj
 have hi2 : (m + i) % l.length < l.length := Nat.mod_lt _ (by omega)
 have hj2 : (m + j) % l.length < l.length := Nat.mod_lt _ (by omega)
 have hc1 := hc _ (List.mem_range.2 hi2)
 rw [List.all_eq_true] at hc1
 have hc2 := hc1 _ (List.mem_range.2 hj2)
 have e1 : (m + (i + 1) % l.length) % l.length = ((m + i) % l.length + 1) % l.length := by
  rw [Nat.add_mod_mod, Nat.mod_add_mod, Nat.add_assoc]
 unfold cvx at hc2 ⊢
 rw [rot_len (by omega), rot_at h hi, rot_at h (Nat.mod_lt _ (by omega)), rot_at h hj, e1]
 rw [Bool.or_eq_true, Bool.or_eq_true, decide_eq_true_eq, decide_eq_true_eq, decide_eq_true_eq] at hc2 ⊢
 rcases hc2 with (q | q) | q
 ·
  refine Or.inl (Or.inl ?_)
  rw [modn (by omega), modn (by omega)] at q
  split at q <;> split at q <;> omega
 ·
  refine Or.inl (Or.inr ?_)
  rw [modn (a := i + 1) (by omega)]
  have q2 : (m + j) % l.length = (m + (i + 1) % l.length) % l.length := by rw [e1]; exact q
  rw [modn (a := i + 1) (by omega)] at q2
  split at q2
  ·
   rw [if_pos (by omega)]
   rw [modn (by omega), modn (by omega)] at q2
   split at q2 <;> split at q2 <;> omega
  ·
   rw [if_neg (by omega)]
   rw [modn (by omega), modn (by omega)] at q2
   split at q2 <;> split at q2 <;> omega
 ·
  exact Or.inr q
theorem rot_ok {m : Nat} {l : List S34} (h : m < l.length) (ho : okS l = true) : okS (rot m l) = true := by
 unfold okS at ho ⊢
 rw [Bool.and_eq_true, Bool.and_eq_true] at ho ⊢
 obtain ⟨⟨h1, h2⟩, h3⟩ := ho
 rw [List.all_eq_true] at h2 ⊢
 refine ⟨⟨by rw [rot_len (by omega)]; exact h1, fun x hx => h2 x (rot_mem.1 hx)⟩, rot_conv h h3⟩
theorem rect_ok {x w h : Int} (hx : 0 ≤ x ∧ x ≤ 100) (hw : 1 ≤ w ∧ w ≤ 6) (hh : 1 ≤ h ∧ h ≤ 6) : okS [(⟨x, 0⟩ : S34), ⟨x + w, 0⟩, ⟨x + w, h⟩, ⟨x, h⟩] = true := by
 have hp : 0 < w * h := Int.mul_pos (by omega) (by omega)
 have s0 : Sm (⟨x, 0⟩ : S34) := by unfold Sm; simp only []; omega
 have s1 : Sm (⟨x + w, 0⟩ : S34) := by unfold Sm; simp only []; omega
 have s2 : Sm (⟨x + w, h⟩ : S34) := by unfold Sm; simp only []; omega
 have s3 : Sm (⟨x, h⟩ : S34) := by unfold Sm; simp only []; omega
 unfold okS
 rw [Bool.and_eq_true, Bool.and_eq_true]
 refine ⟨⟨show inB 4 3 8 = true by decide, ?_⟩, ?_⟩
 ·
  rw [List.all_eq_true]
  intro c hc
  rw [placed_sm]
  simp only [List.mem_cons, List.not_mem_nil, or_false] at hc
  rcases hc with rfl | rfl | rfl | rfl <;> assumption
 ·
  have c1 : 0 < sd (⟨x, 0⟩ : S34) ⟨x + w, 0⟩ ⟨x + w, h⟩ := by rw [sd_cr s0 s1 s2, show cr (⟨x, 0⟩ : S34) ⟨x + w, 0⟩ ⟨x + w, h⟩ = w * h by unfold cr; grind]; exact hp
  have c2 : 0 < sd (⟨x, 0⟩ : S34) ⟨x + w, 0⟩ ⟨x, h⟩ := by rw [sd_cr s0 s1 s3, show cr (⟨x, 0⟩ : S34) ⟨x + w, 0⟩ ⟨x, h⟩ = w * h by unfold cr; grind]; exact hp
  have c3 : 0 < sd (⟨x + w, 0⟩ : S34) ⟨x + w, h⟩ ⟨x, 0⟩ := by rw [sd_cr s1 s2 s0, show cr (⟨x + w, 0⟩ : S34) ⟨x + w, h⟩ ⟨x, 0⟩ = w * h by unfold cr; grind]; exact hp
  have c4 : 0 < sd (⟨x + w, 0⟩ : S34) ⟨x + w, h⟩ ⟨x, h⟩ := by rw [sd_cr s1 s2 s3, show cr (⟨x + w, 0⟩ : S34) ⟨x + w, h⟩ ⟨x, h⟩ = w * h by unfold cr; grind]; exact hp
  have c5 : 0 < sd (⟨x + w, h⟩ : S34) ⟨x, h⟩ ⟨x, 0⟩ := by rw [sd_cr s2 s3 s0, show cr (⟨x + w, h⟩ : S34) ⟨x, h⟩ ⟨x, 0⟩ = w * h by unfold cr; grind]; exact hp
  have c6 : 0 < sd (⟨x + w, h⟩ : S34) ⟨x, h⟩ ⟨x + w, 0⟩ := by rw [sd_cr s2 s3 s1, show cr (⟨x + w, h⟩ : S34) ⟨x, h⟩ ⟨x + w, 0⟩ = w * h by unfold cr; grind]; exact hp
  have c7 : 0 < sd (⟨x, h⟩ : S34) ⟨x, 0⟩ ⟨x + w, 0⟩ := by rw [sd_cr s3 s0 s1, show cr (⟨x, h⟩ : S34) ⟨x, 0⟩ ⟨x + w, 0⟩ = w * h by unfold cr; grind]; exact hp
  have c8 : 0 < sd (⟨x, h⟩ : S34) ⟨x, 0⟩ ⟨x + w, h⟩ := by rw [sd_cr s3 s0 s2, show cr (⟨x, h⟩ : S34) ⟨x, 0⟩ ⟨x + w, h⟩ = w * h by unfold cr; grind]; exact hp
  unfold convB
  rw [List.all_eq_true]
  intro i hi
  rw [List.all_eq_true]
  intro j hj
  rw [List.mem_range] at hi hj
  simp only [List.length_cons, List.length_nil] at hi hj
  have hi' : i = 0 ∨ i = 1 ∨ i = 2 ∨ i = 3 := by omega
  have hj' : j = 0 ∨ j = 1 ∨ j = 2 ∨ j = 3 := by omega
  unfold cvx at_
  rcases hi' with rfl | rfl | rfl | rfl <;> rcases hj' with rfl | rfl | rfl | rfl <;> simp [c1, c2, c3, c4, c5, c6, c7, c8]
def Near (x : Int) (l : List S34) : Prop := ∀ c ∈ l, (x ≤ c.f0 ∧ c.f0 ≤ x + 8) ∧ (0 ≤ c.f1 ∧ c.f1 ≤ 8)
structure Drawn (x : Int) (st : List S34) : Prop where
 ok : okS st = true
 len : st.length ≤ 6
 near : Near x st
theorem near_fit {x : Int} (hx : 0 ≤ x ∧ x ≤ 100) {l : List S34} (h : Near x l) : Fit l := by
 intro c hc
 have := h c hc
 omega
theorem drawn_end {l : List Int} (h : U8 l) {x : Int} (hx : 0 ≤ x ∧ x ≤ 100) {acc : List S34} (ha : acc.length ≤ 6) (hn : Near x acc) {p : Int} (t : Int) (h0 : 0 ≤ p) (h1 : p ≤ 4611686018427000000) :
  ∃ st p' t', Ev (fun k => spec_l03Drawn.l0 k x 0 acc 0 l p t) (st, p', t') ∧ Drawn x st ∧ p ≤ p' ∧ p' ≤ p + 3 := by
 have hh := specHull (near_fit hx hn)
 rcases e : hullRes acc with ⟨vs, q⟩
 rw [e] at hh
 by_cases c : q = 0
 ·
  subst c
  obtain ⟨o1, o2, o3, _, _⟩ := hull_ok e
  have hl := okS_len o1
  obtain ⟨v, p', t', e1, v0, v1, p0, p1⟩ := pick_ok h t h0 (by omega) (n := (vs.length : Int)) (by omega) (by omega)
  have hv : v.toNat < vs.length := by omega
  refine ⟨rot v.toNat vs, p', t', ?_, ⟨rot_ok hv o1, by rw [rot_len (by omega)]; omega, fun y hy => hn y (o3 y (rot_mem.1 hy))⟩, p0, by omega⟩
  refine Ev.step (fun k => by rw [spec_l03Drawn.l0]) (Ev.neg (by omega) (Ev.bind hh (Ev.pos rfl (Ev.nobind e1 ?_))))
  refine Ev.nobind rfl (Ev.pos v0 (Ev.pos (by show v ≤ (vs.length : Int); omega) (Ev.nobind rfl (Ev.pos ?_ (Ev.nobind rfl (Ev.nobind rfl (Ev.pos ?_ (Ev.fin rfl))))))))
  ·
   show ([] : List S34).length + (vs.drop v.toNat).length < 35184372088832
   rw [List.length_drop, List.length_nil]; omega
  ·
   show (([] : List S34) ++ vs.drop v.toNat).length + (vs.take v.toNat).length < 35184372088832
   rw [List.nil_append, List.length_drop, List.length_take]; omega
 ·
  obtain ⟨v, p1, t1, e1, v0, v1, a0, a1⟩ := pick_ok h t h0 (by omega) (n := 6) (by omega) (by omega)
  obtain ⟨u, p2, t2, e2, u0, u1, b0, b1⟩ := pick_ok h t1 (by omega : 0 ≤ p1) (by omega) (n := 6) (by omega) (by omega)
  refine ⟨[(⟨x, 0⟩ : S34), ⟨x + (1 + v), 0⟩, ⟨x + (1 + v), 1 + u⟩, ⟨x, 1 + u⟩], p2, t2, ?_, ⟨rect_ok hx (by omega) (by omega), by simp, ?_⟩, by omega, by omega⟩
  ·
   refine Ev.step (fun k => by rw [spec_l03Drawn.l0]) (Ev.neg (by omega) (Ev.bind hh (Ev.neg c (Ev.nobind e1 ?_))))
   refine Ev.nobind e2 ?_
   refine Ev.fin ?_
   simp only []
   rw [w64 (x := 1 + v) (by omega) (by omega), w64 (x := 1 + u) (by omega) (by omega), w64 (x := x + (1 + v)) (by omega) (by omega), w64 (x := 0 + (1 + u)) (by omega) (by omega),
    w16 (x := x) (by omega) (by omega), w16 (x := 0) (by omega) (by omega), w16 (x := x + (1 + v)) (by omega) (by omega), w16 (x := 0 + (1 + u)) (by omega) (by omega), Int.zero_add]
  ·
   intro y hy
   simp only [List.mem_cons, List.not_mem_nil, or_false] at hy
   rcases hy with rfl | rfl | rfl | rfl <;> simp only [] <;> omega
theorem drawn_loop {l : List Int} (h : U8 l) {x : Int} (hx : 0 ≤ x ∧ x ≤ 100) : ∀ (d : Nat) (acc : List S34) (p t : Int), acc.length + d ≤ 6 → Near x acc → 0 ≤ p → p ≤ 4611686018426000000 + 2 * (6 - (d : Int)) →
  ∃ st p' t', Ev (fun k => spec_l03Drawn.l0 k x 0 acc (d : Int) l p t) (st, p', t') ∧ Drawn x st ∧ p ≤ p' ∧ p' ≤ p + 2 * (d : Int) + 3
 | 0, acc, p, t, hl, hn, h0, h1 => by
  obtain ⟨st, p', t', e, e1, e2, e3⟩ := drawn_end h hx (by omega) hn t h0 (by omega)
  exact ⟨st, p', t', e, e1, e2, by omega⟩
 | d + 1, acc, p, t, hl, hn, h0, h1 => by
  obtain ⟨a, b, p1, t1, e, a1, b1, a2, a3⟩ := near_ok h t h0 (by omega) (x := x) hx
  obtain ⟨st, p', t', e', e1, e2, e3⟩ := drawn_loop h hx d (acc ++ [⟨a, b⟩]) p1 t1 (by rw [List.length_append, List.length_singleton]; omega) (fun c hc => by
   rcases List.mem_append.1 hc with hc | hc
   ·
    exact hn c hc
   ·
    rw [List.mem_singleton] at hc; subst hc; exact ⟨a1, b1⟩) (by omega) (by omega)
  refine ⟨st, p', t', ?_, e1, by omega, by omega⟩
  refine Ev.step (fun k => by rw [spec_l03Drawn.l0]) (Ev.pos (by omega) (Ev.nobind e ?_))
  refine Ev.pos (by omega) ?_
  rw [w64 (x := ((d + 1 : Nat) : Int) - 1) (by omega) (by omega), show ((d + 1 : Nat) : Int) - 1 = (d : Int) by omega]
  exact e'
theorem drawn_ok {l : List Int} (h : U8 l) {x : Int} (hx : 0 ≤ x ∧ x ≤ 100) {p : Int} (t : Int) (h0 : 0 ≤ p) (h1 : p ≤ 4611686018425000000) :
  ∃ st p' t', Ev (fun k => spec_l03Drawn.f k l p t x 0) (st, p', t') ∧ Drawn x st ∧ p ≤ p' ∧ p' ≤ p + 16 := by
 obtain ⟨v, p1, t1, e, v0, v1, a0, a1⟩ := pick_ok h t h0 (by omega) (n := 4) (by omega) (by omega)
 obtain ⟨d, hd⟩ : ∃ d : Nat, (d : Int) = 3 + v := ⟨(3 + v).toNat, by omega⟩
 obtain ⟨st, p', t', e', e1, e2, e3⟩ := drawn_loop h hx d [] p1 t1 (by simp; omega) (fun c hc => by simp at hc) (by omega) (by omega)
 refine ⟨st, p', t', ?_, e1, by omega, by omega⟩
 unfold spec_l03Drawn.f
 refine Ev.nobind e ?_
 rw [w64 (x := 3 + (v, p1, t1).1) (by show -9223372036854775808 ≤ 3 + v; omega) (by show 3 + v ≤ 9223372036854775807; omega)]
 show Ev (fun k => spec_l03Drawn.l0 k x 0 [] (3 + v) l p1 t1) _
 rw [← hd]
 exact e'
end Go.Proofs.Ytmglnofmmgokkaa.DrawKit
namespace Go.Proofs.Ytmglnofmmgokkaa.SplitKit
set_option linter.unusedSimpArgs false
set_option linter.unusedVariables false
open Go.RowKit PA Base StonesKit Geo SeamKit HullGeo DrawKit HullSpec YtmglnofmmgokkaaW.PrintWords YtmglnofmmgokkaaW.PrintLast YtmglnofmmgokkaaW.PrintMore
def nxt (n i : Nat) : Nat := if i + 1 < n then i + 1 else 0
theorem tmn (i n : Nat) (h : i < n) (hn : n ≤ 1048576) : Int.tmod (wrap64 ((i : Int) + 1)) (n : Int) = ((nxt n i : Nat) : Int) := by
 rw [tm i n h hn]; congr 1; unfold nxt
 split
 ·
  exact Nat.mod_eq_of_lt (by omega)
 ·
  have : i + 1 = n := by omega
  rw [this, Nat.mod_self]
/-- The corners met in d steps from i. -/
def ptT (l : List S34) : Nat → Nat → List S34
 | 0, _ => []
 | d + 1, i => l.getD (nxt l.length i) z34 :: ptT l d (nxt l.length i)
theorem ptT_length (l : List S34) : ∀ d i, (ptT l d i).length = d
 | 0, _ => rfl
 | d + 1, i => by simp [ptT, ptT_length l d]
def part (l : List S34) (d i : Nat) : List S34 := l.getD i z34 :: ptT l d i
theorem specPart {l : List S34} (hl : l.length ≤ 1048576) (b : Nat) (hb : b < l.length) : ∀ (d i : Nat) (acc : List S34), d < l.length → i < l.length → (i + d = b ∨ i + d = b + l.length) → acc.length + d ≤ 1048576 →
  Ev (fun k => spec_l03Part.l0 k l (b : Int) acc (l.length : Int) (i : Int)) (acc ++ part l d i)
 | 0, i, acc, _, hi, h, ha => by
  refine Ev.step (fun k => by rw [spec_l03Part.l0]) ?_
  refine Ev.pos (by omega) (Ev.pos (by omega) (Ev.pos (by omega) (Ev.nobind rfl (Ev.pos (by omega) (Ev.fin ?_)))))
  rw [rdC']; rfl
 | d + 1, i, acc, hd, hi, h, ha => by
  have hn : nxt l.length i < l.length := by unfold nxt; split <;> omega
  have hx : nxt l.length i + d = b ∨ nxt l.length i + d = b + l.length := by unfold nxt; split <;> omega
  refine Ev.step (fun k => by rw [spec_l03Part.l0]) ?_
  refine Ev.pos (by omega) (Ev.pos (by omega) (Ev.pos (by omega) (Ev.nobind rfl (Ev.neg (by omega) (Ev.neg (by omega) ?_)))))
  rw [tmn i l.length hi hl]
  refine Ev.to (specPart hl b hb d (nxt l.length i) _ (by omega) hn hx (by simp; omega)) ?_
  rw [rdC', List.append_assoc]; rfl
def dist (n i b : Nat) : Nat := if i ≤ b then b - i else b + n - i
theorem dist_ok {n i b : Nat} (hi : i < n) (hb : b < n) : dist n i b < n ∧ (i + dist n i b = b ∨ i + dist n i b = b + n) := by
 unfold dist; split <;> omega
theorem specP {l : List S34} (hl : l.length ≤ 1048575) {i b : Nat} (hi : i < l.length) (hb : b < l.length) : Ev (fun k => spec_l03Part.f k l (i : Int) (b : Int)) (part l (dist l.length i b) i) := by
 have h := dist_ok hi hb
 unfold spec_l03Part.f
 exact specPart (by omega) b hb _ i [] h.1 hi h.2 (by simp; omega)
def near (n i b : Nat) : Bool := decide (i = b) || (decide (nxt n i = b) || decide (nxt n b = i))
def res (l : List S34) (a b : Int) : List S34 × List S34 × Int :=
 if okS l then (if inB a 0 ((l.length : Int) - 1) && inB b 0 ((l.length : Int) - 1) then (if near l.length a.toNat b.toNat then ([], [], 4) else (part l (dist l.length a.toNat b.toNat) a.toNat, part l (dist l.length b.toNat a.toNat) b.toNat, 0)) else ([], [], 2)) else ([], [], 1)
theorem specIt {l : List S34} (hl : l.length ≤ 1048575) {i b : Nat} (hi : i < l.length) (hb : b < l.length) : Ev (fun k => spec_SplitStone.j0 k l (i : Int) (b : Int) (l.length : Int) false) (if near l.length i b then ([], [], 4) else (part l (dist l.length i b) i, part l (dist l.length b i) b, 0)) := by
 have bad : Ev (fun k => spec_SplitStone.j1 k l (i : Int) (b : Int) true) ([], [], 4) := by
  refine Ev.step (fun k => by rw [spec_SplitStone.j1]) ?_
  exact Ev.pos rfl (Ev.fin rfl)
 refine Ev.step (fun k => by rw [spec_SplitStone.j0]) ?_
 refine Ev.neg (by simp) ?_
 rw [tmn i l.length hi (by omega), tmn b l.length hb (by omega)]
 unfold near
 refine Ev.ite (fun e => ?_) (fun e => Ev.neg (by omega) ?_)
 ·
  rw [decide_eq_true (by omega)]; exact bad
 rw [decide_eq_false (by omega), Bool.false_or]
 refine Ev.ite (fun e => ?_) (fun e => ?_)
 ·
  rw [decide_eq_true (by omega)]; exact bad
 rw [decide_eq_false (by omega), Bool.false_or]
 by_cases q : nxt l.length b = i
 ·
  rw [decide_eq_true q, q]; simpa using bad
 ·
  have e2 : (((nxt l.length b : Nat) : Int) == (i : Int)) = false := by rw [beq_eq_false_iff_ne]; omega
  rw [decide_eq_false q, e2]
  refine Ev.step (fun k => by rw [spec_SplitStone.j1]) ?_
  exact Ev.neg (by simp) (Ev.bind (specP hl hi hb) (Ev.bind (specP hl hb hi) (Ev.fin rfl)))
theorem specRes {l : List S34} (hf : Fit l) (a b : Int) : Ev (fun k => spec_SplitStone.f k l a b) (res l a b) := by
 unfold spec_SplitStone.f res
 have bad : Ev (fun k => spec_SplitStone.j0 k l a b (l.length : Int) true) ([], [], 2) := by
  refine Ev.step (fun k => by rw [spec_SplitStone.j0]) ?_
  exact Ev.pos rfl (Ev.fin rfl)
 refine Ev.bind (specOk hf) ?_
 cases ho : okS l with
 | false => exact Ev.neg (by simp) (Ev.fin rfl)
 | true =>
  have hl := okS_len ho
  rw [w64 (by omega) (by omega)]
  refine Ev.pos rfl (Ev.nobind (specIn _ _ _) ?_)
  cases ha : inB a 0 ((l.length : Int) - 1) with
  | false => exact Ev.neg (by simp) bad
  | true =>
   refine Ev.pos rfl (Ev.nobind (specIn _ _ _) ?_)
   cases hb : inB b 0 ((l.length : Int) - 1) with
   | false => exact bad
   | true =>
    rw [inB_iff] at ha hb
    obtain ⟨i, rfl⟩ : ∃ i : Nat, a = (i : Int) := ⟨a.toNat, by omega⟩
    obtain ⟨j, rfl⟩ : ∃ j : Nat, b = (j : Int) := ⟨b.toNat, by omega⟩
    exact specIt (by omega) (by omega) (by omega)
theorem ok_smA {l : List S34} (h : okS l = true) {i : Nat} (hi : i < l.length) : Sm (at_ l i) := at_sm h hi
theorem ok_cr {l : List S34} (h : okS l = true) {i j : Nat} (hi : i < l.length) (hj : j < l.length) (h1 : j ≠ i) (h2 : j ≠ (i + 1) % l.length) : 0 < cr (at_ l i) (at_ l ((i + 1) % l.length)) (at_ l j) := by
 have hc := h
 unfold okS convB at hc
 rw [Bool.and_eq_true, List.all_eq_true] at hc
 have hc1 := hc.2 _ (List.mem_range.2 hi)
 rw [List.all_eq_true] at hc1
 have hc2 := hc1 _ (List.mem_range.2 hj)
 unfold cvx at hc2
 rw [decide_eq_false h1, decide_eq_false h2, Bool.false_or, Bool.false_or, decide_eq_true_eq, sd_cr (ok_smA h hi) (ok_smA h (nx_lt l i hi)) (ok_smA h hj)] at hc2
 exact hc2
theorem triple0 {l : List S34} (h : okS l = true) {j : Nat} (hj : 1 ≤ j) : ∀ d : Nat, j + 1 + d < l.length → 0 < cr (at_ l 0) (at_ l j) (at_ l (j + 1 + d))
 | 0, hl => by
  have hh := ok_cr h (i := j) (j := 0) (by omega) (by omega) (by omega) (by rw [Nat.mod_eq_of_lt (by omega)]; omega)
  rw [Nat.mod_eq_of_lt (by omega), cr_cyc, cr_cyc] at hh
  exact hh
 | d + 1, hl => by
  have ih := triple0 h hj d (by omega)
  by_cases c : j = 1
  ·
   subst c
   have hh := ok_cr h (i := 0) (j := 1 + 1 + (d + 1)) (by omega) (by omega) (by omega) (by rw [Nat.mod_eq_of_lt (by omega)]; omega)
   rw [Nat.mod_eq_of_lt (by omega)] at hh
   exact hh
  ·
   have off_ : ∀ i, 2 ≤ i → i < l.length → 0 < off ((at_ l 1).f0 - (at_ l 0).f0) ((at_ l 1).f1 - (at_ l 0).f1) (at_ l 0) (at_ l i) := by
    intro i h2 hi
    have hh := ok_cr h (i := 0) (j := i) (by omega) hi (by omega) (by rw [Nat.mod_eq_of_lt (by omega)]; omega)
    rw [Nat.mod_eq_of_lt (by omega)] at hh
    exact hh
   have e := off_plk ((at_ l 1).f0 - (at_ l 0).f0) ((at_ l 1).f1 - (at_ l 0).f1) (at_ l 0) (at_ l (j + 1 + d)) (at_ l j) (at_ l (j + 1 + (d + 1)))
   have o1 := off_ (j + 1 + d) (by omega) (by omega)
   have o2 := off_ j (by omega) (by omega)
   have o3 := off_ (j + 1 + (d + 1)) (by omega) (by omega)
   have hh := ok_cr h (i := j + 1 + d) (j := 0) (by omega) (by omega) (by omega) (by rw [Nat.mod_eq_of_lt (by omega)]; omega)
   rw [Nat.mod_eq_of_lt (by omega), cr_cyc, cr_cyc] at hh
   rw [cr_swap (at_ l 0) (at_ l (j + 1 + d)) (at_ l j)] at e
   have p1 := Int.mul_pos o2 (show 0 < cr (at_ l 0) (at_ l (j + 1 + d)) (at_ l (j + 1 + (d + 1))) from hh)
   have p2 := Int.mul_pos o3 ih
   rw [Int.mul_neg, Int.sub_neg] at e
   refine Int.lt_of_not_ge (fun g => ?_)
   have p3 : off ((at_ l 1).f0 - (at_ l 0).f0) ((at_ l 1).f1 - (at_ l 0).f1) (at_ l 0) (at_ l (j + 1 + d)) * cr (at_ l 0) (at_ l j) (at_ l (j + 1 + (d + 1))) ≤ 0 := Int.mul_nonpos_of_nonneg_of_nonpos (by omega) g
   omega
theorem triple {l : List S34} (h : okS l = true) {j k : Nat} (h1 : 1 ≤ j) (h2 : j < k) (h3 : k < l.length) : 0 < cr (at_ l 0) (at_ l j) (at_ l k) := by
 have := triple0 h h1 (k - (j + 1)) (by omega)
 rw [show j + 1 + (k - (j + 1)) = k by omega] at this
 exact this
theorem take_at {l : List S34} {m i : Nat} (h : i < m) : at_ (l.take m) i = at_ l i := by
 unfold at_
 rw [List.getD_eq_getElem?_getD, List.getD_eq_getElem?_getD, List.getElem?_take, if_pos h]
theorem take_ok {l : List S34} (h : okS l = true) {m : Nat} (h3 : 3 ≤ m) (hm : m ≤ l.length) : okS (l.take m) = true := by
 have hl := okS_len h
 have hlen : (l.take m).length = m := by rw [List.length_take]; omega
 have hs := ok_sm h
 unfold okS
 rw [Bool.and_eq_true, Bool.and_eq_true, hlen, inB_iff, List.all_eq_true]
 refine ⟨⟨by omega, fun c hc => placed_sm.2 (hs c (List.mem_of_mem_take hc))⟩, ?_⟩
 unfold convB
 rw [hlen, List.all_eq_true]
 intro i hi
 rw [List.all_eq_true]
 intro j hj
 rw [List.mem_range] at hi hj
 have hn : (i + 1) % m < m := Nat.mod_lt _ (by omega)
 unfold cvx
 rw [hlen, take_at hi, take_at hj, take_at hn, Bool.or_eq_true, Bool.or_eq_true, decide_eq_true_eq, decide_eq_true_eq, decide_eq_true_eq]
 by_cases c1 : j = i
 ·
  exact Or.inl (Or.inl c1)
 ·
  by_cases c2 : j = (i + 1) % m
  ·
   exact Or.inl (Or.inr c2)
  ·
   right
   rw [sd_cr (ok_smA h (by omega)) (ok_smA h (by omega)) (ok_smA h (by omega))]
   by_cases c : i + 1 < m
   ·
    rw [Nat.mod_eq_of_lt c] at c2 ⊢
    have hh := ok_cr h (i := i) (j := j) (by omega) (by omega) c1 (by rw [Nat.mod_eq_of_lt (by omega)]; exact c2)
    rw [Nat.mod_eq_of_lt (by omega)] at hh
    exact hh
   ·
    have hi2 : i + 1 = m := by omega
    rw [hi2, Nat.mod_self] at c2 ⊢
    rw [cr_cyc]
    exact triple h (by omega) (by omega) (by omega)
theorem nxt_mod {n i : Nat} (h : i < n) : nxt n i = (i + 1) % n := by
 unfold nxt
 split
 ·
  exact (Nat.mod_eq_of_lt (by omega)).symm
 ·
  rw [show i + 1 = n by omega, Nat.mod_self]
theorem part_at (l : List S34) : ∀ (d i j : Nat), i < l.length → j ≤ d → at_ (part l d i) j = at_ l ((i + j) % l.length)
 | d, i, 0, hi, _ => by
  rw [Nat.add_zero, Nat.mod_eq_of_lt hi]
  rfl
 | 0, i, j + 1, hi, hj => by omega
 | d + 1, i, j + 1, hi, hj => by
  have hn : nxt l.length i < l.length := by unfold nxt; split <;> omega
  have := part_at l d (nxt l.length i) j hn (by omega)
  rw [nxt_mod hi, Nat.mod_add_mod, Nat.add_assoc, Nat.add_comm 1 j] at this
  rw [← this, ← nxt_mod hi]
  rfl
theorem part_len (l : List S34) (d i : Nat) : (part l d i).length = d + 1 := by
 unfold part
 rw [List.length_cons, ptT_length]
theorem part_is {l : List S34} {d i : Nat} (hi : i < l.length) (hd : d < l.length) : part l d i = (rot i l).take (d + 1) := by
 have hr := rot_len (m := i) (l := l) (by omega)
 have e1 := part_len l d i
 have e2 : ((rot i l).take (d + 1)).length = d + 1 := by rw [List.length_take, hr]; omega
 refine List.ext_getElem (by omega) (fun j h1 h2 => ?_)
 have a1 := part_at l d i j hi (by omega)
 have a2 := take_at (l := rot i l) (m := d + 1) (i := j) (by omega)
 rw [rot_at hi (by omega)] at a2
 unfold at_ at a1 a2
 rw [← a1, getC h1, getC h2] at a2
 exact a2.symm
theorem part_ok {l : List S34} (h : okS l = true) {d i : Nat} (hi : i < l.length) (h2 : 2 ≤ d) (hd : d < l.length) : okS (part l d i) = true := by
 rw [part_is hi hd]
 exact take_ok (rot_ok hi h) (by omega) (by rw [rot_len (by omega)]; omega)
end Go.Proofs.Ytmglnofmmgokkaa.SplitKit
namespace Go.Proofs.Ytmglnofmmgokkaa.TouchKit
set_option linter.unusedSimpArgs false
set_option linter.unusedVariables false
open Go.RowKit PA Base StonesKit LayKit Geo SeamKit HullGeo SplitKit WhereKit YtmglnofmmgokkaaW.PrintWords YtmglnofmmgokkaaW.PrintLast YtmglnofmmgokkaaW.PrintMore
def Seamed (a b : List S34) : Prop := ∃ i j, i < a.length ∧ j < b.length ∧ 0 < has (a.getD i z34) (a.getD ((i + 1) % a.length) z34) (b.getD j z34) (b.getD ((j + 1) % b.length) z34)
theorem allF_all (p : Nat → Bool) : ∀ d i, (∀ x, i ≤ x → x < i + d → p x = true) → allF p d i = true
 | 0, i, _ => rfl
 | d + 1, i, h => by
  rw [allF, h i (by omega) (by omega), Bool.true_and]
  exact allF_all p d (i + 1) (fun x h1 h2 => h x (by omega) (by omega))
theorem cut_all {a b : List S34} {st : Bool} (h : ∀ i, i < a.length → ∃ c ∈ b, out (at_ a i) (at_ a ((i + 1) % a.length)) st c = true) : cutB a b st = true := by
 unfold cutB
 refine allF_all _ _ _ (fun x _ h2 => ?_)
 unfold sdAny
 rw [List.any_eq_true]
 exact h x (by omega)
theorem at_memS {l : List S34} {i : Nat} (h : i < l.length) : at_ l i ∈ l := by
 unfold at_; rw [getC h]; exact List.getElem_mem h
theorem over_self {l : List S34} (h : okS l = true) : overB l l = true := by
 have hl := okS_len h
 have hc : cutB l l false = true := by
  refine cut_all (fun i hi => ?_)
  obtain ⟨j, hj, j1, j2⟩ : ∃ j, j < l.length ∧ j ≠ i ∧ j ≠ (i + 1) % l.length := by
   by_cases a : 0 ≠ i ∧ 0 ≠ (i + 1) % l.length
   ·
    exact ⟨0, by omega, a.1, a.2⟩
   ·
    by_cases b : 1 ≠ i ∧ 1 ≠ (i + 1) % l.length
    ·
     exact ⟨1, by omega, b.1, b.2⟩
    ·
     exact ⟨2, by omega, by omega, by omega⟩
  refine ⟨at_ l j, at_memS hj, ?_⟩
  unfold out
  rw [sd_cr (ok_smA h hi) (ok_smA h (nx_lt l i hi)) (ok_smA h hj), decide_eq_true (ok_cr h hi hj j1 j2), Bool.true_or]
 unfold overB
 rw [hc]; rfl
/-- All corners lie on the left of each edge. -/
theorem ok_left {l : List S34} (h : okS l = true) {i : Nat} (hi : i < l.length) {c : S34} (hc : c ∈ l) : 0 ≤ cr (at_ l i) (at_ l ((i + 1) % l.length)) c := by
 obtain ⟨j, hj, rfl⟩ := List.getElem_of_mem hc
 have e : l[j] = at_ l j := by unfold at_; rw [getC hj]
 rw [e]
 by_cases c1 : j = i
 ·
  subst c1; rw [cr_self3]; omega
 ·
  by_cases c2 : j = (i + 1) % l.length
  ·
   subst c2; rw [cr_self2]; omega
  ·
   have := ok_cr h hi hj c1 c2; omega
theorem wsum {A x P Q U : Int} (hA : 0 < A) (h0 : 0 ≤ x) (h1 : x ≤ A) (h : A * U = (A - x) * P + x * Q) : (0 ≤ P → 0 ≤ Q → 0 ≤ U) ∧ (P < 0 → Q < 0 → U < 0) := by
 constructor
 ·
  intro hP hQ
  have a := Int.mul_nonneg (show 0 ≤ A - x by omega) hP
  have b := Int.mul_nonneg h0 hQ
  refine Int.le_of_not_gt (fun g => ?_)
  have c := Int.mul_neg_of_pos_of_neg hA g
  omega
 ·
  intro hP hQ
  refine Int.lt_of_not_ge (fun g => ?_)
  have c := Int.mul_nonneg (Int.le_of_lt hA) g
  by_cases e : x < A
  ·
   have a := Int.mul_neg_of_pos_of_neg (show 0 < A - x by omega) hP
   have b := Int.mul_nonpos_of_nonneg_of_nonpos h0 (Int.le_of_lt hQ)
   omega
  ·
   have e2 : x = A := by omega
   subst e2
   have b := Int.mul_neg_of_pos_of_neg hA hQ
   rw [Int.sub_self, Int.zero_mul] at h
   omega
theorem seg {a b : Int} {o p q u : S34} (hc : cr p q u = 0) (hb : Box u p q) : (0 ≤ off a b o p → 0 ≤ off a b o q → 0 ≤ off a b o u) ∧ (off a b o p < 0 → off a b o q < 0 → off a b o u < 0) := by
 unfold Box at hb
 have hx : (q.f0 - p.f0) * off a b o u = ((q.f0 - p.f0) - (u.f0 - p.f0)) * off a b o p + (u.f0 - p.f0) * off a b o q := by
  unfold cr at hc
  unfold off
  grind
 have hy : (q.f1 - p.f1) * off a b o u = ((q.f1 - p.f1) - (u.f1 - p.f1)) * off a b o p + (u.f1 - p.f1) * off a b o q := by
  unfold cr at hc
  unfold off
  grind
 by_cases c1 : 0 < q.f0 - p.f0
 ·
  exact wsum c1 (by omega) (by omega) hx
 ·
  by_cases c2 : q.f0 - p.f0 < 0
  ·
   refine wsum (A := p.f0 - q.f0) (x := p.f0 - u.f0) (by omega) (by omega) (by omega) ?_
   grind
  ·
   by_cases c3 : 0 < q.f1 - p.f1
   ·
    exact wsum c3 (by omega) (by omega) hy
   ·
    by_cases c4 : q.f1 - p.f1 < 0
    ·
     refine wsum (A := p.f1 - q.f1) (x := p.f1 - u.f1) (by omega) (by omega) (by omega) ?_
     grind
    ·
     have e : u = p := ext (by omega) (by omega)
     subst e
     exact ⟨fun h _ => h, fun h _ => h⟩
/-- Two stones with a point in common (a corner of one on an edge of the other) are not parted. -/
theorem meet1 {a b : List S34} (ha : okS a = true) (hb : okS b = true) {i : Nat} (hi : i < a.length) {u : S34} (hu : u ∈ b) (hc : cr (at_ a i) (at_ a ((i + 1) % a.length)) u = 0) (hx : Box u (at_ a i) (at_ a ((i + 1) % a.length))) : cutB a b true = true ∧ cutB b a true = true := by
 have hn := nx_lt a i hi
 constructor
 ·
  refine cut_all (fun x hx' => ⟨u, hu, ?_⟩)
  have g : 0 ≤ cr (at_ a x) (at_ a ((x + 1) % a.length)) u := (seg hc hx).1 (ok_left ha hx' (at_memS hi)) (ok_left ha hx' (at_memS hn))
  unfold out
  rw [sd_cr (ok_smA ha hx') (ok_smA ha (nx_lt a x hx')) (ok_sm hb u hu)]
  by_cases c : 0 < cr (at_ a x) (at_ a ((x + 1) % a.length)) u
  ·
   rw [decide_eq_true c]; rfl
  ·
   rw [decide_eq_true (by omega : cr (at_ a x) (at_ a ((x + 1) % a.length)) u = 0), Bool.true_and, Bool.or_true]
 ·
  refine cut_all (fun x hx' => ?_)
  have g := ok_left hb hx' hu
  have fin : ∀ c ∈ a, 0 ≤ cr (at_ b x) (at_ b ((x + 1) % b.length)) c → ∃ c ∈ a, out (at_ b x) (at_ b ((x + 1) % b.length)) true c = true := by
   intro c hc' h
   refine ⟨c, hc', ?_⟩
   unfold out
   rw [sd_cr (ok_smA hb hx') (ok_smA hb (nx_lt b x hx')) (ok_sm ha c hc')]
   by_cases e : 0 < cr (at_ b x) (at_ b ((x + 1) % b.length)) c
   ·
    rw [decide_eq_true e]; rfl
   ·
    rw [decide_eq_true (by omega : cr (at_ b x) (at_ b ((x + 1) % b.length)) c = 0), Bool.true_and, Bool.or_true]
  by_cases c1 : 0 ≤ cr (at_ b x) (at_ b ((x + 1) % b.length)) (at_ a i)
  ·
   exact fin _ (at_memS hi) c1
  ·
   by_cases c2 : 0 ≤ cr (at_ b x) (at_ b ((x + 1) % b.length)) (at_ a ((i + 1) % a.length))
   ·
    exact fin _ (at_memS hn) c2
   ·
    exfalso
    have : cr (at_ b x) (at_ b ((x + 1) % b.length)) u < 0 := (seg (a := (at_ b ((x + 1) % b.length)).f0 - (at_ b x).f0) (b := (at_ b ((x + 1) % b.length)).f1 - (at_ b x).f1) (o := at_ b x) hc hx).2 (Int.lt_of_not_ge c1) (Int.lt_of_not_ge c2)
    omega
theorem cr_on {p q u v : S34} (hpq : key p ≠ key q) (h1 : cr p q u = 0) (h2 : cr p q v = 0) : cr u v p = 0 ∧ cr u v q = 0 := by
 have h3 : (q.f0 - p.f0) * cr u v p = 0 := by
  unfold cr at *
  grind
 have h4 : (q.f1 - p.f1) * cr u v p = 0 := by
  unfold cr at *
  grind
 have h5 : cr u v q = cr u v p + cr p q u - cr p q v := by
  unfold cr
  grind
 have h6 : cr u v p = 0 := by
  rcases Int.mul_eq_zero.1 h3 with c | c
  ·
   rcases Int.mul_eq_zero.1 h4 with d | d
   ·
    exfalso; unfold key at hpq; omega
   ·
    exact d
  ·
   exact c
 exact ⟨h6, by rw [h5, h1, h2, h6]; rfl⟩
theorem seam_touch {a b : List S34} (ha : okS a = true) (hb : okS b = true) (h : Seamed a b) : cutB a b true = true ∧ cutB b a true = true := by
 obtain ⟨i, j, hi, hj, hh⟩ := h
 have hni := nx_lt a i hi
 have hnj := nx_lt b j hj
 have k1 := ok_key ha hi
 have s1 := ok_smA ha hi
 have s2 := ok_smA ha hni
 have s3 := ok_smA hb hj
 have s4 := ok_smA hb hnj
 unfold has at hh
 split at hh
 ·
  rename_i c1
  split at hh
  ·
   rename_i c2
   obtain ⟨_, _, m2⟩ := com_is s1 s2 s3 s4 k1 c1 c2
   obtain ⟨d1, d2⟩ := cr_on k1 c1 c2
   rcases m2 with m2 | ⟨e, he, _⟩
   ·
    unfold at_ at m2; omega
   ·
    rw [mem_ends] at he
    rcases he with ⟨rfl, hx⟩ | ⟨rfl, hx⟩ | ⟨rfl, hx⟩ | ⟨rfl, hx⟩
    ·
     exact (meet1 hb ha hj (at_memS hi) d1 hx).symm
    ·
     exact (meet1 hb ha hj (at_memS hni) d2 hx).symm
    ·
     exact meet1 ha hb hi (at_memS hj) c1 hx
    ·
     exact meet1 ha hb hi (at_memS hnj) c2 hx
  ·
   omega
 ·
  omega
end Go.Proofs.Ytmglnofmmgokkaa.TouchKit
