/- Edges on one line: what they have in common, told in two ways. No Go and no memory in it. · Hulls: an edge that has all corners on its one side; which corner comes next; that such corners make a stone. No Go and no memory in it. · Going round a list of corners, from each to the one that has all others on its one side: it comes back to the first, and what it passes is a stone. No Go and no memory in it. · What the functions on stones come to, the reference's and the program's; the laws' own small functions over lists of corners. · Stones that lie apart, stones that overlap: what the reference's and the program's functions come to. · Frames, stones in them, stones that overlap, faults of a lay: what the reference's and the program's functions come to; the laws' own functions over lists of stones. · Where a point lies to a stone: both sides come to one scan. · The program's code of two answers. · The laws' generator: it draws numbers in their range. · Seams of stones: what the reference's and the program's functions come to. · What the reference's HullOf comes to. · Stones that are drawn: valid ones, near to their place. · A stone that is split: its parts are stones. · What P6Lay draws: stones in a frame, at most two a round. · The first fault of a lay whose stones lie in the frame: the first two that overlap. · Stones with a seam touch; a stone overlaps itself; a corner lies on its stone. · Areas of small stones, and what is bare. · What the program's StoneAt, WhereIs and both SeamsIn come to. · The law FnLays says true at all codes. -/
import Derived.Test.YtllfeehchiikoaaPAxf59
import Derived.Test.YtllfeehchiikoaaPAxgSpecO
import Derived.Test.YtllfeehchiikoaaPAxf6
import Derived.Test.YtllfeehchiikoaaLoopsAll
import Derived.Test.YtllfeehchiikoaaPAxgImpl
import Derived.Test.YtllfeehchiikoaaPAxgSpec
import Derived.Test.YtllfeehchiikoaaPAxgImplO
import Derived.Test.YtllfeehchiikoaaPAxmE
import Derived.Test.YtllfeehchiikoaaPAxgImplB
import Derived.Test.YtllfeehchiikoaaPAxgSpecB
import Derived.Test.YtllfeehchiikoaaPAxmG
import Derived.Test.YtllfeehchiikoaaPAxmA
import Derived.Test.YtllfeehchiikoaaPAxmC
import Derived.Test.YtllfeehchiikoaaPAxf40
import Derived.Test.YtllfeehchiikoaaPAxmI
import Derived.Test.YtllfeehchiikoaaPAxf61
import Derived.Test.YtllfeehchiikoaaPAxf67
import Derived.Test.YtllfeehchiikoaaPAxmH
import Derived.Test.YtllfeehchiikoaaPAxmB
import Derived.Test.YtllfeehchiikoaaPAxf45
import Derived.Test.YtllfeehchiikoaaPAxf22
import Derived.Test.YtllfeehchiikoaaPAxf24
import Derived.Test.YtllfeehchiikoaaPAxf5
import Derived.Test.YtllfeehchiikoaaPAxmF
import Derived.Test.YtllfeehchiikoaaPAxf14
import Derived.Test.YtllfeehchiikoaaPAxf16
import Derived.Test.YtllfeehchiikoaaPAxmJ
import Derived.Test.YtllfeehchiikoaaPAxf3
namespace Go.Proofs.Ytllfeehchiikoaa.Geo
set_option linter.unusedSimpArgs false
set_option linter.unusedVariables false
open Go.Proofs.Ytllfeehchiikoaa.PA

def Sm (a : S43) : Prop := (-1000 ≤ a.f0 ∧ a.f0 ≤ 1000) ∧ (-1000 ≤ a.f1 ∧ a.f1 ≤ 1000)
/-- The order of corners, as one number. -/
def key (a : S43) : Int := 2001 * a.f0 + a.f1
def cr (p q c : S43) : Int := (q.f0 - p.f0) * (c.f1 - p.f1) - (q.f1 - p.f1) * (c.f0 - p.f0)
def lt (a b : S43) : Bool := decide (a.f0 < b.f0) || (decide (a.f0 = b.f0) && decide (a.f1 < b.f1))
theorem lt_iff {a b : S43} (ha : Sm a) (hb : Sm b) : lt a b = true ↔ key a < key b := by
  unfold lt key
  unfold Sm at ha hb
  simp only [Bool.or_eq_true, Bool.and_eq_true, decide_eq_true_eq]
  omega
theorem key_inj {a b : S43} (ha : Sm a) (hb : Sm b) (h : key a = key b) : a = b := by
  unfold key at h
  unfold Sm at ha hb
  cases a; cases b
  simp only [S43.mk.injEq]
  dsimp only at h ha hb
  omega
def sq (a b : S43) : Int := (a.f0 - b.f0) * (a.f0 - b.f0) + (a.f1 - b.f1) * (a.f1 - b.f1)
theorem self_nonneg (a : Int) : 0 ≤ a * a := by
  by_cases h : 0 ≤ a
  · exact Int.mul_nonneg h h
  · have := Int.mul_nonneg (show 0 ≤ -a by omega) (show 0 ≤ -a by omega)
    rwa [Int.neg_mul_neg] at this
theorem sq_nonneg (a b : S43) : 0 ≤ sq a b := by
  have h1 := self_nonneg (a.f0 - b.f0)
  have h2 := self_nonneg (a.f1 - b.f1)
  unfold sq; omega
theorem sq_self (a : S43) : sq a a = 0 := by unfold sq; simp
theorem sq_symm (a b : S43) : sq a b = sq b a := by unfold sq; grind
/-- Two points, one beside the other in a direction whose key is K. -/
structure Al (dx dy K : Int) (u v : S43) : Prop where
  hx : (u.f0 - v.f0) * K = dx * (key u - key v)
  hy : (u.f1 - v.f1) * K = dy * (key u - key v)
theorem Al.of_cr {p q u : S43} (h : cr p q u = 0) : Al (q.f0 - p.f0) (q.f1 - p.f1) (2001 * (q.f0 - p.f0) + (q.f1 - p.f1)) u p := by
  unfold cr at h
  constructor <;> unfold key <;> grind
theorem Al.of_end (p q : S43) : Al (q.f0 - p.f0) (q.f1 - p.f1) (2001 * (q.f0 - p.f0) + (q.f1 - p.f1)) q p := by
  constructor <;> unfold key <;> grind
theorem Al.self (dx dy K : Int) (p : S43) : Al dx dy K p p := by constructor <;> simp
theorem Al.sub {dx dy K : Int} {u v p : S43} (hu : Al dx dy K u p) (hv : Al dx dy K v p) : Al dx dy K u v := by
  obtain ⟨a, b⟩ := hu
  obtain ⟨c, d⟩ := hv
  constructor
  · have e : (u.f0 - v.f0) * K = (u.f0 - p.f0) * K - (v.f0 - p.f0) * K := by grind
    rw [e, a, c]; grind
  · have e : (u.f1 - v.f1) * K = (u.f1 - p.f1) * K - (v.f1 - p.f1) * K := by grind
    rw [e, b, d]; grind
theorem Al.neg {dx dy K : Int} {u v : S43} (h : Al dx dy K u v) : Al (-dx) (-dy) (-K) u v := by
  obtain ⟨a, b⟩ := h
  constructor <;> grind
theorem Al.swap {dx dy K : Int} {u v : S43} (h : Al dx dy K u v) : Al dx dy K v u := by
  obtain ⟨a, b⟩ := h
  constructor <;> grind
/-! signs -/
theorem sg1 {a K d t : Int} (hK : 0 < K) (h : a * K = d * t) (hd : 0 ≤ d) (ht : 0 ≤ t) : 0 ≤ a := by
  by_cases c : 0 ≤ a
  · exact c
  · have h1 := Int.mul_nonneg hd ht
    have h2 := Int.mul_neg_of_neg_of_pos (show a < 0 by omega) hK
    omega
theorem sg2 {a K d t : Int} (hK : 0 < K) (h : a * K = d * t) (hd : d ≤ 0) (ht : 0 ≤ t) : a ≤ 0 := by
  have := sg1 (a := -a) (d := -d) hK (by rw [Int.neg_mul, Int.neg_mul, h]) (by omega) ht
  omega
theorem sg3 {a K d t : Int} (hK : 0 < K) (h : a * K = d * t) (hd : 0 < d) (ht : 0 < t) : 0 < a := by
  by_cases c : 0 < a
  · exact c
  · have h1 := Int.mul_pos hd ht
    have h2 := Int.mul_nonneg (show 0 ≤ -a by omega) (show 0 ≤ K by omega)
    rw [Int.neg_mul] at h2
    omega
theorem sg4 {a K d t : Int} (hK : 0 < K) (h : a * K = d * t) (hd : d < 0) (ht : 0 < t) : a < 0 := by
  have := sg3 (a := -a) (d := -d) hK (by rw [Int.neg_mul, Int.neg_mul, h]) (by omega) ht
  omega
/-! a corner in the box of two others -/
def Box (c u v : S43) : Prop := (min u.f0 v.f0 ≤ c.f0 ∧ c.f0 ≤ max u.f0 v.f0) ∧ (min u.f1 v.f1 ≤ c.f1 ∧ c.f1 ≤ max u.f1 v.f1)
instance (c u v : S43) : Decidable (Box c u v) := by unfold Box; infer_instance
theorem box_swap {c u v : S43} : Box c u v ↔ Box c v u := by unfold Box; omega
theorem box_in {dx dy K : Int} {c u v : S43} (hK : 0 < K) (hcu : Al dx dy K c u) (hvc : Al dx dy K v c) (h1 : key u ≤ key c) (h2 : key c ≤ key v) : Box c u v := by
  have x1 : 0 ≤ key c - key u := by omega
  have x2 : 0 ≤ key v - key c := by omega
  unfold Box
  by_cases dxs : 0 ≤ dx <;> by_cases dys : 0 ≤ dy
  · have := sg1 hK hcu.hx dxs x1; have := sg1 hK hvc.hx dxs x2; have := sg1 hK hcu.hy dys x1; have := sg1 hK hvc.hy dys x2; omega
  · have := sg1 hK hcu.hx dxs x1; have := sg1 hK hvc.hx dxs x2; have := sg2 hK hcu.hy (by omega) x1; have := sg2 hK hvc.hy (by omega) x2; omega
  · have := sg2 hK hcu.hx (by omega) x1; have := sg2 hK hvc.hx (by omega) x2; have := sg1 hK hcu.hy dys x1; have := sg1 hK hvc.hy dys x2; omega
  · have := sg2 hK hcu.hx (by omega) x1; have := sg2 hK hvc.hx (by omega) x2; have := sg2 hK hcu.hy (by omega) x1; have := sg2 hK hvc.hy (by omega) x2; omega
theorem box_out {dx dy K : Int} {c u v : S43} (hK : 0 < K) (hd : K = 2001 * dx + dy) (huc : Al dx dy K u c) (hvc : Al dx dy K v c) (h1 : key c < key u) (h2 : key c < key v) : ¬ Box c u v := by
  have x1 : 0 < key u - key c := by omega
  have x2 : 0 < key v - key c := by omega
  unfold Box
  rcases Int.lt_trichotomy dx 0 with h | h | h
  · have := sg4 hK huc.hx h x1; have := sg4 hK hvc.hx h x2; omega
  · have hy : 0 < dy := by omega
    have := sg3 hK huc.hy hy x1; have := sg3 hK hvc.hy hy x2; omega
  · have := sg3 hK huc.hx h x1; have := sg3 hK hvc.hx h x2; omega
theorem box_out2 {dx dy K : Int} {c u v : S43} (hK : 0 < K) (hd : K = 2001 * dx + dy) (hcu : Al dx dy K c u) (hcv : Al dx dy K c v) (h1 : key u < key c) (h2 : key v < key c) : ¬ Box c u v := by
  have x1 : 0 < key c - key u := by omega
  have x2 : 0 < key c - key v := by omega
  unfold Box
  rcases Int.lt_trichotomy dx 0 with h | h | h
  · have := sg4 hK hcu.hx h x1; have := sg4 hK hcv.hx h x2; omega
  · have hy : 0 < dy := by omega
    have := sg3 hK hcu.hy hy x1; have := sg3 hK hcv.hy hy x2; omega
  · have := sg3 hK hcu.hx h x1; have := sg3 hK hcv.hx h x2; omega
theorem box_iff {dx dy K : Int} {c u v : S43} (hK : 0 < K) (hd : K = 2001 * dx + dy) (hcu : Al dx dy K c u) (hcv : Al dx dy K c v) : Box c u v ↔ min (key u) (key v) ≤ key c ∧ key c ≤ max (key u) (key v) := by
  constructor
  · intro hb
    by_cases a : key c < key u ∧ key c < key v
    · exact absurd hb (box_out hK hd hcu.swap hcv.swap a.1 a.2)
    · by_cases b : key u < key c ∧ key v < key c
      · exact absurd hb (box_out2 hK hd hcu hcv b.1 b.2)
      · omega
  · intro h
    by_cases a : key u ≤ key c ∧ key c ≤ key v
    · exact box_in hK hcu hcv.swap a.1 a.2
    · exact box_swap.2 (box_in hK hcv hcu.swap (by omega) (by omega))
/-! farther along the line is farther -/
theorem sq_key {dx dy K : Int} {u v : S43} (h : Al dx dy K u v) : sq u v * (K * K) = (dx * dx + dy * dy) * ((key u - key v) * (key u - key v)) := by
  obtain ⟨a, b⟩ := h
  have e : sq u v * (K * K) = ((u.f0 - v.f0) * K) * ((u.f0 - v.f0) * K) + ((u.f1 - v.f1) * K) * ((u.f1 - v.f1) * K) := by unfold sq; grind
  rw [e, a, b]; grind
theorem mul_self_le {t s : Int} (h1 : -s ≤ t) (h2 : t ≤ s) : t * t ≤ s * s := by
  have := Int.mul_nonneg (show 0 ≤ s - t by omega) (show 0 ≤ s + t by omega)
  grind
theorem sq_mono {dx dy K : Int} {e f p q : S43} (hK : 0 < K) (h : Al dx dy K e f) (h' : Al dx dy K q p) (h1 : -(key q - key p) ≤ key e - key f) (h2 : key e - key f ≤ key q - key p) : sq e f ≤ sq q p := by
  have a := sq_key h
  have b := sq_key h'
  have c := mul_self_le h1 h2
  have n : 0 ≤ dx * dx + dy * dy := by have := self_nonneg dx; have := self_nonneg dy; omega
  have d := Int.mul_le_mul_of_nonneg_left c n
  rw [← a, ← b] at d
  exact Int.le_of_mul_le_mul_right d (Int.mul_pos hK hK)
/-! what two edges have in common -/
def pick (b : Bool) (u v : S43) : S43 := if b = true then u else v
def com2 (p1 q1 : S43) : Int := if lt p1 q1 = true then sq q1 p1 else 0
def com1 (p0 q0 r0 s0 : S43) : Int := com2 (pick (lt p0 r0) r0 p0) (pick (lt s0 q0) s0 q0)
def com (p q u v : S43) : Int := com1 (pick (lt q p) q p) (pick (lt q p) p q) (pick (lt v u) v u) (pick (lt v u) u v)
def endAt (l : List S43) (c u v : S43) : List S43 := if Box c u v then l ++ [c] else l
def ends (p q u v : S43) : List S43 := endAt (endAt (endAt (endAt [] p u v) q u v) u p q) v p q
theorem mem_endAt {l : List S43} {c u v x : S43} : x ∈ endAt l c u v ↔ x ∈ l ∨ (x = c ∧ Box c u v) := by
  unfold endAt
  split
  · rename_i h; simp [h]
  · rename_i h; simp [h]
theorem mem_ends {p q u v x : S43} : x ∈ ends p q u v ↔ (x = p ∧ Box p u v) ∨ (x = q ∧ Box q u v) ∨ (x = u ∧ Box u p q) ∨ (x = v ∧ Box v p q) := by
  unfold ends
  rw [mem_endAt, mem_endAt, mem_endAt, mem_endAt]
  simp only [List.not_mem_nil, false_or, or_assoc]
theorem pick_key (b : Bool) (u v : S43) : key (pick b u v) = if b = true then key u else key v := by unfold pick; split <;> rfl
theorem pick_cases (b : Bool) (u v : S43) : pick b u v = u ∨ pick b u v = v := by unfold pick; split <;> simp
theorem pick_sm {b : Bool} {u v : S43} (hu : Sm u) (hv : Sm v) : Sm (pick b u v) := by unfold pick; split <;> assumption
theorem pick_lo {u v : S43} (hu : Sm u) (hv : Sm v) : key (pick (lt v u) v u) = min (key u) (key v) := by
  rw [pick_key]
  by_cases c : lt v u = true
  · rw [if_pos c]; have := (lt_iff hv hu).1 c; omega
  · rw [if_neg c]; have : ¬ key v < key u := fun h => c ((lt_iff hv hu).2 h); omega
theorem pick_hi {u v : S43} (hu : Sm u) (hv : Sm v) : key (pick (lt v u) u v) = max (key u) (key v) := by
  rw [pick_key]
  by_cases c : lt v u = true
  · rw [if_pos c]; have := (lt_iff hv hu).1 c; omega
  · rw [if_neg c]; have : ¬ key v < key u := fun h => c ((lt_iff hv hu).2 h); omega
theorem com_is {p q u v : S43} (sp : Sm p) (sq_ : Sm q) (su : Sm u) (sv : Sm v) (hpq : key p ≠ key q) (hu : cr p q u = 0) (hv : cr p q v = 0) :
    0 ≤ com p q u v ∧ (∀ e ∈ ends p q u v, ∀ f ∈ ends p q u v, sq e f ≤ com p q u v) ∧ (com p q u v = 0 ∨ ∃ e ∈ ends p q u v, ∃ f ∈ ends p q u v, e ≠ f ∧ com p q u v = sq e f) := by
  obtain ⟨dx, dy, K, hK, hd, hqp, hup, hvp⟩ : ∃ dx dy K : Int, 0 < K ∧ K = 2001 * dx + dy ∧ Al dx dy K q p ∧ Al dx dy K u p ∧ Al dx dy K v p := by
    have a := Al.of_end p q
    have b := Al.of_cr hu
    have c := Al.of_cr hv
    have e : 2001 * (q.f0 - p.f0) + (q.f1 - p.f1) = key q - key p := by unfold key; omega
    by_cases h : 0 < key q - key p
    · exact ⟨_, _, _, by rw [e]; exact h, rfl, a, b, c⟩
    · exact ⟨_, _, _, by rw [e]; omega, by omega, a.neg, b.neg, c.neg⟩
  have hpp := Al.self dx dy K p
  have four : ∀ x, (x = p ∨ x = q ∨ x = u ∨ x = v) → Al dx dy K x p ∧ Sm x := by
    intro x hx
    rcases hx with rfl | rfl | rfl | rfl
    · exact ⟨hpp, sp⟩
    · exact ⟨hqp, sq_⟩
    · exact ⟨hup, su⟩
    · exact ⟨hvp, sv⟩
  have b1 := box_iff hK hd (hpp.sub hup) (hpp.sub hvp)
  have b2 := box_iff hK hd (hqp.sub hup) (hqp.sub hvp)
  have b3 := box_iff hK hd (hup.sub hpp) (hup.sub hqp)
  have b4 := box_iff hK hd (hvp.sub hpp) (hvp.sub hqp)
  have inE : ∀ x ∈ ends p q u v, (x = p ∨ x = q ∨ x = u ∨ x = v) ∧ max (min (key p) (key q)) (min (key u) (key v)) ≤ key x ∧ key x ≤ min (max (key p) (key q)) (max (key u) (key v)) := by
    intro x hx
    rw [mem_ends, b1, b2, b3, b4] at hx
    rcases hx with ⟨rfl, h⟩ | ⟨rfl, h⟩ | ⟨rfl, h⟩ | ⟨rfl, h⟩
    · exact ⟨Or.inl rfl, by omega⟩
    · exact ⟨Or.inr (Or.inl rfl), by omega⟩
    · exact ⟨Or.inr (Or.inr (Or.inl rfl)), by omega⟩
    · exact ⟨Or.inr (Or.inr (Or.inr rfl)), by omega⟩
  have ofE : ∀ x, (x = p ∨ x = q ∨ x = u ∨ x = v) → max (min (key p) (key q)) (min (key u) (key v)) ≤ key x → key x ≤ min (max (key p) (key q)) (max (key u) (key v)) → x ∈ ends p q u v := by
    intro x hx h1 h2
    rw [mem_ends, b1, b2, b3, b4]
    rcases hx with rfl | rfl | rfl | rfl
    · exact Or.inl ⟨rfl, by omega⟩
    · exact Or.inr (Or.inl ⟨rfl, by omega⟩)
    · exact Or.inr (Or.inr (Or.inl ⟨rfl, by omega⟩))
    · exact Or.inr (Or.inr (Or.inr ⟨rfl, by omega⟩))
  unfold com com1
  have kp0 := pick_lo sp sq_
  have kq0 := pick_hi sp sq_
  have kr0 := pick_lo su sv
  have ks0 := pick_hi su sv
  have cp0 := pick_cases (lt q p) q p
  have cq0 := pick_cases (lt q p) p q
  have cr0 := pick_cases (lt v u) v u
  have cs0 := pick_cases (lt v u) u v
  have mp0 : Sm (pick (lt q p) q p) := pick_sm sq_ sp
  have mq0 : Sm (pick (lt q p) p q) := pick_sm sp sq_
  have mr0 : Sm (pick (lt v u) v u) := pick_sm sv su
  have ms0 : Sm (pick (lt v u) u v) := pick_sm su sv
  generalize pick (lt q p) q p = p0 at *
  generalize pick (lt q p) p q = q0 at *
  generalize pick (lt v u) v u = r0 at *
  generalize pick (lt v u) u v = s0 at *
  have kp1 : key (pick (lt p0 r0) r0 p0) = max (key p0) (key r0) := by
    rw [pick_key]
    by_cases c : lt p0 r0 = true
    · rw [if_pos c]; have := (lt_iff mp0 mr0).1 c; omega
    · rw [if_neg c]; have : ¬ key p0 < key r0 := fun h => c ((lt_iff mp0 mr0).2 h); omega
  have kq1 : key (pick (lt s0 q0) s0 q0) = min (key q0) (key s0) := by
    rw [pick_key]
    by_cases c : lt s0 q0 = true
    · rw [if_pos c]; have := (lt_iff ms0 mq0).1 c; omega
    · rw [if_neg c]; have : ¬ key s0 < key q0 := fun h => c ((lt_iff ms0 mq0).2 h); omega
  have cp1 : pick (lt p0 r0) r0 p0 = p ∨ pick (lt p0 r0) r0 p0 = q ∨ pick (lt p0 r0) r0 p0 = u ∨ pick (lt p0 r0) r0 p0 = v := by
    rcases pick_cases (lt p0 r0) r0 p0 with h | h <;> rw [h]
    · rcases cr0 with h | h <;> rw [h] <;> simp
    · rcases cp0 with h | h <;> rw [h] <;> simp
  have cq1 : pick (lt s0 q0) s0 q0 = p ∨ pick (lt s0 q0) s0 q0 = q ∨ pick (lt s0 q0) s0 q0 = u ∨ pick (lt s0 q0) s0 q0 = v := by
    rcases pick_cases (lt s0 q0) s0 q0 with h | h <;> rw [h]
    · rcases cs0 with h | h <;> rw [h] <;> simp
    · rcases cq0 with h | h <;> rw [h] <;> simp
  have mp1 : Sm (pick (lt p0 r0) r0 p0) := pick_sm mr0 mp0
  have mq1 : Sm (pick (lt s0 q0) s0 q0) := pick_sm ms0 mq0
  generalize pick (lt p0 r0) r0 p0 = p1 at *
  generalize pick (lt s0 q0) s0 q0 = q1 at *
  rw [kp0, kr0] at kp1
  rw [kq0, ks0] at kq1
  unfold com2
  by_cases c : lt p1 q1 = true
  · have hlt := (lt_iff mp1 mq1).1 c
    simp only [if_pos c]
    refine ⟨sq_nonneg _ _, fun e he f hf => ?_, Or.inr ⟨q1, ofE q1 cq1 (by omega) (by omega), p1, ofE p1 cp1 (by omega) (by omega), fun h => by rw [h] at hlt; omega, rfl⟩⟩
    obtain ⟨e1, e2, e3⟩ := inE e he
    obtain ⟨f1, f2, f3⟩ := inE f hf
    exact sq_mono hK ((four e e1).1.sub (four f f1).1) ((four q1 cq1).1.sub (four p1 cp1).1) (by omega) (by omega)
  · have hge : ¬ key p1 < key q1 := fun h => c ((lt_iff mp1 mq1).2 h)
    simp only [if_neg c]
    refine ⟨Int.le_refl _, fun e he f hf => ?_, Or.inl trivial⟩
    obtain ⟨e1, e2, e3⟩ := inE e he
    obtain ⟨f1, f2, f3⟩ := inE f hf
    have : e = f := key_inj (four e e1).2 (four f f1).2 (by omega)
    rw [this, sq_self]; exact Int.le_refl _
/-! what is computed with numbers of 64 bits -/
theorem prod_small {a b : Int} (ha : -2000 ≤ a ∧ a ≤ 2000) (hb : -2000 ≤ b ∧ b ≤ 2000) : -4000000 ≤ a * b ∧ a * b ≤ 4000000 := by
  have h1 := Int.mul_nonneg (show 0 ≤ 2000 - a by omega) (show 0 ≤ 2000 + b by omega)
  have h2 := Int.mul_nonneg (show 0 ≤ 2000 + a by omega) (show 0 ≤ 2000 - b by omega)
  have h3 := Int.mul_nonneg (show 0 ≤ 2000 - a by omega) (show 0 ≤ 2000 - b by omega)
  have h4 := Int.mul_nonneg (show 0 ≤ 2000 + a by omega) (show 0 ≤ 2000 + b by omega)
  constructor <;> grind
theorem sq_small {a b : S43} (ha : Sm a) (hb : Sm b) : sq a b ≤ 8000000 := by
  unfold Sm at ha hb
  have h1 := prod_small (a := a.f0 - b.f0) (b := a.f0 - b.f0) (by omega) (by omega)
  have h2 := prod_small (a := a.f1 - b.f1) (b := a.f1 - b.f1) (by omega) (by omega)
  unfold sq; omega
end Go.Proofs.Ytllfeehchiikoaa.Geo
namespace Go.Proofs.Ytllfeehchiikoaa.HullGeo
set_option linter.unusedSimpArgs false
set_option linter.unusedVariables false
open Go.Proofs.Ytllfeehchiikoaa.PA Go.Proofs.Ytllfeehchiikoaa.Geo

/-! ### signs of products -/
theorem neg_of_mul_neg {A x B y : Int} (hA : 0 < A) (hB : 0 < B) (h : A * x = B * y) : (0 < y → 0 < x) ∧ (y < 0 → x < 0) ∧ (y = 0 → x = 0) := by
  refine ⟨fun hy => ?_, fun hy => ?_, fun hy => ?_⟩
  · have := Int.mul_pos hB hy
    by_cases c : 0 < x
    · exact c
    · have := Int.mul_nonpos_of_nonneg_of_nonpos (Int.le_of_lt hA) (show x ≤ 0 by omega)
      omega
  · have := Int.mul_neg_of_pos_of_neg hB hy
    rw [← h] at this
    by_cases c : x < 0
    · exact c
    · have := Int.mul_nonneg (Int.le_of_lt hA) (show 0 ≤ x by omega)
      omega
  · rw [hy, Int.mul_zero] at h
    rcases Int.mul_eq_zero.1 h with h | h
    · omega
    · exact h
/-- A multiple by no more than one. -/
theorem scal {A B u v : Int} (hB : 0 < B) (hAB : B ≤ A) (h : A * v = B * u) : (0 ≤ u → 0 ≤ v ∧ v ≤ u) ∧ (u ≤ 0 → u ≤ v ∧ v ≤ 0) := by
  have hA : 0 < A := by omega
  obtain ⟨h1, h2, h3⟩ := neg_of_mul_neg hA hB h
  refine ⟨fun hu => ?_, fun hu => ?_⟩
  · have h0 : 0 ≤ v := by
      rcases Int.lt_or_eq_of_le hu with hu | hu
      · have := h1 hu; omega
      · have := h3 hu.symm; omega
    refine ⟨h0, ?_⟩
    by_cases c : v ≤ u
    · exact c
    · have e1 : B * v ≤ A * v := Int.mul_le_mul_of_nonneg_right hAB h0
      have e2 : B * u < B * v := Int.mul_lt_mul_of_pos_left (by omega) hB
      omega
  · have h0 : v ≤ 0 := by
      rcases Int.lt_or_eq_of_le hu with hu | hu
      · have := h2 hu; omega
      · have := h3 hu; omega
    refine ⟨?_, h0⟩
    by_cases c : u ≤ v
    · exact c
    · have e1 : A * v ≤ B * v := Int.mul_le_mul_of_nonpos_right hAB h0
      have e2 : B * v < B * u := Int.mul_lt_mul_of_pos_left (by omega) hB
      omega
/-- How far a corner lies beyond the line through o in the direction (a, b). -/
def off (a b : Int) (o c : S43) : Int := a * (c.f1 - o.f1) - b * (c.f0 - o.f0)
theorem off_plk (a b : Int) (o u v w : S43) : off a b o u * cr o v w = off a b o v * cr o u w - off a b o w * cr o u v := by
  unfold off cr; grind
theorem off_x (a b : Int) (o u v : S43) : off a b o u * (v.f0 - o.f0) = off a b o v * (u.f0 - o.f0) - cr o u v * a := by
  unfold off cr; grind
theorem off_y (a b : Int) (o u v : S43) : off a b o u * (v.f1 - o.f1) = off a b o v * (u.f1 - o.f1) - cr o u v * b := by
  unfold off cr; grind
theorem cr_swap (o u v : S43) : cr o u v = - cr o v u := by unfold cr; grind
theorem cr_self1 (o v : S43) : cr o o v = 0 := by unfold cr; grind
theorem cr_self2 (o v : S43) : cr o v v = 0 := by unfold cr; grind
theorem cr_self3 (o v : S43) : cr o v o = 0 := by unfold cr; grind
theorem cr_cyc (o u v : S43) : cr o u v = cr u v o := by unfold cr; grind
/-- Seen from o, with all on the one side of a line, u comes first and lies behind v or beside it. -/
theorem turn {a b : Int} {o u v w : S43} (hu : 0 < off a b o u) (hv : 0 < off a b o v) (hw : 0 < off a b o w) (h1 : cr o u v ≤ 0) (h2 : 0 ≤ cr o u w) : 0 ≤ cr o v w := by
  have e := off_plk a b o u v w
  have e1 := Int.mul_nonneg (Int.le_of_lt hv) h2
  have e2 := Int.mul_nonneg (Int.le_of_lt hw) (show 0 ≤ - cr o u v by omega)
  rw [Int.mul_neg] at e2
  by_cases c : 0 ≤ cr o v w
  · exact c
  · have := Int.mul_neg_of_pos_of_neg hu (show cr o v w < 0 by omega)
    omega
theorem turn0 {a b : Int} {o u v w : S43} (hu : 0 < off a b o u) (hv : 0 < off a b o v) (hw : 0 < off a b o w) (h1 : cr o u v ≤ 0) (h2 : 0 ≤ cr o u w) (h : cr o v w = 0) : cr o u v = 0 ∧ cr o u w = 0 := by
  have e := off_plk a b o u v w
  have e1 := Int.mul_nonneg (Int.le_of_lt hv) h2
  have e2 := Int.mul_nonneg (Int.le_of_lt hw) (show 0 ≤ - cr o u v by omega)
  rw [Int.mul_neg] at e2
  rw [h, Int.mul_zero] at e
  have f1 : off a b o v * cr o u w = 0 := by omega
  have f2 : off a b o w * cr o u v = 0 := by omega
  rcases Int.mul_eq_zero.1 f1 with g | g
  · omega
  · rcases Int.mul_eq_zero.1 f2 with g' | g'
    · omega
    · exact ⟨g', g⟩
/-- Two in one direction: one of them lies before the other. -/
theorem near {a b : Int} {o u v : S43} (hu : 0 < off a b o u) (hv : 0 < off a b o v) (h : cr o u v = 0) : Box u o v ∨ Box v o u := by
  have ex := off_x a b o u v
  have ey := off_y a b o u v
  rw [h, Int.zero_mul, Int.sub_zero] at ex ey
  by_cases c : off a b o v ≤ off a b o u
  · right
    have sx := scal hv c ex
    have sy := scal hv c ey
    unfold Box
    by_cases x : 0 ≤ u.f0 - o.f0 <;> by_cases y : 0 ≤ u.f1 - o.f1
    · have := sx.1 x; have := sy.1 y; omega
    · have := sx.1 x; have := sy.2 (by omega); omega
    · have := sx.2 (by omega); have := sy.1 y; omega
    · have := sx.2 (by omega); have := sy.2 (by omega); omega
  · left
    have sx := scal hu (by omega) ex.symm
    have sy := scal hu (by omega) ey.symm
    unfold Box
    by_cases x : 0 ≤ v.f0 - o.f0 <;> by_cases y : 0 ≤ v.f1 - o.f1
    · have := sx.1 x; have := sy.1 y; omega
    · have := sx.1 x; have := sy.2 (by omega); omega
    · have := sx.2 (by omega); have := sy.1 y; omega
    · have := sx.2 (by omega); have := sy.2 (by omega); omega
theorem ext {u v : S43} (h : u.f0 = v.f0) (h2 : u.f1 = v.f1) : u = v := by cases u; cases v; simp_all
/-- From o, n has the corners of S to its one side; those in one line lie between. -/
def Sup (o n : S43) (S : List S43) : Prop := ∀ c ∈ S, 0 ≤ cr o n c ∧ (cr o n c = 0 → Box c o n)
def Side (a b : Int) (o : S43) (S : List S43) : Prop := ∀ c ∈ S, c = o ∨ 0 < off a b o c
theorem box_self (o n : S43) : Box o o n := by unfold Box; omega
theorem box_self2 (o n : S43) : Box n o n := by unfold Box; omega
theorem box_trans {c o n m : S43} (h : Box c o n) (h2 : Box n o m) : Box c o m := by
  unfold Box at *; omega
/-- The next corner is another one. -/
theorem sup_new {a b : Int} {o n c : S43} {S : List S43} (hn : 0 < off a b o n) (hc : 0 < off a b o c) (hS : Side a b o S) (h : Sup o n S) (hu : cr o n c < 0 ∨ (cr o n c = 0 ∧ Box n o c)) : Sup o c (S ++ [c]) := by
  intro x hx
  rcases List.mem_append.1 hx with hx | hx
  · obtain ⟨h1, h2⟩ := h x hx
    rcases hS x hx with rfl | hox
    · rw [cr_self3]; exact ⟨Int.le_refl _, fun _ => box_self _ _⟩
    · refine ⟨turn hn hc hox (by omega) h1, fun e => ?_⟩
      obtain ⟨g1, g2⟩ := turn0 hn hc hox (by omega) h1 e
      rcases hu with hu | hu
      · omega
      · exact box_trans (h2 g2) hu.2
  · rw [List.mem_singleton] at hx
    subst hx
    rw [cr_self2]; exact ⟨Int.le_refl _, fun _ => box_self2 _ _⟩
/-- The next corner stays. -/
theorem sup_old {a b : Int} {o n c : S43} {S : List S43} (hn : 0 < off a b o n) (hc : c = o ∨ 0 < off a b o c) (h : Sup o n S) (hu : c = o ∨ ¬ (cr o n c < 0 ∨ (cr o n c = 0 ∧ Box n o c))) : Sup o n (S ++ [c]) := by
  intro x hx
  rcases List.mem_append.1 hx with hx | hx
  · exact h x hx
  · rw [List.mem_singleton] at hx
    subst hx
    rcases hc with rfl | hc
    · rw [cr_self3]; exact ⟨Int.le_refl _, fun _ => box_self _ _⟩
    · have hu : ¬ (cr o n x < 0 ∨ (cr o n x = 0 ∧ Box n o x)) := by
        rcases hu with rfl | hu
        · exfalso; unfold off at hc; rw [Int.sub_self, Int.sub_self, Int.mul_zero, Int.mul_zero] at hc; omega
        · exact hu
      refine ⟨by omega, fun e => ?_⟩
      rcases near hn hc e with g | g
      · exact absurd (Or.inr ⟨e, g⟩) hu
      · exact g
/-- What is told of an edge. -/
structure Edg (o n : S43) (S : List S43) : Prop where
  ne : n ≠ o
  mem : n ∈ S
  sup : Sup o n S
theorem prod_le {a b A B : Int} (h1 : -A ≤ a) (h2 : a ≤ A) (h3 : -B ≤ b) (h4 : b ≤ B) (hA : 0 ≤ A) (hB : 0 ≤ B) : -(A * B) ≤ a * b ∧ a * b ≤ A * B := by
  have k1 := Int.mul_nonneg (show 0 ≤ A - a by omega) (show 0 ≤ B - b by omega)
  have k2 := Int.mul_nonneg (show 0 ≤ A + a by omega) (show 0 ≤ B + b by omega)
  have k3 := Int.mul_nonneg (show 0 ≤ A - a by omega) (show 0 ≤ B + b by omega)
  have k4 := Int.mul_nonneg (show 0 ≤ A + a by omega) (show 0 ≤ B - b by omega)
  have e1 : (A - a) * (B - b) = A * B - A * b - a * B + a * b := by grind
  have e2 : (A + a) * (B + b) = A * B + A * b + a * B + a * b := by grind
  have e3 : (A - a) * (B + b) = A * B + A * b - a * B - a * b := by grind
  have e4 : (A + a) * (B - b) = A * B - A * b + a * B - a * b := by grind
  rw [e1] at k1; rw [e2] at k2; rw [e3] at k3; rw [e4] at k4
  omega
/-- Behind an edge all corners lie on the one side of a line through its end. -/
theorem side_next {o n : S43} {S : List S43} (ho : Sm o) (hS : ∀ c ∈ S, Sm c) (h : Edg o n S) : ∃ a b, Side a b n S := by
  have hn := hS n h.mem
  refine ⟨10000000 * (n.f0 - o.f0) - (n.f1 - o.f1), 10000000 * (n.f1 - o.f1) + (n.f0 - o.f0), fun c hc => ?_⟩
  by_cases e : c = n
  · exact Or.inl e
  · right
    have hsc := hS c hc
    obtain ⟨h1, h2⟩ := h.sup c hc
    have id : off (10000000 * (n.f0 - o.f0) - (n.f1 - o.f1)) (10000000 * (n.f1 - o.f1) + (n.f0 - o.f0)) n c = 10000000 * cr o n c - ((n.f0 - o.f0) * (c.f0 - n.f0) + (n.f1 - o.f1) * (c.f1 - n.f1)) := by unfold off cr; grind
    rw [id]
    unfold Sm at ho hn hsc
    have p1 := prod_le (a := n.f0 - o.f0) (b := c.f0 - n.f0) (A := 2000) (B := 2000) (by omega) (by omega) (by omega) (by omega) (by omega) (by omega)
    have p2 := prod_le (a := n.f1 - o.f1) (b := c.f1 - n.f1) (A := 2000) (B := 2000) (by omega) (by omega) (by omega) (by omega) (by omega) (by omega)
    by_cases z : cr o n c = 0
    · have hb := h2 z
      rw [z, Int.mul_zero, Int.zero_sub]
      unfold Box at hb
      have q : ∀ a b : Int, (0 < a → b ≤ 0) → (a < 0 → 0 ≤ b) → a * b ≤ 0 := by
        intro a b g1 g2
        rcases Int.lt_trichotomy a 0 with g | g | g
        · exact Int.mul_nonpos_of_nonpos_of_nonneg (by omega) (g2 g)
        · rw [g, Int.zero_mul]; exact Int.le_refl _
        · exact Int.mul_nonpos_of_nonneg_of_nonpos (by omega) (g1 g)
      have q2 : ∀ a b : Int, b ≠ 0 → (0 < a → b ≤ 0) → (a < 0 → 0 ≤ b) → (a = 0 → b = 0) → a * b < 0 := by
        intro a b g0 g1 g2 g3
        rcases Int.lt_trichotomy a 0 with g | g | g
        · exact Int.mul_neg_of_neg_of_pos g (by have := g2 g; omega)
        · exact absurd (g3 g) g0
        · exact Int.mul_neg_of_pos_of_neg g (by have := g1 g; omega)
      by_cases ex : c.f0 = n.f0
      · have ey : c.f1 ≠ n.f1 := fun ey => e (ext ex ey)
        have := q (n.f0 - o.f0) (c.f0 - n.f0) (by omega) (by omega)
        have := q2 (n.f1 - o.f1) (c.f1 - n.f1) (by omega) (by omega) (by omega) (by omega)
        omega
      · have := q2 (n.f0 - o.f0) (c.f0 - n.f0) (by omega) (by omega) (by omega) (by omega)
        have := q (n.f1 - o.f1) (c.f1 - n.f1) (by omega) (by omega)
        omega
    · have : 1 ≤ cr o n c := by omega
      omega
/-- At the least corner, too. -/
theorem side_first {o : S43} {S : List S43} (hk : ∀ c ∈ S, c = o ∨ key o < key c) : Side 1 (-2001) o S := by
  intro c hc
  rcases hk c hc with h | h
  · exact Or.inl h
  · right
    unfold off; unfold key at h; omega
/-- No two edges end in one corner. -/
theorem edge_inj {u v w : S43} {S : List S43} (hu : u ∈ S) (hv : v ∈ S) (h1 : Edg u w S) (h2 : Edg v w S) : u = v := by
  obtain ⟨a1, a2⟩ := h1.sup v hv
  obtain ⟨b1, b2⟩ := h2.sup u hu
  have e : cr u w v = - cr v w u := by unfold cr; grind
  have z1 : cr u w v = 0 := by omega
  have z2 : cr v w u = 0 := by omega
  have c1 := a2 z1
  have c2 := b2 z2
  unfold Box at c1 c2
  exact ext (by omega) (by omega)
/-- One edge begins in a corner. -/
theorem edge_fun {u v w : S43} {S : List S43} {a b : Int} (hs : Side a b u S) (h1 : Edg u v S) (h2 : Edg u w S) : v = w := by
  obtain ⟨a1, a2⟩ := h1.sup w h2.mem
  obtain ⟨b1, b2⟩ := h2.sup v h1.mem
  have e : cr u w v = - cr u v w := cr_swap _ _ _
  have c1 := a2 (by omega)
  have c2 := b2 (by omega)
  unfold Box at c1 c2
  exact ext (by omega) (by omega)
/-- No corner at which an edge begins lies within another edge. -/
theorem edge_corner {o n v b : S43} {S : List S43} (ho : o ∈ S) (hn : n ∈ S) (h : Edg o n S) (hv : v ∈ S) (h2 : Edg v b S) (e1 : v ≠ o) (e2 : v ≠ n) : 0 < cr o n v := by
  obtain ⟨a1, a2⟩ := h.sup v hv
  by_cases z : cr o n v = 0
  · exfalso
    have hb := a2 z
    obtain ⟨p1, p2⟩ := h2.sup o ho
    obtain ⟨q1, q2⟩ := h2.sup n hn
    have idx : cr v b o * (n.f0 - v.f0) = cr v b n * (o.f0 - v.f0) - cr o n v * (b.f0 - v.f0) := by unfold cr; grind
    have idy : cr v b o * (n.f1 - v.f1) = cr v b n * (o.f1 - v.f1) - cr o n v * (b.f1 - v.f1) := by unfold cr; grind
    rw [z, Int.zero_mul, Int.sub_zero] at idx idy
    unfold Box at hb
    -- both lie on the line of the second edge
    have opp : ∀ G1 G2 x y : Int, 0 < G1 → 0 ≤ G2 → G1 * x = G2 * y → (0 < x → y ≤ 0) → (x < 0 → 0 ≤ y) → x = 0 := by
      intro G1 G2 x y g1 g2 g g3 g4
      rcases Int.lt_trichotomy x 0 with c | c | c
      · have := Int.mul_neg_of_pos_of_neg g1 c
        have := Int.mul_nonneg g2 (g4 c)
        omega
      · exact c
      · have := Int.mul_pos g1 c
        have := Int.mul_nonpos_of_nonneg_of_nonpos g2 (g3 c)
        omega
    have z1 : cr v b o = 0 := by
      by_cases c : cr v b o = 0
      · exact c
      · have x := opp _ _ _ _ (by omega) q1 idx (by omega) (by omega)
        have y := opp _ _ _ _ (by omega) q1 idy (by omega) (by omega)
        exact absurd (ext (by omega) (by omega)) e2
    have z2 : cr v b n = 0 := by
      by_cases c : cr v b n = 0
      · exact c
      · have x := opp _ _ _ _ (by omega) p1 idx.symm (by omega) (by omega)
        have y := opp _ _ _ _ (by omega) p1 idy.symm (by omega) (by omega)
        exact absurd (ext (by omega) (by omega)) e1
    have c1 := p2 z1
    have c2 := q2 z2
    unfold Box at c1 c2
    have ne1 : ¬ (v.f0 = o.f0 ∧ v.f1 = o.f1) := fun g => e1 (ext g.1 g.2)
    have ne2 : ¬ (v.f0 = n.f0 ∧ v.f1 = n.f1) := fun g => e2 (ext g.1 g.2)
    have nb : ¬ (b.f0 = v.f0 ∧ b.f1 = v.f1) := fun g => h2.ne (ext g.1 g.2)
    rw [z] at a1
    -- a coordinate that differs
    have X : o.f0 = v.f0 ∧ n.f0 = v.f0 ∨ (o.f0 = v.f0 ∧ n.f0 ≠ v.f0) ∨ (o.f0 ≠ v.f0 ∧ n.f0 = v.f0) := by omega
    have Y : o.f1 = v.f1 ∧ n.f1 = v.f1 ∨ (o.f1 = v.f1 ∧ n.f1 ≠ v.f1) ∨ (o.f1 ≠ v.f1 ∧ n.f1 = v.f1) := by omega
    unfold cr at z
    rcases X with X | X | X <;> rcases Y with Y | Y | Y <;> first
      | omega
      | (simp only [X.1, X.2, Y.1, Y.2] at *; omega)
      | skip
    all_goals
      exfalso
      have zz : (n.f0 - o.f0) * (v.f1 - o.f1) = (n.f1 - o.f1) * (v.f0 - o.f0) := by omega
      first
        | (rw [X.1, Y.2, Int.sub_self, Int.mul_zero] at zz
           rcases Int.mul_eq_zero.1 zz with g | g <;> omega)
        | (rw [Y.1, X.2, Int.sub_self, Int.mul_zero] at zz
           rcases Int.mul_eq_zero.1 zz.symm with g | g <;> omega)
  · omega
end Go.Proofs.Ytllfeehchiikoaa.HullGeo
namespace Go.Proofs.Ytllfeehchiikoaa.HullWrap
set_option linter.unusedSimpArgs false
set_option linter.unusedVariables false
open Go.Proofs.Ytllfeehchiikoaa.PA Go.Proofs.Ytllfeehchiikoaa.Geo Go.Proofs.Ytllfeehchiikoaa.HullGeo

instance : DecidableEq S43 := fun a b => decidable_of_iff (a.f0 = b.f0 ∧ a.f1 = b.f1) ⟨fun h => ext h.1 h.2, fun h => h ▸ ⟨rfl, rfl⟩⟩
def better (o n c : S43) : Prop := n = o ∨ cr o n c < 0 ∨ (cr o n c = 0 ∧ Box n o c)
instance (o n c : S43) : Decidable (better o n c) := by unfold better; infer_instance
def upd (o c n : S43) : S43 := if c = o then n else if better o n c then c else n
/-- The corner that comes next behind o. -/
def nxt (l : List S43) (o : S43) : S43 := l.foldl (fun n c => upd o c n) o
def ScanI (o n : S43) (S : List S43) : Prop := (n = o ∧ ∀ c ∈ S, c = o) ∨ Edg o n S
theorem scan_step {a b : Int} {o n c : S43} {S : List S43} (hs : Side a b o (S ++ [c])) (h : ScanI o n S) : ScanI o (upd o c n) (S ++ [c]) := by
  have hsS : Side a b o S := fun x hx => hs x (List.mem_append_left _ hx)
  have hsc := hs c (List.mem_append_right _ List.mem_cons_self)
  unfold upd
  by_cases e : c = o
  · rw [if_pos e]
    rcases h with h | h
    · left
      refine ⟨h.1, fun x hx => ?_⟩
      rcases List.mem_append.1 hx with hx | hx
      · exact h.2 x hx
      · rw [List.mem_singleton] at hx; rw [hx, e]
    · right
      have hn : 0 < off a b o n := by
        rcases hsS n h.mem with q | q
        · exact absurd q h.ne
        · exact q
      exact ⟨h.ne, List.mem_append_left _ h.mem, sup_old hn hsc h.sup (Or.inl e)⟩
  · rw [if_neg e]
    have hoc : 0 < off a b o c := by
      rcases hsc with q | q
      · exact absurd q e
      · exact q
    rcases h with h | h
    · rw [if_pos (show better o n c from Or.inl h.1)]
      right
      refine ⟨e, List.mem_append_right _ List.mem_cons_self, fun x hx => ?_⟩
      rcases List.mem_append.1 hx with hx | hx
      · rw [h.2 x hx, cr_self3]; exact ⟨Int.le_refl _, fun _ => box_self _ _⟩
      · rw [List.mem_singleton] at hx
        rw [hx, cr_self2]; exact ⟨Int.le_refl _, fun _ => box_self2 _ _⟩
    · have hn : 0 < off a b o n := by
        rcases hsS n h.mem with q | q
        · exact absurd q h.ne
        · exact q
      right
      by_cases q : better o n c
      · rw [if_pos q]
        rcases q with q | q
        · exact absurd q h.ne
        · exact ⟨e, List.mem_append_right _ List.mem_cons_self, sup_new hn hoc hsS h.sup q⟩
      · rw [if_neg q]
        exact ⟨h.ne, List.mem_append_left _ h.mem, sup_old hn hsc h.sup (Or.inr (fun g => q (Or.inr g)))⟩
theorem scan_all {a b : Int} {o : S43} : ∀ (T S : List S43) (n : S43), Side a b o (S ++ T) → ScanI o n S → ScanI o (T.foldl (fun n c => upd o c n) n) (S ++ T)
  | [], S, n, hs, h => by rw [List.append_nil]; exact h
  | c :: T, S, n, hs, h => by
    have e : S ++ c :: T = (S ++ [c]) ++ T := by simp
    rw [e] at hs ⊢
    exact scan_all T (S ++ [c]) _ hs (scan_step (fun x hx => hs x (List.mem_append_left _ hx)) h)
theorem nxt_is {a b : Int} {o : S43} {l : List S43} (hs : Side a b o l) : (nxt l o = o ∧ ∀ c ∈ l, c = o) ∨ Edg o (nxt l o) l := by
  have := scan_all (a := a) (b := b) (o := o) l [] o (by simpa using hs) (Or.inl ⟨rfl, by simp⟩)
  rw [List.nil_append] at this
  exact this
def at_ (l : List S43) (i : Nat) : S43 := l.getD i z43
theorem at_get {l : List S43} {i : Nat} (h : i < l.length) : at_ l i = l[i] := by
  unfold at_
  rw [List.getD_eq_getElem?_getD, List.getElem?_eq_getElem h]; rfl
theorem at_mem {l : List S43} {i : Nat} (h : i < l.length) : at_ l i ∈ l := by rw [at_get h]; exact List.getElem_mem h
theorem at_snoc {l : List S43} {x : S43} : at_ (l ++ [x]) l.length = x := by
  unfold at_
  rw [List.getD_eq_getElem?_getD, List.getElem?_append_right (Nat.le_refl _), Nat.sub_self]; rfl
theorem at_left {l m : List S43} {i : Nat} (h : i < l.length) : at_ (l ++ m) i = at_ l i := by
  unfold at_
  rw [List.getD_eq_getElem?_getD, List.getD_eq_getElem?_getD, List.getElem?_append_left h]
/-- The round, from a corner on. -/
def wrapL (l : List S43) (first : S43) : Nat → S43 → List S43 → List S43
  | 0, _, out => out
  | d + 1, now, out => if nxt l now = first then out ++ [now] else wrapL l first d (nxt l now) (out ++ [now])
/-- What has been passed so far. -/
structure Pth (l : List S43) (first : S43) (vs : List S43) : Prop where
  pos : 0 < vs.length
  hd : at_ vs 0 = first
  nd : vs.Nodup
  mem : ∀ x ∈ vs, x ∈ l
  edge : ∀ i, i + 1 < vs.length → Edg (at_ vs i) (at_ vs (i + 1)) l
structure Hul (l : List S43) (first : S43) (vs : List S43) : Prop where
  path : Pth l first vs
  last : Edg (at_ vs (vs.length - 1)) first l
theorem nodup_le {l : List S43} : ∀ {vs : List S43}, vs.Nodup → (∀ x ∈ vs, x ∈ l) → vs.length ≤ l.length := by
  intro vs
  induction vs generalizing l with
  | nil => intro _ _; exact Nat.zero_le _
  | cons v vs ih =>
    intro hn hm
    rw [List.nodup_cons] at hn
    have h1 := ih (l := l.erase v) hn.2 (fun x hx => (List.mem_erase_of_ne (fun (e : x = v) => hn.1 (by rw [← e]; exact hx))).2 (hm x (List.mem_cons_of_mem _ hx)))
    have h2 := hm v List.mem_cons_self
    have h3 := List.length_erase_of_mem h2
    have h4 := List.length_pos_of_mem h2
    rw [List.length_cons]; omega
theorem at_inj {vs : List S43} (hn : vs.Nodup) {i j : Nat} (hi : i < vs.length) (hj : j < vs.length) (h : at_ vs i = at_ vs j) : i = j := by
  rw [at_get hi, at_get hj] at h
  exact (List.getElem_inj hn).1 h
theorem side_at {l : List S43} {first : S43} (hS : ∀ c ∈ l, Sm c) (hk : ∀ c ∈ l, c = first ∨ key first < key c) {vs : List S43} (h : Pth l first vs) : ∀ i, i < vs.length → ∃ a b, Side a b (at_ vs i) l
  | 0, hi => by rw [h.hd]; exact ⟨_, _, side_first hk⟩
  | i + 1, hi => side_next (hS _ (h.mem _ (at_mem (by omega)))) hS (h.edge i hi)
theorem path_snoc {l : List S43} {first n : S43} {vs : List S43} (h : Pth l first vs) (he : Edg (at_ vs (vs.length - 1)) n l) (hf : n ≠ first) : Pth l first (vs ++ [n]) := by
  have hp := h.pos
  have hnew : n ∉ vs := by
    intro hm
    obtain ⟨j, hj, e⟩ := List.getElem_of_mem hm
    rw [← at_get hj] at e
    cases j with
    | zero => exact hf (by rw [← e, h.hd])
    | succ j =>
      have h1 := h.edge j hj
      rw [e] at h1
      have h2 := edge_inj (h.mem _ (at_mem (by omega))) (h.mem _ (at_mem (by omega))) h1 he
      have := at_inj h.nd (by omega) (by omega) h2
      omega
  refine ⟨by simp, by rw [at_left hp]; exact h.hd, ?_, fun x hx => ?_, fun i hi => ?_⟩
  · rw [List.nodup_append]
    refine ⟨h.nd, by simp, fun a ha b hb => ?_⟩
    rw [List.mem_singleton] at hb
    rw [hb]; exact fun e => hnew (e ▸ ha)
  · rcases List.mem_append.1 hx with hx | hx
    · exact h.mem x hx
    · rw [List.mem_singleton] at hx
      rw [hx]; exact he.mem
  · rw [List.length_append, List.length_singleton] at hi
    by_cases e : i + 1 < vs.length
    · rw [at_left e, at_left (by omega)]; exact h.edge i e
    · have e2 : i + 1 = vs.length := by omega
      rw [e2, at_snoc, at_left (by omega)]
      have e3 : i = vs.length - 1 := by omega
      rw [e3]; exact he
theorem wrap_is {l : List S43} {first : S43} (hS : ∀ c ∈ l, Sm c) (hk : ∀ c ∈ l, c = first ∨ key first < key c) (hm : ∃ c ∈ l, c ≠ first) : ∀ (d : Nat) (now : S43) (out : List S43), out.length + d = l.length → Pth l first (out ++ [now]) → Hul l first (wrapL l first d now out)
  | 0, now, out, h, hp => by
    have := nodup_le hp.nd hp.mem
    rw [List.length_append, List.length_singleton] at this
    omega
  | d + 1, now, out, h, hp => by
    obtain ⟨a, b, hs⟩ := side_at hS hk hp out.length (by simp)
    rw [at_snoc] at hs
    have hlast : at_ (out ++ [now]) ((out ++ [now]).length - 1) = now := by
      rw [List.length_append, List.length_singleton, Nat.add_sub_cancel, at_snoc]
    have he : Edg now (nxt l now) l := by
      rcases nxt_is hs with q | q
      · exfalso
        obtain ⟨c, hc, hne⟩ := hm
        have hf : first ∈ l := by rw [← hp.hd]; exact hp.mem _ (at_mem hp.pos)
        exact hne ((q.2 c hc).trans (q.2 first hf).symm)
      · exact q
    rw [wrapL]
    by_cases e : nxt l now = first
    · rw [if_pos e]
      exact ⟨hp, by rw [hlast, ← e]; exact he⟩
    · rw [if_neg e]
      exact wrap_is hS hk hm d _ _ (by rw [List.length_append, List.length_singleton]; omega) (path_snoc hp (by rw [hlast]; exact he) e)
/-- The least corner of a list. -/
def leastFrom (c : S43) (l : List S43) : S43 := l.foldl (fun m c => if lt c m = true then c else m) c
theorem least_is : ∀ (l : List S43) (c : S43), Sm c → (∀ x ∈ l, Sm x) → (leastFrom c l = c ∨ leastFrom c l ∈ l) ∧ (key (leastFrom c l) ≤ key c) ∧ ∀ x ∈ l, key (leastFrom c l) ≤ key x
  | [], c, hc, hl => ⟨Or.inl rfl, Int.le_refl _, fun x hx => by cases hx⟩
  | y :: l, c, hc, hl => by
    have hy := hl y List.mem_cons_self
    have hl' : ∀ x ∈ l, Sm x := fun x hx => hl x (List.mem_cons_of_mem _ hx)
    show (leastFrom (if lt y c = true then y else c) l = c ∨ leastFrom (if lt y c = true then y else c) l ∈ y :: l) ∧ (key (leastFrom (if lt y c = true then y else c) l) ≤ key c) ∧ ∀ x ∈ y :: l, key (leastFrom (if lt y c = true then y else c) l) ≤ key x
    by_cases e : lt y c = true
    · rw [if_pos e]
      obtain ⟨h1, h2, h3⟩ := least_is l y hy hl'
      have := (lt_iff hy hc).1 e
      refine ⟨Or.inr ?_, by omega, fun x hx => ?_⟩
      · rcases h1 with h1 | h1
        · rw [h1]; exact List.mem_cons_self
        · exact List.mem_cons_of_mem _ h1
      · rcases List.mem_cons.1 hx with rfl | hx
        · exact h2
        · exact h3 x hx
    · rw [if_neg e]
      obtain ⟨h1, h2, h3⟩ := least_is l c hc hl'
      have : ¬ key y < key c := fun g => e ((lt_iff hy hc).2 g)
      refine ⟨?_, h2, fun x hx => ?_⟩
      · rcases h1 with h1 | h1
        · exact Or.inl h1
        · exact Or.inr (List.mem_cons_of_mem _ h1)
      · rcases List.mem_cons.1 hx with rfl | hx
        · omega
        · exact h3 x hx
def first : List S43 → S43
  | [] => z43
  | c :: l => leastFrom c l
theorem first_is {l : List S43} (hS : ∀ c ∈ l, Sm c) (hne : l ≠ []) : first l ∈ l ∧ ∀ c ∈ l, c = first l ∨ key (first l) < key c := by
  cases l with
  | nil => exact absurd rfl hne
  | cons c l =>
    obtain ⟨h1, h2, h3⟩ := least_is l c (hS c List.mem_cons_self) (fun x hx => hS x (List.mem_cons_of_mem _ hx))
    have hm : leastFrom c l ∈ c :: l := by
      rcases h1 with h1 | h1
      · rw [h1]; exact List.mem_cons_self
      · exact List.mem_cons_of_mem _ h1
    refine ⟨hm, fun x hx => ?_⟩
    show x = leastFrom c l ∨ key (leastFrom c l) < key x
    have hle : key (leastFrom c l) ≤ key x := by
      rcases List.mem_cons.1 hx with rfl | hx
      · exact h2
      · exact h3 x hx
    by_cases e : key (leastFrom c l) < key x
    · exact Or.inr e
    · exact Or.inl (key_inj (hS x hx) (hS _ hm) (by omega))
/-- The corners round a list. -/
def round (l : List S43) : List S43 := wrapL l (first l) l.length (first l) []
theorem round_is {l : List S43} (hS : ∀ c ∈ l, Sm c) (hne : l ≠ []) (hm : ∃ c ∈ l, c ≠ first l) : Hul l (first l) (round l) := by
  obtain ⟨h1, h2⟩ := first_is hS hne
  refine wrap_is hS h2 hm l.length (first l) [] (by simp) ⟨by simp, rfl, by simp, fun x hx => ?_, fun i hi => ?_⟩
  · rw [List.nil_append, List.mem_singleton] at hx
    rw [hx]; exact h1
  · simp at hi
theorem round_one {l : List S43} (hS : ∀ c ∈ l, Sm c) (hne : l ≠ []) (hm : ¬ ∃ c ∈ l, c ≠ first l) : round l = [first l] := by
  obtain ⟨h1, h2⟩ := first_is hS hne
  have hs : Side 1 (-2001) (first l) l := side_first h2
  have hx : nxt l (first l) = first l := by
    rcases nxt_is hs with q | q
    · exact q.1
    · exact absurd ⟨_, q.mem, q.ne⟩ hm
  unfold round
  obtain ⟨n, hn⟩ : ∃ n, l.length = n + 1 := ⟨l.length - 1, by have := List.length_pos_iff.2 hne; omega⟩
  rw [hn, wrapL, if_pos hx]; rfl
/-- Each corner, and the one behind it. -/
theorem Hul.edge_at {l : List S43} {first : S43} {vs : List S43} (h : Hul l first vs) {i : Nat} (hi : i < vs.length) : Edg (at_ vs i) (at_ vs ((i + 1) % vs.length)) l := by
  by_cases e : i + 1 < vs.length
  · rw [Nat.mod_eq_of_lt e]; exact h.path.edge i e
  · have e2 : i = vs.length - 1 := by omega
    have e3 : i + 1 = vs.length := by omega
    rw [e3, Nat.mod_self, h.path.hd, e2]; exact h.last
theorem Hul.convex {l : List S43} {first : S43} {vs : List S43} (h : Hul l first vs) {i j : Nat} (hi : i < vs.length) (hj : j < vs.length) (h1 : j ≠ i) (h2 : j ≠ (i + 1) % vs.length) : 0 < cr (at_ vs i) (at_ vs ((i + 1) % vs.length)) (at_ vs j) := by
  have hn : (i + 1) % vs.length < vs.length := Nat.mod_lt _ (by omega)
  exact edge_corner (h.path.mem _ (at_mem hi)) (h.path.mem _ (at_mem hn)) (h.edge_at hi) (h.path.mem _ (at_mem hj)) (h.edge_at hj) (fun e => h1 (at_inj h.path.nd hj hi e)) (fun e => h2 (at_inj h.path.nd hj hn e))
end Go.Proofs.Ytllfeehchiikoaa.HullWrap
namespace Go.Proofs.Ytllfeehchiikoaa.StonesKit
set_option linter.unusedSimpArgs false
set_option linter.unusedVariables false
open Go.RowKit Go.Proofs.Ytllfeehchiikoaa.PA Go.Proofs.Ytllfeehchiikoaa.Base Go.Proofs.YtllfeehchiikoaaW.PrintWords Go.Proofs.YtllfeehchiikoaaW.PrintLast Go.Proofs.YtllfeehchiikoaaW.PrintMore

def Fit (l : List S43) : Prop := ∀ c ∈ l, (-32768 ≤ c.f0 ∧ c.f0 ≤ 32767) ∧ (-32768 ≤ c.f1 ∧ c.f1 ≤ 32767)
theorem rdC (xs : List S43) (i : Nat) (h : i < xs.length) : rd_T43 xs (i : Int) = xs[i] := getD_nat xs z43 i h
theorem rdC' (xs : List S43) (i : Nat) : rd_T43 xs (i : Int) = xs.getD i z43 := by simp [rd_T43]
theorem specIn (n b c : Int) : spec_l00In.f n b c = some (inB n b c) := inB_ite
theorem implIn (n b c : Int) : impl_within.f n b c = some (inB n b c) := inB_ite
theorem tm (i n : Nat) (h : i < n) (hn : n ≤ 1048576) : Int.tmod (wrap64 ((i : Int) + 1)) (n : Int) = (((i + 1) % n : Nat) : Int) := by
  rw [w64 (by omega) (by omega), Int.tmod_eq_emod_of_nonneg (by omega)]; simp
/-- The side of c beside a and b. -/
def sd (a b c : S43) : Int := (impl_side.f a.f0 a.f1 b.f0 b.f1 c.f0 c.f1).getD 0
theorem implSide (a b c : S43) : impl_side.f a.f0 a.f1 b.f0 b.f1 c.f0 c.f1 = some (sd a b c) := rfl
theorem specSide (a b c : S43) : spec_l03Side.f a.f0 a.f1 b.f0 b.f1 c.f0 c.f1 = some (sd a b c) := rfl
def at_ (l : List S43) (i : Nat) : S43 := l.getD i z43
def cvx (l : List S43) (i j : Nat) : Bool := decide (j = i) || decide (j = (i + 1) % l.length) || decide (0 < sd (at_ l i) (at_ l ((i + 1) % l.length)) (at_ l j))
def convB (l : List S43) : Bool := (List.range l.length).all fun i => (List.range l.length).all fun j => cvx l i j
def placed (c : S43) : Bool := inB c.f0 (-1000) 1000 && inB c.f1 (-1000) 1000
def okS (l : List S43) : Bool := inB (l.length : Int) 3 8 && l.all placed && convB l
theorem all_range {α : Type} (l : List α) (z : α) (p : α → Bool) : (List.range l.length).all (fun j => p (l.getD j z)) = l.all p := by
  rw [Bool.eq_iff_iff, List.all_eq_true, List.all_eq_true]
  constructor
  · intro h x hx
    obtain ⟨i, hi, rfl⟩ := List.getElem_of_mem hx
    have := h i (by simpa using hi)
    simpa [List.getD_eq_getElem?_getD, hi] using this
  · intro h i hi
    have hi' : i < l.length := by simpa using hi
    rw [List.getD_eq_getElem?_getD, List.getElem?_eq_getElem hi']
    exact h _ (List.getElem_mem hi')
theorem specPlace (n : Int) : spec_l03Place.f n = some (inB n (-1000) 1000) := by simp [spec_l03Place.f, specIn]
theorem specCorner {c : S43} (h : (-32768 ≤ c.f0 ∧ c.f0 ≤ 32767) ∧ (-32768 ≤ c.f1 ∧ c.f1 ≤ 32767)) : spec_l03Corner.f c.f0 c.f1 = some (placed c) := by
  unfold spec_l03Corner.f placed
  rw [w64 (by omega) (by omega), w64 (by omega) (by omega), specPlace, specPlace, Option.bind_some]
  cases inB c.f0 (-1000) 1000 <;> simp
theorem implPlaced {c : S43} (h : (-32768 ≤ c.f0 ∧ c.f0 ≤ 32767) ∧ (-32768 ≤ c.f1 ∧ c.f1 ≤ 32767)) : impl_isPlaced.f c.f0 c.f1 = some (placed c) := by
  unfold impl_isPlaced.f placed
  rw [w64 (by omega) (by omega), w64 (by omega) (by omega), implIn, implIn, Option.bind_some]
  cases inB c.f0 (-1000) 1000 <;> simp
theorem ite_b (b : Bool) : (if b = true then true else false) = b := by cases b <;> rfl
theorem nx_lt (l : List S43) (i : Nat) (h : i < l.length) : (i + 1) % l.length < l.length := Nat.mod_lt _ (by omega)
theorem specConvex (l : List S43) (hl : l.length ≤ 1048576) : Ev (fun k => spec_l03Convex.f k l) (decide (3 ≤ (l.length : Int)) && convB l) := by
  unfold spec_l03Convex.f
  refine Ev.ite (fun e => Ev.fin ?_) (fun e => ?_)
  · rw [decide_eq_false (by omega)]; rfl
  · rw [decide_eq_true (by omega), Bool.true_and]
    refine Ev.to (rangeAll_ev0 (fun k i => spec_l03Convex.l0 k l i) l.length (fun i => (List.range l.length).all fun j => cvx l i j) true false ?_ ?_ ?_) (ite_b _)
    all_goals first
      | (intro i hi hp r' hr)
      | (intro i hi hp)
      | (intro hp)
    · have hn := nx_lt l i hi
      have ht := tm i l.length hi hl
      refine Ev.step (fun k => by rw [spec_l03Convex.l0]) (Ev.pos (by omega) ?_)
      refine Ev.nobind (a := (((i + 1) % l.length : Nat) : Int)) (by unfold spec_l03Next.f; rw [if_neg (by omega), ht]) ?_
      refine Ev.to (rangeAll_ev0 (fun k j => spec_l03Convex.l1 k l i (((i + 1) % l.length : Nat) : Int) j) l.length (fun j => cvx l i j) r' r' ?_ ?_ ?_) (by simp)
      · intro j hj hq r2 hr2
        have ha := w64 (x := (j : Int) + 1) (by omega) (by omega)
        have hq' := hq
        unfold cvx at hq'
        simp only [Bool.or_eq_true, decide_eq_true_eq] at hq'
        refine Ev.step (fun k => by rw [spec_l03Convex.l1]) (Ev.pos (by omega) ?_)
        rw [ha]
        refine Ev.ite (fun _ => hr2) (fun e1 => Ev.ite (fun _ => hr2) (fun e2 => ?_))
        refine Ev.pos (by omega) (Ev.pos (by omega) (Ev.pos (by omega) (Ev.pos (by omega) (Ev.pos (by omega) ?_))))
        refine Ev.nobind (specSide _ _ _) (Ev.neg ?_ hr2)
        rw [rdC', rdC', rdC']
        have : 0 < sd (at_ l i) (at_ l ((i + 1) % l.length)) (at_ l j) := by
          rcases hq' with (h | h) | h
          · omega
          · omega
          · exact h
        unfold at_ at this; omega
      · intro j hj hq
        exfalso
        rw [List.all_eq_true] at hp
        have := hp j (by simpa using hj)
        rw [hq] at this; cases this
      · intro _
        have ha := w64 (x := (i : Int) + 1) (by omega) (by omega)
        refine Ev.step (fun k => by rw [spec_l03Convex.l1]) (Ev.neg (by omega) ?_)
        rw [ha]; exact hr
    · have hn := nx_lt l i hi
      have ht := tm i l.length hi hl
      refine Ev.step (fun k => by rw [spec_l03Convex.l0]) (Ev.pos (by omega) ?_)
      refine Ev.nobind (a := (((i + 1) % l.length : Nat) : Int)) (by unfold spec_l03Next.f; rw [if_neg (by omega), ht]) ?_
      refine Ev.to (rangeAll_ev0 (fun k j => spec_l03Convex.l1 k l i (((i + 1) % l.length : Nat) : Int) j) l.length (fun j => cvx l i j) false false ?_ ?_ ?_) (by simp)
      · intro j hj hq r2 hr2
        have ha := w64 (x := (j : Int) + 1) (by omega) (by omega)
        have hq' := hq
        unfold cvx at hq'
        simp only [Bool.or_eq_true, decide_eq_true_eq] at hq'
        refine Ev.step (fun k => by rw [spec_l03Convex.l1]) (Ev.pos (by omega) ?_)
        rw [ha]
        refine Ev.ite (fun _ => hr2) (fun e1 => Ev.ite (fun _ => hr2) (fun e2 => ?_))
        refine Ev.pos (by omega) (Ev.pos (by omega) (Ev.pos (by omega) (Ev.pos (by omega) (Ev.pos (by omega) ?_))))
        refine Ev.nobind (specSide _ _ _) (Ev.neg ?_ hr2)
        rw [rdC', rdC', rdC']
        have : 0 < sd (at_ l i) (at_ l ((i + 1) % l.length)) (at_ l j) := by
          rcases hq' with (h | h) | h
          · omega
          · omega
          · exact h
        unfold at_ at this; omega
      · intro j hj hq
        unfold cvx at hq
        simp only [Bool.or_eq_false_iff, decide_eq_false_iff_not] at hq
        obtain ⟨⟨q1, q2⟩, q3⟩ := hq
        refine Ev.step (fun k => by rw [spec_l03Convex.l1]) (Ev.pos (by omega) (Ev.neg (by omega) (Ev.neg (by omega) ?_)))
        refine Ev.pos (by omega) (Ev.pos (by omega) (Ev.pos (by omega) (Ev.pos (by omega) (Ev.pos (by omega) ?_))))
        refine Ev.nobind (specSide _ _ _) (Ev.pos ?_ (Ev.fin rfl))
        rw [rdC', rdC', rdC']
        unfold at_ at q3; omega
      · intro h; rw [h] at hp; cases hp
    · exact Ev.step (fun k => by rw [spec_l03Convex.l0]) (Ev.neg (by omega) (Ev.fin rfl))
theorem specOk {l : List S43} (hf : Fit l) : Ev (fun k => spec_l03Ok.f k l) (okS l) := by
  unfold spec_l03Ok.f okS
  refine Ev.nobind (specIn _ _ _) (Ev.ite (fun e => ?_) (fun e => ?_))
  · rw [e]
    rw [inB_iff] at e
    refine Ev.to (rangeAll_ev0 (fun k i => spec_l03Ok.l0 k l i) l.length (fun i => placed (l.getD i z43)) (decide (3 ≤ (l.length : Int)) && convB l) false ?_ ?_ ?_) ?_
    · intro i hi hp r' hr
      have ha := w64 (x := (i : Int) + 1) (by omega) (by omega)
      refine Ev.step (fun k => by rw [spec_l03Ok.l0]) (Ev.pos (by omega) (Ev.pos (by omega) ?_))
      rw [rdC l i hi, ha]
      refine Ev.nobind (specCorner (hf _ (List.getElem_mem hi))) (Ev.pos ?_ hr)
      simpa [List.getD_eq_getElem?_getD, hi] using hp
    · intro i hi hp
      refine Ev.step (fun k => by rw [spec_l03Ok.l0]) (Ev.pos (by omega) (Ev.pos (by omega) ?_))
      rw [rdC l i hi]
      refine Ev.nobind (specCorner (hf _ (List.getElem_mem hi))) (Ev.neg ?_ (Ev.fin rfl))
      have : placed l[i] = false := by simpa [List.getD_eq_getElem?_getD, hi] using hp
      rw [this]; decide
    · intro _
      refine Ev.step (fun k => by rw [spec_l03Ok.l0]) (Ev.neg (by omega) ?_)
      exact Ev.bind (specConvex l (by omega)) (Ev.now _)
    · rw [all_range l z43 placed, decide_eq_true e.1]
      cases l.all placed <;> rfl
  · rw [Bool.not_eq_true] at e; rw [e]; exact Ev.fin rfl
theorem implConvexL {l : List S43} (hf : Fit l) (hl : l.length ≤ 1048575) : Ev (fun k => impl_isConvex.f k l) (convB l && (decide (3 ≤ (l.length : Int)) && l.all placed)) := by
  unfold impl_isConvex.f
  have fin0 : impl_isConvex_1_any.f l = some (!(l.all placed)) := by
    unfold impl_isConvex_1_any.f
    rw [idxO_any (q := fun c => !placed c) l (fun c hc => by unfold impl_isConvex_1.f; rw [implPlaced (hf c hc)]; rfl)]
    congr 1
    rw [Bool.eq_iff_iff]; simp [List.any_eq_true, List.all_eq_true]
  refine Ev.to (rangeAll_ev0 (fun k i => impl_isConvex.l0 k l (l.length : Int) l (l.length : Int) i) l.length (fun i => (List.range l.length).all fun j => cvx l i j) (decide (3 ≤ (l.length : Int)) && l.all placed) false ?_ ?_ ?_) (by unfold convB; cases ((List.range l.length).all fun i => (List.range l.length).all fun j => cvx l i j) <;> rfl)
  · intro i hi hp r' hr
    have hn := nx_lt l i hi
    have ht := tm i l.length hi (by omega)
    refine Ev.step (fun k => by rw [impl_isConvex.l0]) (Ev.pos (by omega) (Ev.pos (by omega) (Ev.pos (by omega) (Ev.neg (by omega) ?_))))
    rw [ht]
    refine Ev.pos (by omega) (Ev.pos (by omega) ?_)
    refine Ev.to (rangeAll_ev0 (fun k j => impl_isConvex.l1 k l (l.length : Int) i l (l.length : Int) i l (l.length : Int) j ((rd_T43 l i).f0) ((rd_T43 l i).f1) ((rd_T43 l (((i + 1) % l.length : Nat) : Int)).f0) ((rd_T43 l (((i + 1) % l.length : Nat) : Int)).f1)) l.length (fun j => cvx l i j) r' r' ?_ ?_ ?_) (by simp)
    · intro j hj hq r2 hr2
      have ha := w64 (x := (j : Int) + 1) (by omega) (by omega)
      have hq' := hq
      unfold cvx at hq'
      simp only [Bool.or_eq_true, decide_eq_true_eq] at hq'
      refine Ev.step (fun k => by rw [impl_isConvex.l1]) (Ev.pos (by omega) (Ev.pos (by omega) (Ev.pos (by omega) ?_)))
      rw [ha]
      refine Ev.ite (fun _ => hr2) (fun e1 => Ev.neg (by omega) ?_)
      rw [ht]
      refine Ev.ite (fun _ => hr2) (fun e2 => ?_)
      refine Ev.nobind (implSide _ _ _) (Ev.neg ?_ hr2)
      rw [rdC', rdC', rdC']
      have : 0 < sd (at_ l i) (at_ l ((i + 1) % l.length)) (at_ l j) := by
        rcases hq' with (h | h) | h
        · omega
        · omega
        · exact h
      unfold at_ at this; omega
    · intro j hj hq
      exfalso
      rw [List.all_eq_true] at hp
      have := hp j (by simpa using hj)
      rw [hq] at this; cases this
    · intro _
      have ha := w64 (x := (i : Int) + 1) (by omega) (by omega)
      refine Ev.step (fun k => by rw [impl_isConvex.l1]) (Ev.neg (by omega) ?_)
      rw [ha]; exact hr
  · intro i hi hp
    have hn := nx_lt l i hi
    have ht := tm i l.length hi (by omega)
    refine Ev.step (fun k => by rw [impl_isConvex.l0]) (Ev.pos (by omega) (Ev.pos (by omega) (Ev.pos (by omega) (Ev.neg (by omega) ?_))))
    rw [ht]
    refine Ev.pos (by omega) (Ev.pos (by omega) ?_)
    refine Ev.to (rangeAll_ev0 (fun k j => impl_isConvex.l1 k l (l.length : Int) i l (l.length : Int) i l (l.length : Int) j ((rd_T43 l i).f0) ((rd_T43 l i).f1) ((rd_T43 l (((i + 1) % l.length : Nat) : Int)).f0) ((rd_T43 l (((i + 1) % l.length : Nat) : Int)).f1)) l.length (fun j => cvx l i j) false false ?_ ?_ ?_) (by simp)
    · intro j hj hq r2 hr2
      have ha := w64 (x := (j : Int) + 1) (by omega) (by omega)
      have hq' := hq
      unfold cvx at hq'
      simp only [Bool.or_eq_true, decide_eq_true_eq] at hq'
      refine Ev.step (fun k => by rw [impl_isConvex.l1]) (Ev.pos (by omega) (Ev.pos (by omega) (Ev.pos (by omega) ?_)))
      rw [ha]
      refine Ev.ite (fun _ => hr2) (fun e1 => Ev.neg (by omega) ?_)
      rw [ht]
      refine Ev.ite (fun _ => hr2) (fun e2 => ?_)
      refine Ev.nobind (implSide _ _ _) (Ev.neg ?_ hr2)
      rw [rdC', rdC', rdC']
      have : 0 < sd (at_ l i) (at_ l ((i + 1) % l.length)) (at_ l j) := by
        rcases hq' with (h | h) | h
        · omega
        · omega
        · exact h
      unfold at_ at this; omega
    · intro j hj hq
      unfold cvx at hq
      simp only [Bool.or_eq_false_iff, decide_eq_false_iff_not] at hq
      obtain ⟨⟨q1, q2⟩, q3⟩ := hq
      refine Ev.step (fun k => by rw [impl_isConvex.l1]) (Ev.pos (by omega) (Ev.pos (by omega) (Ev.pos (by omega) (Ev.neg (by omega) (Ev.neg (by omega) ?_)))))
      rw [ht]
      refine Ev.neg (by omega) ?_
      refine Ev.nobind (implSide _ _ _) (Ev.pos ?_ (Ev.fin rfl))
      rw [rdC', rdC', rdC']
      unfold at_ at q3; omega
    · intro h; rw [h] at hp; cases hp
  · intro _
    refine Ev.step (fun k => by rw [impl_isConvex.l0]) (Ev.neg (by omega) ?_)
    rw [fin0]
    refine Ev.ite (fun e => ?_) (fun e => ?_)
    · rw [decide_eq_true (by omega)]; exact Ev.fin (by simp)
    · rw [decide_eq_false (by omega)]; exact Ev.fin rfl
theorem implConvex {l : List S43} (hf : Fit l) (hl : l.length ≤ 8) : Ev (fun k => impl_isConvex.f k l) (convB l && (decide (3 ≤ (l.length : Int)) && l.all placed)) := implConvexL hf (by omega)
theorem implOk {l : List S43} (hf : Fit l) : Ev (fun k => impl_ValidStone.f k l) (okS l) := by
  unfold impl_ValidStone.f
  refine Ev.ite (fun e => ?_) (fun e => Ev.fin ?_)
  · refine Ev.bind (implConvex hf (by omega)) (Ev.fin ?_)
    unfold okS inB
    rw [decide_eq_true e]
    cases convB l <;> cases decide (3 ≤ (l.length : Int)) <;> cases l.all placed <;> rfl
  · unfold okS inB; rw [decide_eq_false e]; simp
theorem okS_len {l : List S43} (h : okS l = true) : 3 ≤ l.length ∧ l.length ≤ 8 := by
  unfold okS at h
  rw [Bool.and_eq_true, Bool.and_eq_true, inB_iff] at h
  omega
end Go.Proofs.Ytllfeehchiikoaa.StonesKit
namespace Go.Proofs.Ytllfeehchiikoaa.LayKit
set_option linter.unusedSimpArgs false
set_option linter.unusedVariables false
open Go.RowKit Go.Proofs.Ytllfeehchiikoaa.PA Go.Proofs.Ytllfeehchiikoaa.Base Go.Proofs.Ytllfeehchiikoaa.StonesKit Go.Proofs.YtllfeehchiikoaaW.PrintWords Go.Proofs.YtllfeehchiikoaaW.PrintLast Go.Proofs.YtllfeehchiikoaaW.PrintMore

/-! ### stones that lie apart -/
def allF (p : Nat → Bool) : Nat → Nat → Bool
  | 0, _ => true
  | d + 1, i => p i && allF p d (i + 1)
def out (p q : S43) (st : Bool) (c : S43) : Bool := decide (0 < sd p q c) || (st && decide (sd p q c = 0))
def sdAny (a b : List S43) (st : Bool) (i : Nat) : Bool := b.any (out (at_ a i) (at_ a ((i + 1) % a.length)) st)
def cutB (a b : List S43) (st : Bool) : Bool := allF (sdAny a b st) a.length 0
theorem implParts (a b : List S43) (st : Bool) : impl_parts.f a b st = some (!cutB a b st) := by
  unfold impl_parts.f cutB
  have key : ∀ d i, impl_parts.l a b st d i = some (!allF (sdAny a b st) d i) := by
    intro d
    induction d with
    | zero => intro i; rfl
    | succ d ih =>
      intro i
      rw [impl_parts.l, allF]
      have hp : impl_parts.p a b st (i : Int) (((i + 1) % a.length : Nat) : Int) = some (sdAny a b st i) := by
        unfold impl_parts.p sdAny
        rw [rdC', rdC']
        refine idxO_any (q := out (at_ a i) (at_ a ((i + 1) % a.length)) st) b (fun c _ => ?_)
        unfold impl_parts_1.f
        have := implSide (at_ a i) (at_ a ((i + 1) % a.length)) c
        unfold at_ at this ⊢
        rw [this]; rfl
      rw [hp, Option.bind_some]
      cases sdAny a b st i with
      | true => rw [if_pos rfl, ih, Bool.true_and]
      | false => rw [if_neg (by decide), Bool.false_and]; rfl
  exact key a.length 0
theorem specApart (a b : List S43) (line : Bool) (ha : a.length ≤ 1048576) (hb : b.length ≤ 1048576) : Ev (fun k => spec_l03Apart.f k a b line) (!cutB a b (!line)) := by
  unfold spec_l03Apart.f cutB
  have inner : ∀ (i : Nat) (r : Bool), i < a.length → ∀ (d j : Nat) (fl : Bool), j + d = b.length →
      Ev (fun k => if (fl && !((b.drop j).any (out (at_ a i) (at_ a ((i + 1) % a.length)) (!line)))) = true then some true else spec_l03Apart.l0 k a b line ((i + 1 : Nat) : Int)) r → Ev (fun k => spec_l03Apart.l1 k a b line (i : Int) fl (j : Int)) r := by
    intro i r hi d
    have hn := nx_lt a i hi
    have ht := tm i a.length hi ha
    have hw := w64 (x := (i : Int) + 1) (by omega) (by omega)
    induction d with
    | zero =>
      intro j fl hj h
      rw [List.drop_of_length_le (by omega), List.any_nil, Bool.not_false, Bool.and_true] at h
      refine Ev.step (fun k => by rw [spec_l03Apart.l1]) (Ev.neg (by omega) ?_)
      rw [hw]; exact h
    | succ d ih =>
      intro j fl hj h
      have hj' : j < b.length := by omega
      rw [drop_at b j hj', List.any_cons] at h
      refine Ev.step (fun k => by rw [spec_l03Apart.l1]) (Ev.pos (by omega) (Ev.pos (by omega) (Ev.pos (by omega) ?_)))
      refine Ev.nobind (a := (((i + 1) % a.length : Nat) : Int)) (by unfold spec_l03Next.f; rw [if_neg (by omega), ht]) (Ev.pos (by omega) (Ev.pos (by omega) (Ev.pos (by omega) ?_)))
      rw [rdC', rdC', rdC b j hj', w64 (x := (j : Int) + 1) (by omega) (by omega)]
      refine Ev.nobind (specSide (at_ a i) (at_ a ((i + 1) % a.length)) b[j]) ?_
      have ihf := ih (j + 1) false (by omega)
      have iht := ih (j + 1) fl (by omega)
      rw [Bool.false_and] at ihf
      unfold out at h
      refine Ev.ite (fun e => ?_) (fun e => ?_)
      · rw [decide_eq_true (by omega : 0 < sd (at_ a i) (at_ a ((i + 1) % a.length)) b[j]), Bool.true_or, Bool.true_or, Bool.not_true, Bool.and_false] at h
        exact ihf h
      · rw [decide_eq_false (by omega : ¬ 0 < sd (at_ a i) (at_ a ((i + 1) % a.length)) b[j]), Bool.false_or] at h
        refine Ev.ite (fun e2 => ?_) (fun e2 => ?_)
        · rw [decide_eq_true e2, Bool.and_true] at h
          cases line with
          | true =>
            rw [Bool.not_true, Bool.false_or] at h
            exact Ev.pos rfl (iht h)
          | false =>
            rw [Bool.not_false, Bool.true_or, Bool.not_true, Bool.and_false] at h
            exact Ev.neg (by decide) (ihf h)
        · rw [decide_eq_false e2, Bool.and_false, Bool.false_or] at h
          exact iht h
  have key : ∀ d i : Nat, i + d = a.length → Ev (fun k => spec_l03Apart.l0 k a b line (i : Int)) (!allF (sdAny a b (!line)) d i) := by
    intro d
    induction d with
    | zero =>
      intro i h
      refine Ev.step (fun k => by rw [spec_l03Apart.l0]) ?_
      exact Ev.neg (by omega) (Ev.fin rfl)
    | succ d ih =>
      intro i h
      refine Ev.step (fun k => by rw [spec_l03Apart.l0]) (Ev.pos (by omega) ?_)
      refine inner i _ (by omega) b.length 0 true (by omega) ?_
      rw [List.drop_zero, Bool.true_and, allF]
      show Ev (fun k => if (!sdAny a b (!line) i) = true then some true else spec_l03Apart.l0 k a b line ((i + 1 : Nat) : Int)) _
      cases sdAny a b (!line) i with
      | true => exact Ev.neg (by decide) (Ev.to (ih (i + 1) (by omega)) (by simp))
      | false => exact Ev.pos rfl (Ev.fin rfl)
  exact key a.length 0 (by omega)
def overB (a b : List S43) : Bool := cutB a b false && cutB b a false
theorem implOver (a b : List S43) : impl_overlap.f a b = some (overB a b) := by
  unfold impl_overlap.f overB
  rw [implParts, implParts, Option.bind_some, Option.bind_some]
  cases cutB a b false <;> cases cutB b a false <;> rfl
theorem specOver (a b : List S43) (ha : a.length ≤ 1048576) (hb : b.length ≤ 1048576) : Ev (fun k => spec_l03Over.f k a b) (overB a b) := by
  unfold spec_l03Over.f overB
  refine Ev.bind (specApart a b true ha hb) ?_
  rw [Bool.not_true]
  cases cutB a b false with
  | false => exact Ev.pos rfl (Ev.fin rfl)
  | true => exact Ev.neg (by decide) (Ev.bind (specApart b a true hb ha) (Ev.fin (by simp)))
end Go.Proofs.Ytllfeehchiikoaa.LayKit
namespace Go.Proofs.Ytllfeehchiikoaa.LayKit
set_option linter.unusedSimpArgs false
set_option linter.unusedVariables false
open Go.RowKit Go.Proofs.Ytllfeehchiikoaa.PA Go.Proofs.Ytllfeehchiikoaa.Base Go.Proofs.Ytllfeehchiikoaa.StonesKit Go.Proofs.YtllfeehchiikoaaW.PrintWords Go.Proofs.YtllfeehchiikoaaW.PrintLast Go.Proofs.YtllfeehchiikoaaW.PrintMore

theorem rdS (xs : List (List S43)) (i : Nat) : rd_L3 xs (i : Int) = xs.getD i [] := by simp [rd_L3]
theorem getS {α : Type} {xs : List (List α)} {i : Nat} (h : i < xs.length) : xs.getD i [] = xs[i] := by
  rw [List.getD_eq_getElem?_getD, List.getElem?_eq_getElem h]; rfl
theorem idxO_ev {α : Type} (p : Nat → α → Option Bool) (q : α → Bool) : ∀ (l : List α) (i : Int), (∀ x ∈ l, Ev (fun k => p k x) (q x)) → Ev (fun k => idxO (p k) l i) (if l.any q then (l.findIdx q : Int) + i else -1)
  | [], i, _ => Ev.fin rfl
  | x :: xs, i, h => by
    have ih := idxO_ev p q xs (i + 1) (fun y hy => h y (by simp [hy]))
    show Ev (fun k => (p k x).bind fun b => if b = true then some i else idxO (p k) xs (i + 1)) _
    refine Ev.bind (h x (by simp)) ?_
    rw [List.any_cons, List.findIdx_cons]
    cases q x with
    | true => exact Ev.pos rfl (Ev.fin (by simp))
    | false =>
      refine Ev.neg (by decide) (Ev.to ih ?_)
      rw [Bool.false_or, cond_false]
      split
      · rw [Int.natCast_add]; omega
      · rfl
theorem anyO_ev {α : Type} (p : Nat → α → Option Bool) (q : α → Bool) (l : List α) (h : ∀ x ∈ l, Ev (fun k => p k x) (q x)) : Ev (fun k => (idxO (p k) l 0).bind fun i => some (decide (0 ≤ i))) (l.any q) := by
  refine Ev.bind (idxO_ev p q l 0 h) (Ev.fin ?_)
  split
  · rename_i e; rw [e, decide_eq_true_eq]; omega
  · rename_i e; rw [Bool.not_eq_true] at e; rw [e]; rfl
/-! ### frames -/
def F16 (a b : Int) : Prop := (-32768 ≤ a ∧ a ≤ 32767) ∧ (-32768 ≤ b ∧ b ≤ 32767)
def frB (a b : Int) : Bool := inB a 1 1000 && inB b 1 1000
theorem specFrame {a b : Int} (h : F16 a b) : spec_l03Frame.f a b = some (frB a b) := by
  unfold spec_l03Frame.f frB
  unfold F16 at h
  rw [w64 (by omega) (by omega), w64 (by omega) (by omega), specIn, specIn, Option.bind_some]
  cases inB a 1 1000 <;> simp
theorem implFrame {a b : Int} (h : F16 a b) : impl_isFrame.f a b = some (frB a b) := by
  unfold impl_isFrame.f frB
  unfold F16 at h
  rw [w64 (by omega) (by omega), w64 (by omega) (by omega), implIn, implIn, Option.bind_some]
  cases inB a 1 1000 <;> simp
def inF (a b : Int) (c : S43) : Bool := inB c.f0 0 a && inB c.f1 0 b
def allIn (a b : Int) (l : List S43) : Bool := l.all (inF a b)
theorem specPoint {a b : Int} (h : F16 a b) {c : S43} (hc : (-32768 ≤ c.f0 ∧ c.f0 ≤ 32767) ∧ (-32768 ≤ c.f1 ∧ c.f1 ≤ 32767)) : spec_l03Point.f a b (wrap64 c.f0) (wrap64 c.f1) = some (inF a b c) := by
  unfold spec_l03Point.f inF
  unfold F16 at h
  rw [w64 (x := a) (by omega) (by omega), w64 (x := b) (by omega) (by omega), w64 (x := c.f0) (by omega) (by omega), w64 (x := c.f1) (by omega) (by omega), specIn, specIn, Option.bind_some]
  cases inB c.f0 0 a <;> simp
theorem specInF {a b : Int} (h : F16 a b) {l : List S43} (hf : Fit l) (hl : l.length ≤ 1048576) : Ev (fun k => spec_l03In.f k a b l) (allIn a b l) := by
  unfold spec_l03In.f allIn
  refine Ev.to (rangeAll_ev0 (fun k i => spec_l03In.l0 k l i a b) l.length (fun i => inF a b (l.getD i z43)) true false ?_ ?_ ?_) (by rw [all_range, ite_b])
  · intro i hi hp r' hr
    refine Ev.step (fun k => by rw [spec_l03In.l0]) (Ev.pos (by omega) (Ev.pos (by omega) ?_))
    rw [rdC l i hi, w64 (x := (i : Int) + 1) (by omega) (by omega)]
    refine Ev.nobind (specPoint h (hf _ (List.getElem_mem hi))) (Ev.pos ?_ hr)
    simpa [List.getD_eq_getElem?_getD, hi] using hp
  · intro i hi hp
    refine Ev.step (fun k => by rw [spec_l03In.l0]) (Ev.pos (by omega) (Ev.pos (by omega) ?_))
    rw [rdC l i hi]
    refine Ev.nobind (specPoint h (hf _ (List.getElem_mem hi))) (Ev.neg ?_ (Ev.fin rfl))
    have : inF a b l[i] = false := by simpa [List.getD_eq_getElem?_getD, hi] using hp
    rw [this]; decide
  · intro _
    refine Ev.step (fun k => by rw [spec_l03In.l0]) ?_
    exact Ev.neg (by omega) (Ev.fin rfl)
theorem implHolds (a b x y : Int) : impl_Frame_holds.f a b x y = some (inF a b ⟨x, y⟩) := by
  unfold impl_Frame_holds.f inF inB
  by_cases c0 : x ≥ 0
  · rw [if_pos c0, decide_eq_true (by omega : 0 ≤ x)]
    by_cases c1 : x ≤ a
    · rw [if_pos c1, decide_eq_true c1]
      by_cases c2 : y ≥ 0
      · rw [if_pos c2, decide_eq_true (by omega : 0 ≤ y)]; rfl
      · rw [if_neg c2, decide_eq_false (by omega : ¬ 0 ≤ y)]; rfl
    · rw [if_neg c1, decide_eq_false c1]; rfl
  · rw [if_neg c0, decide_eq_false (by omega : ¬ 0 ≤ x)]; rfl
theorem implInF (a b : Int) (l : List S43) : impl_Frame_holdsAll.f a b l = some (allIn a b l) := by
  unfold impl_Frame_holdsAll.f allIn
  rw [idxO_any (q := fun c => !inF a b c) l (fun c _ => by unfold impl_Frame_holdsAll_1.f; rw [implHolds]; rfl), Option.bind_some]
  congr 1
  rw [Bool.eq_iff_iff]; simp [List.any_eq_true, List.all_eq_true]
/-! ### lists of stones -/
structure FitL (ls : List (List S43)) : Prop where
  len : ls.length ≤ 1048576
  each : ∀ l ∈ ls, Fit l ∧ l.length ≤ 1048576
theorem FitL.at {ls : List (List S43)} (h : FitL ls) {i : Nat} (hi : i < ls.length) : Fit (ls.getD i []) ∧ (ls.getD i []).length ≤ 1048576 := by
  rw [getS hi]; exact h.each _ (List.getElem_mem hi)
def stB (a b : Int) (ls : List (List S43)) : Bool := frB a b && (decide ((ls.length : Int) ≤ 40) && ls.all okS)
theorem specStones {a b : Int} (h : F16 a b) {ls : List (List S43)} (hf : FitL ls) : Ev (fun k => spec_l03Stones.f k a b ls) (stB a b ls) := by
  unfold spec_l03Stones.f stB
  have hl := hf.len
  refine Ev.nobind (specFrame h) ?_
  cases frB a b with
  | false =>
    refine Ev.neg (by decide) (Ev.step (fun k => by rw [spec_l03Stones.j0]) ?_)
    exact Ev.pos rfl (Ev.fin rfl)
  | true =>
    refine Ev.pos rfl (Ev.step (fun k => by rw [spec_l03Stones.j0]) ?_)
    by_cases c : (ls.length : Int) > 40
    · rw [decide_eq_false (by omega : ¬ (ls.length : Int) ≤ 40)]
      exact Ev.pos (decide_eq_true c) (Ev.fin rfl)
    · rw [decide_eq_true (by omega : (ls.length : Int) ≤ 40)]
      refine Ev.neg (by rw [decide_eq_false c]; decide) ?_
      refine Ev.to (rangeAll_ev0 (fun k i => spec_l03Stones.l0 k ls i) ls.length (fun i => okS (ls.getD i [])) true false ?_ ?_ ?_) (by rw [all_range, ite_b]; simp)
      · intro i hi hp r' hr
        refine Ev.step (fun k => by rw [spec_l03Stones.l0]) (Ev.pos (by omega) (Ev.pos (by omega) ?_))
        rw [rdS ls i, w64 (x := (i : Int) + 1) (by omega) (by omega)]
        exact Ev.bind (specOk (hf.at hi).1) (Ev.pos hp hr)
      · intro i hi hp
        refine Ev.step (fun k => by rw [spec_l03Stones.l0]) (Ev.pos (by omega) (Ev.pos (by omega) ?_))
        rw [rdS ls i]
        exact Ev.bind (specOk (hf.at hi).1) (Ev.neg (by rw [hp]; decide) (Ev.fin rfl))
      · intro _
        refine Ev.step (fun k => by rw [spec_l03Stones.l0]) ?_
        exact Ev.neg (by omega) (Ev.fin rfl)
theorem implStones {a b : Int} (h : F16 a b) {ls : List (List S43)} (hf : FitL ls) : Ev (fun k => impl_areStones.f k a b ls) (stB a b ls) := by
  unfold impl_areStones.f stB
  refine Ev.nobind (implFrame h) ?_
  cases frB a b with
  | false => exact Ev.neg (by decide) (Ev.fin rfl)
  | true =>
    refine Ev.pos rfl (Ev.ite (fun c => ?_) (fun c => ?_))
    · rw [decide_eq_true c]
      have hany : Ev (fun k => impl_areStones_1_any.f k ls) (ls.any fun l => !okS l) := by
        unfold impl_areStones_1_any.f
        refine anyO_ev (fun k x => impl_areStones_1.f k x) (fun l => !okS l) ls (fun x hx => ?_)
        unfold impl_areStones_1.f
        exact Ev.bind (implOk (hf.each x hx).1) (Ev.fin rfl)
      refine Ev.bind hany (Ev.fin ?_)
      · rw [Bool.eq_iff_iff]; simp [List.any_eq_true, List.all_eq_true]
    · rw [decide_eq_false c]; exact Ev.fin rfl
/-! ### faults -/
theorem faults {a b : Int} (h : F16 a b) {ls : List (List S43)} (hf : FitL ls) : ∃ r, Ev (fun k => spec_l03Fault.f k a b ls) r ∧ Ev (fun k => impl_fault.f k a b ls) r := by
  unfold spec_l03Fault.f impl_fault.f
  have hl := hf.len
  have pairs : ∀ (i : Nat), i < ls.length → (∃ r, Ev (fun k => spec_l03Fault.l1 k ls ((i + 1 : Nat) : Int)) r ∧ Ev (fun k => impl_fault.l1 k ls ls (ls.length : Int) ((i + 1 : Nat) : Int)) r) →
      ∀ d j : Nat, j + d = ls.length → ∃ r, Ev (fun k => spec_l03Fault.l2 k ls (i : Int) (j : Int)) r ∧ Ev (fun k => impl_fault.l2 k ls (i : Int) (ls.getD i []) (j : Int) ls (ls.length : Int) (i : Int)) r := by
    intro i hi hn d
    induction d with
    | zero =>
      intro j hj
      obtain ⟨r, h1, h2⟩ := hn
      refine ⟨r, ?_, ?_⟩
      · refine Ev.step (fun k => by rw [spec_l03Fault.l2]) (Ev.neg (by omega) ?_)
        rw [w64 (x := (i : Int) + 1) (by omega) (by omega)]; exact h1
      · refine Ev.step (fun k => by rw [impl_fault.l2]) (Ev.neg (by omega) ?_)
        rw [w64 (x := (i : Int) + 1) (by omega) (by omega)]; exact h2
    | succ d ih =>
      intro j hj
      have hj' : j < ls.length := by omega
      have hs := specOver (ls.getD i []) (ls.getD j []) (hf.at hi).2 (hf.at hj').2
      have hm := implOver (ls.getD i []) (ls.getD j [])
      cases e : overB (ls.getD i []) (ls.getD j []) with
      | true =>
        rw [e] at hs hm
        refine ⟨((i : Int), (j : Int), true), ?_, ?_⟩
        · refine Ev.step (fun k => by rw [spec_l03Fault.l2]) (Ev.pos (by omega) (Ev.pos (by omega) (Ev.pos (by omega) (Ev.pos (by omega) ?_))))
          rw [rdS ls i, rdS ls j]
          exact Ev.bind hs (Ev.pos rfl (Ev.fin rfl))
        · refine Ev.step (fun k => by rw [impl_fault.l2]) (Ev.pos (by omega) (Ev.pos (by omega) ?_))
          rw [rdS ls j]
          exact Ev.nobind hm (Ev.pos rfl (Ev.fin rfl))
      | false =>
        rw [e] at hs hm
        obtain ⟨r, h1, h2⟩ := ih (j + 1) (by omega)
        refine ⟨r, ?_, ?_⟩
        · refine Ev.step (fun k => by rw [spec_l03Fault.l2]) (Ev.pos (by omega) (Ev.pos (by omega) (Ev.pos (by omega) (Ev.pos (by omega) ?_))))
          rw [rdS ls i, rdS ls j, w64 (x := (j : Int) + 1) (by omega) (by omega)]
          exact Ev.bind hs (Ev.neg (by decide) h1)
        · refine Ev.step (fun k => by rw [impl_fault.l2]) (Ev.pos (by omega) (Ev.pos (by omega) ?_))
          rw [rdS ls j, w64 (x := (j : Int) + 1) (by omega) (by omega)]
          exact Ev.nobind hm (Ev.neg (by decide) h2)
  have rounds : ∀ d i : Nat, i + d = ls.length → ∃ r, Ev (fun k => spec_l03Fault.l1 k ls (i : Int)) r ∧ Ev (fun k => impl_fault.l1 k ls ls (ls.length : Int) (i : Int)) r := by
    intro d
    induction d with
    | zero =>
      intro i hi
      refine ⟨(0, 0, false), ?_, ?_⟩
      · refine Ev.step (fun k => by rw [spec_l03Fault.l1]) ?_
        exact Ev.neg (by omega) (Ev.fin rfl)
      · refine Ev.step (fun k => by rw [impl_fault.l1]) ?_
        exact Ev.neg (by omega) (Ev.fin rfl)
    | succ d ih =>
      intro i hi
      obtain ⟨r, h1, h2⟩ := pairs i (by omega) (ih (i + 1) (by omega)) (ls.length - (i + 1)) (i + 1) (by omega)
      refine ⟨r, ?_, ?_⟩
      · refine Ev.step (fun k => by rw [spec_l03Fault.l1]) (Ev.pos (by omega) ?_)
        rw [w64 (x := (i : Int) + 1) (by omega) (by omega)]; exact h1
      · refine Ev.step (fun k => by rw [impl_fault.l1]) (Ev.pos (by omega) (Ev.pos (by omega) (Ev.pos (by omega) ?_)))
        rw [rdS ls i, w64 (x := (i : Int) + 1) (by omega) (by omega)]; exact h2
  have first : ∀ d i : Nat, i + d = ls.length → ∃ r, Ev (fun k => spec_l03Fault.l0 k ls (i : Int) a b) r ∧ Ev (fun k => impl_fault.l0 k ls ls (ls.length : Int) (i : Int) a b) r := by
    intro d
    induction d with
    | zero =>
      intro i hi
      obtain ⟨r, h1, h2⟩ := rounds ls.length 0 (by omega)
      refine ⟨r, ?_, ?_⟩
      · refine Ev.step (fun k => by rw [spec_l03Fault.l0]) ?_
        exact Ev.neg (by omega) h1
      · refine Ev.step (fun k => by rw [impl_fault.l0]) ?_
        exact Ev.neg (by omega) h2
    | succ d ih =>
      intro i hi
      have hi' : i < ls.length := by omega
      have hs := specInF h (hf.at hi').1 (hf.at hi').2
      have hm := implInF a b (ls.getD i [])
      cases e : allIn a b (ls.getD i []) with
      | true =>
        rw [e] at hs hm
        obtain ⟨r, h1, h2⟩ := ih (i + 1) (by omega)
        refine ⟨r, ?_, ?_⟩
        · refine Ev.step (fun k => by rw [spec_l03Fault.l0]) (Ev.pos (by omega) (Ev.pos (by omega) ?_))
          rw [rdS ls i, w64 (x := (i : Int) + 1) (by omega) (by omega)]
          exact Ev.bind hs (Ev.pos rfl h1)
        · refine Ev.step (fun k => by rw [impl_fault.l0]) (Ev.pos (by omega) (Ev.pos (by omega) (Ev.pos (by omega) ?_)))
          rw [rdS ls i, w64 (x := (i : Int) + 1) (by omega) (by omega)]
          exact Ev.nobind hm (Ev.pos rfl h2)
      | false =>
        rw [e] at hs hm
        refine ⟨((i : Int), -1, true), ?_, ?_⟩
        · refine Ev.step (fun k => by rw [spec_l03Fault.l0]) (Ev.pos (by omega) (Ev.pos (by omega) ?_))
          rw [rdS ls i]
          exact Ev.bind hs (Ev.neg (by decide) (Ev.fin rfl))
        · refine Ev.step (fun k => by rw [impl_fault.l0]) (Ev.pos (by omega) (Ev.pos (by omega) (Ev.pos (by omega) ?_)))
          rw [rdS ls i]
          exact Ev.nobind hm (Ev.neg (by decide) (Ev.fin rfl))
  exact first ls.length 0 (by omega)
theorem lays {a b : Int} (h : F16 a b) {ls : List (List S43)} (hf : FitL ls) : ∃ r, Ev (fun k => spec_l03Lay.f k a b ls) r ∧ Ev (fun k => impl_ValidLay.f k a b ls) r := by
  unfold spec_l03Lay.f impl_ValidLay.f
  have hs := specStones h hf
  have hm := implStones h hf
  obtain ⟨r, h1, h2⟩ := faults h hf
  cases e : stB a b ls with
  | false =>
    rw [e] at hs hm
    exact ⟨false, Ev.bind hs (Ev.neg (by decide) (Ev.fin rfl)), Ev.bind hm (Ev.neg (by decide) (Ev.fin rfl))⟩
  | true =>
    rw [e] at hs hm
    exact ⟨!r.2.2, Ev.bind hs (Ev.pos rfl (Ev.bind h1 (Ev.fin rfl))), Ev.bind hm (Ev.pos rfl (Ev.bind h2 (Ev.fin rfl)))⟩
/-! ### the laws' own functions over lists of stones -/
theorem f16_of {a b : Int} (h : (Lit.int .i16 a).wf = true) (h2 : (Lit.int .i16 b).wf = true) : F16 a b := ⟨wf16 h, wf16 h2⟩
end Go.Proofs.Ytllfeehchiikoaa.LayKit
namespace Go.Proofs.Ytllfeehchiikoaa.WhereKit
set_option linter.unusedSimpArgs false
set_option linter.unusedVariables false
open Go.RowKit Go.Proofs.Ytllfeehchiikoaa.PA Go.Proofs.Ytllfeehchiikoaa.Base Go.Proofs.Ytllfeehchiikoaa.StonesKit Go.Proofs.YtllfeehchiikoaaW.PrintWords Go.Proofs.YtllfeehchiikoaaW.PrintLast Go.Proofs.YtllfeehchiikoaaW.PrintMore

def whF (l : List S43) (p : S43) (i : Int) (c : S43) (s : Int) : Int ⊕ Int :=
  if sd c (at_ l ((i.toNat + 1) % l.length)) p < 0 then .inl 0 else if sd c (at_ l ((i.toNat + 1) % l.length)) p = 0 then .inr 1 else .inr s
def wh (l : List S43) (p : S43) : Int := scanG (whF l p) id l 0 2
theorem implWh (l : List S43) (p : S43) (hl : l.length ≤ 1048576) : Ev (fun k => impl_Stone_where.f k l p.f0 p.f1) (wh l p) := by
  unfold impl_Stone_where.f wh
  refine scan_ev0 l (whF l p) id (fun k s i => impl_Stone_where.l0 k l s l (l.length : Int) i p.f0 p.f1) (fun _ _ => True) 2 trivial (fun _ _ _ _ _ _ => trivial) (fun s i h r _ h1 h2 => ?_) (fun s _ => ?_)
  · have hn := nx_lt l i h
    have ht := tm i l.length h hl
    have ha := w64 (x := (i : Int) + 1) (by omega) (by omega)
    refine Ev.step (fun k => by rw [impl_Stone_where.l0]) (Ev.pos (by omega) (Ev.pos (by omega) (Ev.pos (by omega) (Ev.neg (by omega) ?_))))
    rw [ht]
    refine Ev.pos (by omega) (Ev.pos (by omega) ?_)
    rw [rdC l i h, rdC', ha]
    refine Ev.nobind (implSide l[i] (l.getD ((i + 1) % l.length) z43) p) ?_
    unfold whF at_ at h1 h2
    rw [Int.toNat_natCast] at h1 h2
    refine Ev.ite (fun e => Ev.fin (h1 0 (by rw [if_pos e]))) (fun e => Ev.ite (fun e2 => ?_) (fun e2 => ?_))
    · exact h2 1 (by rw [if_neg e, if_pos e2]) trivial
    · exact h2 s (by rw [if_neg e, if_neg e2]) trivial
  · refine Ev.step (fun k => by rw [impl_Stone_where.l0]) ?_
    exact Ev.neg (by omega) (Ev.fin rfl)

end Go.Proofs.Ytllfeehchiikoaa.WhereKit
namespace Go.Proofs.Ytllfeehchiikoaa.StonesKit
set_option linter.unusedSimpArgs false
set_option linter.unusedVariables false
open Go.RowKit Go.Proofs.Ytllfeehchiikoaa.PA Go.Proofs.Ytllfeehchiikoaa.Base Go.Proofs.YtllfeehchiikoaaW.PrintWords Go.Proofs.YtllfeehchiikoaaW.PrintLast Go.Proofs.YtllfeehchiikoaaW.PrintMore

theorem codeOf (a b : Bool) : impl_codeOf.f a b = some (if a then (if b then 0 else 2) else 1) := by
  cases a <;> cases b <;> rfl
end Go.Proofs.Ytllfeehchiikoaa.StonesKit
namespace Go.Proofs.Ytllfeehchiikoaa.GenKit
set_option linter.unusedSimpArgs false
set_option linter.unusedVariables false
open Go.RowKit Go.Proofs.Ytllfeehchiikoaa.PA Go.Proofs.Ytllfeehchiikoaa.Base Go.Proofs.Ytllfeehchiikoaa.StonesKit Go.Proofs.YtllfeehchiikoaaW.PrintWords Go.Proofs.YtllfeehchiikoaaW.PrintLast Go.Proofs.YtllfeehchiikoaaW.PrintMore

theorem bits255 (x : Int) : 0 ≤ Go.bits .and .u64 x 255 ∧ Go.bits .and .u64 x 255 ≤ 255 := by
  have h : ((BitVec.ofInt (IntKind.u64.bits) x) &&& (BitVec.ofInt (IntKind.u64.bits) 255)).toNat ≤ 255 := by
    rw [BitVec.toNat_and]
    exact Nat.le_trans Nat.and_le_right (by decide)
  unfold Go.bits
  simp only []
  rw [IntKind.wrap_u64]
  omega
def U8 (l : List Int) : Prop := ∀ x ∈ l, 0 ≤ x ∧ x ≤ 255
theorem rd_u8 {l : List Int} (h : U8 l) (i : Int) : 0 ≤ rd l i ∧ rd l i ≤ 255 := by
  unfold rd
  rw [List.getD_eq_getElem?_getD]
  cases e : l[i.toNat]? with
  | none => simp
  | some x => exact h x (List.mem_of_getElem? e)
theorem next_ok {l : List Int} (h : U8 l) {p : Int} (t : Int) (h0 : 0 ≤ p) (h1 : p ≤ 4611686018427387904) : ∃ v t', spec_l00Src_next.f l p t = some (v, p + 1, t') ∧ 0 ≤ v ∧ v ≤ 255 := by
  have hw := w64 (x := p + 1) (by omega) (by omega)
  unfold spec_l00Src_next.f
  rw [hw]
  have hr := rd_u8 h p
  have hwr := w64 (x := rd l p) (by omega) (by omega)
  by_cases c : p < (l.length : Int)
  · rw [if_pos c, if_pos h0, if_pos (by omega)]
    exact ⟨_, _, rfl, by rw [hwr]; omega, by rw [hwr]; omega⟩
  · rw [if_neg c]
    by_cases d : p + 1 ≤ (l.length : Int)
    · rw [if_pos d]; exact ⟨_, _, rfl, by omega, by omega⟩
    · rw [if_neg d]
      have hb := bits255 ((IntKind.u64.wrap ((IntKind.u64.wrap (IntKind.u64.wrap (t * 6364136223846793005))) + 1442695040888963407)) / 1099511627776)
      refine ⟨_, _, rfl, ?_, ?_⟩
      · rw [w64 (by omega) (by omega)]; omega
      · rw [w64 (by omega) (by omega)]; omega
theorem pick_ok {l : List Int} (h : U8 l) {p : Int} (t : Int) (h0 : 0 ≤ p) (h1 : p ≤ 4611686018427387904) {n : Int} (hn : 1 ≤ n) (hn2 : n ≤ 200) : ∃ v p' t', spec_l00Src_pick.f l p t n = some (v, p', t') ∧ 0 ≤ v ∧ v < n ∧ p ≤ p' ∧ p' ≤ p + 1 := by
  unfold spec_l00Src_pick.f
  by_cases c : n ≤ 1
  · rw [if_pos c]; exact ⟨_, _, _, rfl, by omega, by omega, by omega, by omega⟩
  · rw [if_neg c]
    obtain ⟨v, t', e, e1, e2⟩ := next_ok h t h0 h1
    rw [e, Option.bind_some, if_neg (by show ¬ n > 200; omega), if_neg (by omega : ¬ n = 0)]
    refine ⟨_, _, _, rfl, ?_, ?_, by show p ≤ p + 1; omega, by show p + 1 ≤ p + 1; omega⟩
    · exact Int.tmod_nonneg _ e1
    · exact Int.tmod_lt_of_pos _ (by omega)
theorem one_ok {l : List Int} (h : U8 l) {p : Int} (t : Int) (h0 : 0 ≤ p) (h1 : p ≤ 4611686018427387904) : ∃ b p' t', spec_l00Src_one.f l p t 2 = some (b, p', t') ∧ p ≤ p' ∧ p' ≤ p + 1 := by
  obtain ⟨v, p', t', e, _, _, e1, e2⟩ := pick_ok h t h0 h1 (n := 2) (by omega) (by omega)
  unfold spec_l00Src_one.f
  rw [e]
  exact ⟨_, _, _, rfl, e1, e2⟩
theorem near_ok {l : List Int} (h : U8 l) {p : Int} (t : Int) (h0 : 0 ≤ p) (h1 : p ≤ 4611686018427380000) {x : Int} (hx : 0 ≤ x ∧ x ≤ 100) : ∃ a b p' t', spec_l03Near.f l p t x 0 9 = some (a, b, p', t') ∧ (x ≤ a ∧ a ≤ x + 8) ∧ (0 ≤ b ∧ b ≤ 8) ∧ p ≤ p' ∧ p' ≤ p + 2 := by
  obtain ⟨v, p1, t1, e, a1, a2, a3, a4⟩ := pick_ok h t h0 (by omega) (n := 9) (by omega) (by omega)
  obtain ⟨u, p2, t2, e', b1, b2, b3, b4⟩ := pick_ok h t1 (by omega : 0 ≤ p1) (by omega) (n := 9) (by omega) (by omega)
  unfold spec_l03Near.f
  rw [e, Option.bind_some]
  simp only []
  rw [e', Option.bind_some]
  refine ⟨_, _, _, _, rfl, ?_, ?_, by show p ≤ p2; omega, by show p2 ≤ p + 2; omega⟩
  · show x ≤ IntKind.i16.wrap (wrap64 (x + v)) ∧ IntKind.i16.wrap (wrap64 (x + v)) ≤ x + 8
    rw [w64 (by omega) (by omega), w16 (by omega) (by omega)]; omega
  · show 0 ≤ IntKind.i16.wrap (wrap64 (0 + u)) ∧ IntKind.i16.wrap (wrap64 (0 + u)) ≤ 8
    rw [w64 (by omega) (by omega), w16 (by omega) (by omega)]; omega
end Go.Proofs.Ytllfeehchiikoaa.GenKit
namespace Go.Proofs.Ytllfeehchiikoaa.SeamKit
set_option linter.unusedSimpArgs false
set_option linter.unusedVariables false
open Go.RowKit Go.Proofs.Ytllfeehchiikoaa.PA Go.Proofs.Ytllfeehchiikoaa.Base Go.Proofs.Ytllfeehchiikoaa.StonesKit Go.Proofs.Ytllfeehchiikoaa.LayKit Go.Proofs.Ytllfeehchiikoaa.Geo Go.Proofs.YtllfeehchiikoaaW.PrintWords Go.Proofs.YtllfeehchiikoaaW.PrintLast Go.Proofs.YtllfeehchiikoaaW.PrintMore

theorem specMin (x y : Int) : spec_l00Min.f x y = some (min x y) := by
  unfold spec_l00Min.f
  by_cases c : x < y
  · rw [if_pos c]; congr 1; omega
  · rw [if_neg c]; congr 1; omega
theorem specMax (x y : Int) : spec_l00Max.f x y = some (max x y) := by
  unfold spec_l00Max.f
  by_cases c : x > y
  · rw [if_pos c]; congr 1; omega
  · rw [if_neg c]; congr 1; omega
theorem mx_max (x y : Int) : mx x y = max x y := by unfold mx; split <;> omega
theorem sm_range {a : S43} (h : Sm a) : (-1000 ≤ a.f0 ∧ a.f0 ≤ 1000) ∧ (-1000 ≤ a.f1 ∧ a.f1 ≤ 1000) := h
theorem sd_cr {p q c : S43} (hp : Sm p) (hq : Sm q) (hc : Sm c) : sd p q c = cr p q c := by
  unfold Sm at hp hq hc
  have h1 := prod_small (a := q.f0 - p.f0) (b := c.f1 - p.f1) (by omega) (by omega)
  have h2 := prod_small (a := q.f1 - p.f1) (b := c.f0 - p.f0) (by omega) (by omega)
  unfold sd impl_side.f cr
  rw [Option.getD_some, w64 (x := p.f0) (by omega) (by omega), w64 (x := p.f1) (by omega) (by omega), w64 (x := q.f0) (by omega) (by omega), w64 (x := q.f1) (by omega) (by omega), w64 (x := c.f0) (by omega) (by omega), w64 (x := c.f1) (by omega) (by omega),
    w64 (x := q.f0 - p.f0) (by omega) (by omega), w64 (x := c.f1 - p.f1) (by omega) (by omega), w64 (x := q.f1 - p.f1) (by omega) (by omega), w64 (x := c.f0 - p.f0) (by omega) (by omega), w64 (x := (q.f0 - p.f0) * (c.f1 - p.f1)) (by omega) (by omega), w64 (x := (q.f1 - p.f1) * (c.f0 - p.f0)) (by omega) (by omega), w64 (by omega) (by omega)]
theorem wsq {a b : S43} (ha : Sm a) (hb : Sm b) : wrap64 ((wrap64 ((wrap64 ((wrap64 a.f0) - (wrap64 b.f0))) * (wrap64 ((wrap64 a.f0) - (wrap64 b.f0))))) + (wrap64 ((wrap64 ((wrap64 a.f1) - (wrap64 b.f1))) * (wrap64 ((wrap64 a.f1) - (wrap64 b.f1)))))) = sq a b := by
  have ha' := sm_range ha
  have hb' := sm_range hb
  have h1 := prod_small (a := a.f0 - b.f0) (b := a.f0 - b.f0) (by omega) (by omega)
  have h2 := prod_small (a := a.f1 - b.f1) (b := a.f1 - b.f1) (by omega) (by omega)
  unfold sq
  rw [w64 (x := a.f0) (by omega) (by omega), w64 (x := a.f1) (by omega) (by omega), w64 (x := b.f0) (by omega) (by omega), w64 (x := b.f1) (by omega) (by omega), w64 (x := a.f0 - b.f0) (by omega) (by omega), w64 (x := a.f1 - b.f1) (by omega) (by omega),
    w64 (x := (a.f0 - b.f0) * (a.f0 - b.f0)) (by omega) (by omega), w64 (x := (a.f1 - b.f1) * (a.f1 - b.f1)) (by omega) (by omega), w64 (by omega) (by omega)]
theorem implLess (a b : S43) : impl_cornerLess.f a.f0 a.f1 b.f0 b.f1 = some (lt a b) := by
  unfold impl_cornerLess.f lt
  by_cases c : a.f0 < b.f0
  · rw [if_pos c, decide_eq_true c]; rfl
  · rw [if_neg c, decide_eq_false c]
    by_cases d : a.f0 = b.f0
    · rw [if_pos d, decide_eq_true d]; rfl
    · rw [if_neg d, decide_eq_false d]; rfl
/-! ### the program's way -/
theorem common3 {p1 q0 s0 : S43} (hp : Sm p1) (hq : Sm q0) (hs : Sm s0) : Ev (fun k => impl_common.j3 k p1.f0 p1.f1 q0.f0 q0.f1 s0.f0 s0.f1) (com2 p1 (pick (lt s0 q0) s0 q0)) := by
  refine Ev.step (fun k => by rw [impl_common.j3]) (Ev.nobind (implLess s0 q0) ?_)
  unfold com2
  cases lt s0 q0 with
  | true =>
    refine Ev.pos rfl (Ev.nobind (implLess p1 s0) ?_)
    rw [wsq hs hp]
    refine Ev.ite (fun c => ?_) (fun c => ?_)
    · rw [show pick true s0 q0 = s0 from rfl, if_pos c]; exact Ev.fin rfl
    · rw [show pick true s0 q0 = s0 from rfl, if_neg c]; exact Ev.fin rfl
  | false =>
    refine Ev.neg (by decide) (Ev.nobind (implLess p1 q0) ?_)
    rw [wsq hq hp]
    refine Ev.ite (fun c => ?_) (fun c => ?_)
    · rw [show pick false s0 q0 = q0 from rfl, if_pos c]; exact Ev.fin rfl
    · rw [show pick false s0 q0 = q0 from rfl, if_neg c]; exact Ev.fin rfl
theorem common2 {p0 q0 r0 s0 : S43} (hp : Sm p0) (hq : Sm q0) (hr : Sm r0) (hs : Sm s0) : Ev (fun k => impl_common.j2 k p0.f0 p0.f1 q0.f0 q0.f1 r0.f0 r0.f1 s0.f0 s0.f1) (com1 p0 q0 r0 s0) := by
  refine Ev.step (fun k => by rw [impl_common.j2]) (Ev.nobind (implLess p0 r0) ?_)
  unfold com1
  cases lt p0 r0 with
  | true => exact Ev.pos rfl (common3 hr hq hs)
  | false => exact Ev.neg (by decide) (common3 hp hq hs)
theorem common1 {p0 q0 u v : S43} (hp : Sm p0) (hq : Sm q0) (hu : Sm u) (hv : Sm v) : Ev (fun k => impl_common.j1 k p0.f0 p0.f1 q0.f0 q0.f1 u.f0 u.f1 v.f0 v.f1) (com1 p0 q0 (pick (lt v u) v u) (pick (lt v u) u v)) := by
  refine Ev.step (fun k => by rw [impl_common.j1]) (Ev.nobind (implLess v u) ?_)
  cases lt v u with
  | true => exact Ev.pos rfl (common2 hp hq hv hu)
  | false => exact Ev.neg (by decide) (common2 hp hq hu hv)
theorem common0 {p q u v : S43} (hp : Sm p) (hq : Sm q) (hu : Sm u) (hv : Sm v) : Ev (fun k => impl_common.j0 k false p.f0 p.f1 q.f0 q.f1 u.f0 u.f1 v.f0 v.f1) (com p q u v) := by
  refine Ev.step (fun k => by rw [impl_common.j0]) (Ev.neg (by decide) (Ev.nobind (implLess q p) ?_))
  unfold com
  cases lt q p with
  | true => exact Ev.pos rfl (common1 hq hp hu hv)
  | false => exact Ev.neg (by decide) (common1 hp hq hu hv)
def has (p q u v : S43) : Int := if cr p q u = 0 then (if cr p q v = 0 then com p q u v else 0) else 0
theorem implCommon {p q u v : S43} (hp : Sm p) (hq : Sm q) (hu : Sm u) (hv : Sm v) : Ev (fun k => impl_common.f k p.f0 p.f1 q.f0 q.f1 u.f0 u.f1 v.f0 v.f1) (has p q u v) := by
  unfold impl_common.f has
  refine Ev.nobind (implSide p q u) ?_
  rw [sd_cr hp hq hu]
  refine Ev.ite (fun c => ?_) (fun c => ?_)
  · rw [if_pos c]
    refine Ev.nobind (implSide p q v) ?_
    rw [sd_cr hp hq hv]
    by_cases d : cr p q v = 0
    · rw [if_pos d, show (cr p q v != 0) = false from by rw [d]; rfl]
      exact common0 hp hq hu hv
    · rw [if_neg d, show (cr p q v != 0) = true from by simpa using d]
      refine Ev.step (fun k => by rw [impl_common.j0]) ?_
      exact Ev.pos rfl (Ev.fin rfl)
  · rw [if_neg c]
    refine Ev.step (fun k => by rw [impl_common.j0]) ?_
    exact Ev.pos rfl (Ev.fin rfl)
/-! ### the reference's way -/
theorem specBetween {c u v : S43} (hc : Sm c) (hu : Sm u) (hv : Sm v) : spec_l03Between.f c.f0 c.f1 u.f0 u.f1 v.f0 v.f1 = some (decide (Box c u v)) := by
  unfold Sm at hc hu hv
  unfold spec_l03Between.f
  rw [w64 (x := c.f0) (by omega) (by omega), w64 (x := c.f1) (by omega) (by omega), w64 (x := u.f0) (by omega) (by omega), w64 (x := u.f1) (by omega) (by omega), w64 (x := v.f0) (by omega) (by omega), w64 (x := v.f1) (by omega) (by omega)]
  simp only [specMin, specMax, specIn, Option.bind_some]
  by_cases c0 : inB c.f0 (min u.f0 v.f0) (max u.f0 v.f0) = true
  · rw [if_pos c0]
    rw [inB_iff] at c0
    congr 1
    rw [Bool.eq_iff_iff, inB_iff, decide_eq_true_eq]
    exact ⟨fun h => (⟨c0, h⟩ : Box c u v), fun h => h.2⟩
  · rw [if_neg c0]
    congr 1
    rw [inB_iff] at c0
    exact (decide_eq_false (fun h : Box c u v => c0 h.1)).symm
theorem endAt_len (l : List S43) (c u v : S43) : (endAt l c u v).length ≤ l.length + 1 := by unfold endAt; split <;> simp
def Best (M : Int) (l : List S43) (i : Nat) (b : Int) : Prop := 0 ≤ b ∧ b ≤ M ∧ ∀ x y, x < i → y < x → sq (l.getD x z43) (l.getD y z43) ≤ b
theorem getC {l : List S43} {i : Nat} (h : i < l.length) : l.getD i z43 = l[i] := by
  rw [List.getD_eq_getElem?_getD, List.getElem?_eq_getElem h]; rfl
theorem maxLoop (l : List S43) (hl : l.length ≤ 4) (hs : ∀ x ∈ l, Sm x) (M : Int) (h0 : 0 ≤ M) (h1 : ∀ e ∈ l, ∀ f ∈ l, sq e f ≤ M) (h2 : M = 0 ∨ ∃ e ∈ l, ∃ f ∈ l, e ≠ f ∧ M = sq e f) : Ev (fun k => spec_l03Seam.l0 k l 0 0) M := by
  refine inv_cps0 l.length (fun k s i => spec_l03Seam.l0 k l s i) M (Best M l) 0 ⟨Int.le_refl _, h0, fun x y hx => by omega⟩ (fun s i hi hv hr => ?_) (fun s hv => ?_)
  · refine Ev.step (fun k => by rw [spec_l03Seam.l0]) (Ev.pos (by omega) ?_)
    refine inv_cps0 i (fun k s j => spec_l03Seam.l1 k l s (i : Int) j) M (fun j b => Best M l i b ∧ ∀ y, y < j → sq (l.getD i z43) (l.getD y z43) ≤ b) s ⟨hv, fun y hy => by omega⟩ (fun t j hj hw hq => ?_) (fun t hw => ?_)
    · have hi1 : l.getD i z43 ∈ l := by rw [getC hi]; exact List.getElem_mem hi
      have hj1 : l.getD j z43 ∈ l := by rw [getC (by omega)]; exact List.getElem_mem (by omega)
      refine Ev.step (fun k => by rw [spec_l03Seam.l1]) (Ev.pos (by omega) (Ev.pos (by omega) (Ev.pos (by omega) (Ev.pos (by omega) (Ev.pos (by omega) ?_)))))
      rw [rdC' l i, rdC' l j, wsq (hs _ hi1) (hs _ hj1), w64 (x := (j : Int) + 1) (by omega) (by omega)]
      refine Ev.nobind (specMax _ _) (hq _ ?_)
      have hM := h1 _ hi1 _ hj1
      refine ⟨⟨by have := hw.1.1; omega, by have := hw.1.2.1; omega, fun x y hx hy => by have := hw.1.2.2 x y hx hy; omega⟩, fun y hy => ?_⟩
      by_cases e : y = j
      · rw [e]; omega
      · have := hw.2 y (by omega); omega
    · refine Ev.step (fun k => by rw [spec_l03Seam.l1]) (Ev.neg (by omega) ?_)
      rw [w64 (x := (i : Int) + 1) (by omega) (by omega)]
      refine hr t ⟨hw.1.1, hw.1.2.1, fun x y hx hy => ?_⟩
      by_cases e : x = i
      · rw [e]; exact hw.2 y (by omega)
      · exact hw.1.2.2 x y (by omega) hy
  · refine Ev.step (fun k => by rw [spec_l03Seam.l0]) (Ev.neg (by omega) (Ev.fin ?_))
    rcases h2 with h2 | ⟨e, he, f, hf, hne, h2⟩
    · have := hv.1; have := hv.2.1; omega
    · obtain ⟨a, ha, rfl⟩ := List.getElem_of_mem he
      obtain ⟨b, hb, rfl⟩ := List.getElem_of_mem hf
      have hv2 := hv.2.1
      by_cases c : b < a
      · have := hv.2.2 a b ha c
        rw [getC ha, getC hb] at this; omega
      · by_cases d : a < b
        · have := hv.2.2 b a hb d
          rw [getC ha, getC hb, sq_symm] at this; omega
        · have : a = b := by omega
          subst this; exact absurd rfl hne
theorem specSeam {p q u v : S43} (hp : Sm p) (hq : Sm q) (hu : Sm u) (hv : Sm v) (hpq : key p ≠ key q) : Ev (fun k => spec_l03Seam.f k p.f0 p.f1 q.f0 q.f1 u.f0 u.f1 v.f0 v.f1) (has p q u v) := by
  have core : cr p q u = 0 → cr p q v = 0 → Ev (fun k => spec_l03Seam.l0 k (ends p q u v) 0 0) (com p q u v) := by
    intro c d
    obtain ⟨m0, m1, m2⟩ := com_is hp hq hu hv hpq c d
    refine maxLoop (ends p q u v) ?_ (fun x hx => ?_) (com p q u v) m0 m1 m2
    · have e1 := endAt_len [] p u v
      have e2 := endAt_len (endAt [] p u v) q u v
      have e3 := endAt_len (endAt (endAt [] p u v) q u v) u p q
      have e4 := endAt_len (endAt (endAt (endAt [] p u v) q u v) u p q) v p q
      unfold ends
      have e0 : ([] : List S43).length = 0 := rfl
      omega
    · rw [mem_ends] at hx
      rcases hx with ⟨rfl, _⟩ | ⟨rfl, _⟩ | ⟨rfl, _⟩ | ⟨rfl, _⟩ <;> assumption
  unfold spec_l03Seam.f has
  refine Ev.nobind (specSide p q u) ?_
  rw [sd_cr hp hq hu]
  refine Ev.ite (fun c => ?_) (fun c => ?_)
  · rw [if_pos c]
    refine Ev.nobind (specSide p q v) ?_
    rw [sd_cr hp hq hv]
    by_cases d : cr p q v = 0
    · rw [if_pos d, show (cr p q v != 0) = false from by rw [d]; rfl]
      have hc := core c d
      unfold ends at hc
      have e1 := endAt_len [] p u v
      have e2 := endAt_len (endAt [] p u v) q u v
      have e3 := endAt_len (endAt (endAt [] p u v) q u v) u p q
      have e0 : ([] : List S43).length = 0 := rfl
      have s4 : ∀ l : List S43, l.length ≤ 3 → l = endAt (endAt (endAt [] p u v) q u v) u p q → Ev (fun k => spec_l03Seam.j3 k l p.f0 p.f1 q.f0 q.f1 v.f0 v.f1) (com p q u v) := by
        intro l hl e
        rw [← e] at hc
        refine Ev.step (fun k => by rw [spec_l03Seam.j3]) (Ev.nobind (specBetween hv hp hq) ?_)
        unfold endAt at hc
        by_cases b : Box v p q
        · rw [if_pos b] at hc
          refine Ev.pos (decide_eq_true b) (Ev.pos (by omega) (Ev.step (fun k => by rw [spec_l03Seam.j4]) hc))
        · rw [if_neg b] at hc
          exact Ev.neg (by rw [decide_eq_false b]; decide) (Ev.step (fun k => by rw [spec_l03Seam.j4]) hc)
      have s3 : ∀ l : List S43, l.length ≤ 2 → l = endAt (endAt [] p u v) q u v → Ev (fun k => spec_l03Seam.j2 k l p.f0 p.f1 q.f0 q.f1 u.f0 u.f1 v.f0 v.f1) (com p q u v) := by
        intro l hl e
        refine Ev.step (fun k => by rw [spec_l03Seam.j2]) (Ev.nobind (specBetween hu hp hq) ?_)
        rw [← e] at s4
        unfold endAt at s4
        by_cases b : Box u p q
        · refine Ev.pos (decide_eq_true b) (Ev.pos (by omega) (s4 _ (by simp; omega) (by rw [if_pos b])))
        · exact Ev.neg (by rw [decide_eq_false b]; decide) (s4 _ (by omega) (by rw [if_neg b]))
      have s2 : ∀ l : List S43, l.length ≤ 1 → l = endAt [] p u v → Ev (fun k => spec_l03Seam.j1 k l p.f0 p.f1 q.f0 q.f1 u.f0 u.f1 v.f0 v.f1) (com p q u v) := by
        intro l hl e
        refine Ev.step (fun k => by rw [spec_l03Seam.j1]) (Ev.nobind (specBetween hq hu hv) ?_)
        rw [← e] at s3
        unfold endAt at s3
        by_cases b : Box q u v
        · refine Ev.pos (decide_eq_true b) (Ev.pos (by omega) (s3 _ (by simp; omega) (by rw [if_pos b])))
        · exact Ev.neg (by rw [decide_eq_false b]; decide) (s3 _ (by omega) (by rw [if_neg b]))
      refine Ev.step (fun k => by rw [spec_l03Seam.j0]) (Ev.neg (by decide) (Ev.nobind (a := []) rfl (Ev.nobind (specBetween hp hu hv) ?_)))
      unfold endAt at s2
      by_cases b : Box p u v
      · refine Ev.pos (decide_eq_true b) (Ev.pos (by simp) (s2 _ (by simp) (by rw [if_pos b])))
      · exact Ev.neg (by rw [decide_eq_false b]; decide) (s2 _ (by simp) (by rw [if_neg b]))
    · rw [if_neg d, show (cr p q v != 0) = true from by simpa using d]
      refine Ev.step (fun k => by rw [spec_l03Seam.j0]) ?_
      exact Ev.pos rfl (Ev.fin rfl)
  · rw [if_neg c]
    refine Ev.step (fun k => by rw [spec_l03Seam.j0]) ?_
    exact Ev.pos rfl (Ev.fin rfl)
/-! ### stones -/
theorem ok_sm {l : List S43} (h : okS l = true) : ∀ x ∈ l, Sm x := by
  intro x hx
  unfold okS at h
  rw [Bool.and_eq_true, Bool.and_eq_true, List.all_eq_true] at h
  have := h.1.2 x hx
  unfold placed at this
  rw [Bool.and_eq_true, inB_iff, inB_iff] at this
  exact this
theorem at_sm {l : List S43} (h : okS l = true) {i : Nat} (hi : i < l.length) : Sm (l.getD i z43) := by
  rw [getC hi]; exact ok_sm h _ (List.getElem_mem hi)
theorem ok_key {l : List S43} (h : okS l = true) {i : Nat} (hi : i < l.length) : key (l.getD i z43) ≠ key (l.getD ((i + 1) % l.length) z43) := by
  have hn := nx_lt l i hi
  have hl := okS_len h
  have s1 := at_sm h hi
  have s2 := at_sm h hn
  intro e
  have e2 := key_inj s1 s2 e
  obtain ⟨j, hj, j1, j2⟩ : ∃ j, j < l.length ∧ j ≠ i ∧ j ≠ (i + 1) % l.length := by
    by_cases a : 0 ≠ i ∧ 0 ≠ (i + 1) % l.length
    · exact ⟨0, by omega, a.1, a.2⟩
    · by_cases b : 1 ≠ i ∧ 1 ≠ (i + 1) % l.length
      · exact ⟨1, by omega, b.1, b.2⟩
      · exact ⟨2, by omega, by omega, by omega⟩
  have hc : convB l = true := by
    unfold okS at h
    rw [Bool.and_eq_true] at h; exact h.2
  unfold convB at hc
  rw [List.all_eq_true] at hc
  have hc1 := hc i (by simpa using hi)
  rw [List.all_eq_true] at hc1
  have hc2 := hc1 j (by simpa using hj)
  unfold cvx at hc2
  rw [decide_eq_false j1, decide_eq_false j2, Bool.false_or, Bool.false_or, decide_eq_true_eq] at hc2
  unfold at_ at hc2
  rw [← e2, sd_cr s1 s1 (at_sm h hj)] at hc2
  unfold cr at hc2
  simp at hc2
end Go.Proofs.Ytllfeehchiikoaa.SeamKit
namespace Go.Proofs.Ytllfeehchiikoaa.HullSpec
set_option linter.unusedSimpArgs false
set_option linter.unusedVariables false
open Go.RowKit Go.Proofs.Ytllfeehchiikoaa.PA Go.Proofs.Ytllfeehchiikoaa.Base Go.Proofs.Ytllfeehchiikoaa.StonesKit Go.Proofs.Ytllfeehchiikoaa.Geo Go.Proofs.Ytllfeehchiikoaa.SeamKit Go.Proofs.Ytllfeehchiikoaa.HullWrap Go.Proofs.YtllfeehchiikoaaW.PrintWords Go.Proofs.YtllfeehchiikoaaW.PrintLast Go.Proofs.YtllfeehchiikoaaW.PrintMore

theorem placed_sm {c : S43} : placed c = true ↔ Sm c := by
  unfold placed Sm
  rw [Bool.and_eq_true, inB_iff, inB_iff]
theorem specLess (a b : S43) : spec_l03Before.f a.f0 a.f1 b.f0 b.f1 = some (lt a b) := by
  unfold spec_l03Before.f lt
  by_cases h1 : a.f0 < b.f0
  · rw [if_pos h1, decide_eq_true h1, Bool.true_or]
  · rw [if_neg h1, decide_eq_false h1, Bool.false_or]
    by_cases h2 : a.f0 = b.f0
    · rw [if_pos h2, decide_eq_true h2, Bool.true_and]
    · rw [if_neg h2, decide_eq_false h2, Bool.false_and]
theorem beq_c (a b : S43) : ((a.f0 == b.f0 && (a.f1 == b.f1)) = true) ↔ a = b := by
  rw [Bool.and_eq_true, beq_iff_eq, beq_iff_eq]
  exact ⟨fun h => HullGeo.ext h.1 h.2, fun h => h ▸ ⟨rfl, rfl⟩⟩
def endR (vs : List S43) : List S43 × Int := if vs.length < 3 then ([], 4) else if vs.length > 8 then ([], 3) else (vs, 0)
def hullRes (l : List S43) : List S43 × Int := if l.length > 100 then ([], 2) else if l.all placed = true then (if l = [] then ([], 4) else endR (round l)) else ([], 2)
theorem nxt_mem : ∀ (T : List S43) (o n : S43), T.foldl (fun n c => upd o c n) n = n ∨ T.foldl (fun n c => upd o c n) n ∈ T
  | [], o, n => Or.inl rfl
  | c :: T, o, n => by
    rw [List.foldl_cons]
    have hu : upd o c n = n ∨ upd o c n = c := by
      unfold upd
      split
      · exact Or.inl rfl
      · split
        · exact Or.inr rfl
        · exact Or.inl rfl
    rcases nxt_mem T o (upd o c n) with h | h
    · rcases hu with hu | hu
      · left; rw [h, hu]
      · right; rw [h, hu]; exact List.mem_cons_self
    · exact Or.inr (List.mem_cons_of_mem _ h)
theorem scan3 {l out : List S43} {f now : S43} (hl : l.length ≤ 100) (hS : ∀ c ∈ l, Sm c) (hn : Sm now) (r : List S43 × Int)
    (h : Ev (fun k => spec_HullOf.l3 k l out (l.length : Int) f.f0 f.f1 now.f0 now.f1 (nxt l now).f0 (nxt l now).f1) r) : Ev (fun k => spec_HullOf.l3 k l out 0 f.f0 f.f1 now.f0 now.f1 now.f0 now.f1) r := by
  refine fold_cps0 l (fun c n => upd now c n) (fun k (n : S43) i => spec_HullOf.l3 k l out i f.f0 f.f1 now.f0 now.f1 n.f0 n.f1) r (fun _ n => Sm n) now hn (fun n i hi hv => ?_) (fun n i hi hv hr => ?_) (fun _ => h)
  · show Sm (upd now l[i] n)
    unfold upd
    split
    · exact hv
    · split
      · exact hS _ (List.getElem_mem hi)
      · exact hv
  · have hc := hS _ (List.getElem_mem hi)
    have hr : Ev (fun k => spec_HullOf.l3 k l out ((i + 1 : Nat) : Int) f.f0 f.f1 now.f0 now.f1 (upd now l[i] n).f0 (upd now l[i] n).f1) r := hr
    refine Ev.step (fun k => by rw [spec_HullOf.l3]) (Ev.pos (by omega) (Ev.pos (by omega) ?_))
    rw [rdC l i hi, w64 (x := (i : Int) + 1) (by omega) (by omega)]
    unfold upd at hr
    refine Ev.ite (fun e => ?_) (fun e => ?_)
    · rw [if_pos ((beq_c _ _).1 e)] at hr; exact hr
    · have e' : ¬ l[i] = now := fun g => e ((beq_c _ _).2 g)
      rw [if_neg e'] at hr
      refine Ev.nobind (specSide now n l[i]) (Ev.ite (fun q => ?_) (fun q => ?_))
      · rw [if_pos (show better now n l[i] from Or.inl ((beq_c _ _).1 q))] at hr; exact hr
      · have q' : ¬ n = now := fun g => q ((beq_c _ _).2 g)
        rw [sd_cr hn hv hc]
        refine Ev.ite (fun z => ?_) (fun z => ?_)
        · rw [if_pos (show better now n l[i] from Or.inr (Or.inl z))] at hr; exact hr
        · refine Ev.ite (fun y => ?_) (fun y => ?_)
          · refine Ev.nobind (specBetween hv hn hc) (Ev.ite (fun x => ?_) (fun x => ?_))
            · rw [if_pos (show better now n l[i] from Or.inr (Or.inr ⟨y, of_decide_eq_true x⟩))] at hr; exact hr
            · rw [if_neg (fun (g : better now n l[i]) => by
                rcases g with g | g | g
                · exact q' g
                · exact z g
                · exact x (decide_eq_true g.2))] at hr
              exact hr
          · rw [if_neg (fun (g : better now n l[i]) => by
              rcases g with g | g | g
              · exact q' g
              · exact z g
              · exact y g.1)] at hr
            exact hr
theorem wrap2 {l : List S43} {f : S43} (hl : l.length ≤ 100) (hS : ∀ c ∈ l, Sm c) (hf : f ∈ l) (hk : ∀ c ∈ l, c = f ∨ key f < key c) : ∀ (d : Nat) (now : S43) (out : List S43), out.length + d = l.length → Pth l f (out ++ [now]) → Ev (fun k => spec_HullOf.l2 k l out f.f0 f.f1 now.f0 now.f1) (endR (wrapL l f d now out))
  | 0, now, out, h, hp => by
    have := nodup_le hp.nd hp.mem
    rw [List.length_append, List.length_singleton] at this
    omega
  | d + 1, now, out, h, hp => by
    have hnow : now ∈ l := hp.mem _ (List.mem_append_right _ List.mem_cons_self)
    obtain ⟨a, b, hs⟩ := side_at hS hk hp out.length (by simp)
    rw [at_snoc] at hs
    have hlast : HullWrap.at_ (out ++ [now]) ((out ++ [now]).length - 1) = now := by
      rw [List.length_append, List.length_singleton, Nat.add_sub_cancel, at_snoc]
    refine Ev.step (fun k => by rw [spec_HullOf.l2]) (Ev.pos (by omega) ?_)
    rw [show (⟨now.f0, now.f1⟩ : S43) = now from rfl]
    refine scan3 hl hS (hS _ hnow) _ ?_
    refine Ev.step (fun k => by rw [spec_HullOf.l3]) (Ev.neg (by omega) ?_)
    have hlen : ((out ++ [now]).length : Int) = (out.length : Int) + 1 := by rw [List.length_append, List.length_singleton]; omega
    rw [wrapL]
    refine Ev.ite (fun e => ?_) (fun e => ?_)
    · have e' := (beq_c _ _).1 e
      rw [if_pos e']
      unfold endR
      refine Ev.ite (fun q => ?_) (fun q => ?_)
      · rw [if_pos (show (out ++ [now]).length < 3 by omega)]; exact Ev.fin rfl
      · rw [if_neg (show ¬ (out ++ [now]).length < 3 by omega)]
        refine Ev.ite (fun z => ?_) (fun z => ?_)
        · rw [if_pos (show (out ++ [now]).length > 8 by omega)]; exact Ev.fin rfl
        · rw [if_neg (show ¬ (out ++ [now]).length > 8 by omega)]; exact Ev.fin rfl
    · have e' : ¬ nxt l now = f := fun g => e ((beq_c _ _).2 g)
      rw [if_neg e']
      rcases nxt_is hs with q | q
      · exfalso
        have := q.2 f hf
        exact e' (q.1.trans this.symm)
      · exact wrap2 hl hS hf hk d _ _ (by rw [List.length_append, List.length_singleton]; omega) (path_snoc hp (by rw [hlast]; exact q) e')
theorem specHull {l : List S43} (hf : Fit l) : Ev (fun k => spec_HullOf.f k l) (hullRes l) := by
  unfold spec_HullOf.f hullRes
  refine Ev.ite (fun e => ?_) (fun e => ?_)
  · rw [if_pos (by omega)]; exact Ev.fin rfl
  · rw [if_neg (by omega)]
    have hl : l.length ≤ 100 := by omega
    rw [← all_range l z43 placed]
    refine rangeAll_ev0 (fun k i => spec_HullOf.l0 k l i) l.length (fun i => placed (l.getD i z43)) _ _ ?_ ?_ ?_
    · intro i hi hp r' hr
      refine Ev.step (fun k => by rw [spec_HullOf.l0]) (Ev.pos (by omega) (Ev.pos (by omega) ?_))
      rw [rdC l i hi, w64 (x := (i : Int) + 1) (by omega) (by omega)]
      refine Ev.nobind (specCorner (hf _ (List.getElem_mem hi))) (Ev.pos ?_ hr)
      simpa [List.getD_eq_getElem?_getD, hi] using hp
    · intro i hi hp
      refine Ev.step (fun k => by rw [spec_HullOf.l0]) (Ev.pos (by omega) (Ev.pos (by omega) ?_))
      rw [rdC l i hi]
      refine Ev.nobind (specCorner (hf _ (List.getElem_mem hi))) (Ev.neg ?_ (Ev.fin rfl))
      have : placed l[i] = false := by simpa [List.getD_eq_getElem?_getD, hi] using hp
      rw [this]; decide
    · intro hall
      rw [all_range l z43 placed, List.all_eq_true] at hall
      have hS : ∀ c ∈ l, Sm c := fun c hc => placed_sm.1 (hall c hc)
      refine Ev.step (fun k => by rw [spec_HullOf.l0]) (Ev.neg (by omega) (Ev.ite (fun z => ?_) (fun z => ?_)))
      · rw [if_pos (List.eq_nil_of_length_eq_zero (by omega))]; exact Ev.fin rfl
      · have hne : l ≠ [] := fun g => z (by rw [g]; rfl)
        rw [if_neg hne]
        refine Ev.pos (by omega) ?_
        have h0 : 0 < l.length := by omega
        have r0 : rd_T43 l 0 = l[0] := rdC l 0 h0
        rw [r0]
        obtain ⟨x, t, ht⟩ : ∃ x t, l = x :: t := by
          cases l with
          | nil => exact absurd rfl hne
          | cons x t => exact ⟨x, t, rfl⟩
        have hx : l[0] = x := by simp [ht]
        have key1 : Ev (fun k => spec_HullOf.l1 k l ((1 : Nat) : Int) l[0].f0 l[0].f1) (endR (round l)) := by
          refine fold_cps l (fun c m => if lt c m = true then c else m) (fun k (m : S43) i => spec_HullOf.l1 k l i m.f0 m.f1) _ (fun _ _ => True) (fun _ _ _ _ => trivial) (fun m i hi _ hr => ?_) (l.length - 1) 1 l[0] (by omega) trivial (fun _ => ?_)
          · have hr : Ev (fun k => spec_HullOf.l1 k l ((i + 1 : Nat) : Int) (if lt l[i] m = true then l[i] else m).f0 (if lt l[i] m = true then l[i] else m).f1) (endR (round l)) := hr
            refine Ev.step (fun k => by rw [spec_HullOf.l1]) (Ev.pos (by omega) (Ev.pos (by omega) ?_))
            rw [rdC l i hi, w64 (x := (i : Int) + 1) (by omega) (by omega)]
            refine Ev.nobind (specLess _ _) (Ev.ite (fun q => ?_) (fun q => ?_))
            · rw [if_pos q] at hr; exact hr
            · rw [if_neg q] at hr; exact hr
          · have hfi : (l.drop 1).foldl (fun m c => if lt c m = true then c else m) l[0] = first l := by
              rw [hx, ht]; rfl
            obtain ⟨h1, h2⟩ := first_is hS hne
            show Ev (fun k => spec_HullOf.l1 k l (l.length : Int) ((l.drop 1).foldl (fun m c => if lt c m = true then c else m) l[0]).f0 ((l.drop 1).foldl (fun m c => if lt c m = true then c else m) l[0]).f1) _
            rw [hfi]
            refine Ev.step (fun k => by rw [spec_HullOf.l1]) (Ev.neg (by omega) ?_)
            refine wrap2 hl hS h1 h2 l.length (first l) [] (by simp) ⟨by simp, rfl, by simp, fun y hy => ?_, fun i hi => ?_⟩
            · rw [List.nil_append, List.mem_singleton] at hy
              rw [hy]; exact h1
            · simp at hi
        exact key1
/-- What is told as a hull is a stone. -/
theorem hull_ok {l vs : List S43} (h : hullRes l = (vs, 0)) : okS vs = true ∧ vs.length ≤ l.length ∧ (∀ x ∈ vs, x ∈ l) ∧ Hul l (first l) vs ∧ (∀ c ∈ l, Sm c) := by
  unfold hullRes at h
  split at h
  · simp at h
  · split at h
    · rename_i h1 h2
      have hS : ∀ c ∈ l, Sm c := fun c hc => placed_sm.1 (List.all_eq_true.1 h2 c hc)
      split at h
      · simp at h
      · rename_i hne
        unfold endR at h
        split at h
        · simp at h
        · split at h
          · simp at h
          · rename_i h3 h4
            simp only [Prod.mk.injEq, and_true] at h
            have hm : ∃ c ∈ l, c ≠ first l := by
              by_cases c : ∃ c ∈ l, c ≠ first l
              · exact c
              · rw [round_one hS hne c] at h3; simp at h3
            have hh := round_is hS hne hm
            rw [h] at hh h3 h4
            refine ⟨?_, nodup_le hh.path.nd hh.path.mem, hh.path.mem, hh, hS⟩
            unfold okS
            rw [Bool.and_eq_true, Bool.and_eq_true, inB_iff]
            refine ⟨⟨by omega, ?_⟩, ?_⟩
            · rw [List.all_eq_true]
              exact fun c hc => placed_sm.2 (hS c (hh.path.mem c hc))
            · unfold convB
              rw [List.all_eq_true]
              intro i hi
              rw [List.all_eq_true]
              intro j hj
              rw [List.mem_range] at hi hj
              unfold cvx
              rw [Bool.or_eq_true, Bool.or_eq_true, decide_eq_true_eq, decide_eq_true_eq, decide_eq_true_eq]
              by_cases e1 : j = i
              · exact Or.inl (Or.inl e1)
              · by_cases e2 : j = (i + 1) % vs.length
                · exact Or.inl (Or.inr e2)
                · right
                  have hn : (i + 1) % vs.length < vs.length := Nat.mod_lt _ (by omega)
                  have sm : ∀ {q : Nat}, q < vs.length → Sm (StonesKit.at_ vs q) := fun hq => hS _ (hh.path.mem _ (at_mem hq))
                  rw [sd_cr (sm hi) (sm hn) (sm hj)]
                  exact hh.convex hi hj e1 e2
    · simp at h
end Go.Proofs.Ytllfeehchiikoaa.HullSpec
namespace Go.Proofs.Ytllfeehchiikoaa.DrawKit
set_option linter.unusedSimpArgs false
set_option linter.unusedVariables false
open Go.RowKit Go.Proofs.Ytllfeehchiikoaa.PA Go.Proofs.Ytllfeehchiikoaa.Base Go.Proofs.Ytllfeehchiikoaa.StonesKit Go.Proofs.Ytllfeehchiikoaa.Geo Go.Proofs.Ytllfeehchiikoaa.SeamKit Go.Proofs.Ytllfeehchiikoaa.GenKit Go.Proofs.Ytllfeehchiikoaa.HullSpec Go.Proofs.YtllfeehchiikoaaW.PrintWords Go.Proofs.YtllfeehchiikoaaW.PrintLast Go.Proofs.YtllfeehchiikoaaW.PrintMore

theorem modn {a n : Nat} (h : a < 2 * n) : a % n = if a < n then a else a - n := by
  split
  · rename_i c; exact Nat.mod_eq_of_lt c
  · rename_i c; rw [Nat.mod_eq_sub_mod (by omega), Nat.mod_eq_of_lt (by omega)]
def rot (m : Nat) (l : List S43) : List S43 := l.drop m ++ l.take m
theorem rot_len {m : Nat} {l : List S43} (h : m ≤ l.length) : (rot m l).length = l.length := by
  unfold rot; rw [List.length_append, List.length_drop, List.length_take]; omega
theorem rot_mem {m : Nat} {l : List S43} {x : S43} : x ∈ rot m l ↔ x ∈ l := by
  unfold rot
  rw [List.mem_append, Or.comm, ← List.mem_append, List.take_append_drop]
theorem rot_at {m : Nat} {l : List S43} (h : m < l.length) {i : Nat} (hi : i < l.length) : at_ (rot m l) i = at_ l ((m + i) % l.length) := by
  unfold at_ rot
  rw [modn (by omega), List.getD_eq_getElem?_getD, List.getD_eq_getElem?_getD]
  by_cases c : m + i < l.length
  · rw [if_pos c, List.getElem?_append_left (by rw [List.length_drop]; omega), List.getElem?_drop]
  · rw [if_neg c, List.getElem?_append_right (by rw [List.length_drop]; omega), List.length_drop, List.getElem?_take, if_pos (by omega)]
    congr 2; omega
theorem rot_conv {m : Nat} {l : List S43} (h : m < l.length) (hc : convB l = true) : convB (rot m l) = true := by
  unfold convB at hc ⊢
  rw [rot_len (by omega)]
  rw [List.all_eq_true] at hc ⊢
  intro i hi
  rw [List.mem_range] at hi
  rw [List.all_eq_true]
  intro j hj
  rw [List.mem_range] at hj
  have hi2 : (m + i) % l.length < l.length := Nat.mod_lt _ (by omega)
  have hj2 : (m + j) % l.length < l.length := Nat.mod_lt _ (by omega)
  have hc1 := hc _ (List.mem_range.2 hi2)
  rw [List.all_eq_true] at hc1
  have hc2 := hc1 _ (List.mem_range.2 hj2)
  have e1 : (m + (i + 1) % l.length) % l.length = ((m + i) % l.length + 1) % l.length := by
    rw [Nat.add_mod_mod, Nat.mod_add_mod, Nat.add_assoc]
  unfold cvx at hc2 ⊢
  rw [rot_len (by omega), rot_at h hi, rot_at h (Nat.mod_lt _ (by omega)), rot_at h hj, e1]
  rw [Bool.or_eq_true, Bool.or_eq_true, decide_eq_true_eq, decide_eq_true_eq, decide_eq_true_eq] at hc2 ⊢
  rcases hc2 with (q | q) | q
  · refine Or.inl (Or.inl ?_)
    rw [modn (by omega), modn (by omega)] at q
    split at q <;> split at q <;> omega
  · refine Or.inl (Or.inr ?_)
    rw [modn (a := i + 1) (by omega)]
    have q2 : (m + j) % l.length = (m + (i + 1) % l.length) % l.length := by rw [e1]; exact q
    rw [modn (a := i + 1) (by omega)] at q2
    split at q2
    · rw [if_pos (by omega)]
      rw [modn (by omega), modn (by omega)] at q2
      split at q2 <;> split at q2 <;> omega
    · rw [if_neg (by omega)]
      rw [modn (by omega), modn (by omega)] at q2
      split at q2 <;> split at q2 <;> omega
  · exact Or.inr q
theorem rot_ok {m : Nat} {l : List S43} (h : m < l.length) (ho : okS l = true) : okS (rot m l) = true := by
  unfold okS at ho ⊢
  rw [Bool.and_eq_true, Bool.and_eq_true] at ho ⊢
  obtain ⟨⟨h1, h2⟩, h3⟩ := ho
  rw [List.all_eq_true] at h2 ⊢
  refine ⟨⟨by rw [rot_len (by omega)]; exact h1, fun x hx => h2 x (rot_mem.1 hx)⟩, rot_conv h h3⟩
/-! ### the rectangle -/
theorem rect_ok {x w h : Int} (hx : 0 ≤ x ∧ x ≤ 100) (hw : 1 ≤ w ∧ w ≤ 6) (hh : 1 ≤ h ∧ h ≤ 6) : okS [(⟨x, 0⟩ : S43), ⟨x + w, 0⟩, ⟨x + w, h⟩, ⟨x, h⟩] = true := by
  have hp : 0 < w * h := Int.mul_pos (by omega) (by omega)
  have s0 : Sm (⟨x, 0⟩ : S43) := by unfold Sm; simp only []; omega
  have s1 : Sm (⟨x + w, 0⟩ : S43) := by unfold Sm; simp only []; omega
  have s2 : Sm (⟨x + w, h⟩ : S43) := by unfold Sm; simp only []; omega
  have s3 : Sm (⟨x, h⟩ : S43) := by unfold Sm; simp only []; omega
  unfold okS
  rw [Bool.and_eq_true, Bool.and_eq_true]
  refine ⟨⟨show inB 4 3 8 = true by decide, ?_⟩, ?_⟩
  · rw [List.all_eq_true]
    intro c hc
    rw [placed_sm]
    simp only [List.mem_cons, List.not_mem_nil, or_false] at hc
    rcases hc with rfl | rfl | rfl | rfl <;> assumption
  · have c1 : 0 < sd (⟨x, 0⟩ : S43) ⟨x + w, 0⟩ ⟨x + w, h⟩ := by rw [sd_cr s0 s1 s2, show cr (⟨x, 0⟩ : S43) ⟨x + w, 0⟩ ⟨x + w, h⟩ = w * h by unfold cr; grind]; exact hp
    have c2 : 0 < sd (⟨x, 0⟩ : S43) ⟨x + w, 0⟩ ⟨x, h⟩ := by rw [sd_cr s0 s1 s3, show cr (⟨x, 0⟩ : S43) ⟨x + w, 0⟩ ⟨x, h⟩ = w * h by unfold cr; grind]; exact hp
    have c3 : 0 < sd (⟨x + w, 0⟩ : S43) ⟨x + w, h⟩ ⟨x, 0⟩ := by rw [sd_cr s1 s2 s0, show cr (⟨x + w, 0⟩ : S43) ⟨x + w, h⟩ ⟨x, 0⟩ = w * h by unfold cr; grind]; exact hp
    have c4 : 0 < sd (⟨x + w, 0⟩ : S43) ⟨x + w, h⟩ ⟨x, h⟩ := by rw [sd_cr s1 s2 s3, show cr (⟨x + w, 0⟩ : S43) ⟨x + w, h⟩ ⟨x, h⟩ = w * h by unfold cr; grind]; exact hp
    have c5 : 0 < sd (⟨x + w, h⟩ : S43) ⟨x, h⟩ ⟨x, 0⟩ := by rw [sd_cr s2 s3 s0, show cr (⟨x + w, h⟩ : S43) ⟨x, h⟩ ⟨x, 0⟩ = w * h by unfold cr; grind]; exact hp
    have c6 : 0 < sd (⟨x + w, h⟩ : S43) ⟨x, h⟩ ⟨x + w, 0⟩ := by rw [sd_cr s2 s3 s1, show cr (⟨x + w, h⟩ : S43) ⟨x, h⟩ ⟨x + w, 0⟩ = w * h by unfold cr; grind]; exact hp
    have c7 : 0 < sd (⟨x, h⟩ : S43) ⟨x, 0⟩ ⟨x + w, 0⟩ := by rw [sd_cr s3 s0 s1, show cr (⟨x, h⟩ : S43) ⟨x, 0⟩ ⟨x + w, 0⟩ = w * h by unfold cr; grind]; exact hp
    have c8 : 0 < sd (⟨x, h⟩ : S43) ⟨x, 0⟩ ⟨x + w, h⟩ := by rw [sd_cr s3 s0 s2, show cr (⟨x, h⟩ : S43) ⟨x, 0⟩ ⟨x + w, h⟩ = w * h by unfold cr; grind]; exact hp
    unfold convB
    rw [List.all_eq_true]
    intro i hi
    rw [List.all_eq_true]
    intro j hj
    rw [List.mem_range] at hi hj
    simp only [List.length_cons, List.length_nil] at hi hj
    have hi' : i = 0 ∨ i = 1 ∨ i = 2 ∨ i = 3 := by omega
    have hj' : j = 0 ∨ j = 1 ∨ j = 2 ∨ j = 3 := by omega
    unfold cvx at_
    rcases hi' with rfl | rfl | rfl | rfl <;> rcases hj' with rfl | rfl | rfl | rfl <;> simp [c1, c2, c3, c4, c5, c6, c7, c8]
/-! ### what is drawn -/
def Near (x : Int) (l : List S43) : Prop := ∀ c ∈ l, (x ≤ c.f0 ∧ c.f0 ≤ x + 8) ∧ (0 ≤ c.f1 ∧ c.f1 ≤ 8)
structure Drawn (x : Int) (st : List S43) : Prop where
  ok : okS st = true
  len : st.length ≤ 6
  near : Near x st
theorem near_fit {x : Int} (hx : 0 ≤ x ∧ x ≤ 100) {l : List S43} (h : Near x l) : Fit l := by
  intro c hc
  have := h c hc
  omega
theorem drawn_end {l : List Int} (h : U8 l) {x : Int} (hx : 0 ≤ x ∧ x ≤ 100) {acc : List S43} (ha : acc.length ≤ 6) (hn : Near x acc) {p : Int} (t : Int) (h0 : 0 ≤ p) (h1 : p ≤ 4611686018427000000) :
    ∃ st p' t', Ev (fun k => spec_l03Drawn.l0 k x 0 acc 0 l p t) (st, p', t') ∧ Drawn x st ∧ p ≤ p' ∧ p' ≤ p + 3 := by
  have hh := specHull (near_fit hx hn)
  rcases e : hullRes acc with ⟨vs, q⟩
  rw [e] at hh
  by_cases c : q = 0
  · subst c
    obtain ⟨o1, o2, o3, _, _⟩ := hull_ok e
    have hl := okS_len o1
    obtain ⟨v, p', t', e1, v0, v1, p0, p1⟩ := pick_ok h t h0 (by omega) (n := (vs.length : Int)) (by omega) (by omega)
    have hv : v.toNat < vs.length := by omega
    refine ⟨rot v.toNat vs, p', t', ?_, ⟨rot_ok hv o1, by rw [rot_len (by omega)]; omega, fun y hy => hn y (o3 y (rot_mem.1 hy))⟩, p0, by omega⟩
    refine Ev.step (fun k => by rw [spec_l03Drawn.l0]) (Ev.neg (by omega) (Ev.bind hh (Ev.pos rfl (Ev.nobind e1 ?_))))
    refine Ev.nobind rfl (Ev.pos v0 (Ev.pos (by show v ≤ (vs.length : Int); omega) (Ev.nobind rfl (Ev.pos ?_ (Ev.nobind rfl (Ev.nobind rfl (Ev.pos ?_ (Ev.fin rfl))))))))
    · show ([] : List S43).length + (vs.drop v.toNat).length < 35184372088832
      rw [List.length_drop, List.length_nil]; omega
    · show (([] : List S43) ++ vs.drop v.toNat).length + (vs.take v.toNat).length < 35184372088832
      rw [List.nil_append, List.length_drop, List.length_take]; omega
  · obtain ⟨v, p1, t1, e1, v0, v1, a0, a1⟩ := pick_ok h t h0 (by omega) (n := 6) (by omega) (by omega)
    obtain ⟨u, p2, t2, e2, u0, u1, b0, b1⟩ := pick_ok h t1 (by omega : 0 ≤ p1) (by omega) (n := 6) (by omega) (by omega)
    refine ⟨[(⟨x, 0⟩ : S43), ⟨x + (1 + v), 0⟩, ⟨x + (1 + v), 1 + u⟩, ⟨x, 1 + u⟩], p2, t2, ?_, ⟨rect_ok hx (by omega) (by omega), by simp, ?_⟩, by omega, by omega⟩
    · refine Ev.step (fun k => by rw [spec_l03Drawn.l0]) (Ev.neg (by omega) (Ev.bind hh (Ev.neg c (Ev.nobind e1 ?_))))
      refine Ev.nobind e2 ?_
      refine Ev.fin ?_
      simp only []
      rw [w64 (x := 1 + v) (by omega) (by omega), w64 (x := 1 + u) (by omega) (by omega), w64 (x := x + (1 + v)) (by omega) (by omega), w64 (x := 0 + (1 + u)) (by omega) (by omega),
        w16 (x := x) (by omega) (by omega), w16 (x := 0) (by omega) (by omega), w16 (x := x + (1 + v)) (by omega) (by omega), w16 (x := 0 + (1 + u)) (by omega) (by omega), Int.zero_add]
    · intro y hy
      simp only [List.mem_cons, List.not_mem_nil, or_false] at hy
      rcases hy with rfl | rfl | rfl | rfl <;> simp only [] <;> omega
theorem drawn_loop {l : List Int} (h : U8 l) {x : Int} (hx : 0 ≤ x ∧ x ≤ 100) : ∀ (d : Nat) (acc : List S43) (p t : Int), acc.length + d ≤ 6 → Near x acc → 0 ≤ p → p ≤ 4611686018426000000 + 2 * (6 - (d : Int)) →
    ∃ st p' t', Ev (fun k => spec_l03Drawn.l0 k x 0 acc (d : Int) l p t) (st, p', t') ∧ Drawn x st ∧ p ≤ p' ∧ p' ≤ p + 2 * (d : Int) + 3
  | 0, acc, p, t, hl, hn, h0, h1 => by
    obtain ⟨st, p', t', e, e1, e2, e3⟩ := drawn_end h hx (by omega) hn t h0 (by omega)
    exact ⟨st, p', t', e, e1, e2, by omega⟩
  | d + 1, acc, p, t, hl, hn, h0, h1 => by
    obtain ⟨a, b, p1, t1, e, a1, b1, a2, a3⟩ := near_ok h t h0 (by omega) (x := x) hx
    obtain ⟨st, p', t', e', e1, e2, e3⟩ := drawn_loop h hx d (acc ++ [⟨a, b⟩]) p1 t1 (by rw [List.length_append, List.length_singleton]; omega) (fun c hc => by
      rcases List.mem_append.1 hc with hc | hc
      · exact hn c hc
      · rw [List.mem_singleton] at hc; subst hc; exact ⟨a1, b1⟩) (by omega) (by omega)
    refine ⟨st, p', t', ?_, e1, by omega, by omega⟩
    refine Ev.step (fun k => by rw [spec_l03Drawn.l0]) (Ev.pos (by omega) (Ev.nobind e ?_))
    refine Ev.pos (by omega) ?_
    rw [w64 (x := ((d + 1 : Nat) : Int) - 1) (by omega) (by omega), show ((d + 1 : Nat) : Int) - 1 = (d : Int) by omega]
    exact e'
theorem drawn_ok {l : List Int} (h : U8 l) {x : Int} (hx : 0 ≤ x ∧ x ≤ 100) {p : Int} (t : Int) (h0 : 0 ≤ p) (h1 : p ≤ 4611686018425000000) :
    ∃ st p' t', Ev (fun k => spec_l03Drawn.f k l p t x 0) (st, p', t') ∧ Drawn x st ∧ p ≤ p' ∧ p' ≤ p + 16 := by
  obtain ⟨v, p1, t1, e, v0, v1, a0, a1⟩ := pick_ok h t h0 (by omega) (n := 4) (by omega) (by omega)
  obtain ⟨d, hd⟩ : ∃ d : Nat, (d : Int) = 3 + v := ⟨(3 + v).toNat, by omega⟩
  obtain ⟨st, p', t', e', e1, e2, e3⟩ := drawn_loop h hx d [] p1 t1 (by simp; omega) (fun c hc => by simp at hc) (by omega) (by omega)
  refine ⟨st, p', t', ?_, e1, by omega, by omega⟩
  unfold spec_l03Drawn.f
  refine Ev.nobind e ?_
  rw [w64 (x := 3 + (v, p1, t1).1) (by show -9223372036854775808 ≤ 3 + v; omega) (by show 3 + v ≤ 9223372036854775807; omega)]
  show Ev (fun k => spec_l03Drawn.l0 k x 0 [] (3 + v) l p1 t1) _
  rw [← hd]
  exact e'
end Go.Proofs.Ytllfeehchiikoaa.DrawKit
namespace Go.Proofs.Ytllfeehchiikoaa.SplitKit
set_option linter.unusedSimpArgs false
set_option linter.unusedVariables false
open Go.RowKit Go.Proofs.Ytllfeehchiikoaa.PA Go.Proofs.Ytllfeehchiikoaa.Base Go.Proofs.Ytllfeehchiikoaa.StonesKit Go.Proofs.Ytllfeehchiikoaa.Geo Go.Proofs.Ytllfeehchiikoaa.SeamKit Go.Proofs.Ytllfeehchiikoaa.HullGeo Go.Proofs.Ytllfeehchiikoaa.DrawKit Go.Proofs.Ytllfeehchiikoaa.HullSpec Go.Proofs.YtllfeehchiikoaaW.PrintWords Go.Proofs.YtllfeehchiikoaaW.PrintLast Go.Proofs.YtllfeehchiikoaaW.PrintMore

def nxt (n i : Nat) : Nat := if i + 1 < n then i + 1 else 0
theorem tmn (i n : Nat) (h : i < n) (hn : n ≤ 1048576) : Int.tmod (wrap64 ((i : Int) + 1)) (n : Int) = ((nxt n i : Nat) : Int) := by
  rw [tm i n h hn]; congr 1; unfold nxt
  split
  · exact Nat.mod_eq_of_lt (by omega)
  · have : i + 1 = n := by omega
    rw [this, Nat.mod_self]
/-- The corners met in d steps from i. -/
def ptT (l : List S43) : Nat → Nat → List S43
  | 0, _ => []
  | d + 1, i => l.getD (nxt l.length i) z43 :: ptT l d (nxt l.length i)
theorem ptT_length (l : List S43) : ∀ d i, (ptT l d i).length = d
  | 0, _ => rfl
  | d + 1, i => by simp [ptT, ptT_length l d]
def part (l : List S43) (d i : Nat) : List S43 := l.getD i z43 :: ptT l d i
theorem specPart {l : List S43} (hl : l.length ≤ 1048576) (b : Nat) (hb : b < l.length) : ∀ (d i : Nat) (acc : List S43), d < l.length → i < l.length → (i + d = b ∨ i + d = b + l.length) → acc.length + d ≤ 1048576 →
    Ev (fun k => spec_l03Part.l0 k l (b : Int) acc (l.length : Int) (i : Int)) (acc ++ part l d i)
  | 0, i, acc, _, hi, h, ha => by
    refine Ev.step (fun k => by rw [spec_l03Part.l0]) ?_
    refine Ev.pos (by omega) (Ev.pos (by omega) (Ev.pos (by omega) (Ev.nobind rfl (Ev.pos (by omega) (Ev.fin ?_)))))
    rw [rdC']; rfl
  | d + 1, i, acc, hd, hi, h, ha => by
    have hn : nxt l.length i < l.length := by unfold nxt; split <;> omega
    have hx : nxt l.length i + d = b ∨ nxt l.length i + d = b + l.length := by unfold nxt; split <;> omega
    refine Ev.step (fun k => by rw [spec_l03Part.l0]) ?_
    refine Ev.pos (by omega) (Ev.pos (by omega) (Ev.pos (by omega) (Ev.nobind rfl (Ev.neg (by omega) (Ev.neg (by omega) ?_)))))
    rw [tmn i l.length hi hl]
    refine Ev.to (specPart hl b hb d (nxt l.length i) _ (by omega) hn hx (by simp; omega)) ?_
    rw [rdC', List.append_assoc]; rfl
def dist (n i b : Nat) : Nat := if i ≤ b then b - i else b + n - i
theorem dist_ok {n i b : Nat} (hi : i < n) (hb : b < n) : dist n i b < n ∧ (i + dist n i b = b ∨ i + dist n i b = b + n) := by
  unfold dist; split <;> omega
theorem specP {l : List S43} (hl : l.length ≤ 1048575) {i b : Nat} (hi : i < l.length) (hb : b < l.length) : Ev (fun k => spec_l03Part.f k l (i : Int) (b : Int)) (part l (dist l.length i b) i) := by
  have h := dist_ok hi hb
  unfold spec_l03Part.f
  exact specPart (by omega) b hb _ i [] h.1 hi h.2 (by simp; omega)
def near (n i b : Nat) : Bool := decide (i = b) || (decide (nxt n i = b) || decide (nxt n b = i))
def res (l : List S43) (a b : Int) : List S43 × List S43 × Int :=
  if okS l then (if inB a 0 ((l.length : Int) - 1) && inB b 0 ((l.length : Int) - 1) then (if near l.length a.toNat b.toNat then ([], [], 4) else (part l (dist l.length a.toNat b.toNat) a.toNat, part l (dist l.length b.toNat a.toNat) b.toNat, 0)) else ([], [], 2)) else ([], [], 1)
theorem res_length (l : List S43) (a b : Int) : (res l a b).1.length ≤ 10 ∧ (res l a b).2.1.length ≤ 10 := by
  unfold res
  split
  · rename_i h
    have hl := okS_len h
    split
    · rename_i h2
      rw [Bool.and_eq_true, inB_iff, inB_iff] at h2
      have d1 := dist_ok (n := l.length) (i := a.toNat) (b := b.toNat) (by omega) (by omega)
      have d2 := dist_ok (n := l.length) (i := b.toNat) (b := a.toNat) (by omega) (by omega)
      split
      · simp
      · simp only [part, List.length_cons, ptT_length]; omega
    · simp
  · simp
theorem specIt {l : List S43} (hl : l.length ≤ 1048575) {i b : Nat} (hi : i < l.length) (hb : b < l.length) : Ev (fun k => spec_SplitStone.j0 k l (i : Int) (b : Int) (l.length : Int) false) (if near l.length i b then ([], [], 4) else (part l (dist l.length i b) i, part l (dist l.length b i) b, 0)) := by
  have bad : Ev (fun k => spec_SplitStone.j1 k l (i : Int) (b : Int) true) ([], [], 4) := by
    refine Ev.step (fun k => by rw [spec_SplitStone.j1]) ?_
    exact Ev.pos rfl (Ev.fin rfl)
  refine Ev.step (fun k => by rw [spec_SplitStone.j0]) ?_
  refine Ev.neg (by simp) ?_
  rw [tmn i l.length hi (by omega), tmn b l.length hb (by omega)]
  unfold near
  refine Ev.ite (fun e => ?_) (fun e => Ev.neg (by omega) ?_)
  · rw [decide_eq_true (by omega)]; exact bad
  rw [decide_eq_false (by omega), Bool.false_or]
  refine Ev.ite (fun e => ?_) (fun e => ?_)
  · rw [decide_eq_true (by omega)]; exact bad
  rw [decide_eq_false (by omega), Bool.false_or]
  by_cases q : nxt l.length b = i
  · rw [decide_eq_true q, q]; simpa using bad
  · have e2 : (((nxt l.length b : Nat) : Int) == (i : Int)) = false := by rw [beq_eq_false_iff_ne]; omega
    rw [decide_eq_false q, e2]
    refine Ev.step (fun k => by rw [spec_SplitStone.j1]) ?_
    exact Ev.neg (by simp) (Ev.bind (specP hl hi hb) (Ev.bind (specP hl hb hi) (Ev.fin rfl)))
theorem specRes {l : List S43} (hf : Fit l) (a b : Int) : Ev (fun k => spec_SplitStone.f k l a b) (res l a b) := by
  unfold spec_SplitStone.f res
  have bad : Ev (fun k => spec_SplitStone.j0 k l a b (l.length : Int) true) ([], [], 2) := by
    refine Ev.step (fun k => by rw [spec_SplitStone.j0]) ?_
    exact Ev.pos rfl (Ev.fin rfl)
  refine Ev.bind (specOk hf) ?_
  cases ho : okS l with
  | false => exact Ev.neg (by simp) (Ev.fin rfl)
  | true =>
    have hl := okS_len ho
    rw [w64 (by omega) (by omega)]
    refine Ev.pos rfl (Ev.nobind (specIn _ _ _) ?_)
    cases ha : inB a 0 ((l.length : Int) - 1) with
    | false => exact Ev.neg (by simp) bad
    | true =>
      refine Ev.pos rfl (Ev.nobind (specIn _ _ _) ?_)
      cases hb : inB b 0 ((l.length : Int) - 1) with
      | false => exact bad
      | true =>
        rw [inB_iff] at ha hb
        obtain ⟨i, rfl⟩ : ∃ i : Nat, a = (i : Int) := ⟨a.toNat, by omega⟩
        obtain ⟨j, rfl⟩ : ∃ j : Nat, b = (j : Int) := ⟨b.toNat, by omega⟩
        exact specIt (by omega) (by omega) (by omega)

/-! ### corners in their order turn left -/
theorem ok_smA {l : List S43} (h : okS l = true) {i : Nat} (hi : i < l.length) : Sm (at_ l i) := at_sm h hi
theorem ok_cr {l : List S43} (h : okS l = true) {i j : Nat} (hi : i < l.length) (hj : j < l.length) (h1 : j ≠ i) (h2 : j ≠ (i + 1) % l.length) : 0 < cr (at_ l i) (at_ l ((i + 1) % l.length)) (at_ l j) := by
  have hc := h
  unfold okS convB at hc
  rw [Bool.and_eq_true, List.all_eq_true] at hc
  have hc1 := hc.2 _ (List.mem_range.2 hi)
  rw [List.all_eq_true] at hc1
  have hc2 := hc1 _ (List.mem_range.2 hj)
  unfold cvx at hc2
  rw [decide_eq_false h1, decide_eq_false h2, Bool.false_or, Bool.false_or, decide_eq_true_eq, sd_cr (ok_smA h hi) (ok_smA h (nx_lt l i hi)) (ok_smA h hj)] at hc2
  exact hc2
theorem triple0 {l : List S43} (h : okS l = true) {j : Nat} (hj : 1 ≤ j) : ∀ d : Nat, j + 1 + d < l.length → 0 < cr (at_ l 0) (at_ l j) (at_ l (j + 1 + d))
  | 0, hl => by
    have hh := ok_cr h (i := j) (j := 0) (by omega) (by omega) (by omega) (by rw [Nat.mod_eq_of_lt (by omega)]; omega)
    rw [Nat.mod_eq_of_lt (by omega), cr_cyc, cr_cyc] at hh
    exact hh
  | d + 1, hl => by
    have ih := triple0 h hj d (by omega)
    by_cases c : j = 1
    · subst c
      have hh := ok_cr h (i := 0) (j := 1 + 1 + (d + 1)) (by omega) (by omega) (by omega) (by rw [Nat.mod_eq_of_lt (by omega)]; omega)
      rw [Nat.mod_eq_of_lt (by omega)] at hh
      exact hh
    · have off_ : ∀ i, 2 ≤ i → i < l.length → 0 < off ((at_ l 1).f0 - (at_ l 0).f0) ((at_ l 1).f1 - (at_ l 0).f1) (at_ l 0) (at_ l i) := by
        intro i h2 hi
        have hh := ok_cr h (i := 0) (j := i) (by omega) hi (by omega) (by rw [Nat.mod_eq_of_lt (by omega)]; omega)
        rw [Nat.mod_eq_of_lt (by omega)] at hh
        exact hh
      have e := off_plk ((at_ l 1).f0 - (at_ l 0).f0) ((at_ l 1).f1 - (at_ l 0).f1) (at_ l 0) (at_ l (j + 1 + d)) (at_ l j) (at_ l (j + 1 + (d + 1)))
      have o1 := off_ (j + 1 + d) (by omega) (by omega)
      have o2 := off_ j (by omega) (by omega)
      have o3 := off_ (j + 1 + (d + 1)) (by omega) (by omega)
      have hh := ok_cr h (i := j + 1 + d) (j := 0) (by omega) (by omega) (by omega) (by rw [Nat.mod_eq_of_lt (by omega)]; omega)
      rw [Nat.mod_eq_of_lt (by omega), cr_cyc, cr_cyc] at hh
      rw [cr_swap (at_ l 0) (at_ l (j + 1 + d)) (at_ l j)] at e
      have p1 := Int.mul_pos o2 (show 0 < cr (at_ l 0) (at_ l (j + 1 + d)) (at_ l (j + 1 + (d + 1))) from hh)
      have p2 := Int.mul_pos o3 ih
      rw [Int.mul_neg, Int.sub_neg] at e
      refine Int.lt_of_not_ge (fun g => ?_)
      have p3 : off ((at_ l 1).f0 - (at_ l 0).f0) ((at_ l 1).f1 - (at_ l 0).f1) (at_ l 0) (at_ l (j + 1 + d)) * cr (at_ l 0) (at_ l j) (at_ l (j + 1 + (d + 1))) ≤ 0 := Int.mul_nonpos_of_nonneg_of_nonpos (by omega) g
      omega
theorem triple {l : List S43} (h : okS l = true) {j k : Nat} (h1 : 1 ≤ j) (h2 : j < k) (h3 : k < l.length) : 0 < cr (at_ l 0) (at_ l j) (at_ l k) := by
  have := triple0 h h1 (k - (j + 1)) (by omega)
  rw [show j + 1 + (k - (j + 1)) = k by omega] at this
  exact this
theorem take_at {l : List S43} {m i : Nat} (h : i < m) : at_ (l.take m) i = at_ l i := by
  unfold at_
  rw [List.getD_eq_getElem?_getD, List.getD_eq_getElem?_getD, List.getElem?_take, if_pos h]
theorem take_ok {l : List S43} (h : okS l = true) {m : Nat} (h3 : 3 ≤ m) (hm : m ≤ l.length) : okS (l.take m) = true := by
  have hl := okS_len h
  have hlen : (l.take m).length = m := by rw [List.length_take]; omega
  have hs := ok_sm h
  unfold okS
  rw [Bool.and_eq_true, Bool.and_eq_true, hlen, inB_iff, List.all_eq_true]
  refine ⟨⟨by omega, fun c hc => placed_sm.2 (hs c (List.mem_of_mem_take hc))⟩, ?_⟩
  unfold convB
  rw [hlen, List.all_eq_true]
  intro i hi
  rw [List.all_eq_true]
  intro j hj
  rw [List.mem_range] at hi hj
  have hn : (i + 1) % m < m := Nat.mod_lt _ (by omega)
  unfold cvx
  rw [hlen, take_at hi, take_at hj, take_at hn, Bool.or_eq_true, Bool.or_eq_true, decide_eq_true_eq, decide_eq_true_eq, decide_eq_true_eq]
  by_cases c1 : j = i
  · exact Or.inl (Or.inl c1)
  · by_cases c2 : j = (i + 1) % m
    · exact Or.inl (Or.inr c2)
    · right
      rw [sd_cr (ok_smA h (by omega)) (ok_smA h (by omega)) (ok_smA h (by omega))]
      by_cases c : i + 1 < m
      · rw [Nat.mod_eq_of_lt c] at c2 ⊢
        have hh := ok_cr h (i := i) (j := j) (by omega) (by omega) c1 (by rw [Nat.mod_eq_of_lt (by omega)]; exact c2)
        rw [Nat.mod_eq_of_lt (by omega)] at hh
        exact hh
      · have hi2 : i + 1 = m := by omega
        rw [hi2, Nat.mod_self] at c2 ⊢
        rw [cr_cyc]
        exact triple h (by omega) (by omega) (by omega)
theorem nxt_mod {n i : Nat} (h : i < n) : nxt n i = (i + 1) % n := by
  unfold nxt
  split
  · exact (Nat.mod_eq_of_lt (by omega)).symm
  · rw [show i + 1 = n by omega, Nat.mod_self]
theorem part_at (l : List S43) : ∀ (d i j : Nat), i < l.length → j ≤ d → at_ (part l d i) j = at_ l ((i + j) % l.length)
  | d, i, 0, hi, _ => by
    rw [Nat.add_zero, Nat.mod_eq_of_lt hi]
    rfl
  | 0, i, j + 1, hi, hj => by omega
  | d + 1, i, j + 1, hi, hj => by
    have hn : nxt l.length i < l.length := by unfold nxt; split <;> omega
    have := part_at l d (nxt l.length i) j hn (by omega)
    rw [nxt_mod hi, Nat.mod_add_mod, Nat.add_assoc, Nat.add_comm 1 j] at this
    rw [← this, ← nxt_mod hi]
    rfl
theorem part_len (l : List S43) (d i : Nat) : (part l d i).length = d + 1 := by
  unfold part
  rw [List.length_cons, ptT_length]
theorem part_is {l : List S43} {d i : Nat} (hi : i < l.length) (hd : d < l.length) : part l d i = (rot i l).take (d + 1) := by
  have hr := rot_len (m := i) (l := l) (by omega)
  have e1 := part_len l d i
  have e2 : ((rot i l).take (d + 1)).length = d + 1 := by rw [List.length_take, hr]; omega
  refine List.ext_getElem (by omega) (fun j h1 h2 => ?_)
  have a1 := part_at l d i j hi (by omega)
  have a2 := take_at (l := rot i l) (m := d + 1) (i := j) (by omega)
  rw [rot_at hi (by omega)] at a2
  unfold at_ at a1 a2
  rw [← a1, getC h1, getC h2] at a2
  exact a2.symm
theorem part_ok {l : List S43} (h : okS l = true) {d i : Nat} (hi : i < l.length) (h2 : 2 ≤ d) (hd : d < l.length) : okS (part l d i) = true := by
  rw [part_is hi hd]
  exact take_ok (rot_ok hi h) (by omega) (by rw [rot_len (by omega)]; omega)
theorem part_mem {l : List S43} {d i : Nat} (hi : i < l.length) (hd : d < l.length) : ∀ c ∈ part l d i, c ∈ l := by
  intro c hc
  rw [part_is hi hd] at hc
  exact rot_mem.1 (List.mem_of_mem_take hc)
theorem split02 {l : List S43} (h : okS l = true) (h4 : 4 ≤ l.length) (hf : Fit l) : Ev (fun k => spec_SplitStone.f k l 0 2) (part l 2 0, part l (l.length - 2) 2, 0) := by
  have hl := okS_len h
  have hr := specRes hf 0 2
  unfold res at hr
  rw [if_pos h] at hr
  have e1 : inB 0 0 ((l.length : Int) - 1) = true := by rw [inB_iff]; omega
  have e2 : inB 2 0 ((l.length : Int) - 1) = true := by rw [inB_iff]; omega
  have e3 : near l.length (0 : Int).toNat (2 : Int).toNat = false := by
    show near l.length 0 2 = false
    unfold near nxt
    rw [if_pos (by omega), if_pos (by omega)]
    decide
  rw [e1, e2, e3] at hr
  have e4 : dist l.length 0 2 = 2 := by unfold dist; rw [if_pos (by omega)]
  have e5 : dist l.length 2 0 = l.length - 2 := by unfold dist; rw [if_neg (by omega)]; omega
  refine Ev.to hr ?_
  show (part l (dist l.length 0 2) 0, part l (dist l.length 2 0) 2, (0 : Int)) = _
  rw [e4, e5]
end Go.Proofs.Ytllfeehchiikoaa.SplitKit
namespace Go.Proofs.Ytllfeehchiikoaa.P6Kit
set_option linter.unusedSimpArgs false
set_option linter.unusedVariables false
open Go.RowKit Go.Proofs.Ytllfeehchiikoaa.PA Go.Proofs.Ytllfeehchiikoaa.Base Go.Proofs.Ytllfeehchiikoaa.StonesKit Go.Proofs.Ytllfeehchiikoaa.GenKit Go.Proofs.Ytllfeehchiikoaa.DrawKit Go.Proofs.Ytllfeehchiikoaa.SplitKit Go.Proofs.YtllfeehchiikoaaW.PrintWords Go.Proofs.YtllfeehchiikoaaW.PrintLast Go.Proofs.YtllfeehchiikoaaW.PrintMore

def Near6 (i : Nat) (l : List S43) : Prop := ∃ x : Int, 0 ≤ x ∧ x + 8 ≤ 8 * (i : Int) ∧ Near x l
structure Lay6 (n : Nat) (ls : List (List S43)) : Prop where
  ok : ∀ l ∈ ls, okS l = true
  len : ls.length ≤ 2 * n
  near : ∀ l ∈ ls, Near6 n l
  tot : (ls.map List.length).sum ≤ 8 * n
theorem Lay6.one {n : Nat} {ls : List (List S43)} (h : Lay6 n ls) {st : List S43} (ho : okS st = true) (hn : Near (8 * (n : Int)) st) (hl : st.length ≤ 8) : Lay6 (n + 1) (ls ++ [st]) := by
  have h1 := h.len
  have h2 := h.tot
  refine ⟨fun l hm => ?_, by rw [List.length_append, List.length_singleton]; omega, fun l hm => ?_, ?_⟩
  · rcases List.mem_append.1 hm with hm | hm
    · exact h.ok l hm
    · rw [List.mem_singleton] at hm; subst hm; exact ho
  · rcases List.mem_append.1 hm with hm | hm
    · obtain ⟨x, x0, x1, x2⟩ := h.near l hm
      exact ⟨x, x0, by omega, x2⟩
    · rw [List.mem_singleton] at hm; subst hm; exact ⟨8 * (n : Int), by omega, by omega, hn⟩
  · rw [List.map_append, List.sum_append, List.map_cons, List.map_nil, List.sum_cons, List.sum_nil]; omega
theorem Lay6.two {n : Nat} {ls : List (List S43)} (h : Lay6 n ls) {a b : List S43} (ha : okS a = true) (hb : okS b = true) (na : Near (8 * (n : Int)) a) (nb : Near (8 * (n : Int)) b) (hl : a.length + b.length ≤ 8) : Lay6 (n + 1) (ls ++ [a] ++ [b]) := by
  have h1 := h.len
  have h2 := h.tot
  refine ⟨fun l hm => ?_, by rw [List.length_append, List.length_append, List.length_singleton, List.length_singleton]; omega, fun l hm => ?_, ?_⟩
  · rcases List.mem_append.1 hm with hm | hm
    · rcases List.mem_append.1 hm with hm | hm
      · exact h.ok l hm
      · rw [List.mem_singleton] at hm; subst hm; exact ha
    · rw [List.mem_singleton] at hm; subst hm; exact hb
  · rcases List.mem_append.1 hm with hm | hm
    · rcases List.mem_append.1 hm with hm | hm
      · obtain ⟨x, x0, x1, x2⟩ := h.near l hm
        exact ⟨x, x0, by omega, x2⟩
      · rw [List.mem_singleton] at hm; subst hm; exact ⟨8 * (n : Int), by omega, by omega, na⟩
    · rw [List.mem_singleton] at hm; subst hm; exact ⟨8 * (n : Int), by omega, by omega, nb⟩
  · rw [List.map_append, List.sum_append, List.map_append, List.sum_append, List.map_cons, List.map_nil, List.sum_cons, List.sum_nil, List.map_cons, List.map_nil, List.sum_cons, List.sum_nil]; omega
theorem p6_loop {l : List Int} (h : U8 l) : ∀ (d i : Nat) (ls : List (List S43)) (p t : Int), i + d ≤ 3 → Lay6 i ls → 0 ≤ p → p ≤ 4611686018424000000 + 20 * (i : Int) →
    ∃ (n : Nat) (ls' : List (List S43)), n ≤ 3 ∧ Ev (fun k => spec_P6Lay.l0 k ls (8 * (i : Int)) (d : Int) l p t) (8 * (n : Int) + 9, 12, ls') ∧ Lay6 n ls'
  | 0, i, ls, p, t, hi, hL, h0, h1 => by
    refine ⟨i, ls, by omega, ?_, hL⟩
    refine Ev.step (fun k => by rw [spec_P6Lay.l0]) (Ev.neg (by omega) (Ev.fin ?_))
    rw [w16 (x := 8 * (i : Int)) (by omega) (by omega), w16 (by omega) (by omega)]
  | d + 1, i, ls, p, t, hi, hL, h0, h1 => by
    have hw1 := w64 (x := 8 * (i : Int) + 8) (by omega) (by omega)
    have hw2 := w64 (x := ((d + 1 : Nat) : Int) - 1) (by omega) (by omega)
    have e8 : 8 * (i : Int) + 8 = 8 * ((i + 1 : Nat) : Int) := by omega
    have ed : ((d + 1 : Nat) : Int) - 1 = (d : Int) := by omega
    have hll := hL.len
    obtain ⟨st, p1, t1, e, hD, a0, a1⟩ := drawn_ok h (x := 8 * (i : Int)) (by omega) t h0 (by omega)
    have hlen := hD.len
    have hok := okS_len hD.ok
    have plain : ∀ (p2 t2 : Int), p1 ≤ p2 → p2 ≤ p1 + 1 → ∃ (n : Nat) (ls' : List (List S43)), n ≤ 3 ∧ Ev (fun k => spec_P6Lay.j1 k ls (8 * (i : Int)) ((d + 1 : Nat) : Int) st false l p2 t2) (8 * (n : Int) + 9, 12, ls') ∧ Lay6 n ls' := by
      intro p2 t2 b0 b1
      obtain ⟨n, ls', n3, e2, hL'⟩ := p6_loop h d (i + 1) (ls ++ [st]) p2 t2 (by omega) (hL.one hD.ok hD.near (by omega)) (by omega) (by omega)
      refine ⟨n, ls', n3, ?_, hL'⟩
      refine Ev.step (fun k => by rw [spec_P6Lay.j1]) (Ev.neg (by simp) (Ev.pos (by omega) ?_))
      rw [hw1, hw2, e8, ed]
      exact e2
    by_cases c : (st.length : Int) > 3
    · obtain ⟨b, p2, t2, e2, b0, b1⟩ := one_ok h t1 (by omega : 0 ≤ p1) (by omega)
      cases b with
      | false =>
        obtain ⟨n, ls', n3, e3, hL'⟩ := plain p2 t2 b0 b1
        refine ⟨n, ls', n3, ?_, hL'⟩
        refine Ev.step (fun k => by rw [spec_P6Lay.l0]) (Ev.pos (by omega) (Ev.bind e (Ev.pos c ?_)))
        exact Ev.nobind e2 e3
      | true =>
        have hs := split02 hD.ok (by omega) (near_fit (x := 8 * (i : Int)) (by omega) hD.near)
        have o1 := part_ok hD.ok (d := 2) (i := 0) (by omega) (by omega) (by omega)
        have o2 := part_ok hD.ok (d := st.length - 2) (i := 2) (by omega) (by omega) (by omega)
        have m1 : Near (8 * (i : Int)) (SplitKit.part st 2 0) := fun c hc => hD.near c (part_mem (by omega) (by omega) c hc)
        have m2 : Near (8 * (i : Int)) (SplitKit.part st (st.length - 2) 2) := fun c hc => hD.near c (part_mem (by omega) (by omega) c hc)
        obtain ⟨n, ls', n3, e3, hL'⟩ := p6_loop h d (i + 1) (ls ++ [SplitKit.part st 2 0] ++ [SplitKit.part st (st.length - 2) 2]) p2 t2 (by omega) (hL.two o1 o2 m1 m2 (by rw [part_len, part_len]; omega)) (by omega) (by omega)
        refine ⟨n, ls', n3, ?_, hL'⟩
        refine Ev.step (fun k => by rw [spec_P6Lay.l0]) (Ev.pos (by omega) (Ev.bind e (Ev.pos c (Ev.nobind e2 ?_))))
        refine Ev.step (fun k => by rw [spec_P6Lay.j1]) (Ev.pos rfl (Ev.bind hs ?_))
        refine Ev.pos rfl ?_
        refine Ev.pos (by omega) ?_
        refine Ev.nobind rfl ?_
        refine Ev.pos (by rw [List.length_append, List.length_singleton]; omega) ?_
        rw [hw1, hw2, e8, ed]
        exact e3
    · obtain ⟨n, ls', n3, e3, hL'⟩ := plain p1 t1 (by omega) (by omega)
      refine ⟨n, ls', n3, ?_, hL'⟩
      refine Ev.step (fun k => by rw [spec_P6Lay.l0]) (Ev.pos (by omega) (Ev.bind e (Ev.neg c ?_)))
      exact e3
theorem p6_ok {l : List Int} (h : U8 l) : ∃ (n : Nat) (ls : List (List S43)), n ≤ 3 ∧ Ev (fun k => spec_P6Lay.f k l) (8 * (n : Int) + 9, 12, ls) ∧ Lay6 n ls := by
  obtain ⟨v, p1, t1, e, v0, v1, a0, a1⟩ := pick_ok h 0 (Int.le_refl 0) (by omega) (n := 4) (by omega) (by omega)
  obtain ⟨d, rfl⟩ : ∃ d : Nat, v = (d : Int) := ⟨v.toNat, by omega⟩
  obtain ⟨n, ls, n3, e2, hL⟩ := p6_loop h d 0 [] p1 t1 (by omega) ⟨by simp, by simp, by simp, by simp⟩ (by omega) (by omega)
  refine ⟨n, ls, n3, ?_, hL⟩
  unfold spec_P6Lay.f
  refine Ev.nobind rfl (Ev.nobind e ?_)
  exact e2
end Go.Proofs.Ytllfeehchiikoaa.P6Kit
namespace Go.Proofs.Ytllfeehchiikoaa.FaultKit
set_option linter.unusedSimpArgs false
set_option linter.unusedVariables false
open Go.RowKit Go.Proofs.Ytllfeehchiikoaa.PA Go.Proofs.Ytllfeehchiikoaa.Base Go.Proofs.Ytllfeehchiikoaa.StonesKit Go.Proofs.Ytllfeehchiikoaa.LayKit Go.Proofs.YtllfeehchiikoaaW.PrintWords Go.Proofs.YtllfeehchiikoaaW.PrintLast Go.Proofs.YtllfeehchiikoaaW.PrintMore

def ov (ls : List (List S43)) (i j : Nat) : Bool := overB (ls.getD i []) (ls.getD j [])
def After (i j x y : Nat) : Prop := i < x ∨ (i = x ∧ j ≤ y)
def First (ls : List (List S43)) (i j p q : Nat) : Prop := p < q ∧ q < ls.length ∧ After i j p q ∧ ov ls p q = true ∧ ∀ x y, x < y → y < ls.length → After i j x y → (x < p ∨ (x = p ∧ y < q)) → ov ls x y = false
def None_ (ls : List (List S43)) (i j : Nat) : Prop := ∀ x y, x < y → y < ls.length → After i j x y → ov ls x y = false
def Res (ls : List (List S43)) (i j : Nat) (r : Int × Int × Bool) : Prop := (∃ p q, First ls i j p q ∧ r = ((p : Int), (q : Int), true)) ∨ (None_ ls i j ∧ r = (0, 0, false))
theorem Res.weaken {ls : List (List S43)} {i j i' j' : Nat} {r : Int × Int × Bool} (h : Res ls i' j' r) (h1 : ∀ x y, After i' j' x y → After i j x y) (h2 : ∀ x y, x < y → y < ls.length → After i j x y → After i' j' x y ∨ ov ls x y = false) : Res ls i j r := by
  rcases h with ⟨p, q, ⟨a1, a2, a3, a4, a5⟩, rfl⟩ | ⟨a, rfl⟩
  · refine Or.inl ⟨p, q, ⟨a1, a2, h1 _ _ a3, a4, fun x y c1 c2 c3 c4 => ?_⟩, rfl⟩
    rcases h2 x y c1 c2 c3 with c | c
    · exact a5 x y c1 c2 c c4
    · exact c
  · refine Or.inr ⟨fun x y c1 c2 c3 => ?_, rfl⟩
    rcases h2 x y c1 c2 c3 with c | c
    · exact a x y c1 c2 c
    · exact c
theorem faults2 {a b : Int} (h : F16 a b) {ls : List (List S43)} (hf : FitL ls) (hin : ∀ l ∈ ls, allIn a b l = true) : ∃ r, Ev (fun k => spec_l03Fault.f k a b ls) r ∧ Ev (fun k => impl_fault.f k a b ls) r ∧ Res ls 0 0 r := by
  unfold spec_l03Fault.f impl_fault.f
  have hl := hf.len
  have pairs : ∀ (i : Nat), i < ls.length → (∃ r, Ev (fun k => spec_l03Fault.l1 k ls ((i + 1 : Nat) : Int)) r ∧ Ev (fun k => impl_fault.l1 k ls ls (ls.length : Int) ((i + 1 : Nat) : Int)) r ∧ Res ls (i + 1) 0 r) →
      ∀ d j : Nat, i < j → j + d = ls.length → ∃ r, Ev (fun k => spec_l03Fault.l2 k ls (i : Int) (j : Int)) r ∧ Ev (fun k => impl_fault.l2 k ls (i : Int) (ls.getD i []) (j : Int) ls (ls.length : Int) (i : Int)) r ∧ Res ls i j r := by
    intro i hi hn d
    induction d with
    | zero =>
      intro j hij hj
      obtain ⟨r, h1, h2, h3⟩ := hn
      refine ⟨r, ?_, ?_, h3.weaken (fun x y c => by unfold After at c ⊢; omega) (fun x y c1 c2 c => Or.inl (by unfold After at c ⊢; omega))⟩
      · refine Ev.step (fun k => by rw [spec_l03Fault.l2]) (Ev.neg (by omega) ?_)
        rw [w64 (x := (i : Int) + 1) (by omega) (by omega)]; exact h1
      · refine Ev.step (fun k => by rw [impl_fault.l2]) (Ev.neg (by omega) ?_)
        rw [w64 (x := (i : Int) + 1) (by omega) (by omega)]; exact h2
    | succ d ih =>
      intro j hij hj
      have hj' : j < ls.length := by omega
      have hs := specOver (ls.getD i []) (ls.getD j []) (hf.at hi).2 (hf.at hj').2
      have hm := implOver (ls.getD i []) (ls.getD j [])
      cases e : overB (ls.getD i []) (ls.getD j []) with
      | true =>
        rw [e] at hs hm
        refine ⟨((i : Int), (j : Int), true), ?_, ?_, Or.inl ⟨i, j, ⟨hij, hj', by unfold After; omega, e, fun x y c1 c2 c3 c4 => by unfold After at c3; omega⟩, rfl⟩⟩
        · refine Ev.step (fun k => by rw [spec_l03Fault.l2]) (Ev.pos (by omega) (Ev.pos (by omega) (Ev.pos (by omega) (Ev.pos (by omega) ?_))))
          rw [rdS ls i, rdS ls j]
          exact Ev.bind hs (Ev.pos rfl (Ev.fin rfl))
        · refine Ev.step (fun k => by rw [impl_fault.l2]) (Ev.pos (by omega) (Ev.pos (by omega) ?_))
          rw [rdS ls j]
          exact Ev.nobind hm (Ev.pos rfl (Ev.fin rfl))
      | false =>
        rw [e] at hs hm
        obtain ⟨r, h1, h2, h3⟩ := ih (j + 1) (by omega) (by omega)
        refine ⟨r, ?_, ?_, h3.weaken (fun x y c => by unfold After at c ⊢; omega) (fun x y c1 c2 c => ?_)⟩
        · refine Ev.step (fun k => by rw [spec_l03Fault.l2]) (Ev.pos (by omega) (Ev.pos (by omega) (Ev.pos (by omega) (Ev.pos (by omega) ?_))))
          rw [rdS ls i, rdS ls j, w64 (x := (j : Int) + 1) (by omega) (by omega)]
          exact Ev.bind hs (Ev.neg (by decide) h1)
        · refine Ev.step (fun k => by rw [impl_fault.l2]) (Ev.pos (by omega) (Ev.pos (by omega) ?_))
          rw [rdS ls j, w64 (x := (j : Int) + 1) (by omega) (by omega)]
          exact Ev.nobind hm (Ev.neg (by decide) h2)
        · by_cases g : x = i ∧ y = j
          · obtain ⟨rfl, rfl⟩ := g
            exact Or.inr e
          · exact Or.inl (by unfold After at c ⊢; omega)
  have rounds : ∀ d i : Nat, i + d = ls.length → ∃ r, Ev (fun k => spec_l03Fault.l1 k ls (i : Int)) r ∧ Ev (fun k => impl_fault.l1 k ls ls (ls.length : Int) (i : Int)) r ∧ Res ls i 0 r := by
    intro d
    induction d with
    | zero =>
      intro i hi
      refine ⟨(0, 0, false), ?_, ?_, Or.inr ⟨fun x y c1 c2 c => by unfold After at c; omega, rfl⟩⟩
      · refine Ev.step (fun k => by rw [spec_l03Fault.l1]) ?_
        exact Ev.neg (by omega) (Ev.fin rfl)
      · refine Ev.step (fun k => by rw [impl_fault.l1]) ?_
        exact Ev.neg (by omega) (Ev.fin rfl)
    | succ d ih =>
      intro i hi
      obtain ⟨r, h1, h2, h3⟩ := pairs i (by omega) (ih (i + 1) (by omega)) (ls.length - (i + 1)) (i + 1) (by omega) (by omega)
      refine ⟨r, ?_, ?_, h3.weaken (fun x y c => by unfold After at c ⊢; omega) (fun x y c1 c2 c => Or.inl (by unfold After at c ⊢; omega))⟩
      · refine Ev.step (fun k => by rw [spec_l03Fault.l1]) (Ev.pos (by omega) ?_)
        rw [w64 (x := (i : Int) + 1) (by omega) (by omega)]; exact h1
      · refine Ev.step (fun k => by rw [impl_fault.l1]) (Ev.pos (by omega) (Ev.pos (by omega) (Ev.pos (by omega) ?_)))
        rw [rdS ls i, w64 (x := (i : Int) + 1) (by omega) (by omega)]; exact h2
  obtain ⟨r, h1, h2, h3⟩ := rounds ls.length 0 (by omega)
  have first : ∀ d i : Nat, i + d = ls.length → Ev (fun k => spec_l03Fault.l0 k ls (i : Int) a b) r ∧ Ev (fun k => impl_fault.l0 k ls ls (ls.length : Int) (i : Int) a b) r := by
    intro d
    induction d with
    | zero =>
      intro i hi
      refine ⟨?_, ?_⟩
      · refine Ev.step (fun k => by rw [spec_l03Fault.l0]) ?_
        exact Ev.neg (by omega) h1
      · refine Ev.step (fun k => by rw [impl_fault.l0]) ?_
        exact Ev.neg (by omega) h2
    | succ d ih =>
      intro i hi
      have hi' : i < ls.length := by omega
      have hs := specInF h (hf.at hi').1 (hf.at hi').2
      have hm := implInF a b (ls.getD i [])
      have e : allIn a b (ls.getD i []) = true := by rw [getS hi']; exact hin _ (List.getElem_mem hi')
      rw [e] at hs hm
      obtain ⟨g1, g2⟩ := ih (i + 1) (by omega)
      refine ⟨?_, ?_⟩
      · refine Ev.step (fun k => by rw [spec_l03Fault.l0]) (Ev.pos (by omega) (Ev.pos (by omega) ?_))
        rw [rdS ls i, w64 (x := (i : Int) + 1) (by omega) (by omega)]
        exact Ev.bind hs (Ev.pos rfl g1)
      · refine Ev.step (fun k => by rw [impl_fault.l0]) (Ev.pos (by omega) (Ev.pos (by omega) (Ev.pos (by omega) ?_)))
        rw [rdS ls i, w64 (x := (i : Int) + 1) (by omega) (by omega)]
        exact Ev.nobind hm (Ev.pos rfl g2)
  obtain ⟨f1, f2⟩ := first ls.length 0 (by omega)
  exact ⟨r, f1, f2, h3⟩
/-! ### the four functions -/
structure LayIs (a b : Int) (ls : List (List S43)) (v : Bool) (ff : Int × Int × Int) : Prop where
  specV : Ev (fun k => spec_l03Lay.f k a b ls) v
  implV : Ev (fun k => impl_ValidLay.f k a b ls) v
  specF : Ev (fun k => spec_FirstFault.f k a b ls) ff
  implF : Ev (fun k => impl_FirstFault.f k a b ls) ff
theorem lay_is {a b : Int} (h : F16 a b) {ls : List (List S43)} (hf : FitL ls) (hst : stB a b ls = true) (hin : ∀ l ∈ ls, allIn a b l = true) :
    (∃ p q : Nat, First ls 0 0 p q ∧ LayIs a b ls false ((p : Int), (q : Int), 0)) ∨ (None_ ls 0 0 ∧ LayIs a b ls true (0, 0, 6)) := by
  have hs := specStones h hf
  have hm := implStones h hf
  rw [hst] at hs hm
  obtain ⟨r, h1, h2, h3⟩ := faults2 h hf hin
  rcases h3 with ⟨p, q, hp, rfl⟩ | ⟨hp, rfl⟩
  · refine Or.inl ⟨p, q, hp, ⟨?_, ?_, ?_, ?_⟩⟩
    · unfold spec_l03Lay.f; exact Ev.bind hs (Ev.pos rfl (Ev.bind h1 (Ev.fin rfl)))
    · unfold impl_ValidLay.f; exact Ev.bind hm (Ev.pos rfl (Ev.bind h2 (Ev.fin rfl)))
    · unfold spec_FirstFault.f; exact Ev.bind hs (Ev.pos rfl (Ev.bind h1 (Ev.pos rfl (Ev.fin rfl))))
    · unfold impl_FirstFault.f; exact Ev.bind hm (Ev.pos rfl (Ev.bind h2 (Ev.pos rfl (Ev.fin rfl))))
  · refine Or.inr ⟨hp, ⟨?_, ?_, ?_, ?_⟩⟩
    · unfold spec_l03Lay.f; exact Ev.bind hs (Ev.pos rfl (Ev.bind h1 (Ev.fin rfl)))
    · unfold impl_ValidLay.f; exact Ev.bind hm (Ev.pos rfl (Ev.bind h2 (Ev.fin rfl)))
    · unfold spec_FirstFault.f; exact Ev.bind hs (Ev.pos rfl (Ev.bind h1 (Ev.neg (by decide) (Ev.fin rfl))))
    · unfold impl_FirstFault.f; exact Ev.bind hm (Ev.pos rfl (Ev.bind h2 (Ev.neg (by decide) (Ev.fin rfl))))
end Go.Proofs.Ytllfeehchiikoaa.FaultKit
namespace Go.Proofs.Ytllfeehchiikoaa.TouchKit
set_option linter.unusedSimpArgs false
set_option linter.unusedVariables false
open Go.RowKit Go.Proofs.Ytllfeehchiikoaa.PA Go.Proofs.Ytllfeehchiikoaa.Base Go.Proofs.Ytllfeehchiikoaa.StonesKit Go.Proofs.Ytllfeehchiikoaa.LayKit Go.Proofs.Ytllfeehchiikoaa.Geo Go.Proofs.Ytllfeehchiikoaa.SeamKit Go.Proofs.Ytllfeehchiikoaa.HullGeo Go.Proofs.Ytllfeehchiikoaa.SplitKit Go.Proofs.Ytllfeehchiikoaa.WhereKit Go.Proofs.YtllfeehchiikoaaW.PrintWords Go.Proofs.YtllfeehchiikoaaW.PrintLast Go.Proofs.YtllfeehchiikoaaW.PrintMore

def Seamed (a b : List S43) : Prop := ∃ i j, i < a.length ∧ j < b.length ∧ 0 < has (a.getD i z43) (a.getD ((i + 1) % a.length) z43) (b.getD j z43) (b.getD ((j + 1) % b.length) z43)
theorem seams2 {a b : List S43} (ha : okS a = true) (hb : okS b = true) : ∃ r, Ev (fun k => spec_l03Seams.f k a b) r ∧ Ev (fun k => impl_seam.f k a b) r ∧ (0 < r → Seamed a b) := by
  have la := okS_len ha
  have lb := okS_len hb
  unfold spec_l03Seams.f impl_seam.f
  have inner : ∀ (i : Nat), i < a.length → (∀ s, ∃ r, Ev (fun k => spec_l03Seams.l0 k a b s ((i + 1 : Nat) : Int)) r ∧ Ev (fun k => impl_seam.l0 k a b s a (a.length : Int) ((i + 1 : Nat) : Int)) r ∧ (0 < r → 0 < s ∨ Seamed a b)) →
      ∀ (d j : Nat) (s : Int), j + d = b.length → ∃ r, Ev (fun k => spec_l03Seams.l1 k a b s (i : Int) (j : Int)) r ∧ Ev (fun k => impl_seam.l1 k a b s (i : Int) a (a.length : Int) (i : Int) b (b.length : Int) (j : Int) ((rd_T43 a i).f0) ((rd_T43 a i).f1)) r ∧ (0 < r → 0 < s ∨ Seamed a b) := by
    intro i hi hn d
    have hna := nx_lt a i hi
    have hta := tm i a.length hi (by omega)
    induction d with
    | zero =>
      intro j s hj
      obtain ⟨r, h1, h2, h3⟩ := hn s
      refine ⟨r, ?_, ?_, h3⟩
      · refine Ev.step (fun k => by rw [spec_l03Seams.l1]) (Ev.neg (by omega) ?_)
        rw [w64 (x := (i : Int) + 1) (by omega) (by omega)]; exact h1
      · refine Ev.step (fun k => by rw [impl_seam.l1]) (Ev.neg (by omega) ?_)
        rw [w64 (x := (i : Int) + 1) (by omega) (by omega)]; exact h2
    | succ d ih =>
      intro j s hj
      have hj' : j < b.length := by omega
      have hnb := nx_lt b j hj'
      have htb := tm j b.length hj' (by omega)
      have hs := specSeam (at_sm ha hi) (at_sm ha hna) (at_sm hb hj') (at_sm hb hnb) (ok_key ha hi)
      have hm := implCommon (at_sm ha hi) (at_sm ha hna) (at_sm hb hj') (at_sm hb hnb)
      generalize hG : has (a.getD i z43) (a.getD ((i + 1) % a.length) z43) (b.getD j z43) (b.getD ((j + 1) % b.length) z43) = t at hs hm
      obtain ⟨r, h1, h2, h3⟩ := ih (j + 1) (max s t) (by omega)
      refine ⟨r, ?_, ?_, fun g => ?_⟩
      · refine Ev.step (fun k => by rw [spec_l03Seams.l1]) (Ev.pos (by omega) (Ev.pos (by omega) (Ev.pos (by omega) ?_)))
        refine Ev.nobind (a := (((i + 1) % a.length : Nat) : Int)) (by unfold spec_l03Next.f; rw [if_neg (by omega), hta]) (Ev.pos (by omega) (Ev.pos (by omega) (Ev.pos (by omega) ?_)))
        refine Ev.nobind (a := (((j + 1) % b.length : Nat) : Int)) (by unfold spec_l03Next.f; rw [if_neg (by omega), htb]) (Ev.pos (by omega) (Ev.pos (by omega) ?_))
        rw [rdC' a i, rdC' a ((i + 1) % a.length), rdC' b j, rdC' b ((j + 1) % b.length), w64 (x := (j : Int) + 1) (by omega) (by omega)]
        exact Ev.bind hs (Ev.nobind (specMax s t) h1)
      · refine Ev.step (fun k => by rw [impl_seam.l1]) (Ev.pos (by omega) (Ev.pos (by omega) (Ev.pos (by omega) (Ev.neg (by omega) ?_))))
        rw [hta]
        refine Ev.pos (by omega) (Ev.pos (by omega) (Ev.neg (by omega) ?_))
        rw [htb]
        refine Ev.pos (by omega) (Ev.pos (by omega) ?_)
        rw [rdC' a i, rdC' a ((i + 1) % a.length), rdC' b j, rdC' b ((j + 1) % b.length), w64 (x := (j : Int) + 1) (by omega) (by omega)]
        rw [rdC' a i] at h2
        refine Ev.bind hm ?_
        rw [mx_max]; exact h2
      · rcases h3 g with g | g
        · by_cases c : 0 < s
          · exact Or.inl c
          · exact Or.inr ⟨i, j, hi, hj', by rw [hG]; omega⟩
        · exact Or.inr g
  have outer : ∀ (d i : Nat) (s : Int), i + d = a.length → ∃ r, Ev (fun k => spec_l03Seams.l0 k a b s (i : Int)) r ∧ Ev (fun k => impl_seam.l0 k a b s a (a.length : Int) (i : Int)) r ∧ (0 < r → 0 < s ∨ Seamed a b) := by
    intro d
    induction d with
    | zero =>
      intro i s hi
      refine ⟨s, ?_, ?_, Or.inl⟩
      · refine Ev.step (fun k => by rw [spec_l03Seams.l0]) ?_
        exact Ev.neg (by omega) (Ev.fin rfl)
      · refine Ev.step (fun k => by rw [impl_seam.l0]) ?_
        exact Ev.neg (by omega) (Ev.fin rfl)
    | succ d ih =>
      intro i s hi
      obtain ⟨r, h1, h2, h3⟩ := inner i (by omega) (fun s => ih (i + 1) s (by omega)) b.length 0 s (by omega)
      refine ⟨r, ?_, ?_, h3⟩
      · refine Ev.step (fun k => by rw [spec_l03Seams.l0]) ?_
        exact Ev.pos (by omega) h1
      · refine Ev.step (fun k => by rw [impl_seam.l0]) ?_
        exact Ev.pos (by omega) (Ev.pos (by omega) (Ev.pos (by omega) h2))
  have hs := specOver a b (by omega) (by omega)
  have hm := implOver a b
  cases e : overB a b with
  | true =>
    rw [e] at hs hm
    exact ⟨0, Ev.bind hs (Ev.pos rfl (Ev.fin rfl)), Ev.nobind hm (Ev.pos rfl (Ev.fin rfl)), fun g => by omega⟩
  | false =>
    rw [e] at hs hm
    obtain ⟨r, h1, h2, h3⟩ := outer a.length 0 0 (by omega)
    exact ⟨r, Ev.bind hs (Ev.neg (by decide) h1), Ev.nobind hm (Ev.neg (by decide) h2), fun g => (h3 g).resolve_left (by omega)⟩

/-! ### stones overlap themselves; corners lie on their stones -/
theorem allF_all (p : Nat → Bool) : ∀ d i, (∀ x, i ≤ x → x < i + d → p x = true) → allF p d i = true
  | 0, i, _ => rfl
  | d + 1, i, h => by
    rw [allF, h i (by omega) (by omega), Bool.true_and]
    exact allF_all p d (i + 1) (fun x h1 h2 => h x (by omega) (by omega))
theorem cut_all {a b : List S43} {st : Bool} (h : ∀ i, i < a.length → ∃ c ∈ b, out (at_ a i) (at_ a ((i + 1) % a.length)) st c = true) : cutB a b st = true := by
  unfold cutB
  refine allF_all _ _ _ (fun x _ h2 => ?_)
  unfold sdAny
  rw [List.any_eq_true]
  exact h x (by omega)
theorem at_memS {l : List S43} {i : Nat} (h : i < l.length) : at_ l i ∈ l := by
  unfold at_; rw [getC h]; exact List.getElem_mem h
theorem over_self {l : List S43} (h : okS l = true) : overB l l = true := by
  have hl := okS_len h
  have hc : cutB l l false = true := by
    refine cut_all (fun i hi => ?_)
    obtain ⟨j, hj, j1, j2⟩ : ∃ j, j < l.length ∧ j ≠ i ∧ j ≠ (i + 1) % l.length := by
      by_cases a : 0 ≠ i ∧ 0 ≠ (i + 1) % l.length
      · exact ⟨0, by omega, a.1, a.2⟩
      · by_cases b : 1 ≠ i ∧ 1 ≠ (i + 1) % l.length
        · exact ⟨1, by omega, b.1, b.2⟩
        · exact ⟨2, by omega, by omega, by omega⟩
    refine ⟨at_ l j, at_memS hj, ?_⟩
    unfold out
    rw [sd_cr (ok_smA h hi) (ok_smA h (nx_lt l i hi)) (ok_smA h hj), decide_eq_true (ok_cr h hi hj j1 j2), Bool.true_or]
  unfold overB
  rw [hc]; rfl
/-- All corners lie on the left of each edge. -/
theorem ok_left {l : List S43} (h : okS l = true) {i : Nat} (hi : i < l.length) {c : S43} (hc : c ∈ l) : 0 ≤ cr (at_ l i) (at_ l ((i + 1) % l.length)) c := by
  obtain ⟨j, hj, rfl⟩ := List.getElem_of_mem hc
  have e : l[j] = at_ l j := by unfold at_; rw [getC hj]
  rw [e]
  by_cases c1 : j = i
  · subst c1; rw [cr_self3]; omega
  · by_cases c2 : j = (i + 1) % l.length
    · subst c2; rw [cr_self2]; omega
    · have := ok_cr h hi hj c1 c2; omega
theorem scan_pos {l : List S43} {p : S43} : ∀ (x : List S43) (i s : Int), 0 < s → (∀ (j : Nat) c, x[j]? = some c → ¬ sd c (at_ l (((i + (j : Int)).toNat + 1) % l.length)) p < 0) → 0 < scanG (whF l p) id x i s
  | [], i, s, hs, _ => hs
  | c :: x, i, s, hs, h => by
    have h0 := h 0 c rfl
    rw [Int.natCast_zero, Int.add_zero] at h0
    have hw : whF l p i c s = .inr (if sd c (at_ l ((i.toNat + 1) % l.length)) p = 0 then 1 else s) := by
      unfold whF
      rw [if_neg h0]
      split <;> rfl
    have hn : ∀ (j : Nat) c, x[j]? = some c → ¬ sd c (at_ l (((i + 1 + (j : Int)).toNat + 1) % l.length)) p < 0 := by
      intro j c hj
      have := h (j + 1) c (by simpa using hj)
      rw [show i + ((j + 1 : Nat) : Int) = i + 1 + (j : Int) by omega] at this
      exact this
    rw [scanG, hw]
    refine scan_pos x (i + 1) _ ?_ hn
    split <;> omega
theorem where_corner {l : List S43} (h : okS l = true) {p : S43} (hp : p ∈ l) : 0 < wh l p := by
  unfold wh
  refine scan_pos l 0 2 (by omega) (fun j c hj => ?_)
  obtain ⟨hj1, rfl⟩ := List.getElem?_eq_some_iff.1 hj
  have e : l[j] = at_ l j := by unfold at_; rw [getC hj1]
  rw [Int.zero_add, Int.toNat_natCast, e, sd_cr (ok_smA h hj1) (ok_smA h (nx_lt l j hj1)) (ok_sm h p hp)]
  have := ok_left h hj1 hp
  omega
/-! ### a point on a segment -/
theorem wsum {A x P Q U : Int} (hA : 0 < A) (h0 : 0 ≤ x) (h1 : x ≤ A) (h : A * U = (A - x) * P + x * Q) : (0 ≤ P → 0 ≤ Q → 0 ≤ U) ∧ (P < 0 → Q < 0 → U < 0) := by
  constructor
  · intro hP hQ
    have a := Int.mul_nonneg (show 0 ≤ A - x by omega) hP
    have b := Int.mul_nonneg h0 hQ
    refine Int.le_of_not_gt (fun g => ?_)
    have c := Int.mul_neg_of_pos_of_neg hA g
    omega
  · intro hP hQ
    refine Int.lt_of_not_ge (fun g => ?_)
    have c := Int.mul_nonneg (Int.le_of_lt hA) g
    by_cases e : x < A
    · have a := Int.mul_neg_of_pos_of_neg (show 0 < A - x by omega) hP
      have b := Int.mul_nonpos_of_nonneg_of_nonpos h0 (Int.le_of_lt hQ)
      omega
    · have e2 : x = A := by omega
      subst e2
      have b := Int.mul_neg_of_pos_of_neg hA hQ
      rw [Int.sub_self, Int.zero_mul] at h
      omega
theorem seg {a b : Int} {o p q u : S43} (hc : cr p q u = 0) (hb : Box u p q) : (0 ≤ off a b o p → 0 ≤ off a b o q → 0 ≤ off a b o u) ∧ (off a b o p < 0 → off a b o q < 0 → off a b o u < 0) := by
  unfold Box at hb
  have hx : (q.f0 - p.f0) * off a b o u = ((q.f0 - p.f0) - (u.f0 - p.f0)) * off a b o p + (u.f0 - p.f0) * off a b o q := by
    unfold cr at hc
    unfold off
    grind
  have hy : (q.f1 - p.f1) * off a b o u = ((q.f1 - p.f1) - (u.f1 - p.f1)) * off a b o p + (u.f1 - p.f1) * off a b o q := by
    unfold cr at hc
    unfold off
    grind
  by_cases c1 : 0 < q.f0 - p.f0
  · exact wsum c1 (by omega) (by omega) hx
  · by_cases c2 : q.f0 - p.f0 < 0
    · refine wsum (A := p.f0 - q.f0) (x := p.f0 - u.f0) (by omega) (by omega) (by omega) ?_
      grind
    · by_cases c3 : 0 < q.f1 - p.f1
      · exact wsum c3 (by omega) (by omega) hy
      · by_cases c4 : q.f1 - p.f1 < 0
        · refine wsum (A := p.f1 - q.f1) (x := p.f1 - u.f1) (by omega) (by omega) (by omega) ?_
          grind
        · have e : u = p := ext (by omega) (by omega)
          subst e
          exact ⟨fun h _ => h, fun h _ => h⟩
/-- Two stones with a point in common (a corner of one on an edge of the other) are not parted. -/
theorem meet1 {a b : List S43} (ha : okS a = true) (hb : okS b = true) {i : Nat} (hi : i < a.length) {u : S43} (hu : u ∈ b) (hc : cr (at_ a i) (at_ a ((i + 1) % a.length)) u = 0) (hx : Box u (at_ a i) (at_ a ((i + 1) % a.length))) : cutB a b true = true ∧ cutB b a true = true := by
  have hn := nx_lt a i hi
  constructor
  · refine cut_all (fun x hx' => ⟨u, hu, ?_⟩)
    have g : 0 ≤ cr (at_ a x) (at_ a ((x + 1) % a.length)) u := (seg hc hx).1 (ok_left ha hx' (at_memS hi)) (ok_left ha hx' (at_memS hn))
    unfold out
    rw [sd_cr (ok_smA ha hx') (ok_smA ha (nx_lt a x hx')) (ok_sm hb u hu)]
    by_cases c : 0 < cr (at_ a x) (at_ a ((x + 1) % a.length)) u
    · rw [decide_eq_true c]; rfl
    · rw [decide_eq_true (by omega : cr (at_ a x) (at_ a ((x + 1) % a.length)) u = 0), Bool.true_and, Bool.or_true]
  · refine cut_all (fun x hx' => ?_)
    have g := ok_left hb hx' hu
    have fin : ∀ c ∈ a, 0 ≤ cr (at_ b x) (at_ b ((x + 1) % b.length)) c → ∃ c ∈ a, out (at_ b x) (at_ b ((x + 1) % b.length)) true c = true := by
      intro c hc' h
      refine ⟨c, hc', ?_⟩
      unfold out
      rw [sd_cr (ok_smA hb hx') (ok_smA hb (nx_lt b x hx')) (ok_sm ha c hc')]
      by_cases e : 0 < cr (at_ b x) (at_ b ((x + 1) % b.length)) c
      · rw [decide_eq_true e]; rfl
      · rw [decide_eq_true (by omega : cr (at_ b x) (at_ b ((x + 1) % b.length)) c = 0), Bool.true_and, Bool.or_true]
    by_cases c1 : 0 ≤ cr (at_ b x) (at_ b ((x + 1) % b.length)) (at_ a i)
    · exact fin _ (at_memS hi) c1
    · by_cases c2 : 0 ≤ cr (at_ b x) (at_ b ((x + 1) % b.length)) (at_ a ((i + 1) % a.length))
      · exact fin _ (at_memS hn) c2
      · exfalso
        have : cr (at_ b x) (at_ b ((x + 1) % b.length)) u < 0 := (seg (a := (at_ b ((x + 1) % b.length)).f0 - (at_ b x).f0) (b := (at_ b ((x + 1) % b.length)).f1 - (at_ b x).f1) (o := at_ b x) hc hx).2 (Int.lt_of_not_ge c1) (Int.lt_of_not_ge c2)
        omega
theorem cr_on {p q u v : S43} (hpq : key p ≠ key q) (h1 : cr p q u = 0) (h2 : cr p q v = 0) : cr u v p = 0 ∧ cr u v q = 0 := by
  have h3 : (q.f0 - p.f0) * cr u v p = 0 := by
    unfold cr at *
    grind
  have h4 : (q.f1 - p.f1) * cr u v p = 0 := by
    unfold cr at *
    grind
  have h5 : cr u v q = cr u v p + cr p q u - cr p q v := by
    unfold cr
    grind
  have h6 : cr u v p = 0 := by
    rcases Int.mul_eq_zero.1 h3 with c | c
    · rcases Int.mul_eq_zero.1 h4 with d | d
      · exfalso; unfold key at hpq; omega
      · exact d
    · exact c
  exact ⟨h6, by rw [h5, h1, h2, h6]; rfl⟩
theorem seam_touch {a b : List S43} (ha : okS a = true) (hb : okS b = true) (h : Seamed a b) : cutB a b true = true ∧ cutB b a true = true := by
  obtain ⟨i, j, hi, hj, hh⟩ := h
  have hni := nx_lt a i hi
  have hnj := nx_lt b j hj
  have k1 := ok_key ha hi
  have s1 := ok_smA ha hi
  have s2 := ok_smA ha hni
  have s3 := ok_smA hb hj
  have s4 := ok_smA hb hnj
  unfold has at hh
  split at hh
  · rename_i c1
    split at hh
    · rename_i c2
      obtain ⟨_, _, m2⟩ := com_is s1 s2 s3 s4 k1 c1 c2
      obtain ⟨d1, d2⟩ := cr_on k1 c1 c2
      rcases m2 with m2 | ⟨e, he, _⟩
      · unfold at_ at m2; omega
      · rw [mem_ends] at he
        rcases he with ⟨rfl, hx⟩ | ⟨rfl, hx⟩ | ⟨rfl, hx⟩ | ⟨rfl, hx⟩
        · exact (meet1 hb ha hj (at_memS hi) d1 hx).symm
        · exact (meet1 hb ha hj (at_memS hni) d2 hx).symm
        · exact meet1 ha hb hi (at_memS hj) c1 hx
        · exact meet1 ha hb hi (at_memS hnj) c2 hx
    · omega
  · omega
end Go.Proofs.Ytllfeehchiikoaa.TouchKit
namespace Go.Proofs.Ytllfeehchiikoaa.AreaKit
set_option linter.unusedSimpArgs false
set_option linter.unusedVariables false
open Go.RowKit Go.Proofs.Ytllfeehchiikoaa.PA Go.Proofs.Ytllfeehchiikoaa.Base Go.Proofs.Ytllfeehchiikoaa.StonesKit Go.Proofs.Ytllfeehchiikoaa.LayKit Go.Proofs.Ytllfeehchiikoaa.DrawKit Go.Proofs.Ytllfeehchiikoaa.P6Kit Go.Proofs.Ytllfeehchiikoaa.HullGeo Go.Proofs.Ytllfeehchiikoaa.SeamKit Go.Proofs.YtllfeehchiikoaaW.PrintWords Go.Proofs.YtllfeehchiikoaaW.PrintLast Go.Proofs.YtllfeehchiikoaaW.PrintMore

theorem four {a b : Int} (ha : -4 ≤ a ∧ a ≤ 4) (hb : -4 ≤ b ∧ b ≤ 4) : -16 ≤ a * b ∧ a * b ≤ 16 := by
  have := prod_le ha.1 ha.2 hb.1 hb.2 (by omega) (by omega)
  omega
/-- The sum so far, about the centre (c, 4). -/
def Inv (l : List S43) (c : Int) (i : Nat) (s : Int) : Prop :=
  ∃ L : Int, -(32 * (i : Int)) ≤ L ∧ L ≤ 32 * (i : Int) ∧ s = L + c * ((at_ l (i % l.length)).f1 - (at_ l 0).f1) - 4 * ((at_ l (i % l.length)).f0 - (at_ l 0).f0)
theorem area_loop {l : List S43} {x : Int} (hx : 0 ≤ x ∧ x ≤ 100) (hn : Near x l) (hl : 3 ≤ l.length) (h8 : l.length ≤ 8) : ∀ (d i : Nat) (s : Int), i + d = l.length → Inv l (x + 4) i s →
    ∃ r, Ev (fun k => impl_Stone_area.l0 k l s l (l.length : Int) (i : Int)) r ∧ Inv l (x + 4) l.length r
  | 0, i, s, h, hi => by
    refine ⟨s, ?_, ?_⟩
    · refine Ev.step (fun k => by rw [impl_Stone_area.l0]) ?_
      exact Ev.neg (by omega) (Ev.fin rfl)
    · rw [show l.length = i by omega]; rw [show i = l.length by omega] at hi ⊢; exact hi
  | d + 1, i, s, h, hi => by
    have hil : i < l.length := by omega
    have hnl := nx_lt l i hil
    have ht := tm i l.length hil (by omega)
    have hw := w64 (x := (i : Int) + 1) (by omega) (by omega)
    have a0 := hn (at_ l i) (by unfold at_; rw [getC hil]; exact List.getElem_mem hil)
    have b0 := hn (at_ l ((i + 1) % l.length)) (by unfold at_; rw [getC hnl]; exact List.getElem_mem hnl)
    have z0 := hn (at_ l 0) (by unfold at_; rw [getC (by omega)]; exact List.getElem_mem _)
    obtain ⟨L, hL1, hL2, hs⟩ := hi
    rw [Nat.mod_eq_of_lt hil] at hs
    generalize hA : at_ l i = A at a0 hs
    generalize hB : at_ l ((i + 1) % l.length) = B at b0
    generalize hZ : at_ l 0 = Z at z0 hs
    have p1 := four (a := A.f0 - (x + 4)) (b := B.f1 - 4) (by omega) (by omega)
    have p2 := four (a := B.f0 - (x + 4)) (b := A.f1 - 4) (by omega) (by omega)
    have q1 := prod_le (a := A.f0) (b := B.f1) (A := 108) (B := 8) (by omega) (by omega) (by omega) (by omega) (by omega) (by omega)
    have q2 := prod_le (a := B.f0) (b := A.f1) (A := 108) (B := 8) (by omega) (by omega) (by omega) (by omega) (by omega) (by omega)
    have q3 := prod_le (a := x + 4) (b := A.f1 - Z.f1) (A := 104) (B := 8) (by omega) (by omega) (by omega) (by omega) (by omega) (by omega)
    have hs2 : -4000 ≤ s ∧ s ≤ 4000 := by omega
    have e : A.f0 * B.f1 - B.f0 * A.f1 = ((A.f0 - (x + 4)) * (B.f1 - 4) - (B.f0 - (x + 4)) * (A.f1 - 4)) + (x + 4) * (B.f1 - A.f1) - 4 * (B.f0 - A.f0) := by grind
    have hi2 : Inv l (x + 4) (i + 1) (s + (A.f0 * B.f1 - B.f0 * A.f1)) := by
      refine ⟨L + ((A.f0 - (x + 4)) * (B.f1 - 4) - (B.f0 - (x + 4)) * (A.f1 - 4)), by omega, by omega, ?_⟩
      rw [hB, hZ, hs, e]
      grind
    obtain ⟨r, h1, h2⟩ := area_loop hx hn hl h8 d (i + 1) _ (by omega) hi2
    refine ⟨r, ?_, h2⟩
    refine Ev.step (fun k => by rw [impl_Stone_area.l0]) (Ev.pos (by omega) (Ev.pos (by omega) (Ev.pos (by omega) (Ev.neg (by omega) ?_))))
    rw [ht, hw]
    refine Ev.pos (by omega) (Ev.pos (by omega) ?_)
    rw [rdC', rdC']
    unfold at_ at hA hB
    rw [hA, hB, w64 (x := A.f0) (by omega) (by omega), w64 (x := A.f1) (by omega) (by omega), w64 (x := B.f0) (by omega) (by omega), w64 (x := B.f1) (by omega) (by omega),
      w64 (x := A.f0 * B.f1) (by omega) (by omega), w64 (x := B.f0 * A.f1) (by omega) (by omega), w64 (x := A.f0 * B.f1 - B.f0 * A.f1) (by omega) (by omega), w64 (x := s + (A.f0 * B.f1 - B.f0 * A.f1)) (by omega) (by omega)]
    exact h1
theorem area_is {l : List S43} {x : Int} (hx : 0 ≤ x ∧ x ≤ 100) (hn : Near x l) (ho : okS l = true) : ∃ r, Ev (fun k => impl_Stone_area.f k l) r ∧ -(32 * (l.length : Int)) ≤ r ∧ r ≤ 32 * (l.length : Int) := by
  have hl := okS_len ho
  obtain ⟨r, h1, L, h2, h3, h4⟩ := area_loop hx hn hl.1 hl.2 l.length 0 0 (by omega) ⟨0, by omega, by omega, by rw [Nat.zero_mod, Int.sub_self, Int.sub_self]; simp⟩
  refine ⟨r, h1, ?_, ?_⟩
  · rw [Nat.mod_self, Int.sub_self, Int.sub_self] at h4; omega
  · rw [Nat.mod_self, Int.sub_self, Int.sub_self] at h4; omega
structure Areas (ls : List (List S43)) (ar : Nat → Int) : Prop where
  is : ∀ i, i < ls.length → Ev (fun k => impl_Stone_area.f k (ls.getD i [])) (ar i)
  lo : ∀ i, i < ls.length → -(32 * ((ls.getD i []).length : Int)) ≤ ar i
  hi : ∀ i, i < ls.length → ar i ≤ 32 * ((ls.getD i []).length : Int)
theorem areas_are {n : Nat} (hn : n ≤ 3) {ls : List (List S43)} (h : Lay6 n ls) : ∃ ar, Areas ls ar := by
  have key : ∀ i, ∃ r, i < ls.length → Ev (fun k => impl_Stone_area.f k (ls.getD i [])) r ∧ -(32 * ((ls.getD i []).length : Int)) ≤ r ∧ r ≤ 32 * ((ls.getD i []).length : Int) := by
    intro i
    by_cases c : i < ls.length
    · obtain ⟨x, x0, x1, x2⟩ := h.near _ (List.getElem_mem c)
      obtain ⟨r, h1, h2, h3⟩ := area_is (x := x) (by omega) x2 (h.ok _ (List.getElem_mem c))
      exact ⟨r, fun _ => by rw [getS c]; exact ⟨h1, h2, h3⟩⟩
    · exact ⟨0, fun h => absurd h c⟩
  exact ⟨fun i => Classical.choose (key i), fun i hi => (Classical.choose_spec (key i) hi).1, fun i hi => (Classical.choose_spec (key i) hi).2.1, fun i hi => (Classical.choose_spec (key i) hi).2.2⟩
def sumTo (ar : Nat → Int) : Nat → Int
  | 0 => 0
  | i + 1 => sumTo ar i + ar i
theorem sum_bound {n : Nat} {ls : List (List S43)} (h : Lay6 n ls) {ar : Nat → Int} (ha : Areas ls ar) : ∀ i, i ≤ ls.length → -(256 * (i : Int)) ≤ sumTo ar i ∧ sumTo ar i ≤ 256 * (i : Int) ∧ sumTo ar i ≤ 32 * ((((ls.take i).map List.length).sum : Nat) : Int)
  | 0, _ => by simp [sumTo]
  | i + 1, hi => by
    have hi' : i < ls.length := by omega
    obtain ⟨b1, b2, b3⟩ := sum_bound h ha i (by omega)
    have h1 := ha.lo i hi'
    have h2 := ha.hi i hi'
    have ho := okS_len (h.ok _ (List.getElem_mem hi'))
    rw [getS hi'] at h1 h2
    rw [sumTo]
    refine ⟨by omega, by omega, ?_⟩
    rw [List.take_succ_eq_append_getElem hi', List.map_append, List.sum_append, List.map_cons, List.map_nil, List.sum_cons, List.sum_nil]
    omega
theorem sum_all {n : Nat} {ls : List (List S43)} (h : Lay6 n ls) {ar : Nat → Int} (ha : Areas ls ar) : sumTo ar ls.length ≤ 256 * (n : Int) := by
  have h1 := (sum_bound h ha ls.length (Nat.le_refl _)).2.2
  rw [List.take_length] at h1
  have h2 := h.tot
  omega
theorem bare_loop {n : Nat} (hn : n ≤ 3) {ls : List (List S43)} (h : Lay6 n ls) {ar : Nat → Int} (ha : Areas ls ar) (T : Int) (hT : 0 ≤ T ∧ T ≤ 100000) : ∀ (d i : Nat), i + d = ls.length →
    Ev (fun k => impl_BareTwice.l0 k (T - sumTo ar i) ls (ls.length : Int) (i : Int)) (T - sumTo ar ls.length, 0)
  | 0, i, hi => by
    refine Ev.step (fun k => by rw [impl_BareTwice.l0]) ?_
    exact Ev.neg (by omega) (Ev.fin (by rw [show i = ls.length by omega]))
  | d + 1, i, hi => by
    have hl := h.len
    have hi' : i < ls.length := by omega
    have b1 := sum_bound h ha (i + 1) (by omega)
    have ih := bare_loop hn h ha T hT d (i + 1) (by omega)
    refine Ev.step (fun k => by rw [impl_BareTwice.l0]) (Ev.pos (by omega) (Ev.pos (by omega) (Ev.pos (by omega) ?_)))
    rw [rdS]
    refine Ev.bind (ha.is i hi') ?_
    rw [w64 (x := (i : Int) + 1) (by omega) (by omega)]
    have e : T - sumTo ar i - ar i = T - sumTo ar (i + 1) := by rw [sumTo]; omega
    rw [w64 (x := T - sumTo ar i - ar i) (by omega) (by omega), e]
    exact ih
end Go.Proofs.Ytllfeehchiikoaa.AreaKit
namespace Go.Proofs.Ytllfeehchiikoaa.AskKit
set_option linter.unusedSimpArgs false
set_option linter.unusedVariables false
open Go.RowKit Go.Proofs.Ytllfeehchiikoaa.PA Go.Proofs.Ytllfeehchiikoaa.Base Go.Proofs.Ytllfeehchiikoaa.StonesKit Go.Proofs.Ytllfeehchiikoaa.LayKit Go.Proofs.Ytllfeehchiikoaa.SeamKit Go.Proofs.Ytllfeehchiikoaa.WhereKit Go.Proofs.Ytllfeehchiikoaa.TouchKit Go.Proofs.YtllfeehchiikoaaW.PrintWords Go.Proofs.YtllfeehchiikoaaW.PrintLast Go.Proofs.YtllfeehchiikoaaW.PrintMore

def inS (x y : Int) (l : List S43) : Bool := decide (wh l ⟨IntKind.i16.wrap x, IntKind.i16.wrap y⟩ > 0)
def found (ls : List (List S43)) (x y : Int) : Int × Int := if ls.any (inS x y) then ((ls.findIdx (inS x y) : Int), 0) else (0, 6)
theorem implLoop (ls : List (List S43)) (x y : Int) (he : ∀ l ∈ ls, l.length ≤ 1048576) : Ev (fun k => impl_StoneAt.w k ls x y) (if ls.any (inS x y) then (ls.findIdx (inS x y) : Int) + 0 else -1) := by
  refine idxO_ev (fun k s => impl_StoneAt_1.f k s x y) (inS x y) ls 0 (fun l hl => ?_)
  unfold impl_StoneAt_1.f
  exact Ev.bind (implWh l ⟨IntKind.i16.wrap x, IntKind.i16.wrap y⟩ (he l hl)) (Ev.fin rfl)
def sa (a b : Int) (ls : List (List S43)) (x y : Int) (r : Bool) : Int × Int := if r then (if inF a b ⟨x, y⟩ then found ls x y else (0, 2)) else (0, 1)
theorem implEnd (ls : List (List S43)) (x y : Int) (he : ∀ l ∈ ls, l.length ≤ 1048576) : Ev (fun k => impl_StoneAt.j0 k x y ls 0) (found ls x y) := by
  refine Ev.step (fun k => by rw [impl_StoneAt.j0]) (Ev.pos rfl (Ev.bind (implLoop ls x y he) ?_))
  unfold found
  cases ls.any (inS x y) with
  | true => exact Ev.neg (by simp) (Ev.fin (by simp))
  | false => exact Ev.pos (by simp) (Ev.fin rfl)
theorem implSa {a b : Int} (h : F16 a b) {ls : List (List S43)} (he : ∀ l ∈ ls, l.length ≤ 1048576) (x y : Int) {r : Bool} (hr : Ev (fun k => impl_ValidLay.f k a b ls) r) : Ev (fun k => impl_StoneAt.f k a b ls x y) (sa a b ls x y r) := by
  unfold impl_StoneAt.f sa inF
  unfold F16 at h
  rw [w64 (x := a) (by omega) (by omega), w64 (x := b) (by omega) (by omega)]
  refine Ev.bind hr (Ev.nobind (implIn x 0 a) ?_)
  cases inB x 0 a with
  | false =>
    refine Ev.neg (by decide) (Ev.nobind (codeOf _ _) ?_)
    refine Ev.step (fun k => by rw [impl_StoneAt.j0]) ?_
    cases r with
    | false => exact Ev.neg (by decide) (Ev.fin rfl)
    | true => exact Ev.neg (by decide) (Ev.fin rfl)
  | true =>
    refine Ev.pos rfl (Ev.nobind (implIn y 0 b) (Ev.nobind (codeOf _ _) ?_))
    cases r with
    | false =>
      refine Ev.step (fun k => by rw [impl_StoneAt.j0]) ?_
      exact Ev.neg (by simp) (Ev.fin rfl)
    | true =>
      cases inB y 0 b with
      | false =>
        refine Ev.step (fun k => by rw [impl_StoneAt.j0]) ?_
        exact Ev.neg (by decide) (Ev.fin rfl)
      | true => exact implEnd ls x y he
def wi (l : List S43) (a b : Int) : Int × Int := if okS l then (if inB a (-1000) 1000 && inB b (-1000) 1000 then (wh l ⟨IntKind.i16.wrap a, IntKind.i16.wrap b⟩, 0) else (0, 2)) else (0, 1)
theorem implWi {l : List S43} (hf : Fit l) (a b : Int) (hl : l.length ≤ 1048576) : Ev (fun k => impl_WhereIs.f k l a b) (wi l a b) := by
  unfold impl_WhereIs.f wi
  refine Ev.bind (implOk hf) (Ev.nobind (implIn a _ _) ?_)
  cases inB a (-1000) 1000 with
  | false =>
    refine Ev.neg (by simp) (Ev.nobind (codeOf _ _) ?_)
    cases okS l with
    | false => exact Ev.neg (by simp) (Ev.fin rfl)
    | true => exact Ev.neg (by simp) (Ev.fin rfl)
  | true =>
    refine Ev.pos rfl (Ev.nobind (implIn b _ _) (Ev.nobind (codeOf _ _) ?_))
    cases okS l with
    | false => exact Ev.neg (by simp) (Ev.fin rfl)
    | true =>
      cases inB b (-1000) 1000 with
      | false => exact Ev.neg (by simp) (Ev.fin rfl)
      | true => exact Ev.pos (by simp) (Ev.bind (implWh l ⟨_, _⟩ hl) (Ev.now _))
theorem rdP (xs : List S49) (i : Nat) (h : i < xs.length) : rd_T49 xs (i : Int) = xs[i] := getD_nat xs z49 i h
def seF (v : Nat → Nat → Int) (i j : Nat) (s : List S49) : List S49 := if v i j > 0 then s ++ [⟨(i : Int), (j : Int)⟩] else s
def seG (v : Nat → Nat → Int) (n i : Nat) (s : List S49) : List S49 := iter (fun j s => seF v i j s) (n - (i + 1)) (i + 1) s
def se (v : Nat → Nat → Int) (n : Nat) : List S49 := iter (fun i s => seG v n i s) n 0 []
theorem seF_length (v : Nat → Nat → Int) (i j : Nat) (s : List S49) : (seF v i j s).length ≤ s.length + 1 := by
  unfold seF; split <;> simp
theorem seG_length (v : Nat → Nat → Int) (n i : Nat) (s : List S49) (hi : i < n) : (seG v n i s).length ≤ s.length + n := by
  have := iter_inv (f := fun j s => seF v i j s) (Inv := fun j t => t.length ≤ s.length + j) (n - (i + 1)) (i + 1) s (fun t j _ _ h => by have := seF_length v i j t; omega) (by omega)
  unfold seG; omega
theorem se_length (v : Nat → Nat → Int) (n : Nat) (hn : n ≤ 40) : (se v n).length ≤ 1600 := by
  have := iter_inv (f := fun i s => seG v n i s) (Inv := fun i t => t.length ≤ 40 * i) n 0 [] (fun t j _ h1 h => by have := seG_length v n j t (by omega); omega) (by simp)
  unfold se; omega
structure Vals (ls : List (List S43)) (v : Nat → Nat → Int) : Prop where
  spec : ∀ i j, i < ls.length → j < ls.length → Ev (fun k => spec_l03Seams.f k (ls.getD i []) (ls.getD j [])) (v i j)
  impl : ∀ i j, i < ls.length → j < ls.length → Ev (fun k => impl_seam.f k (ls.getD i []) (ls.getD j [])) (v i j)
  pos : ∀ i j, i < ls.length → j < ls.length → 0 < v i j → Seamed (ls.getD i []) (ls.getD j [])
theorem vals {ls : List (List S43)} (h : ∀ l ∈ ls, okS l = true) : ∃ v, Vals ls v := by
  have key : ∀ i j, ∃ r, i < ls.length → j < ls.length → Ev (fun k => spec_l03Seams.f k (ls.getD i []) (ls.getD j [])) r ∧ Ev (fun k => impl_seam.f k (ls.getD i []) (ls.getD j [])) r ∧ (0 < r → Seamed (ls.getD i []) (ls.getD j [])) := by
    intro i j
    by_cases hi : i < ls.length
    · by_cases hj : j < ls.length
      · obtain ⟨r, h1, h2, h3⟩ := seams2 (h _ (List.getElem_mem hi)) (h _ (List.getElem_mem hj))
        exact ⟨r, fun _ _ => by rw [getS hi, getS hj]; exact ⟨h1, h2, h3⟩⟩
      · exact ⟨0, fun _ h => absurd h hj⟩
    · exact ⟨0, fun h => absurd h hi⟩
  exact ⟨fun i j => Classical.choose (key i j), fun i j hi hj => (Classical.choose_spec (key i j) hi hj).1, fun i j hi hj => (Classical.choose_spec (key i j) hi hj).2.1, fun i j hi hj => (Classical.choose_spec (key i j) hi hj).2.2⟩
theorem specSe {ls : List (List S43)} (hn : ls.length ≤ 40) {v : Nat → Nat → Int} (hv : Vals ls v) : Ev (fun k => spec_SeamsIn.l0 k ls [] 0) (se v ls.length, 0) := by
  unfold se
  refine iter_cps0 ls.length (fun i s => seG v ls.length i s) (fun k s i => spec_SeamsIn.l0 k ls s i) _ (fun i t => t.length ≤ 40 * i) [] (by simp) (fun t i h2 h => by have := seG_length v ls.length i t h2; omega) (fun t i hi h hr => ?_) (fun _ => ?_)
  · have ha := w64 (x := (i : Int) + 1) (by omega) (by omega)
    refine Ev.step (fun k => by rw [spec_SeamsIn.l0]) (Ev.pos (by omega) ?_)
    rw [ha]
    refine iter_cps ls.length (fun j s => seF v i j s) (fun k s j => spec_SeamsIn.l1 k ls s (i : Int) j) _ (fun j u => u.length ≤ t.length + j) (fun u j _ h2 => by have := seF_length v i j u; omega) (fun u j hj h2 hr2 => ?_) (ls.length - (i + 1)) (i + 1) t (by omega) (by omega) (fun _ => ?_)
    · have hb := w64 (x := (j : Int) + 1) (by omega) (by omega)
      refine Ev.step (fun k => by rw [spec_SeamsIn.l1]) ?_
      rw [rdS, rdS, hb]
      refine Ev.pos (by omega) (Ev.pos (by omega) (Ev.pos (by omega) (Ev.pos (by omega) ?_)))
      refine Ev.bind (hv.spec i j hi hj) ?_
      unfold seF at hr2
      refine Ev.ite (fun e => Ev.pos (by omega) ?_) (fun e => ?_)
      · simp only [if_pos e] at hr2; exact hr2
      · simp only [if_neg e] at hr2; exact hr2
    · refine Ev.step (fun k => by rw [spec_SeamsIn.l1]) (Ev.neg (by omega) ?_)
      rw [ha]; exact hr
  · refine Ev.step (fun k => by rw [spec_SeamsIn.l0]) ?_
    exact Ev.neg (by omega) (Ev.fin rfl)
theorem implSe {ls : List (List S43)} (hn : ls.length ≤ 40) {v : Nat → Nat → Int} (hv : Vals ls v) : Ev (fun k => impl_SeamsIn.l0 k ls [] ls (ls.length : Int) 0) (se v ls.length, 0) := by
  unfold se
  refine iter_cps0 ls.length (fun i s => seG v ls.length i s) (fun k s i => impl_SeamsIn.l0 k ls s ls (ls.length : Int) i) _ (fun i t => t.length ≤ 40 * i) [] (by simp) (fun t i h2 h => by have := seG_length v ls.length i t h2; omega) (fun t i hi h hr => ?_) (fun _ => ?_)
  · have ha := w64 (x := (i : Int) + 1) (by omega) (by omega)
    refine Ev.step (fun k => by rw [impl_SeamsIn.l0]) (Ev.pos (by omega) (Ev.pos (by omega) (Ev.pos (by omega) ?_)))
    rw [ha, rdS]
    refine iter_cps ls.length (fun j s => seF v i j s) (fun k s j => impl_SeamsIn.l1 k ls s (i : Int) (ls.getD i []) j ls (ls.length : Int) (i : Int)) _ (fun j u => u.length ≤ t.length + j) (fun u j _ h2 => by have := seF_length v i j u; omega) (fun u j hj h2 hr2 => ?_) (ls.length - (i + 1)) (i + 1) t (by omega) (by omega) (fun _ => ?_)
    · have hb := w64 (x := (j : Int) + 1) (by omega) (by omega)
      refine Ev.step (fun k => by rw [impl_SeamsIn.l1]) ?_
      rw [rdS, hb]
      refine Ev.pos (by omega) (Ev.pos (by omega) ?_)
      refine Ev.bind (hv.impl i j hi hj) ?_
      unfold seF at hr2
      refine Ev.ite (fun e => Ev.pos (by omega) ?_) (fun e => ?_)
      · simp only [if_pos e] at hr2; exact hr2
      · simp only [if_neg e] at hr2; exact hr2
    · refine Ev.step (fun k => by rw [impl_SeamsIn.l1]) (Ev.neg (by omega) ?_)
      rw [ha]; exact hr
  · refine Ev.step (fun k => by rw [impl_SeamsIn.l0]) ?_
    exact Ev.neg (by omega) (Ev.fin rfl)
theorem se_mem (v : Nat → Nat → Int) (n : Nat) : ∀ z ∈ se v n, ∃ i j : Nat, i < j ∧ j < n ∧ 0 < v i j ∧ z = ⟨(i : Int), (j : Int)⟩ := by
  have := iter_inv (f := fun i s => seG v n i s) (Inv := fun _ t => ∀ z ∈ t, ∃ i j : Nat, i < j ∧ j < n ∧ 0 < v i j ∧ z = (⟨(i : Int), (j : Int)⟩ : S49)) n 0 [] (fun t i _ h1 h => by
    have h2 := iter_inv (f := fun j s => seF v i j s) (Inv := fun _ t => ∀ z ∈ t, ∃ i j : Nat, i < j ∧ j < n ∧ 0 < v i j ∧ z = (⟨(i : Int), (j : Int)⟩ : S49)) (n - (i + 1)) (i + 1) t (fun u j h3 h4 h5 => by
      unfold seF
      split
      · rename_i c
        intro z hz
        rcases List.mem_append.1 hz with hz | hz
        · exact h5 z hz
        · rw [List.mem_singleton] at hz
          exact ⟨i, j, by omega, by omega, c, hz⟩
      · exact h5) h
    exact h2) (by simp)
  exact this
theorem samePairs (l : List S49) (hl : l.length ≤ 1048576) : Ev (fun k => spec_SamePairs.f k l l) true := by
  unfold spec_SamePairs.f
  refine Ev.pos rfl ?_
  have key : ∀ (d i : Nat), i + d = l.length → Ev (fun k => spec_SamePairs.l0 k l l (i : Int)) true := by
    intro d
    induction d with
    | zero =>
      intro i h
      refine Ev.step (fun k => by rw [spec_SamePairs.l0]) ?_
      exact Ev.neg (by omega) (Ev.fin rfl)
    | succ d ih =>
      intro i h
      refine Ev.step (fun k => by rw [spec_SamePairs.l0]) (Ev.pos (by omega) (Ev.pos (by omega) (Ev.pos (by omega) (Ev.neg (by simp) ?_))))
      rw [w64 (x := (i : Int) + 1) (by omega) (by omega)]
      exact ih (i + 1) (by omega)
  exact key l.length 0 (by omega)
end Go.Proofs.Ytllfeehchiikoaa.AskKit
namespace Go.Proofs.Ytllfeehchiikoaa.Pure
set_option linter.unusedSimpArgs false
set_option linter.unusedVariables false
open Go.RowKit Go.Proofs.Ytllfeehchiikoaa.PA Go.Proofs.Ytllfeehchiikoaa.Base Go.Proofs.Ytllfeehchiikoaa.StonesKit Go.Proofs.Ytllfeehchiikoaa.LayKit Go.Proofs.Ytllfeehchiikoaa.SeamKit Go.Proofs.Ytllfeehchiikoaa.GenKit Go.Proofs.Ytllfeehchiikoaa.DrawKit Go.Proofs.Ytllfeehchiikoaa.P6Kit Go.Proofs.Ytllfeehchiikoaa.FaultKit Go.Proofs.Ytllfeehchiikoaa.AreaKit Go.Proofs.Ytllfeehchiikoaa.AskKit Go.Proofs.Ytllfeehchiikoaa.WhereKit Go.Proofs.Ytllfeehchiikoaa.TouchKit Go.Proofs.YtllfeehchiikoaaW.PrintWords Go.Proofs.YtllfeehchiikoaaW.PrintLast Go.Proofs.YtllfeehchiikoaaW.PrintMore

theorem wfu8 {x : Int} (h : (Lit.int .u8 x).wf = true) : 0 ≤ x ∧ x ≤ 255 := by
  simp [Lit.wf, IntKind.min, IntKind.max, IntKind.signed, IntKind.bits] at h; omega
/-- What is known of a list that P6Lay draws. -/
structure Known (n : Nat) (ls : List (List S43)) : Prop where
  n3 : n ≤ 3
  lay : Lay6 n ls
  fr : F16 (8 * (n : Int) + 9) 12
  fit : FitL ls
  st : stB (8 * (n : Int) + 9) 12 ls = true
  all : ∀ l ∈ ls, allIn (8 * (n : Int) + 9) 12 l = true
theorem in_of_near {n : Nat} {l : List S43} (h : Near6 n l) : allIn (8 * (n : Int) + 9) 12 l = true := by
  obtain ⟨x, x0, x1, x2⟩ := h
  unfold allIn
  rw [List.all_eq_true]
  intro c hc
  have := x2 c hc
  unfold inF
  rw [Bool.and_eq_true, inB_iff, inB_iff]
  omega
theorem fit_of_ok {l : List S43} (h : okS l = true) : Fit l := by
  intro c hc
  have := ok_sm h c hc
  unfold Geo.Sm at this
  omega
theorem known {n : Nat} (h3 : n ≤ 3) {ls : List (List S43)} (h : Lay6 n ls) : Known n ls := by
  have hl := h.len
  refine ⟨h3, h, by unfold F16; omega, ⟨by omega, fun l hm => ⟨fit_of_ok (h.ok l hm), by have := okS_len (h.ok l hm); omega⟩⟩, ?_, fun l hm => in_of_near (h.near l hm)⟩
  unfold stB frB
  rw [Bool.and_eq_true, Bool.and_eq_true, Bool.and_eq_true, inB_iff, inB_iff, decide_eq_true_eq, List.all_eq_true]
  exact ⟨⟨by omega, by omega⟩, by omega, h.ok⟩
theorem Known.at {n : Nat} {ls : List (List S43)} (h : Known n ls) {i : Nat} (hi : i < ls.length) : okS (ls.getD i []) = true := by
  rw [getS hi]; exact h.lay.ok _ (List.getElem_mem hi)
theorem implFr {n : Nat} {ls : List (List S43)} (h : Known n ls) : frB (8 * (n : Int) + 9) 12 = true := by
  have := h.n3
  unfold frB
  rw [Bool.and_eq_true, inB_iff, inB_iff]
  omega
theorem inFrame {n : Nat} {ls : List (List S43)} (h : Known n ls) {i : Nat} (hi : i < ls.length) : Ev (fun k => impl_InFrame.f k (8 * (n : Int) + 9) 12 (ls.getD i [])) (true, 0) := by
  have ho := h.at hi
  have h1 := implFrame h.fr
  rw [implFr h] at h1
  have h2 := implOk (fit_of_ok ho)
  rw [ho] at h2
  have h3 := implInF (8 * (n : Int) + 9) 12 (ls.getD i [])
  rw [show allIn (8 * (n : Int) + 9) 12 (ls.getD i []) = true by rw [getS hi]; exact h.all _ (List.getElem_mem hi)] at h3
  unfold impl_InFrame.f
  exact Ev.nobind h1 (Ev.pos rfl (Ev.bind h2 (Ev.pos rfl (Ev.nobind h3 (Ev.fin rfl)))))
theorem doOver {n : Nat} {ls : List (List S43)} (h : Known n ls) {i j : Nat} (hi : i < ls.length) (hj : j < ls.length) (ho : ov ls i j = true) : Ev (fun k => impl_DoOverlap.f k (ls.getD i []) (ls.getD j [])) (true, 0) := by
  have h1 := implOk (fit_of_ok (h.at hi))
  rw [h.at hi] at h1
  have h2 := implOk (fit_of_ok (h.at hj))
  rw [h.at hj] at h2
  have h3 := implOver (ls.getD i []) (ls.getD j [])
  unfold ov at ho
  rw [ho] at h3
  unfold impl_DoOverlap.f
  exact Ev.bind h1 (Ev.pos rfl (Ev.bind h2 (Ev.pos rfl (Ev.nobind h3 (Ev.fin rfl)))))
theorem doTouch {n : Nat} {ls : List (List S43)} (h : Known n ls) {i j : Nat} (hi : i < ls.length) (hj : j < ls.length) (ho : ov ls i j = false) (hs : Seamed (ls.getD i []) (ls.getD j [])) : Ev (fun k => impl_DoTouch.f k (ls.getD i []) (ls.getD j [])) (true, 0) := by
  have h1 := implOk (fit_of_ok (h.at hi))
  rw [h.at hi] at h1
  have h2 := implOk (fit_of_ok (h.at hj))
  rw [h.at hj] at h2
  have h3 := implOver (ls.getD i []) (ls.getD j [])
  unfold ov at ho
  rw [ho] at h3
  obtain ⟨t1, t2⟩ := seam_touch (h.at hi) (h.at hj) hs
  have h4 := implParts (ls.getD i []) (ls.getD j []) true
  rw [t1] at h4
  have h5 := implParts (ls.getD j []) (ls.getD i []) true
  rw [t2] at h5
  unfold impl_DoTouch.f
  refine Ev.bind h1 (Ev.pos rfl (Ev.bind h2 ?_))
  refine Ev.step (fun k => by rw [impl_DoTouch.j0]) (Ev.neg (by decide) ?_)
  exact Ev.nobind h3 (Ev.neg (by decide) (Ev.nobind h4 (Ev.neg (by decide) (Ev.nobind h5 (Ev.fin rfl)))))
/-! ### the stones' round -/
theorem corner {n : Nat} {ls : List (List S43)} (h : Known n ls) {i : Nat} (hi : i < ls.length) : (rd_T43 (ls.getD i []) 0) ∈ ls.getD i [] := by
  have hl := okS_len (h.at hi)
  have e : rd_T43 (ls.getD i []) 0 = (ls.getD i []).getD 0 z43 := rdC' _ 0
  rw [e, getC (by omega)]
  exact List.getElem_mem _
theorem stones_loop {n : Nat} {ls : List (List S43)} (h : Known n ls) (hv : Ev (fun k => impl_ValidLay.f k (8 * (n : Int) + 9) 12 ls) true) {ar : Nat → Int} (ha : Areas ls ar) {T : Int} (hT : T = 192 * (n : Int) + 216) (b : Int) (hb : b = T - sumTo ar ls.length)
    (hend : Ev (fun k => laws_FnLays.l0 k ls b 0 T (ls.length : Int) (8 * (n : Int) + 9) 12) true) : ∀ (d i : Nat), i + d = ls.length → Ev (fun k => laws_FnLays.l0 k ls b 0 (b + sumTo ar i) (i : Int) (8 * (n : Int) + 9) 12) true
  | 0, i, hi => by
    have e : i = ls.length := by omega
    rw [e, hb, show T - sumTo ar ls.length + sumTo ar ls.length = T by omega]
    rw [hb] at hend
    exact hend
  | d + 1, i, hi => by
    have hn3 := h.n3
    have hll := h.lay.len
    have hi' : i < ls.length := by omega
    have ho := h.at hi'
    have hol := okS_len ho
    have ih := stones_loop h hv ha hT b hb hend d (i + 1) (by omega)
    have b1 := sum_bound h.lay ha (i + 1) (by omega)
    have b2 := sum_bound h.lay ha ls.length (by omega)
    have hva := implOk (fit_of_ok ho)
    rw [ho] at hva
    have hA : Ev (fun k => impl_AreaTwice.f k (ls.getD i [])) (ar i, 0) := by
      unfold impl_AreaTwice.f
      exact Ev.bind hva (Ev.pos rfl (Ev.bind (ha.is i hi') (Ev.fin rfl)))
    have hc := corner h hi'
    generalize hC : rd_T43 (ls.getD i []) 0 = c at hc
    have hsm := ok_sm ho c hc
    have hw1 := w64 (x := c.f0) (by unfold Geo.Sm at hsm; omega) (by unfold Geo.Sm at hsm; omega)
    have hw2 := w64 (x := c.f1) (by unfold Geo.Sm at hsm; omega) (by unfold Geo.Sm at hsm; omega)
    have w1 : IntKind.i16.wrap c.f0 = c.f0 := w16 (by unfold Geo.Sm at hsm; omega) (by unfold Geo.Sm at hsm; omega)
    have w2 : IntKind.i16.wrap c.f1 = c.f1 := w16 (by unfold Geo.Sm at hsm; omega) (by unfold Geo.Sm at hsm; omega)
    have hin : inF (8 * (n : Int) + 9) 12 ⟨c.f0, c.f1⟩ = true := by
      have := h.all _ (List.getElem_mem hi')
      rw [← getS hi'] at this
      unfold allIn at this
      rw [List.all_eq_true] at this
      exact this c hc
    have hsa := implSa h.fr (ls := ls) (fun l hl => (h.fit.each l hl).2) c.f0 c.f1 hv
    unfold sa at hsa
    rw [if_pos rfl, if_pos hin] at hsa
    have hme : inS c.f0 c.f1 (ls.getD i []) = true := by
      unfold inS
      rw [w1, w2]
      exact decide_eq_true (where_corner ho hc)
    have hany : ls.any (inS c.f0 c.f1) = true := by
      rw [List.any_eq_true]
      exact ⟨_, List.getElem_mem hi', by rw [← getS hi']; exact hme⟩
    unfold found at hsa
    rw [if_pos hany] at hsa
    have hlt : ls.findIdx (inS c.f0 c.f1) < ls.length := List.findIdx_lt_length_of_exists (by
      rw [List.any_eq_true] at hany
      exact hany)
    have hle : ls.findIdx (inS c.f0 c.f1) ≤ i := by
      refine Nat.le_of_not_gt (fun g => ?_)
      have := List.not_of_lt_findIdx g
      rw [getS hi'] at hme
      simp [hme] at this
    have hsat : inS c.f0 c.f1 ls[ls.findIdx (inS c.f0 c.f1)] = true := List.findIdx_getElem
    generalize ls.findIdx (inS c.f0 c.f1) = q at hsa hlt hle hsat
    have hq : okS (ls.getD q []) = true := h.at hlt
    have hwi := implWi (fit_of_ok hq) c.f0 c.f1 (by have := okS_len hq; omega)
    unfold wi at hwi
    have ein : (inB c.f0 (-1000) 1000 && inB c.f1 (-1000) 1000) = true := by
      rw [Bool.and_eq_true, inB_iff, inB_iff]
      unfold Geo.Sm at hsm
      omega
    rw [if_pos hq, if_pos ein, w1, w2] at hwi
    have hpos : 0 < wh (ls.getD q []) ⟨c.f0, c.f1⟩ := by
      unfold inS at hsat
      rw [w1, w2, ← getS hlt] at hsat
      exact of_decide_eq_true hsat
    have e1 : wrap64 (b + sumTo ar i + ar i) = b + sumTo ar (i + 1) := by
      rw [w64 (by rw [sumTo] at b1; omega) (by rw [sumTo] at b1; omega), sumTo]; omega
    refine Ev.step (fun k => by rw [laws_FnLays.l0]) (Ev.pos (by omega) (Ev.pos (by omega) ?_))
    rw [rdS, hC, hw1, hw2]
    refine Ev.bind hA (Ev.bind (inFrame h hi') (Ev.pos (by omega) (Ev.bind hsa ?_)))
    refine Ev.pos rfl (Ev.pos rfl (Ev.pos rfl (Ev.pos rfl (Ev.neg (by show ¬ ((q : Int) > (i : Int)); omega) ?_))))
    refine Ev.step (fun k => by rw [laws_FnLays.j4]) ?_
    refine Ev.neg (by show ¬ (decide ((q : Int) < 0) = true); rw [decide_eq_true_eq]; omega) ?_
    refine Ev.pos (by show (0 : Int) ≤ (q : Int); omega) (Ev.pos (by show (q : Int) < (ls.length : Int); omega) (Ev.pos (by omega) (Ev.pos (by omega) ?_)))
    rw [rdS ls i, hC, hw1, hw2]
    refine Ev.pos (by omega) ?_
    show Ev (fun k => (impl_WhereIs.f k (rd_L3 ls (q : Int)) c.f0 c.f1).bind _) true
    rw [rdS ls q]
    refine Ev.bind hwi (Ev.pos rfl (Ev.neg (by show ¬ (wh (ls.getD q []) ⟨c.f0, c.f1⟩ = 0); omega) ?_))
    show Ev (fun k => laws_FnLays.l0 k ls b 0 (wrap64 (b + sumTo ar i + ar i)) (wrap64 ((i : Int) + 1)) (8 * (n : Int) + 9) 12) true
    rw [e1, w64 (x := (i : Int) + 1) (by omega) (by omega)]
    exact ih
/-! ### the seams' round and the stone laid twice -/
theorem twice_end {n : Nat} {ls : List (List S43)} (h : Known n ls) (hno : None_ ls 0 0) (hne : ls.length ≠ 0) :
    Ev (fun k => impl_FirstFault.f k (8 * (n : Int) + 9) 12 (ls ++ [ls.getD 0 []])) (0, (ls.length : Int), 0) ∧ Ev (fun k => impl_ValidLay.f k (8 * (n : Int) + 9) 12 (ls ++ [ls.getD 0 []])) false := by
  have hn3 := h.n3
  have hll := h.lay.len
  have h0 : 0 < ls.length := by omega
  have hm0 : ls.getD 0 [] ∈ ls := by rw [getS h0]; exact List.getElem_mem h0
  have hmem : ∀ l ∈ ls ++ [ls.getD 0 []], l ∈ ls := by
    intro l hl
    rcases List.mem_append.1 hl with hl | hl
    · exact hl
    · rw [List.mem_singleton] at hl; rw [hl]; exact hm0
  have hlen : (ls ++ [ls.getD 0 []]).length = ls.length + 1 := by simp
  have hf : FitL (ls ++ [ls.getD 0 []]) := ⟨by omega, fun l hl => h.fit.each l (hmem l hl)⟩
  have hst : stB (8 * (n : Int) + 9) 12 (ls ++ [ls.getD 0 []]) = true := by
    unfold stB
    rw [Bool.and_eq_true, Bool.and_eq_true, decide_eq_true_eq, List.all_eq_true]
    exact ⟨implFr h, by omega, fun l hl => h.lay.ok l (hmem l hl)⟩
  have g1 : ∀ i, i < ls.length → (ls ++ [ls.getD 0 []]).getD i [] = ls.getD i [] := by
    intro i hi
    rw [List.getD_eq_getElem?_getD, List.getElem?_append_left hi, ← List.getD_eq_getElem?_getD]
  have g2 : (ls ++ [ls.getD 0 []]).getD ls.length [] = ls.getD 0 [] := by
    rw [List.getD_eq_getElem?_getD, List.getElem?_append_right (Nat.le_refl _), Nat.sub_self]; rfl
  have old : ∀ x y, x < y → y < ls.length → ov (ls ++ [ls.getD 0 []]) x y = false := by
    intro x y h1 h2
    have := hno x y h1 h2 (by unfold After; omega)
    unfold ov at this ⊢
    rw [g1 x (by omega), g1 y h2]
    exact this
  have new : ov (ls ++ [ls.getD 0 []]) 0 ls.length = true := by
    unfold ov
    rw [g1 0 h0, g2]
    exact over_self (h.lay.ok _ hm0)
  rcases lay_is h.fr hf hst (fun l hl => h.all l (hmem l hl)) with ⟨p, q, ⟨f1, f2, f3, f4, f5⟩, hI⟩ | ⟨hn, hI⟩
  · have e1 : q = ls.length := by
      by_cases c : q < ls.length
      · rw [old p q f1 c] at f4; cases f4
      · omega
    subst e1
    have e2 : p = 0 := by
      by_cases c : 0 < p
      · have := f5 0 ls.length h0 (by omega) (by unfold After; omega) (by omega)
        rw [new] at this; cases this
      · omega
    subst e2
    exact ⟨hI.implF, hI.implV⟩
  · have := hn 0 ls.length h0 (by omega) (by unfold After; omega)
    rw [new] at this; cases this
theorem seams_loop {n : Nat} {ls : List (List S43)} (h : Known n ls) (hno : None_ ls 0 0) (v : List S49) (hv : v.length ≤ 1600) (hm : ∀ z ∈ v, ∃ i j : Nat, i < j ∧ j < ls.length ∧ Seamed (ls.getD i []) (ls.getD j []) ∧ z = ⟨(i : Int), (j : Int)⟩) : ∀ (d x : Nat), x + d = v.length → Ev (fun k => laws_FnLays.l1 k ls v (x : Int) (8 * (n : Int) + 9) 12) true
  | 0, x, hx => by
    have hn3 := h.n3
    have hll := h.lay.len
    refine Ev.step (fun k => by rw [laws_FnLays.l1]) (Ev.neg (by omega) (Ev.ite (fun _ => Ev.fin rfl) (fun e => ?_)))
    obtain ⟨t1, t2⟩ := twice_end h hno (by omega)
    exact Ev.pos (by omega) (Ev.bind t1 (Ev.pos rfl (Ev.pos rfl (Ev.pos rfl (Ev.bind t2 (Ev.fin rfl))))))
  | d + 1, x, hx => by
    have hx' : x < v.length := by omega
    have ih := seams_loop h hno v hv hm d (x + 1) (by omega)
    obtain ⟨i, j, h1, h2, h3, h4⟩ := hm _ (List.getElem_mem hx')
    refine Ev.step (fun k => by rw [laws_FnLays.l1]) (Ev.pos (by omega) (Ev.pos (by omega) ?_))
    rw [rdP v x hx', h4]
    refine Ev.neg (by show ¬ ((i : Int) < 0); omega) (Ev.neg (by show ¬ ((j : Int) ≤ (i : Int)); omega) ?_)
    refine Ev.step (fun k => by rw [laws_FnLays.j8]) ?_
    refine Ev.neg (by show ¬ (decide ((j : Int) ≥ (ls.length : Int)) = true); rw [decide_eq_true_eq]; omega) ?_
    refine Ev.pos (by show (0 : Int) ≤ (i : Int); omega) (Ev.pos (by show (i : Int) < (ls.length : Int); omega) (Ev.pos (by show (0 : Int) ≤ (j : Int); omega) (Ev.pos (by show (j : Int) < (ls.length : Int); omega) ?_)))
    show Ev (fun k => (impl_DoTouch.f k (rd_L3 ls (i : Int)) (rd_L3 ls (j : Int))).bind _) true
    rw [rdS ls i, rdS ls j]
    refine Ev.bind (doTouch h (by omega) h2 (hno i j h1 h2 (by unfold After; omega)) h3) (Ev.pos rfl (Ev.pos rfl ?_))
    rw [w64 (x := (x : Int) + 1) (by omega) (by omega)]
    exact ih
theorem rest {n : Nat} {ls : List (List S43)} (h : Known n ls) (hno : None_ ls 0 0) {ff : Int × Int × Int} (hI : LayIs (8 * (n : Int) + 9) 12 ls true ff) : Ev (fun k => laws_FnLays.j5 k ls false (8 * (n : Int) + 9) 12) true := by
  have hn3 := h.n3
  have hll := h.lay.len
  obtain ⟨v, hv⟩ := vals h.lay.ok
  have hlen := se_length v ls.length (by omega)
  have s1 : Ev (fun k => impl_SeamsIn.f k (8 * (n : Int) + 9) 12 ls) (se v ls.length, 0) := by
    unfold impl_SeamsIn.f
    exact Ev.bind hI.implV (Ev.pos rfl (implSe (by omega) hv))
  have s2 : Ev (fun k => spec_SeamsIn.f k (8 * (n : Int) + 9) 12 ls) (se v ls.length, 0) := by
    unfold spec_SeamsIn.f
    exact Ev.bind hI.specV (Ev.pos rfl (specSe (by omega) hv))
  refine Ev.step (fun k => by rw [laws_FnLays.j5]) (Ev.neg (by decide) (Ev.bind s1 (Ev.bind s2 (Ev.pos rfl (Ev.pos rfl (Ev.bind (samePairs _ (by show (se v ls.length).length ≤ 1048576; omega)) ?_))))))
  refine Ev.step (fun k => by rw [laws_FnLays.j6]) (Ev.neg (by decide) ?_)
  refine seams_loop h hno (se v ls.length) hlen (fun z hz => ?_) _ 0 (Nat.zero_add _)
  obtain ⟨i, j, h1, h2, h3, h4⟩ := se_mem v ls.length z hz
  exact ⟨i, j, h1, h2, hv.pos i j (by omega) h2 h3, h4⟩
theorem main {l : List Int} (hl : U8 l) : Ev (fun k => laws_FnLays.j0 k l false) true := by
  obtain ⟨n, ls, n3, e, hL⟩ := p6_ok hl
  have h := known n3 hL
  have hll := hL.len
  have sv : ∀ {r : Bool}, Ev (fun k => spec_l03Lay.f k (8 * (n : Int) + 9) 12 ls) r → Ev (fun k => spec_ValidLay.f k (8 * (n : Int) + 9) 12 ls) r := fun q => by
    unfold spec_ValidLay.f
    exact Ev.bind q (Ev.fin rfl)
  rcases lay_is h.fr h.fit h.st h.all with ⟨p, q, ⟨f1, f2, f3, f4, f5⟩, hI⟩ | ⟨hno, hI⟩
  · refine Ev.step (fun k => by rw [laws_FnLays.j0]) ?_
    refine Ev.neg (by decide) (Ev.bind e ?_)
    refine Ev.bind (sv hI.specV) (Ev.bind hI.implV ?_)
    refine Ev.neg (by decide) (Ev.bind hI.implF (Ev.bind hI.specF ?_))
    refine Ev.pos rfl (Ev.pos rfl (Ev.pos rfl (Ev.bind (sv hI.specV) ?_)))
    refine Ev.step (fun k => by rw [laws_FnLays.j1]) (Ev.neg (by show ¬ ((((0 : Int) == 6) != false) = true); decide) (Ev.pos rfl (Ev.neg (by show ¬ ((p : Int) < 0); omega) (Ev.neg (by show ¬ ((p : Int) ≥ (ls.length : Int)); omega) ?_))))
    refine Ev.step (fun k => by rw [laws_FnLays.j2]) (Ev.neg (by show ¬ (decide ((q : Int) ≥ (ls.length : Int)) = true); rw [decide_eq_true_eq]; omega) (Ev.neg (by show ¬ ((q : Int) < 0); omega) ?_))
    refine Ev.pos (by show (0 : Int) ≤ (p : Int); omega) (Ev.pos (by show (p : Int) < (ls.length : Int); omega) (Ev.pos (by show (0 : Int) ≤ (q : Int); omega) (Ev.pos (by show (q : Int) < (ls.length : Int); omega) ?_)))
    show Ev (fun k => (impl_DoOverlap.f k (rd_L3 ls (p : Int)) (rd_L3 ls (q : Int))).bind _) true
    rw [rdS ls p, rdS ls q]
    refine Ev.bind (doOver h (by omega) f2 f4) (Ev.pos rfl (Ev.pos rfl (Ev.fin ?_)))
    exact decide_eq_true (by show (p : Int) < (q : Int); omega)
  · obtain ⟨ar, ha⟩ := areas_are n3 hL
    have hsum := sum_all hL ha
    have hb := sum_bound hL ha ls.length (Nat.le_refl _)
    have hT : wrap64 ((wrap64 (2 * (wrap64 (8 * (n : Int) + 9)))) * (wrap64 12)) = 192 * (n : Int) + 216 := by
      rw [w64 (x := 8 * (n : Int) + 9) (by omega) (by omega), w64 (x := 12) (by omega) (by omega), w64 (x := 2 * (8 * (n : Int) + 9)) (by omega) (by omega), w64 (by omega) (by omega)]
      omega
    have hbt : Ev (fun k => impl_BareTwice.f k (8 * (n : Int) + 9) 12 ls) (192 * (n : Int) + 216 - sumTo ar ls.length, 0) := by
      unfold impl_BareTwice.f
      refine Ev.bind hI.implV (Ev.pos rfl ?_)
      rw [hT]
      have := bare_loop n3 hL ha (192 * (n : Int) + 216) (by omega) ls.length 0 (by omega)
      rw [sumTo, Int.sub_zero] at this
      exact this
    refine Ev.step (fun k => by rw [laws_FnLays.j0]) ?_
    refine Ev.neg (by decide) (Ev.bind e ?_)
    refine Ev.bind (sv hI.specV) (Ev.bind hI.implV ?_)
    refine Ev.neg (by decide) (Ev.bind hI.implF (Ev.bind hI.specF ?_))
    refine Ev.pos rfl (Ev.pos rfl (Ev.pos rfl (Ev.bind (sv hI.specV) ?_)))
    refine Ev.step (fun k => by rw [laws_FnLays.j1]) (Ev.neg (by decide) (Ev.neg (by show ¬ ((6 : Int) = 0); decide) (Ev.bind hbt ?_)))
    have hend : Ev (fun k => laws_FnLays.l0 k ls (192 * (n : Int) + 216 - sumTo ar ls.length) 0 (192 * (n : Int) + 216) (ls.length : Int) (8 * (n : Int) + 9) 12) true := by
      refine Ev.step (fun k => by rw [laws_FnLays.l0]) (Ev.neg (by omega) (Ev.pos rfl (Ev.neg (by omega) ?_)))
      rw [hT, show ((192 * (n : Int) + 216) != (192 * (n : Int) + 216)) = false by simp]
      exact rest h hno hI
    have := stones_loop h hI.implV ha rfl _ rfl hend ls.length 0 (by omega)
    rw [sumTo, Int.add_zero] at this
    exact this
theorem FnLays : laws_FnLays.Pure := by
  intro l0 l1 _ _ w0 _ _ w1
  have h0 : U8 l0 := fun x hx => wfu8 (w0 x hx)
  have skip : Ev (fun k => laws_FnLays.j0 k l0 true) true := by
    refine Ev.step (fun k => by rw [laws_FnLays.j0]) ?_
    exact Ev.pos rfl (Ev.fin rfl)
  have key : Ev (fun k => laws_FnLays.f k l0 l1) true := by
    unfold laws_FnLays.f
    refine Ev.nobind rfl (Ev.ite (fun _ => skip) (fun _ => Ev.nobind rfl ?_))
    cases (decide ((l1.length : Int) > 4096)) with
    | true => exact skip
    | false => exact main h0
  obtain ⟨k, hk⟩ := key
  exact ⟨k, hk k (Nat.le_refl _)⟩
end Go.Proofs.Ytllfeehchiikoaa.Pure
