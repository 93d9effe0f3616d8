/- Edges on one line: what they have in common, told in two ways. No Go and no memory in it. · Hulls: an edge that has all corners on its one side; which corner comes next; that such corners make a stone. No Go and no memory in it. · Going round a list of corners, from each to the one that has all others on its one side: it comes back to the first, and what it passes is a stone. No Go and no memory in it. · Half a hull: corners in their order, each pushed onto a pile from which those are taken that do not turn left. No Go and no memory in it. · Both halves of a hull, one behind the other, are what going round comes to. No Go and no memory in it. -/
import Derived.Test.YtgefjglbaekegaaPAxgImpl
namespace Go.Proofs.Ytgefjglbaekegaa.Geo
set_option linter.unusedSimpArgs false
set_option linter.unusedVariables false
open Go.Proofs.Ytgefjglbaekegaa.PA

def Sm (a : S37) : Prop := (-1000 ≤ a.f0 ∧ a.f0 ≤ 1000) ∧ (-1000 ≤ a.f1 ∧ a.f1 ≤ 1000)
/-- The order of corners, as one number. -/
def key (a : S37) : Int := 2001 * a.f0 + a.f1
def cr (p q c : S37) : Int := (q.f0 - p.f0) * (c.f1 - p.f1) - (q.f1 - p.f1) * (c.f0 - p.f0)
def lt (a b : S37) : Bool := decide (a.f0 < b.f0) || (decide (a.f0 = b.f0) && decide (a.f1 < b.f1))
theorem lt_iff {a b : S37} (ha : Sm a) (hb : Sm b) : lt a b = true ↔ key a < key b := by
  unfold lt key
  unfold Sm at ha hb
  simp only [Bool.or_eq_true, Bool.and_eq_true, decide_eq_true_eq]
  omega
theorem key_inj {a b : S37} (ha : Sm a) (hb : Sm b) (h : key a = key b) : a = b := by
  unfold key at h
  unfold Sm at ha hb
  cases a; cases b
  simp only [S37.mk.injEq]
  dsimp only at h ha hb
  omega
def sq (a b : S37) : Int := (a.f0 - b.f0) * (a.f0 - b.f0) + (a.f1 - b.f1) * (a.f1 - b.f1)
theorem self_nonneg (a : Int) : 0 ≤ a * a := by
  by_cases h : 0 ≤ a
  · exact Int.mul_nonneg h h
  · have := Int.mul_nonneg (show 0 ≤ -a by omega) (show 0 ≤ -a by omega)
    rwa [Int.neg_mul_neg] at this
theorem sq_nonneg (a b : S37) : 0 ≤ sq a b := by
  have h1 := self_nonneg (a.f0 - b.f0)
  have h2 := self_nonneg (a.f1 - b.f1)
  unfold sq; omega
theorem sq_self (a : S37) : sq a a = 0 := by unfold sq; simp
theorem sq_symm (a b : S37) : sq a b = sq b a := by unfold sq; grind
/-- Two points, one beside the other in a direction whose key is K. -/
structure Al (dx dy K : Int) (u v : S37) : Prop where
  hx : (u.f0 - v.f0) * K = dx * (key u - key v)
  hy : (u.f1 - v.f1) * K = dy * (key u - key v)
theorem Al.of_cr {p q u : S37} (h : cr p q u = 0) : Al (q.f0 - p.f0) (q.f1 - p.f1) (2001 * (q.f0 - p.f0) + (q.f1 - p.f1)) u p := by
  unfold cr at h
  constructor <;> unfold key <;> grind
theorem Al.of_end (p q : S37) : Al (q.f0 - p.f0) (q.f1 - p.f1) (2001 * (q.f0 - p.f0) + (q.f1 - p.f1)) q p := by
  constructor <;> unfold key <;> grind
theorem Al.self (dx dy K : Int) (p : S37) : Al dx dy K p p := by constructor <;> simp
theorem Al.sub {dx dy K : Int} {u v p : S37} (hu : Al dx dy K u p) (hv : Al dx dy K v p) : Al dx dy K u v := by
  obtain ⟨a, b⟩ := hu
  obtain ⟨c, d⟩ := hv
  constructor
  · have e : (u.f0 - v.f0) * K = (u.f0 - p.f0) * K - (v.f0 - p.f0) * K := by grind
    rw [e, a, c]; grind
  · have e : (u.f1 - v.f1) * K = (u.f1 - p.f1) * K - (v.f1 - p.f1) * K := by grind
    rw [e, b, d]; grind
theorem Al.neg {dx dy K : Int} {u v : S37} (h : Al dx dy K u v) : Al (-dx) (-dy) (-K) u v := by
  obtain ⟨a, b⟩ := h
  constructor <;> grind
theorem Al.swap {dx dy K : Int} {u v : S37} (h : Al dx dy K u v) : Al dx dy K v u := by
  obtain ⟨a, b⟩ := h
  constructor <;> grind
/-! signs -/
theorem sg1 {a K d t : Int} (hK : 0 < K) (h : a * K = d * t) (hd : 0 ≤ d) (ht : 0 ≤ t) : 0 ≤ a := by
  by_cases c : 0 ≤ a
  · exact c
  · have h1 := Int.mul_nonneg hd ht
    have h2 := Int.mul_neg_of_neg_of_pos (show a < 0 by omega) hK
    omega
theorem sg2 {a K d t : Int} (hK : 0 < K) (h : a * K = d * t) (hd : d ≤ 0) (ht : 0 ≤ t) : a ≤ 0 := by
  have := sg1 (a := -a) (d := -d) hK (by rw [Int.neg_mul, Int.neg_mul, h]) (by omega) ht
  omega
theorem sg3 {a K d t : Int} (hK : 0 < K) (h : a * K = d * t) (hd : 0 < d) (ht : 0 < t) : 0 < a := by
  by_cases c : 0 < a
  · exact c
  · have h1 := Int.mul_pos hd ht
    have h2 := Int.mul_nonneg (show 0 ≤ -a by omega) (show 0 ≤ K by omega)
    rw [Int.neg_mul] at h2
    omega
theorem sg4 {a K d t : Int} (hK : 0 < K) (h : a * K = d * t) (hd : d < 0) (ht : 0 < t) : a < 0 := by
  have := sg3 (a := -a) (d := -d) hK (by rw [Int.neg_mul, Int.neg_mul, h]) (by omega) ht
  omega
/-! a corner in the box of two others -/
def Box (c u v : S37) : Prop := (min u.f0 v.f0 ≤ c.f0 ∧ c.f0 ≤ max u.f0 v.f0) ∧ (min u.f1 v.f1 ≤ c.f1 ∧ c.f1 ≤ max u.f1 v.f1)
instance (c u v : S37) : Decidable (Box c u v) := by unfold Box; infer_instance
theorem box_swap {c u v : S37} : Box c u v ↔ Box c v u := by unfold Box; omega
theorem box_in {dx dy K : Int} {c u v : S37} (hK : 0 < K) (hcu : Al dx dy K c u) (hvc : Al dx dy K v c) (h1 : key u ≤ key c) (h2 : key c ≤ key v) : Box c u v := by
  have x1 : 0 ≤ key c - key u := by omega
  have x2 : 0 ≤ key v - key c := by omega
  unfold Box
  by_cases dxs : 0 ≤ dx <;> by_cases dys : 0 ≤ dy
  · have := sg1 hK hcu.hx dxs x1; have := sg1 hK hvc.hx dxs x2; have := sg1 hK hcu.hy dys x1; have := sg1 hK hvc.hy dys x2; omega
  · have := sg1 hK hcu.hx dxs x1; have := sg1 hK hvc.hx dxs x2; have := sg2 hK hcu.hy (by omega) x1; have := sg2 hK hvc.hy (by omega) x2; omega
  · have := sg2 hK hcu.hx (by omega) x1; have := sg2 hK hvc.hx (by omega) x2; have := sg1 hK hcu.hy dys x1; have := sg1 hK hvc.hy dys x2; omega
  · have := sg2 hK hcu.hx (by omega) x1; have := sg2 hK hvc.hx (by omega) x2; have := sg2 hK hcu.hy (by omega) x1; have := sg2 hK hvc.hy (by omega) x2; omega
theorem box_out {dx dy K : Int} {c u v : S37} (hK : 0 < K) (hd : K = 2001 * dx + dy) (huc : Al dx dy K u c) (hvc : Al dx dy K v c) (h1 : key c < key u) (h2 : key c < key v) : ¬ Box c u v := by
  have x1 : 0 < key u - key c := by omega
  have x2 : 0 < key v - key c := by omega
  unfold Box
  rcases Int.lt_trichotomy dx 0 with h | h | h
  · have := sg4 hK huc.hx h x1; have := sg4 hK hvc.hx h x2; omega
  · have hy : 0 < dy := by omega
    have := sg3 hK huc.hy hy x1; have := sg3 hK hvc.hy hy x2; omega
  · have := sg3 hK huc.hx h x1; have := sg3 hK hvc.hx h x2; omega
theorem box_out2 {dx dy K : Int} {c u v : S37} (hK : 0 < K) (hd : K = 2001 * dx + dy) (hcu : Al dx dy K c u) (hcv : Al dx dy K c v) (h1 : key u < key c) (h2 : key v < key c) : ¬ Box c u v := by
  have x1 : 0 < key c - key u := by omega
  have x2 : 0 < key c - key v := by omega
  unfold Box
  rcases Int.lt_trichotomy dx 0 with h | h | h
  · have := sg4 hK hcu.hx h x1; have := sg4 hK hcv.hx h x2; omega
  · have hy : 0 < dy := by omega
    have := sg3 hK hcu.hy hy x1; have := sg3 hK hcv.hy hy x2; omega
  · have := sg3 hK hcu.hx h x1; have := sg3 hK hcv.hx h x2; omega
theorem box_iff {dx dy K : Int} {c u v : S37} (hK : 0 < K) (hd : K = 2001 * dx + dy) (hcu : Al dx dy K c u) (hcv : Al dx dy K c v) : Box c u v ↔ min (key u) (key v) ≤ key c ∧ key c ≤ max (key u) (key v) := by
  constructor
  · intro hb
    by_cases a : key c < key u ∧ key c < key v
    · exact absurd hb (box_out hK hd hcu.swap hcv.swap a.1 a.2)
    · by_cases b : key u < key c ∧ key v < key c
      · exact absurd hb (box_out2 hK hd hcu hcv b.1 b.2)
      · omega
  · intro h
    by_cases a : key u ≤ key c ∧ key c ≤ key v
    · exact box_in hK hcu hcv.swap a.1 a.2
    · exact box_swap.2 (box_in hK hcv hcu.swap (by omega) (by omega))
/-! farther along the line is farther -/
theorem sq_key {dx dy K : Int} {u v : S37} (h : Al dx dy K u v) : sq u v * (K * K) = (dx * dx + dy * dy) * ((key u - key v) * (key u - key v)) := by
  obtain ⟨a, b⟩ := h
  have e : sq u v * (K * K) = ((u.f0 - v.f0) * K) * ((u.f0 - v.f0) * K) + ((u.f1 - v.f1) * K) * ((u.f1 - v.f1) * K) := by unfold sq; grind
  rw [e, a, b]; grind
theorem mul_self_le {t s : Int} (h1 : -s ≤ t) (h2 : t ≤ s) : t * t ≤ s * s := by
  have := Int.mul_nonneg (show 0 ≤ s - t by omega) (show 0 ≤ s + t by omega)
  grind
theorem sq_mono {dx dy K : Int} {e f p q : S37} (hK : 0 < K) (h : Al dx dy K e f) (h' : Al dx dy K q p) (h1 : -(key q - key p) ≤ key e - key f) (h2 : key e - key f ≤ key q - key p) : sq e f ≤ sq q p := by
  have a := sq_key h
  have b := sq_key h'
  have c := mul_self_le h1 h2
  have n : 0 ≤ dx * dx + dy * dy := by have := self_nonneg dx; have := self_nonneg dy; omega
  have d := Int.mul_le_mul_of_nonneg_left c n
  rw [← a, ← b] at d
  exact Int.le_of_mul_le_mul_right d (Int.mul_pos hK hK)
/-! what two edges have in common -/
def pick (b : Bool) (u v : S37) : S37 := if b = true then u else v
def com2 (p1 q1 : S37) : Int := if lt p1 q1 = true then sq q1 p1 else 0
def com1 (p0 q0 r0 s0 : S37) : Int := com2 (pick (lt p0 r0) r0 p0) (pick (lt s0 q0) s0 q0)
def com (p q u v : S37) : Int := com1 (pick (lt q p) q p) (pick (lt q p) p q) (pick (lt v u) v u) (pick (lt v u) u v)
def endAt (l : List S37) (c u v : S37) : List S37 := if Box c u v then l ++ [c] else l
def ends (p q u v : S37) : List S37 := endAt (endAt (endAt (endAt [] p u v) q u v) u p q) v p q
theorem mem_endAt {l : List S37} {c u v x : S37} : x ∈ endAt l c u v ↔ x ∈ l ∨ (x = c ∧ Box c u v) := by
  unfold endAt
  split
  · rename_i h; simp [h]
  · rename_i h; simp [h]
theorem mem_ends {p q u v x : S37} : x ∈ ends p q u v ↔ (x = p ∧ Box p u v) ∨ (x = q ∧ Box q u v) ∨ (x = u ∧ Box u p q) ∨ (x = v ∧ Box v p q) := by
  unfold ends
  rw [mem_endAt, mem_endAt, mem_endAt, mem_endAt]
  simp only [List.not_mem_nil, false_or, or_assoc]
theorem pick_key (b : Bool) (u v : S37) : key (pick b u v) = if b = true then key u else key v := by unfold pick; split <;> rfl
theorem pick_cases (b : Bool) (u v : S37) : pick b u v = u ∨ pick b u v = v := by unfold pick; split <;> simp
theorem pick_sm {b : Bool} {u v : S37} (hu : Sm u) (hv : Sm v) : Sm (pick b u v) := by unfold pick; split <;> assumption
theorem pick_lo {u v : S37} (hu : Sm u) (hv : Sm v) : key (pick (lt v u) v u) = min (key u) (key v) := by
  rw [pick_key]
  by_cases c : lt v u = true
  · rw [if_pos c]; have := (lt_iff hv hu).1 c; omega
  · rw [if_neg c]; have : ¬ key v < key u := fun h => c ((lt_iff hv hu).2 h); omega
theorem pick_hi {u v : S37} (hu : Sm u) (hv : Sm v) : key (pick (lt v u) u v) = max (key u) (key v) := by
  rw [pick_key]
  by_cases c : lt v u = true
  · rw [if_pos c]; have := (lt_iff hv hu).1 c; omega
  · rw [if_neg c]; have : ¬ key v < key u := fun h => c ((lt_iff hv hu).2 h); omega
theorem com_is {p q u v : S37} (sp : Sm p) (sq_ : Sm q) (su : Sm u) (sv : Sm v) (hpq : key p ≠ key q) (hu : cr p q u = 0) (hv : cr p q v = 0) :
    0 ≤ com p q u v ∧ (∀ e ∈ ends p q u v, ∀ f ∈ ends p q u v, sq e f ≤ com p q u v) ∧ (com p q u v = 0 ∨ ∃ e ∈ ends p q u v, ∃ f ∈ ends p q u v, e ≠ f ∧ com p q u v = sq e f) := by
  obtain ⟨dx, dy, K, hK, hd, hqp, hup, hvp⟩ : ∃ dx dy K : Int, 0 < K ∧ K = 2001 * dx + dy ∧ Al dx dy K q p ∧ Al dx dy K u p ∧ Al dx dy K v p := by
    have a := Al.of_end p q
    have b := Al.of_cr hu
    have c := Al.of_cr hv
    have e : 2001 * (q.f0 - p.f0) + (q.f1 - p.f1) = key q - key p := by unfold key; omega
    by_cases h : 0 < key q - key p
    · exact ⟨_, _, _, by rw [e]; exact h, rfl, a, b, c⟩
    · exact ⟨_, _, _, by rw [e]; omega, by omega, a.neg, b.neg, c.neg⟩
  have hpp := Al.self dx dy K p
  have four : ∀ x, (x = p ∨ x = q ∨ x = u ∨ x = v) → Al dx dy K x p ∧ Sm x := by
    intro x hx
    rcases hx with rfl | rfl | rfl | rfl
    · exact ⟨hpp, sp⟩
    · exact ⟨hqp, sq_⟩
    · exact ⟨hup, su⟩
    · exact ⟨hvp, sv⟩
  have b1 := box_iff hK hd (hpp.sub hup) (hpp.sub hvp)
  have b2 := box_iff hK hd (hqp.sub hup) (hqp.sub hvp)
  have b3 := box_iff hK hd (hup.sub hpp) (hup.sub hqp)
  have b4 := box_iff hK hd (hvp.sub hpp) (hvp.sub hqp)
  have inE : ∀ x ∈ ends p q u v, (x = p ∨ x = q ∨ x = u ∨ x = v) ∧ max (min (key p) (key q)) (min (key u) (key v)) ≤ key x ∧ key x ≤ min (max (key p) (key q)) (max (key u) (key v)) := by
    intro x hx
    rw [mem_ends, b1, b2, b3, b4] at hx
    rcases hx with ⟨rfl, h⟩ | ⟨rfl, h⟩ | ⟨rfl, h⟩ | ⟨rfl, h⟩
    · exact ⟨Or.inl rfl, by omega⟩
    · exact ⟨Or.inr (Or.inl rfl), by omega⟩
    · exact ⟨Or.inr (Or.inr (Or.inl rfl)), by omega⟩
    · exact ⟨Or.inr (Or.inr (Or.inr rfl)), by omega⟩
  have ofE : ∀ x, (x = p ∨ x = q ∨ x = u ∨ x = v) → max (min (key p) (key q)) (min (key u) (key v)) ≤ key x → key x ≤ min (max (key p) (key q)) (max (key u) (key v)) → x ∈ ends p q u v := by
    intro x hx h1 h2
    rw [mem_ends, b1, b2, b3, b4]
    rcases hx with rfl | rfl | rfl | rfl
    · exact Or.inl ⟨rfl, by omega⟩
    · exact Or.inr (Or.inl ⟨rfl, by omega⟩)
    · exact Or.inr (Or.inr (Or.inl ⟨rfl, by omega⟩))
    · exact Or.inr (Or.inr (Or.inr ⟨rfl, by omega⟩))
  unfold com com1
  have kp0 := pick_lo sp sq_
  have kq0 := pick_hi sp sq_
  have kr0 := pick_lo su sv
  have ks0 := pick_hi su sv
  have cp0 := pick_cases (lt q p) q p
  have cq0 := pick_cases (lt q p) p q
  have cr0 := pick_cases (lt v u) v u
  have cs0 := pick_cases (lt v u) u v
  have mp0 : Sm (pick (lt q p) q p) := pick_sm sq_ sp
  have mq0 : Sm (pick (lt q p) p q) := pick_sm sp sq_
  have mr0 : Sm (pick (lt v u) v u) := pick_sm sv su
  have ms0 : Sm (pick (lt v u) u v) := pick_sm su sv
  generalize pick (lt q p) q p = p0 at *
  generalize pick (lt q p) p q = q0 at *
  generalize pick (lt v u) v u = r0 at *
  generalize pick (lt v u) u v = s0 at *
  have kp1 : key (pick (lt p0 r0) r0 p0) = max (key p0) (key r0) := by
    rw [pick_key]
    by_cases c : lt p0 r0 = true
    · rw [if_pos c]; have := (lt_iff mp0 mr0).1 c; omega
    · rw [if_neg c]; have : ¬ key p0 < key r0 := fun h => c ((lt_iff mp0 mr0).2 h); omega
  have kq1 : key (pick (lt s0 q0) s0 q0) = min (key q0) (key s0) := by
    rw [pick_key]
    by_cases c : lt s0 q0 = true
    · rw [if_pos c]; have := (lt_iff ms0 mq0).1 c; omega
    · rw [if_neg c]; have : ¬ key s0 < key q0 := fun h => c ((lt_iff ms0 mq0).2 h); omega
  have cp1 : pick (lt p0 r0) r0 p0 = p ∨ pick (lt p0 r0) r0 p0 = q ∨ pick (lt p0 r0) r0 p0 = u ∨ pick (lt p0 r0) r0 p0 = v := by
    rcases pick_cases (lt p0 r0) r0 p0 with h | h <;> rw [h]
    · rcases cr0 with h | h <;> rw [h] <;> simp
    · rcases cp0 with h | h <;> rw [h] <;> simp
  have cq1 : pick (lt s0 q0) s0 q0 = p ∨ pick (lt s0 q0) s0 q0 = q ∨ pick (lt s0 q0) s0 q0 = u ∨ pick (lt s0 q0) s0 q0 = v := by
    rcases pick_cases (lt s0 q0) s0 q0 with h | h <;> rw [h]
    · rcases cs0 with h | h <;> rw [h] <;> simp
    · rcases cq0 with h | h <;> rw [h] <;> simp
  have mp1 : Sm (pick (lt p0 r0) r0 p0) := pick_sm mr0 mp0
  have mq1 : Sm (pick (lt s0 q0) s0 q0) := pick_sm ms0 mq0
  generalize pick (lt p0 r0) r0 p0 = p1 at *
  generalize pick (lt s0 q0) s0 q0 = q1 at *
  rw [kp0, kr0] at kp1
  rw [kq0, ks0] at kq1
  unfold com2
  by_cases c : lt p1 q1 = true
  · have hlt := (lt_iff mp1 mq1).1 c
    simp only [if_pos c]
    refine ⟨sq_nonneg _ _, fun e he f hf => ?_, Or.inr ⟨q1, ofE q1 cq1 (by omega) (by omega), p1, ofE p1 cp1 (by omega) (by omega), fun h => by rw [h] at hlt; omega, rfl⟩⟩
    obtain ⟨e1, e2, e3⟩ := inE e he
    obtain ⟨f1, f2, f3⟩ := inE f hf
    exact sq_mono hK ((four e e1).1.sub (four f f1).1) ((four q1 cq1).1.sub (four p1 cp1).1) (by omega) (by omega)
  · have hge : ¬ key p1 < key q1 := fun h => c ((lt_iff mp1 mq1).2 h)
    simp only [if_neg c]
    refine ⟨Int.le_refl _, fun e he f hf => ?_, Or.inl trivial⟩
    obtain ⟨e1, e2, e3⟩ := inE e he
    obtain ⟨f1, f2, f3⟩ := inE f hf
    have : e = f := key_inj (four e e1).2 (four f f1).2 (by omega)
    rw [this, sq_self]; exact Int.le_refl _
/-! what is computed with numbers of 64 bits -/
theorem prod_small {a b : Int} (ha : -2000 ≤ a ∧ a ≤ 2000) (hb : -2000 ≤ b ∧ b ≤ 2000) : -4000000 ≤ a * b ∧ a * b ≤ 4000000 := by
  have h1 := Int.mul_nonneg (show 0 ≤ 2000 - a by omega) (show 0 ≤ 2000 + b by omega)
  have h2 := Int.mul_nonneg (show 0 ≤ 2000 + a by omega) (show 0 ≤ 2000 - b by omega)
  have h3 := Int.mul_nonneg (show 0 ≤ 2000 - a by omega) (show 0 ≤ 2000 - b by omega)
  have h4 := Int.mul_nonneg (show 0 ≤ 2000 + a by omega) (show 0 ≤ 2000 + b by omega)
  constructor <;> grind
theorem sq_small {a b : S37} (ha : Sm a) (hb : Sm b) : sq a b ≤ 8000000 := by
  unfold Sm at ha hb
  have h1 := prod_small (a := a.f0 - b.f0) (b := a.f0 - b.f0) (by omega) (by omega)
  have h2 := prod_small (a := a.f1 - b.f1) (b := a.f1 - b.f1) (by omega) (by omega)
  unfold sq; omega
end Go.Proofs.Ytgefjglbaekegaa.Geo
namespace Go.Proofs.Ytgefjglbaekegaa.HullGeo
set_option linter.unusedSimpArgs false
set_option linter.unusedVariables false
open Go.Proofs.Ytgefjglbaekegaa.PA Go.Proofs.Ytgefjglbaekegaa.Geo

/-! ### signs of products -/
theorem neg_of_mul_neg {A x B y : Int} (hA : 0 < A) (hB : 0 < B) (h : A * x = B * y) : (0 < y → 0 < x) ∧ (y < 0 → x < 0) ∧ (y = 0 → x = 0) := by
  refine ⟨fun hy => ?_, fun hy => ?_, fun hy => ?_⟩
  · have := Int.mul_pos hB hy
    by_cases c : 0 < x
    · exact c
    · have := Int.mul_nonpos_of_nonneg_of_nonpos (Int.le_of_lt hA) (show x ≤ 0 by omega)
      omega
  · have := Int.mul_neg_of_pos_of_neg hB hy
    rw [← h] at this
    by_cases c : x < 0
    · exact c
    · have := Int.mul_nonneg (Int.le_of_lt hA) (show 0 ≤ x by omega)
      omega
  · rw [hy, Int.mul_zero] at h
    rcases Int.mul_eq_zero.1 h with h | h
    · omega
    · exact h
/-- A multiple by no more than one. -/
theorem scal {A B u v : Int} (hB : 0 < B) (hAB : B ≤ A) (h : A * v = B * u) : (0 ≤ u → 0 ≤ v ∧ v ≤ u) ∧ (u ≤ 0 → u ≤ v ∧ v ≤ 0) := by
  have hA : 0 < A := by omega
  obtain ⟨h1, h2, h3⟩ := neg_of_mul_neg hA hB h
  refine ⟨fun hu => ?_, fun hu => ?_⟩
  · have h0 : 0 ≤ v := by
      rcases Int.lt_or_eq_of_le hu with hu | hu
      · have := h1 hu; omega
      · have := h3 hu.symm; omega
    refine ⟨h0, ?_⟩
    by_cases c : v ≤ u
    · exact c
    · have e1 : B * v ≤ A * v := Int.mul_le_mul_of_nonneg_right hAB h0
      have e2 : B * u < B * v := Int.mul_lt_mul_of_pos_left (by omega) hB
      omega
  · have h0 : v ≤ 0 := by
      rcases Int.lt_or_eq_of_le hu with hu | hu
      · have := h2 hu; omega
      · have := h3 hu; omega
    refine ⟨?_, h0⟩
    by_cases c : u ≤ v
    · exact c
    · have e1 : A * v ≤ B * v := Int.mul_le_mul_of_nonpos_right hAB h0
      have e2 : B * v < B * u := Int.mul_lt_mul_of_pos_left (by omega) hB
      omega
/-- How far a corner lies beyond the line through o in the direction (a, b). -/
def off (a b : Int) (o c : S37) : Int := a * (c.f1 - o.f1) - b * (c.f0 - o.f0)
theorem off_plk (a b : Int) (o u v w : S37) : off a b o u * cr o v w = off a b o v * cr o u w - off a b o w * cr o u v := by
  unfold off cr; grind
theorem off_x (a b : Int) (o u v : S37) : off a b o u * (v.f0 - o.f0) = off a b o v * (u.f0 - o.f0) - cr o u v * a := by
  unfold off cr; grind
theorem off_y (a b : Int) (o u v : S37) : off a b o u * (v.f1 - o.f1) = off a b o v * (u.f1 - o.f1) - cr o u v * b := by
  unfold off cr; grind
theorem cr_swap (o u v : S37) : cr o u v = - cr o v u := by unfold cr; grind
theorem cr_self1 (o v : S37) : cr o o v = 0 := by unfold cr; grind
theorem cr_self2 (o v : S37) : cr o v v = 0 := by unfold cr; grind
theorem cr_self3 (o v : S37) : cr o v o = 0 := by unfold cr; grind
theorem cr_cyc (o u v : S37) : cr o u v = cr u v o := by unfold cr; grind
/-- Seen from o, with all on the one side of a line, u comes first and lies behind v or beside it. -/
theorem turn {a b : Int} {o u v w : S37} (hu : 0 < off a b o u) (hv : 0 < off a b o v) (hw : 0 < off a b o w) (h1 : cr o u v ≤ 0) (h2 : 0 ≤ cr o u w) : 0 ≤ cr o v w := by
  have e := off_plk a b o u v w
  have e1 := Int.mul_nonneg (Int.le_of_lt hv) h2
  have e2 := Int.mul_nonneg (Int.le_of_lt hw) (show 0 ≤ - cr o u v by omega)
  rw [Int.mul_neg] at e2
  by_cases c : 0 ≤ cr o v w
  · exact c
  · have := Int.mul_neg_of_pos_of_neg hu (show cr o v w < 0 by omega)
    omega
theorem turn0 {a b : Int} {o u v w : S37} (hu : 0 < off a b o u) (hv : 0 < off a b o v) (hw : 0 < off a b o w) (h1 : cr o u v ≤ 0) (h2 : 0 ≤ cr o u w) (h : cr o v w = 0) : cr o u v = 0 ∧ cr o u w = 0 := by
  have e := off_plk a b o u v w
  have e1 := Int.mul_nonneg (Int.le_of_lt hv) h2
  have e2 := Int.mul_nonneg (Int.le_of_lt hw) (show 0 ≤ - cr o u v by omega)
  rw [Int.mul_neg] at e2
  rw [h, Int.mul_zero] at e
  have f1 : off a b o v * cr o u w = 0 := by omega
  have f2 : off a b o w * cr o u v = 0 := by omega
  rcases Int.mul_eq_zero.1 f1 with g | g
  · omega
  · rcases Int.mul_eq_zero.1 f2 with g' | g'
    · omega
    · exact ⟨g', g⟩
/-- Two in one direction: one of them lies before the other. -/
theorem near {a b : Int} {o u v : S37} (hu : 0 < off a b o u) (hv : 0 < off a b o v) (h : cr o u v = 0) : Box u o v ∨ Box v o u := by
  have ex := off_x a b o u v
  have ey := off_y a b o u v
  rw [h, Int.zero_mul, Int.sub_zero] at ex ey
  by_cases c : off a b o v ≤ off a b o u
  · right
    have sx := scal hv c ex
    have sy := scal hv c ey
    unfold Box
    by_cases x : 0 ≤ u.f0 - o.f0 <;> by_cases y : 0 ≤ u.f1 - o.f1
    · have := sx.1 x; have := sy.1 y; omega
    · have := sx.1 x; have := sy.2 (by omega); omega
    · have := sx.2 (by omega); have := sy.1 y; omega
    · have := sx.2 (by omega); have := sy.2 (by omega); omega
  · left
    have sx := scal hu (by omega) ex.symm
    have sy := scal hu (by omega) ey.symm
    unfold Box
    by_cases x : 0 ≤ v.f0 - o.f0 <;> by_cases y : 0 ≤ v.f1 - o.f1
    · have := sx.1 x; have := sy.1 y; omega
    · have := sx.1 x; have := sy.2 (by omega); omega
    · have := sx.2 (by omega); have := sy.1 y; omega
    · have := sx.2 (by omega); have := sy.2 (by omega); omega
theorem ext {u v : S37} (h : u.f0 = v.f0) (h2 : u.f1 = v.f1) : u = v := by cases u; cases v; simp_all
/-- From o, n has the corners of S to its one side; those in one line lie between. -/
def Sup (o n : S37) (S : List S37) : Prop := ∀ c ∈ S, 0 ≤ cr o n c ∧ (cr o n c = 0 → Box c o n)
def Side (a b : Int) (o : S37) (S : List S37) : Prop := ∀ c ∈ S, c = o ∨ 0 < off a b o c
theorem box_self (o n : S37) : Box o o n := by unfold Box; omega
theorem box_self2 (o n : S37) : Box n o n := by unfold Box; omega
theorem box_trans {c o n m : S37} (h : Box c o n) (h2 : Box n o m) : Box c o m := by
  unfold Box at *; omega
/-- The next corner is another one. -/
theorem sup_new {a b : Int} {o n c : S37} {S : List S37} (hn : 0 < off a b o n) (hc : 0 < off a b o c) (hS : Side a b o S) (h : Sup o n S) (hu : cr o n c < 0 ∨ (cr o n c = 0 ∧ Box n o c)) : Sup o c (S ++ [c]) := by
  intro x hx
  rcases List.mem_append.1 hx with hx | hx
  · obtain ⟨h1, h2⟩ := h x hx
    rcases hS x hx with rfl | hox
    · rw [cr_self3]; exact ⟨Int.le_refl _, fun _ => box_self _ _⟩
    · refine ⟨turn hn hc hox (by omega) h1, fun e => ?_⟩
      obtain ⟨g1, g2⟩ := turn0 hn hc hox (by omega) h1 e
      rcases hu with hu | hu
      · omega
      · exact box_trans (h2 g2) hu.2
  · rw [List.mem_singleton] at hx
    subst hx
    rw [cr_self2]; exact ⟨Int.le_refl _, fun _ => box_self2 _ _⟩
/-- The next corner stays. -/
theorem sup_old {a b : Int} {o n c : S37} {S : List S37} (hn : 0 < off a b o n) (hc : c = o ∨ 0 < off a b o c) (h : Sup o n S) (hu : c = o ∨ ¬ (cr o n c < 0 ∨ (cr o n c = 0 ∧ Box n o c))) : Sup o n (S ++ [c]) := by
  intro x hx
  rcases List.mem_append.1 hx with hx | hx
  · exact h x hx
  · rw [List.mem_singleton] at hx
    subst hx
    rcases hc with rfl | hc
    · rw [cr_self3]; exact ⟨Int.le_refl _, fun _ => box_self _ _⟩
    · have hu : ¬ (cr o n x < 0 ∨ (cr o n x = 0 ∧ Box n o x)) := by
        rcases hu with rfl | hu
        · exfalso; unfold off at hc; rw [Int.sub_self, Int.sub_self, Int.mul_zero, Int.mul_zero] at hc; omega
        · exact hu
      refine ⟨by omega, fun e => ?_⟩
      rcases near hn hc e with g | g
      · exact absurd (Or.inr ⟨e, g⟩) hu
      · exact g
/-- What is told of an edge. -/
structure Edg (o n : S37) (S : List S37) : Prop where
  ne : n ≠ o
  mem : n ∈ S
  sup : Sup o n S
theorem prod_le {a b A B : Int} (h1 : -A ≤ a) (h2 : a ≤ A) (h3 : -B ≤ b) (h4 : b ≤ B) (hA : 0 ≤ A) (hB : 0 ≤ B) : -(A * B) ≤ a * b ∧ a * b ≤ A * B := by
  have k1 := Int.mul_nonneg (show 0 ≤ A - a by omega) (show 0 ≤ B - b by omega)
  have k2 := Int.mul_nonneg (show 0 ≤ A + a by omega) (show 0 ≤ B + b by omega)
  have k3 := Int.mul_nonneg (show 0 ≤ A - a by omega) (show 0 ≤ B + b by omega)
  have k4 := Int.mul_nonneg (show 0 ≤ A + a by omega) (show 0 ≤ B - b by omega)
  have e1 : (A - a) * (B - b) = A * B - A * b - a * B + a * b := by grind
  have e2 : (A + a) * (B + b) = A * B + A * b + a * B + a * b := by grind
  have e3 : (A - a) * (B + b) = A * B + A * b - a * B - a * b := by grind
  have e4 : (A + a) * (B - b) = A * B - A * b + a * B - a * b := by grind
  rw [e1] at k1; rw [e2] at k2; rw [e3] at k3; rw [e4] at k4
  omega
/-- Behind an edge all corners lie on the one side of a line through its end. -/
theorem side_next {o n : S37} {S : List S37} (ho : Sm o) (hS : ∀ c ∈ S, Sm c) (h : Edg o n S) : ∃ a b, Side a b n S := by
  have hn := hS n h.mem
  refine ⟨10000000 * (n.f0 - o.f0) - (n.f1 - o.f1), 10000000 * (n.f1 - o.f1) + (n.f0 - o.f0), fun c hc => ?_⟩
  by_cases e : c = n
  · exact Or.inl e
  · right
    have hsc := hS c hc
    obtain ⟨h1, h2⟩ := h.sup c hc
    have id : off (10000000 * (n.f0 - o.f0) - (n.f1 - o.f1)) (10000000 * (n.f1 - o.f1) + (n.f0 - o.f0)) n c = 10000000 * cr o n c - ((n.f0 - o.f0) * (c.f0 - n.f0) + (n.f1 - o.f1) * (c.f1 - n.f1)) := by unfold off cr; grind
    rw [id]
    unfold Sm at ho hn hsc
    have p1 := prod_le (a := n.f0 - o.f0) (b := c.f0 - n.f0) (A := 2000) (B := 2000) (by omega) (by omega) (by omega) (by omega) (by omega) (by omega)
    have p2 := prod_le (a := n.f1 - o.f1) (b := c.f1 - n.f1) (A := 2000) (B := 2000) (by omega) (by omega) (by omega) (by omega) (by omega) (by omega)
    by_cases z : cr o n c = 0
    · have hb := h2 z
      rw [z, Int.mul_zero, Int.zero_sub]
      unfold Box at hb
      have q : ∀ a b : Int, (0 < a → b ≤ 0) → (a < 0 → 0 ≤ b) → a * b ≤ 0 := by
        intro a b g1 g2
        rcases Int.lt_trichotomy a 0 with g | g | g
        · exact Int.mul_nonpos_of_nonpos_of_nonneg (by omega) (g2 g)
        · rw [g, Int.zero_mul]; exact Int.le_refl _
        · exact Int.mul_nonpos_of_nonneg_of_nonpos (by omega) (g1 g)
      have q2 : ∀ a b : Int, b ≠ 0 → (0 < a → b ≤ 0) → (a < 0 → 0 ≤ b) → (a = 0 → b = 0) → a * b < 0 := by
        intro a b g0 g1 g2 g3
        rcases Int.lt_trichotomy a 0 with g | g | g
        · exact Int.mul_neg_of_neg_of_pos g (by have := g2 g; omega)
        · exact absurd (g3 g) g0
        · exact Int.mul_neg_of_pos_of_neg g (by have := g1 g; omega)
      by_cases ex : c.f0 = n.f0
      · have ey : c.f1 ≠ n.f1 := fun ey => e (ext ex ey)
        have := q (n.f0 - o.f0) (c.f0 - n.f0) (by omega) (by omega)
        have := q2 (n.f1 - o.f1) (c.f1 - n.f1) (by omega) (by omega) (by omega) (by omega)
        omega
      · have := q2 (n.f0 - o.f0) (c.f0 - n.f0) (by omega) (by omega) (by omega) (by omega)
        have := q (n.f1 - o.f1) (c.f1 - n.f1) (by omega) (by omega)
        omega
    · have : 1 ≤ cr o n c := by omega
      omega
/-- At the least corner, too. -/
theorem side_first {o : S37} {S : List S37} (hk : ∀ c ∈ S, c = o ∨ key o < key c) : Side 1 (-2001) o S := by
  intro c hc
  rcases hk c hc with h | h
  · exact Or.inl h
  · right
    unfold off; unfold key at h; omega
/-- No two edges end in one corner. -/
theorem edge_inj {u v w : S37} {S : List S37} (hu : u ∈ S) (hv : v ∈ S) (h1 : Edg u w S) (h2 : Edg v w S) : u = v := by
  obtain ⟨a1, a2⟩ := h1.sup v hv
  obtain ⟨b1, b2⟩ := h2.sup u hu
  have e : cr u w v = - cr v w u := by unfold cr; grind
  have z1 : cr u w v = 0 := by omega
  have z2 : cr v w u = 0 := by omega
  have c1 := a2 z1
  have c2 := b2 z2
  unfold Box at c1 c2
  exact ext (by omega) (by omega)
/-- One edge begins in a corner. -/
theorem edge_fun {u v w : S37} {S : List S37} {a b : Int} (hs : Side a b u S) (h1 : Edg u v S) (h2 : Edg u w S) : v = w := by
  obtain ⟨a1, a2⟩ := h1.sup w h2.mem
  obtain ⟨b1, b2⟩ := h2.sup v h1.mem
  have e : cr u w v = - cr u v w := cr_swap _ _ _
  have c1 := a2 (by omega)
  have c2 := b2 (by omega)
  unfold Box at c1 c2
  exact ext (by omega) (by omega)
/-- No corner at which an edge begins lies within another edge. -/
theorem edge_corner {o n v b : S37} {S : List S37} (ho : o ∈ S) (hn : n ∈ S) (h : Edg o n S) (hv : v ∈ S) (h2 : Edg v b S) (e1 : v ≠ o) (e2 : v ≠ n) : 0 < cr o n v := by
  obtain ⟨a1, a2⟩ := h.sup v hv
  by_cases z : cr o n v = 0
  · exfalso
    have hb := a2 z
    obtain ⟨p1, p2⟩ := h2.sup o ho
    obtain ⟨q1, q2⟩ := h2.sup n hn
    have idx : cr v b o * (n.f0 - v.f0) = cr v b n * (o.f0 - v.f0) - cr o n v * (b.f0 - v.f0) := by unfold cr; grind
    have idy : cr v b o * (n.f1 - v.f1) = cr v b n * (o.f1 - v.f1) - cr o n v * (b.f1 - v.f1) := by unfold cr; grind
    rw [z, Int.zero_mul, Int.sub_zero] at idx idy
    unfold Box at hb
    -- both lie on the line of the second edge
    have opp : ∀ G1 G2 x y : Int, 0 < G1 → 0 ≤ G2 → G1 * x = G2 * y → (0 < x → y ≤ 0) → (x < 0 → 0 ≤ y) → x = 0 := by
      intro G1 G2 x y g1 g2 g g3 g4
      rcases Int.lt_trichotomy x 0 with c | c | c
      · have := Int.mul_neg_of_pos_of_neg g1 c
        have := Int.mul_nonneg g2 (g4 c)
        omega
      · exact c
      · have := Int.mul_pos g1 c
        have := Int.mul_nonpos_of_nonneg_of_nonpos g2 (g3 c)
        omega
    have z1 : cr v b o = 0 := by
      by_cases c : cr v b o = 0
      · exact c
      · have x := opp _ _ _ _ (by omega) q1 idx (by omega) (by omega)
        have y := opp _ _ _ _ (by omega) q1 idy (by omega) (by omega)
        exact absurd (ext (by omega) (by omega)) e2
    have z2 : cr v b n = 0 := by
      by_cases c : cr v b n = 0
      · exact c
      · have x := opp _ _ _ _ (by omega) p1 idx.symm (by omega) (by omega)
        have y := opp _ _ _ _ (by omega) p1 idy.symm (by omega) (by omega)
        exact absurd (ext (by omega) (by omega)) e1
    have c1 := p2 z1
    have c2 := q2 z2
    unfold Box at c1 c2
    have ne1 : ¬ (v.f0 = o.f0 ∧ v.f1 = o.f1) := fun g => e1 (ext g.1 g.2)
    have ne2 : ¬ (v.f0 = n.f0 ∧ v.f1 = n.f1) := fun g => e2 (ext g.1 g.2)
    have nb : ¬ (b.f0 = v.f0 ∧ b.f1 = v.f1) := fun g => h2.ne (ext g.1 g.2)
    rw [z] at a1
    -- a coordinate that differs
    have X : o.f0 = v.f0 ∧ n.f0 = v.f0 ∨ (o.f0 = v.f0 ∧ n.f0 ≠ v.f0) ∨ (o.f0 ≠ v.f0 ∧ n.f0 = v.f0) := by omega
    have Y : o.f1 = v.f1 ∧ n.f1 = v.f1 ∨ (o.f1 = v.f1 ∧ n.f1 ≠ v.f1) ∨ (o.f1 ≠ v.f1 ∧ n.f1 = v.f1) := by omega
    unfold cr at z
    rcases X with X | X | X <;> rcases Y with Y | Y | Y <;> first
      | omega
      | (simp only [X.1, X.2, Y.1, Y.2] at *; omega)
      | skip
    all_goals
      exfalso
      have zz : (n.f0 - o.f0) * (v.f1 - o.f1) = (n.f1 - o.f1) * (v.f0 - o.f0) := by omega
      first
        | (rw [X.1, Y.2, Int.sub_self, Int.mul_zero] at zz
           rcases Int.mul_eq_zero.1 zz with g | g <;> omega)
        | (rw [Y.1, X.2, Int.sub_self, Int.mul_zero] at zz
           rcases Int.mul_eq_zero.1 zz.symm with g | g <;> omega)
  · omega
end Go.Proofs.Ytgefjglbaekegaa.HullGeo
namespace Go.Proofs.Ytgefjglbaekegaa.HullWrap
set_option linter.unusedSimpArgs false
set_option linter.unusedVariables false
open Go.Proofs.Ytgefjglbaekegaa.PA Go.Proofs.Ytgefjglbaekegaa.Geo Go.Proofs.Ytgefjglbaekegaa.HullGeo

instance : DecidableEq S37 := fun a b => decidable_of_iff (a.f0 = b.f0 ∧ a.f1 = b.f1) ⟨fun h => ext h.1 h.2, fun h => h ▸ ⟨rfl, rfl⟩⟩
def better (o n c : S37) : Prop := n = o ∨ cr o n c < 0 ∨ (cr o n c = 0 ∧ Box n o c)
instance (o n c : S37) : Decidable (better o n c) := by unfold better; infer_instance
def upd (o c n : S37) : S37 := if c = o then n else if better o n c then c else n
/-- The corner that comes next behind o. -/
def nxt (l : List S37) (o : S37) : S37 := l.foldl (fun n c => upd o c n) o
def ScanI (o n : S37) (S : List S37) : Prop := (n = o ∧ ∀ c ∈ S, c = o) ∨ Edg o n S
theorem scan_step {a b : Int} {o n c : S37} {S : List S37} (hs : Side a b o (S ++ [c])) (h : ScanI o n S) : ScanI o (upd o c n) (S ++ [c]) := by
  have hsS : Side a b o S := fun x hx => hs x (List.mem_append_left _ hx)
  have hsc := hs c (List.mem_append_right _ List.mem_cons_self)
  unfold upd
  by_cases e : c = o
  · rw [if_pos e]
    rcases h with h | h
    · left
      refine ⟨h.1, fun x hx => ?_⟩
      rcases List.mem_append.1 hx with hx | hx
      · exact h.2 x hx
      · rw [List.mem_singleton] at hx; rw [hx, e]
    · right
      have hn : 0 < off a b o n := by
        rcases hsS n h.mem with q | q
        · exact absurd q h.ne
        · exact q
      exact ⟨h.ne, List.mem_append_left _ h.mem, sup_old hn hsc h.sup (Or.inl e)⟩
  · rw [if_neg e]
    have hoc : 0 < off a b o c := by
      rcases hsc with q | q
      · exact absurd q e
      · exact q
    rcases h with h | h
    · rw [if_pos (show better o n c from Or.inl h.1)]
      right
      refine ⟨e, List.mem_append_right _ List.mem_cons_self, fun x hx => ?_⟩
      rcases List.mem_append.1 hx with hx | hx
      · rw [h.2 x hx, cr_self3]; exact ⟨Int.le_refl _, fun _ => box_self _ _⟩
      · rw [List.mem_singleton] at hx
        rw [hx, cr_self2]; exact ⟨Int.le_refl _, fun _ => box_self2 _ _⟩
    · have hn : 0 < off a b o n := by
        rcases hsS n h.mem with q | q
        · exact absurd q h.ne
        · exact q
      right
      by_cases q : better o n c
      · rw [if_pos q]
        rcases q with q | q
        · exact absurd q h.ne
        · exact ⟨e, List.mem_append_right _ List.mem_cons_self, sup_new hn hoc hsS h.sup q⟩
      · rw [if_neg q]
        exact ⟨h.ne, List.mem_append_left _ h.mem, sup_old hn hsc h.sup (Or.inr (fun g => q (Or.inr g)))⟩
theorem scan_all {a b : Int} {o : S37} : ∀ (T S : List S37) (n : S37), Side a b o (S ++ T) → ScanI o n S → ScanI o (T.foldl (fun n c => upd o c n) n) (S ++ T)
  | [], S, n, hs, h => by rw [List.append_nil]; exact h
  | c :: T, S, n, hs, h => by
    have e : S ++ c :: T = (S ++ [c]) ++ T := by simp
    rw [e] at hs ⊢
    exact scan_all T (S ++ [c]) _ hs (scan_step (fun x hx => hs x (List.mem_append_left _ hx)) h)
theorem nxt_is {a b : Int} {o : S37} {l : List S37} (hs : Side a b o l) : (nxt l o = o ∧ ∀ c ∈ l, c = o) ∨ Edg o (nxt l o) l := by
  have := scan_all (a := a) (b := b) (o := o) l [] o (by simpa using hs) (Or.inl ⟨rfl, by simp⟩)
  rw [List.nil_append] at this
  exact this
def at_ (l : List S37) (i : Nat) : S37 := l.getD i z37
theorem at_get {l : List S37} {i : Nat} (h : i < l.length) : at_ l i = l[i] := by
  unfold at_
  rw [List.getD_eq_getElem?_getD, List.getElem?_eq_getElem h]; rfl
theorem at_mem {l : List S37} {i : Nat} (h : i < l.length) : at_ l i ∈ l := by rw [at_get h]; exact List.getElem_mem h
theorem at_snoc {l : List S37} {x : S37} : at_ (l ++ [x]) l.length = x := by
  unfold at_
  rw [List.getD_eq_getElem?_getD, List.getElem?_append_right (Nat.le_refl _), Nat.sub_self]; rfl
theorem at_left {l m : List S37} {i : Nat} (h : i < l.length) : at_ (l ++ m) i = at_ l i := by
  unfold at_
  rw [List.getD_eq_getElem?_getD, List.getD_eq_getElem?_getD, List.getElem?_append_left h]
/-- The round, from a corner on. -/
def wrapL (l : List S37) (first : S37) : Nat → S37 → List S37 → List S37
  | 0, _, out => out
  | d + 1, now, out => if nxt l now = first then out ++ [now] else wrapL l first d (nxt l now) (out ++ [now])
/-- What has been passed so far. -/
structure Pth (l : List S37) (first : S37) (vs : List S37) : Prop where
  pos : 0 < vs.length
  hd : at_ vs 0 = first
  nd : vs.Nodup
  mem : ∀ x ∈ vs, x ∈ l
  edge : ∀ i, i + 1 < vs.length → Edg (at_ vs i) (at_ vs (i + 1)) l
structure Hul (l : List S37) (first : S37) (vs : List S37) : Prop where
  path : Pth l first vs
  last : Edg (at_ vs (vs.length - 1)) first l
theorem nodup_le {l : List S37} : ∀ {vs : List S37}, vs.Nodup → (∀ x ∈ vs, x ∈ l) → vs.length ≤ l.length := by
  intro vs
  induction vs generalizing l with
  | nil => intro _ _; exact Nat.zero_le _
  | cons v vs ih =>
    intro hn hm
    rw [List.nodup_cons] at hn
    have h1 := ih (l := l.erase v) hn.2 (fun x hx => (List.mem_erase_of_ne (fun (e : x = v) => hn.1 (by rw [← e]; exact hx))).2 (hm x (List.mem_cons_of_mem _ hx)))
    have h2 := hm v List.mem_cons_self
    have h3 := List.length_erase_of_mem h2
    have h4 := List.length_pos_of_mem h2
    rw [List.length_cons]; omega
theorem at_inj {vs : List S37} (hn : vs.Nodup) {i j : Nat} (hi : i < vs.length) (hj : j < vs.length) (h : at_ vs i = at_ vs j) : i = j := by
  rw [at_get hi, at_get hj] at h
  exact (List.getElem_inj hn).1 h
theorem side_at {l : List S37} {first : S37} (hS : ∀ c ∈ l, Sm c) (hk : ∀ c ∈ l, c = first ∨ key first < key c) {vs : List S37} (h : Pth l first vs) : ∀ i, i < vs.length → ∃ a b, Side a b (at_ vs i) l
  | 0, hi => by rw [h.hd]; exact ⟨_, _, side_first hk⟩
  | i + 1, hi => side_next (hS _ (h.mem _ (at_mem (by omega)))) hS (h.edge i hi)
theorem path_snoc {l : List S37} {first n : S37} {vs : List S37} (h : Pth l first vs) (he : Edg (at_ vs (vs.length - 1)) n l) (hf : n ≠ first) : Pth l first (vs ++ [n]) := by
  have hp := h.pos
  have hnew : n ∉ vs := by
    intro hm
    obtain ⟨j, hj, e⟩ := List.getElem_of_mem hm
    rw [← at_get hj] at e
    cases j with
    | zero => exact hf (by rw [← e, h.hd])
    | succ j =>
      have h1 := h.edge j hj
      rw [e] at h1
      have h2 := edge_inj (h.mem _ (at_mem (by omega))) (h.mem _ (at_mem (by omega))) h1 he
      have := at_inj h.nd (by omega) (by omega) h2
      omega
  refine ⟨by simp, by rw [at_left hp]; exact h.hd, ?_, fun x hx => ?_, fun i hi => ?_⟩
  · rw [List.nodup_append]
    refine ⟨h.nd, by simp, fun a ha b hb => ?_⟩
    rw [List.mem_singleton] at hb
    rw [hb]; exact fun e => hnew (e ▸ ha)
  · rcases List.mem_append.1 hx with hx | hx
    · exact h.mem x hx
    · rw [List.mem_singleton] at hx
      rw [hx]; exact he.mem
  · rw [List.length_append, List.length_singleton] at hi
    by_cases e : i + 1 < vs.length
    · rw [at_left e, at_left (by omega)]; exact h.edge i e
    · have e2 : i + 1 = vs.length := by omega
      rw [e2, at_snoc, at_left (by omega)]
      have e3 : i = vs.length - 1 := by omega
      rw [e3]; exact he
theorem wrap_is {l : List S37} {first : S37} (hS : ∀ c ∈ l, Sm c) (hk : ∀ c ∈ l, c = first ∨ key first < key c) (hm : ∃ c ∈ l, c ≠ first) : ∀ (d : Nat) (now : S37) (out : List S37), out.length + d = l.length → Pth l first (out ++ [now]) → Hul l first (wrapL l first d now out)
  | 0, now, out, h, hp => by
    have := nodup_le hp.nd hp.mem
    rw [List.length_append, List.length_singleton] at this
    omega
  | d + 1, now, out, h, hp => by
    obtain ⟨a, b, hs⟩ := side_at hS hk hp out.length (by simp)
    rw [at_snoc] at hs
    have hlast : at_ (out ++ [now]) ((out ++ [now]).length - 1) = now := by
      rw [List.length_append, List.length_singleton, Nat.add_sub_cancel, at_snoc]
    have he : Edg now (nxt l now) l := by
      rcases nxt_is hs with q | q
      · exfalso
        obtain ⟨c, hc, hne⟩ := hm
        have hf : first ∈ l := by rw [← hp.hd]; exact hp.mem _ (at_mem hp.pos)
        exact hne ((q.2 c hc).trans (q.2 first hf).symm)
      · exact q
    rw [wrapL]
    by_cases e : nxt l now = first
    · rw [if_pos e]
      exact ⟨hp, by rw [hlast, ← e]; exact he⟩
    · rw [if_neg e]
      exact wrap_is hS hk hm d _ _ (by rw [List.length_append, List.length_singleton]; omega) (path_snoc hp (by rw [hlast]; exact he) e)
/-- The least corner of a list. -/
def leastFrom (c : S37) (l : List S37) : S37 := l.foldl (fun m c => if lt c m = true then c else m) c
theorem least_is : ∀ (l : List S37) (c : S37), Sm c → (∀ x ∈ l, Sm x) → (leastFrom c l = c ∨ leastFrom c l ∈ l) ∧ (key (leastFrom c l) ≤ key c) ∧ ∀ x ∈ l, key (leastFrom c l) ≤ key x
  | [], c, hc, hl => ⟨Or.inl rfl, Int.le_refl _, fun x hx => by cases hx⟩
  | y :: l, c, hc, hl => by
    have hy := hl y List.mem_cons_self
    have hl' : ∀ x ∈ l, Sm x := fun x hx => hl x (List.mem_cons_of_mem _ hx)
    show (leastFrom (if lt y c = true then y else c) l = c ∨ leastFrom (if lt y c = true then y else c) l ∈ y :: l) ∧ (key (leastFrom (if lt y c = true then y else c) l) ≤ key c) ∧ ∀ x ∈ y :: l, key (leastFrom (if lt y c = true then y else c) l) ≤ key x
    by_cases e : lt y c = true
    · rw [if_pos e]
      obtain ⟨h1, h2, h3⟩ := least_is l y hy hl'
      have := (lt_iff hy hc).1 e
      refine ⟨Or.inr ?_, by omega, fun x hx => ?_⟩
      · rcases h1 with h1 | h1
        · rw [h1]; exact List.mem_cons_self
        · exact List.mem_cons_of_mem _ h1
      · rcases List.mem_cons.1 hx with rfl | hx
        · exact h2
        · exact h3 x hx
    · rw [if_neg e]
      obtain ⟨h1, h2, h3⟩ := least_is l c hc hl'
      have : ¬ key y < key c := fun g => e ((lt_iff hy hc).2 g)
      refine ⟨?_, h2, fun x hx => ?_⟩
      · rcases h1 with h1 | h1
        · exact Or.inl h1
        · exact Or.inr (List.mem_cons_of_mem _ h1)
      · rcases List.mem_cons.1 hx with rfl | hx
        · omega
        · exact h3 x hx
def first : List S37 → S37
  | [] => z37
  | c :: l => leastFrom c l
theorem first_is {l : List S37} (hS : ∀ c ∈ l, Sm c) (hne : l ≠ []) : first l ∈ l ∧ ∀ c ∈ l, c = first l ∨ key (first l) < key c := by
  cases l with
  | nil => exact absurd rfl hne
  | cons c l =>
    obtain ⟨h1, h2, h3⟩ := least_is l c (hS c List.mem_cons_self) (fun x hx => hS x (List.mem_cons_of_mem _ hx))
    have hm : leastFrom c l ∈ c :: l := by
      rcases h1 with h1 | h1
      · rw [h1]; exact List.mem_cons_self
      · exact List.mem_cons_of_mem _ h1
    refine ⟨hm, fun x hx => ?_⟩
    show x = leastFrom c l ∨ key (leastFrom c l) < key x
    have hle : key (leastFrom c l) ≤ key x := by
      rcases List.mem_cons.1 hx with rfl | hx
      · exact h2
      · exact h3 x hx
    by_cases e : key (leastFrom c l) < key x
    · exact Or.inr e
    · exact Or.inl (key_inj (hS x hx) (hS _ hm) (by omega))
/-- The corners round a list. -/
def round (l : List S37) : List S37 := wrapL l (first l) l.length (first l) []
theorem round_is {l : List S37} (hS : ∀ c ∈ l, Sm c) (hne : l ≠ []) (hm : ∃ c ∈ l, c ≠ first l) : Hul l (first l) (round l) := by
  obtain ⟨h1, h2⟩ := first_is hS hne
  refine wrap_is hS h2 hm l.length (first l) [] (by simp) ⟨by simp, rfl, by simp, fun x hx => ?_, fun i hi => ?_⟩
  · rw [List.nil_append, List.mem_singleton] at hx
    rw [hx]; exact h1
  · simp at hi
theorem round_one {l : List S37} (hS : ∀ c ∈ l, Sm c) (hne : l ≠ []) (hm : ¬ ∃ c ∈ l, c ≠ first l) : round l = [first l] := by
  obtain ⟨h1, h2⟩ := first_is hS hne
  have hs : Side 1 (-2001) (first l) l := side_first h2
  have hx : nxt l (first l) = first l := by
    rcases nxt_is hs with q | q
    · exact q.1
    · exact absurd ⟨_, q.mem, q.ne⟩ hm
  unfold round
  obtain ⟨n, hn⟩ : ∃ n, l.length = n + 1 := ⟨l.length - 1, by have := List.length_pos_iff.2 hne; omega⟩
  rw [hn, wrapL, if_pos hx]; rfl
/-- Each corner, and the one behind it. -/
theorem Hul.edge_at {l : List S37} {first : S37} {vs : List S37} (h : Hul l first vs) {i : Nat} (hi : i < vs.length) : Edg (at_ vs i) (at_ vs ((i + 1) % vs.length)) l := by
  by_cases e : i + 1 < vs.length
  · rw [Nat.mod_eq_of_lt e]; exact h.path.edge i e
  · have e2 : i = vs.length - 1 := by omega
    have e3 : i + 1 = vs.length := by omega
    rw [e3, Nat.mod_self, h.path.hd, e2]; exact h.last
theorem Hul.convex {l : List S37} {first : S37} {vs : List S37} (h : Hul l first vs) {i j : Nat} (hi : i < vs.length) (hj : j < vs.length) (h1 : j ≠ i) (h2 : j ≠ (i + 1) % vs.length) : 0 < cr (at_ vs i) (at_ vs ((i + 1) % vs.length)) (at_ vs j) := by
  have hn : (i + 1) % vs.length < vs.length := Nat.mod_lt _ (by omega)
  exact edge_corner (h.path.mem _ (at_mem hi)) (h.path.mem _ (at_mem hn)) (h.edge_at hi) (h.path.mem _ (at_mem hj)) (h.edge_at hj) (fun e => h1 (at_inj h.path.nd hj hi e)) (fun e => h2 (at_inj h.path.nd hj hn e))
end Go.Proofs.Ytgefjglbaekegaa.HullWrap
namespace Go.Proofs.Ytgefjglbaekegaa.ChainGeo
set_option linter.unusedSimpArgs false
set_option linter.unusedVariables false
open Go.Proofs.Ytgefjglbaekegaa.PA Go.Proofs.Ytgefjglbaekegaa.Geo Go.Proofs.Ytgefjglbaekegaa.HullGeo Go.Proofs.Ytgefjglbaekegaa.HullWrap

/-- The pile, the last one first. -/
def pop (c : S37) : List S37 → List S37
  | b :: a :: st => if cr a b c ≤ 0 then pop c (a :: st) else b :: a :: st
  | st => st
def push (st : List S37) (c : S37) : List S37 := c :: pop c st
/-- All corners of S come before c, in the direction (x, y). -/
def Before (x y : Int) (S : List S37) (c : S37) : Prop := ∀ q ∈ S, 0 < off x y q c
def Sorted (x y : Int) : List S37 → Prop
  | [] => True
  | c :: T => (∀ q ∈ T, 0 < off x y c q) ∧ Sorted x y T
theorem off_add (x y : Int) (o m c : S37) : off x y o c = off x y o m + off x y m c := by unfold off; grind
theorem off_self (x y : Int) (o : S37) : off x y o o = 0 := by unfold off; grind
theorem off_neg (x y : Int) (o c : S37) : off x y o c = - off x y c o := by unfold off; grind
/-- Two in one direction: the nearer one lies between. -/
theorem near_le {a b : Int} {o u v : S37} (hu : 0 < off a b o u) (h : cr o u v = 0) (hle : off a b o u ≤ off a b o v) : Box u o v := by
  have ex := off_x a b o u v
  have ey := off_y a b o u v
  rw [h, Int.zero_mul, Int.sub_zero] at ex ey
  have sx := scal hu hle ex.symm
  have sy := scal hu hle ey.symm
  unfold Box
  by_cases x : 0 ≤ v.f0 - o.f0 <;> by_cases y : 0 ≤ v.f1 - o.f1
  · have := sx.1 x; have := sy.1 y; omega
  · have := sx.1 x; have := sy.2 (by omega); omega
  · have := sx.2 (by omega); have := sy.1 y; omega
  · have := sx.2 (by omega); have := sy.2 (by omega); omega
/-- A pile over S: from each to the one above it an edge; all turn left. -/
def Pile (x y : Int) (S : List S37) : List S37 → Prop
  | [] => False
  | [b] => b ∈ S ∧ ∀ q ∈ S, q = b ∨ 0 < off x y b q
  | b :: a :: st => Edg a b S ∧ 0 < off x y a b ∧ (∀ a' st', st = a' :: st' → 0 < cr a' a b) ∧ Pile x y S (a :: st)
theorem pile_mem {x y : Int} {S : List S37} : ∀ {st : List S37}, Pile x y S st → ∀ q ∈ st, q ∈ S
  | [], h, q, hq => by cases hq
  | [b], h, q, hq => by rw [List.mem_singleton] at hq; rw [hq]; exact h.1
  | b :: a :: st, h, q, hq => by
    rcases List.mem_cons.1 hq with rfl | hq
    · exact h.1.mem
    · exact pile_mem h.2.2.2 q hq
theorem id1 (x y : Int) (a' a b c : S37) : off x y a b * (cr a' a c - cr a' a b) = off x y a' a * cr a b c + off x y b c * cr a' a b := by unfold off cr; grind
theorem id2 (x y : Int) (a b c q : S37) : off x y a b * cr b c q = off x y q b * cr a b c + off x y b c * cr a b q := by unfold off cr; grind
theorem pos_of {F z r : Int} (hF : 0 < F) (h : F * z = r) (hr : 0 < r) : 0 < z := by
  by_cases c : 0 < z
  · exact c
  · have := Int.mul_nonpos_of_nonneg_of_nonpos (Int.le_of_lt hF) (show z ≤ 0 by omega)
    omega
/-- Those that stay see c on their left. -/
theorem stay {x y : Int} {S : List S37} {c : S37} (hc : Before x y S c) : ∀ {st : List S37}, Pile x y S st → (∀ b a t, st = b :: a :: t → 0 < cr a b c) → Pile x y (S ++ [c]) st
  | [], h, _ => h
  | [b], h, _ => by
    refine ⟨List.mem_append_left _ h.1, fun q hq => ?_⟩
    rcases List.mem_append.1 hq with hq | hq
    · exact h.2 q hq
    · rw [List.mem_singleton] at hq
      rw [hq]; exact Or.inr (hc b h.1)
  | b :: a :: st, h, ht => by
    obtain ⟨h1, h2, h3, h4⟩ := h
    have hcr := ht b a st rfl
    refine ⟨⟨h1.ne, List.mem_append_left _ h1.mem, fun q hq => ?_⟩, h2, h3, ?_⟩
    · rcases List.mem_append.1 hq with hq | hq
      · exact h1.sup q hq
      · rw [List.mem_singleton] at hq
        rw [hq]; exact ⟨by omega, fun e => by omega⟩
    · refine stay hc h4 (fun b' a' t e => ?_)
      obtain ⟨e1, e2⟩ := List.cons.inj e
      subst e1
      have h3' := h3 a' t e2
      have hbS := h1.mem
      have haa : 0 < off x y a' a := by
        rw [e2] at h4
        exact h4.2.1
      have hbc := hc b hbS
      have id := id1 x y a' a b c
      have p1 := Int.mul_pos haa hcr
      have p2 := Int.mul_pos hbc h3'
      have := pos_of h2 id (by omega)
      omega
/-- What is taken away. -/
theorem pop_is {x y : Int} {S : List S37} {c : S37} : ∀ {st : List S37}, Pile x y S st → Pile x y S (pop c st) ∧ (∀ b a t, pop c st = b :: a :: t → 0 < cr a b c) ∧ (pop c st = st ∨ ∃ b t s, pop c st = b :: t ∧ Edg b s S ∧ 0 < off x y b s ∧ cr b s c ≤ 0)
  | [], h => h.elim
  | [b], h => ⟨h, fun _ _ _ e => by simp [pop] at e, Or.inl rfl⟩
  | b :: a :: st, h => by
    obtain ⟨h1, h2, h3, h4⟩ := h
    by_cases e : cr a b c ≤ 0
    · have hp : pop c (b :: a :: st) = pop c (a :: st) := by rw [pop, if_pos e]
      obtain ⟨i1, i2, i3⟩ := pop_is (c := c) h4
      rw [hp]
      refine ⟨i1, i2, Or.inr ?_⟩
      rcases i3 with i3 | i3
      · exact ⟨a, st, b, i3, h1, h2, e⟩
      · exact i3
    · have hp : pop c (b :: a :: st) = b :: a :: st := by rw [pop, if_neg e]
      rw [hp]
      refine ⟨⟨h1, h2, h3, h4⟩, fun b' a' t e' => ?_, Or.inl rfl⟩
      obtain ⟨g1, g2⟩ := List.cons.inj e'
      obtain ⟨g3, g4⟩ := List.cons.inj g2
      subst g1; subst g3; omega
theorem pop_head {c : S37} : ∀ {st : List S37}, st ≠ [] → pop c st ≠ []
  | [], h => absurd rfl h
  | [b], _ => by simp [pop]
  | b :: a :: st, _ => by
    rw [pop]
    split
    · exact pop_head (by simp)
    · simp
theorem push_is {x y : Int} {S : List S37} {c top : S37} {rest : List S37} (hc : Before x y S c) (hS : ∀ p ∈ S, ∀ q ∈ S, p = q ∨ 0 < off x y p q ∨ 0 < off x y q p) (htop : ∀ q ∈ S, q = top ∨ 0 < off x y q top) (h : Pile x y S (top :: rest)) : Pile x y (S ++ [c]) (push (top :: rest) c) := by
  obtain ⟨h1, h2, h3⟩ := pop_is (c := c) h
  have h4 := stay hc h1 h2
  unfold push
  cases hp : pop c (top :: rest) with
  | nil => exact absurd hp (pop_head (by simp))
  | cons b t =>
    rw [hp] at h1 h2 h3 h4
    have hb : b ∈ S := pile_mem h1 b List.mem_cons_self
    have hbc := hc b hb
    have hne : c ≠ b := fun e => by rw [e, off_self] at hbc; omega
    refine ⟨⟨hne, List.mem_append_right _ List.mem_cons_self, fun q hq => ?_⟩, hbc, fun a' st' e => h2 b a' st' (by rw [e]), h4⟩
    rcases List.mem_append.1 hq with hq | hq
    · rcases hS b hb q hq with g | g | g
      · rw [← g, cr_self3]; exact ⟨Int.le_refl _, fun _ => box_self _ _⟩
      · -- q lies behind b
        rcases h3 with h3 | ⟨b', t', s, h3, h5, h6, h7⟩
        · obtain ⟨e1, e2⟩ := List.cons.inj h3
          rcases htop q hq with k | k
          · rw [k, ← e1, off_self] at g; omega
          · rw [← e1, off_neg] at k; omega
        · obtain ⟨e1, e2⟩ := List.cons.inj h3
          subst e1
          obtain ⟨k1, k2⟩ := h5.sup q hq
          refine ⟨turn h6 hbc g h7 k1, fun e => ?_⟩
          obtain ⟨g1, g2⟩ := turn0 h6 hbc g h7 k1 e
          have hsc := hc s h5.mem
          have := off_add x y b s c
          exact box_trans (k2 g2) (near_le h6 g1 (by omega))
      · -- q lies ahead of b
        cases t with
        | nil =>
          rcases h1.2 q hq with k | k
          · rw [k, off_self] at g; omega
          · rw [off_neg] at k; omega
        | cons a t =>
          have h2' := h2 b a t rfl
          obtain ⟨k1, k2⟩ := h1.1.sup q hq
          have id := id2 x y a b c q
          have p1 := Int.mul_pos g h2'
          have p2 := Int.mul_nonneg (Int.le_of_lt hbc) k1
          have := pos_of h1.2.1 id (by omega)
          exact ⟨by omega, fun e => by omega⟩
    · rw [List.mem_singleton] at hq
      rw [hq, cr_self2]; exact ⟨Int.le_refl _, fun _ => box_self2 _ _⟩
/-- The whole pile of a list. -/
def pile (T : List S37) : List S37 := T.foldl push []
theorem sorted_three {x y : Int} : ∀ {T : List S37}, Sorted x y T → ∀ p ∈ T, ∀ q ∈ T, p = q ∨ 0 < off x y p q ∨ 0 < off x y q p
  | [], _, p, hp, _, _ => by cases hp
  | c :: T, h, p, hp, q, hq => by
    rcases List.mem_cons.1 hp with e | hp'
    · rcases List.mem_cons.1 hq with e2 | hq'
      · exact Or.inl (e.trans e2.symm)
      · exact Or.inr (Or.inl (e ▸ h.1 q hq'))
    · rcases List.mem_cons.1 hq with e2 | hq'
      · exact Or.inr (Or.inr (e2 ▸ h.1 p hp'))
      · exact sorted_three h.2 p hp' q hq'
theorem sorted_split {x y : Int} : ∀ {S T : List S37}, Sorted x y (S ++ T) → Sorted x y S ∧ Sorted x y T ∧ ∀ p ∈ S, ∀ q ∈ T, 0 < off x y p q
  | [], T, h => ⟨trivial, h, fun p hp => by cases hp⟩
  | c :: S, T, h => by
    obtain ⟨h1, h2⟩ := h
    obtain ⟨g1, g2, g3⟩ := sorted_split h2
    refine ⟨⟨fun q hq => h1 q (List.mem_append_left _ hq), g1⟩, g2, fun p hp q hq => ?_⟩
    rcases List.mem_cons.1 hp with rfl | hp
    · exact h1 q (List.mem_append_right _ hq)
    · exact g3 p hp q hq
theorem pile_run {x y : Int} : ∀ (T S : List S37) (top : S37) (rest : List S37), Sorted x y (S ++ T) → (∀ q ∈ S, q = top ∨ 0 < off x y q top) → Pile x y S (top :: rest) → ∃ top' rest', T.foldl push (top :: rest) = top' :: rest' ∧ Pile x y (S ++ T) (top' :: rest') ∧ (∀ q ∈ S ++ T, q = top' ∨ 0 < off x y q top') ∧ top' ∈ S ++ T
  | [], S, top, rest, hs, ht, hp => ⟨top, rest, rfl, by rw [List.append_nil]; exact hp, by rw [List.append_nil]; exact ht, by rw [List.append_nil]; exact pile_mem hp _ List.mem_cons_self⟩
  | c :: T, S, top, rest, hs, ht, hp => by
    obtain ⟨g1, g2, g3⟩ := sorted_split hs
    have hc : Before x y S c := fun q hq => g3 q hq c List.mem_cons_self
    have e : S ++ c :: T = (S ++ [c]) ++ T := by simp
    have h1 := push_is hc (sorted_three g1) ht hp
    have hp' : push (top :: rest) c = c :: pop c (top :: rest) := rfl
    rw [hp'] at h1
    rw [e] at hs ⊢
    have := pile_run T (S ++ [c]) c (pop c (top :: rest)) hs (fun q hq => by
      rcases List.mem_append.1 hq with hq | hq
      · exact Or.inr (hc q hq)
      · exact Or.inl (List.mem_singleton.1 hq)) h1
    exact this
theorem pile_is {x y : Int} {p : S37} {T : List S37} (hs : Sorted x y (p :: T)) : ∃ top rest, pile (p :: T) = top :: rest ∧ Pile x y (p :: T) (top :: rest) ∧ (∀ q ∈ p :: T, q = top ∨ 0 < off x y q top) ∧ top ∈ p :: T := by
  have h0 : Pile x y [p] [p] := ⟨List.mem_cons_self, fun q hq => Or.inl (List.mem_singleton.1 hq)⟩
  have := pile_run T [p] p [] hs (fun q hq => Or.inl (List.mem_singleton.1 hq)) h0
  exact this
/-! ### the pile read from below -/
/-- From each to the next an edge. -/
def Wy (L : List S37) : List S37 → Prop
  | a :: b :: t => Edg a b L ∧ Wy L (b :: t)
  | _ => True
def Rise (x y : Int) : List S37 → Prop
  | a :: b :: t => 0 < off x y a b ∧ Rise x y (b :: t)
  | _ => True
theorem way_snoc {L : List S37} {a b : S37} : ∀ {t : List S37}, Wy L (t ++ [a]) → Edg a b L → Wy L (t ++ [a] ++ [b])
  | [], _, h => ⟨h, trivial⟩
  | [c], h, h' => ⟨h.1, h', trivial⟩
  | c :: d :: t, h, h' => ⟨h.1, way_snoc (t := d :: t) h.2 h'⟩
theorem rise_snoc {x y : Int} {a b : S37} : ∀ {t : List S37}, Rise x y (t ++ [a]) → 0 < off x y a b → Rise x y (t ++ [a] ++ [b])
  | [], _, h => ⟨h, trivial⟩
  | [c], h, h' => ⟨h.1, h', trivial⟩
  | c :: d :: t, h, h' => ⟨h.1, rise_snoc (t := d :: t) h.2 h'⟩
theorem pile_way {x y : Int} {S : List S37} : ∀ {st : List S37}, Pile x y S st → Wy S st.reverse ∧ Rise x y st.reverse ∧ ∃ p t, st.reverse = p :: t ∧ p ∈ S ∧ ∀ q ∈ S, q = p ∨ 0 < off x y p q
  | [], h => h.elim
  | [b], h => ⟨trivial, trivial, b, [], rfl, h.1, h.2⟩
  | b :: a :: st, h => by
    obtain ⟨h1, h2, h3, h4⟩ := h
    obtain ⟨g1, g2, p, t, g3, g4⟩ := pile_way h4
    have e : (b :: a :: st).reverse = st.reverse ++ [a] ++ [b] := by simp
    have e' : (a :: st).reverse = st.reverse ++ [a] := by simp
    rw [e'] at g1 g2 g3
    rw [e]
    exact ⟨way_snoc g1 h1, rise_snoc g2 h2, p, t ++ [b], by rw [g3]; rfl, g4⟩
end Go.Proofs.Ytgefjglbaekegaa.ChainGeo
namespace Go.Proofs.Ytgefjglbaekegaa.ChainHull
set_option linter.unusedSimpArgs false
set_option linter.unusedVariables false
open Go.Proofs.Ytgefjglbaekegaa.PA Go.Proofs.Ytgefjglbaekegaa.Geo Go.Proofs.Ytgefjglbaekegaa.HullGeo Go.Proofs.Ytgefjglbaekegaa.HullWrap Go.Proofs.Ytgefjglbaekegaa.ChainGeo

def half (T : List S37) : List S37 := (pile T).reverse.dropLast
def outOf (own : List S37) : List S37 := half own ++ half own.reverse
theorem edg_mono {a b : S37} {S L : List S37} (h : ∀ c, c ∈ S ↔ c ∈ L) (e : Edg a b S) : Edg a b L := ⟨e.ne, (h b).1 e.mem, fun c hc => e.sup c ((h c).2 hc)⟩
theorem way_mono {S L : List S37} (h : ∀ c, c ∈ S ↔ c ∈ L) : ∀ {t : List S37}, Wy S t → Wy L t
  | [], _ => trivial
  | [_], _ => trivial
  | a :: b :: t, hw => ⟨edg_mono h hw.1, way_mono h (t := b :: t) hw.2⟩
theorem way_join {L : List S37} {m : S37} {B : List S37} (h2 : Wy L (m :: B)) : ∀ {A : List S37}, Wy L (A ++ [m]) → Wy L (A ++ m :: B)
  | [], _ => h2
  | [c], h => ⟨h.1, h2⟩
  | c :: d :: A, h => ⟨h.1, way_join h2 (A := d :: A) h.2⟩
theorem rise_all {x y : Int} : ∀ {t : List S37} {a : S37}, Rise x y (a :: t) → ∀ q ∈ t, 0 < off x y a q
  | [], a, _, q, hq => by cases hq
  | b :: t, a, h, q, hq => by
    rcases List.mem_cons.1 hq with e | hq
    · rw [e]; exact h.1
    · have h1 := rise_all h.2 q hq
      have h2 := h.1
      have := off_add x y a b q
      omega
theorem rise_end {x y : Int} {m : S37} : ∀ {t : List S37}, Rise x y (t ++ [m]) → ∀ q ∈ t, 0 < off x y q m
  | [], _, q, hq => by cases hq
  | [c], h, q, hq => by rw [List.mem_singleton] at hq; rw [hq]; exact h.1
  | c :: d :: t, h, q, hq => by
    rcases List.mem_cons.1 hq with e | hq
    · rw [e]; exact rise_all (t := d :: t ++ [m]) h m (by simp)
    · exact rise_end (t := d :: t) h.2 q hq
theorem sorted_snoc {x y : Int} {c : S37} : ∀ {T : List S37}, Sorted x y T → (∀ q ∈ T, 0 < off x y q c) → Sorted x y (T ++ [c])
  | [], _, _ => ⟨(fun q hq => by cases hq), trivial⟩
  | d :: T, h, hc => by
    refine ⟨fun q hq => ?_, sorted_snoc h.2 (fun q hq => hc q (List.mem_cons_of_mem _ hq))⟩
    rcases List.mem_append.1 hq with hq | hq
    · exact h.1 q hq
    · rw [List.mem_singleton] at hq
      rw [hq]; exact hc d List.mem_cons_self
theorem off_opp (x y : Int) (a b : S37) : off (-x) (-y) a b = off x y b a := by unfold off; grind
theorem sorted_rev {x y : Int} : ∀ {T : List S37}, Sorted x y T → Sorted (-x) (-y) T.reverse
  | [], _ => trivial
  | c :: T, h => by
    rw [List.reverse_cons]
    refine sorted_snoc (sorted_rev h.2) (fun q hq => ?_)
    rw [off_opp]
    exact h.1 q (List.mem_reverse.1 hq)
/-- What half a hull is. -/
theorem half_is {x y : Int} {T : List S37} {a z : S37} {S : List S37} (hs : Sorted x y T) (hne : T ≠ []) (ha : a ∈ T) (hz : z ∈ T) (h1 : ∀ q ∈ T, q = a ∨ 0 < off x y a q) (h2 : ∀ q ∈ T, q = z ∨ 0 < off x y q z) (hm : ∀ c, c ∈ T ↔ c ∈ S) : (pile T).reverse = half T ++ [z] ∧ Wy S (half T ++ [z]) ∧ Rise x y (half T ++ [z]) ∧ ∃ t, half T ++ [z] = a :: t := by
  obtain ⟨p, T', rfl⟩ : ∃ p T', T = p :: T' := by
    cases T with
    | nil => exact absurd rfl hne
    | cons p T' => exact ⟨p, T', rfl⟩
  obtain ⟨top, rest, e, hp, ht, htm⟩ := pile_is hs
  have hw := pile_way hp
  have etop : top = z := by
    rcases ht z hz with g | g
    · exact g.symm
    · rcases h2 top htm with k | k
      · exact k
      · rw [off_neg] at k; omega
  have eh : (pile (p :: T')).reverse = half (p :: T') ++ [z] := by
    unfold half
    rw [e, List.reverse_cons, List.dropLast_concat, etop]
  obtain ⟨w1, w2, p', t, w3, w4, w5⟩ := hw
  rw [← e, eh] at w1 w2 w3
  have ea : p' = a := by
    rcases w5 a ha with g | g
    · exact g.symm
    · rcases h1 p' w4 with k | k
      · exact k
      · rw [off_neg] at k; omega
  exact ⟨eh, way_mono hm w1, w2, t, by rw [w3, ea]⟩
/-- Going round is determined. -/
theorem wrap_way {l : List S37} {first : S37} (hS : ∀ c ∈ l, Sm c) (hk : ∀ c ∈ l, c = first ∨ key first < key c) : ∀ (d : Nat) (rest : List S37) (now : S37) (out : List S37), out.length + d = l.length → Pth l first (out ++ [now]) → Wy l (now :: (rest ++ [first])) → (∀ q ∈ rest, q ≠ first) → wrapL l first d now out = out ++ now :: rest
  | 0, rest, now, out, h, hp, _, _ => by
    have := nodup_le hp.nd hp.mem
    rw [List.length_append, List.length_singleton] at this
    omega
  | d + 1, rest, now, out, h, hp, hw, hr => by
    obtain ⟨a, b, hs⟩ := side_at hS hk hp out.length (by simp)
    rw [at_snoc] at hs
    have hlast : HullWrap.at_ (out ++ [now]) ((out ++ [now]).length - 1) = now := by
      rw [List.length_append, List.length_singleton, Nat.add_sub_cancel, at_snoc]
    have hn : ∀ n, Edg now n l → nxt l now = n := by
      intro n he
      rcases nxt_is hs with q | q
      · exact absurd (q.2 n he.mem) he.ne
      · exact edge_fun hs q he
    rw [wrapL]
    cases rest with
    | nil =>
      have he : Edg now first l := hw.1
      rw [if_pos (hn first he)]
    | cons r rs =>
      have he : Edg now r l := hw.1
      have hrf := hr r List.mem_cons_self
      rw [hn r he, if_neg hrf]
      have := wrap_way hS hk d rs r (out ++ [now]) (by rw [List.length_append, List.length_singleton]; omega) (path_snoc hp (by rw [hlast]; exact he) hrf) hw.2 (fun q hq => hr q (List.mem_cons_of_mem _ hq))
      rw [this, List.append_assoc]; rfl
theorem off_key (a b : S37) : off 1 (-2001) a b = key b - key a := by unfold off key; grind
theorem off_key2 (a b : S37) : off (-1) 2001 a b = key a - key b := by unfold off key; grind
theorem sorted_first {x y : Int} {p : S37} {T : List S37} (h : Sorted x y (p :: T)) : ∀ q ∈ p :: T, q = p ∨ 0 < off x y p q := fun q hq => by
  rcases List.mem_cons.1 hq with e | hq
  · exact Or.inl e
  · exact Or.inr (h.1 q hq)
theorem sorted_last {x y : Int} {z : S37} {T : List S37} (h : Sorted x y (T ++ [z])) : ∀ q ∈ T ++ [z], q = z ∨ 0 < off x y q z := fun q hq => by
  rcases List.mem_append.1 hq with hq | hq
  · exact Or.inr ((sorted_split h).2.2 q hq z List.mem_cons_self)
  · exact Or.inl (List.mem_singleton.1 hq)
/-- The halves of the sorted corners are the round of the list; where there is one corner alone, there are none. -/
theorem out_is {l own : List S37} (hS : ∀ c ∈ l, Sm c) (hm : ∀ c, c ∈ own ↔ c ∈ l) (hs : Sorted 1 (-2001) own) (hne : l ≠ []) : outOf own = round l ∨ (outOf own = [] ∧ (round l).length = 1) := by
  obtain ⟨f1, f2⟩ := first_is hS hne
  obtain ⟨p, T, e⟩ : ∃ p T, own = p :: T := by
    cases own with
    | nil => exact absurd ((hm _).2 f1) (by simp)
    | cons p T => exact ⟨p, T, rfl⟩
  have hpf : p = first l := by
    have hp : p ∈ own := by rw [e]; exact List.mem_cons_self
    rcases f2 p ((hm p).1 hp) with g | g
    · exact g
    · rw [e] at hs
      rcases sorted_first hs (first l) (e ▸ (hm _).2 f1) with k | k
      · exact k.symm
      · rw [off_key] at k; omega
  rcases List.eq_nil_or_concat T with hT | ⟨T', z, hT⟩
  · -- one corner alone
    right
    refine ⟨by rw [e, hT]; rfl, ?_⟩
    have : ¬ ∃ c ∈ l, c ≠ first l := by
      rintro ⟨c, hc, hne'⟩
      have := (hm c).2 hc
      rw [e, hT, List.mem_singleton] at this
      exact hne' (this.trans hpf)
    rw [round_one hS hne this]; rfl
  · left
    rw [List.concat_eq_append] at hT
    have e2 : own = (p :: T') ++ [z] := by rw [e, hT]; rfl
    have hz : z ∈ own := by rw [e2]; simp
    have hp : p ∈ own := by rw [e]; exact List.mem_cons_self
    have hpz : 0 < off 1 (-2001) p z := by
      rw [e2] at hs
      exact (sorted_split hs).2.2 p List.mem_cons_self z List.mem_cons_self
    have a1 : ∀ q ∈ own, q = p ∨ 0 < off 1 (-2001) p q := by rw [e] at hs ⊢; exact sorted_first hs
    have a2 : ∀ q ∈ own, q = z ∨ 0 < off 1 (-2001) q z := by rw [e2] at hs ⊢; exact sorted_last hs
    obtain ⟨_, lw, lr, t, lh⟩ := half_is hs (by rw [e]; simp) hp hz a1 a2 hm
    have hs2 : Sorted (-1) 2001 own.reverse := sorted_rev hs
    have b1 : ∀ q ∈ own.reverse, q = z ∨ 0 < off (-1) 2001 z q := fun q hq => by
      rcases a2 q (List.mem_reverse.1 hq) with g | g
      · exact Or.inl g
      · rw [off_key] at g; right; rw [off_key2]; omega
    have b2 : ∀ q ∈ own.reverse, q = p ∨ 0 < off (-1) 2001 q p := fun q hq => by
      rcases a1 q (List.mem_reverse.1 hq) with g | g
      · exact Or.inl g
      · rw [off_key] at g; right; rw [off_key2]; omega
    obtain ⟨_, uw, ur, t2, uh⟩ := half_is hs2 (by rw [e]; simp) (List.mem_reverse.2 hz) (List.mem_reverse.2 hp) b1 b2 (fun c => List.mem_reverse.trans (hm c))
    -- neither half is empty
    have hpz' : p ≠ z := fun g => by rw [g, off_self] at hpz; omega
    obtain ⟨L0, hL0⟩ : ∃ L0, half own = p :: L0 := by
      cases hh : half own with
      | nil => rw [hh] at lh; exact absurd (List.cons.inj lh).1.symm hpz'
      | cons c L0 => rw [hh] at lh; exact ⟨L0, by rw [(List.cons.inj lh).1]⟩
    obtain ⟨U0, hU0⟩ : ∃ U0, half own.reverse = z :: U0 := by
      cases hh : half own.reverse with
      | nil => rw [hh] at uh; exact absurd (List.cons.inj uh).1 hpz'
      | cons c U0 => rw [hh] at uh; exact ⟨U0, by rw [(List.cons.inj uh).1]⟩
    rw [hL0] at lw lr
    rw [hU0] at uw ur
    have hway : Wy l (p :: L0 ++ z :: (U0 ++ [p])) := way_join uw lw
    have hnf : ∀ q ∈ L0 ++ z :: U0, q ≠ first l := by
      intro q hq g
      rw [← hpf] at g
      rcases List.mem_append.1 hq with hq | hq
      · have := rise_all (t := L0 ++ [z]) lr q (List.mem_append_left _ hq)
        rw [g, off_self] at this; omega
      · have := rise_end (t := z :: U0) ur q hq
        rw [g, off_self] at this; omega
    have hr := wrap_way hS f2 l.length (L0 ++ z :: U0) (first l) [] (by simp) ⟨by simp, rfl, by simp, fun x hx => by
      rw [List.nil_append, List.mem_singleton] at hx
      rw [hx]; exact f1, fun i hi => by simp at hi⟩ (by
      rw [← hpf, List.append_assoc]; exact hway) hnf
    unfold outOf round
    rw [hr, hL0, hU0, hpf]; rfl
end Go.Proofs.Ytgefjglbaekegaa.ChainHull
