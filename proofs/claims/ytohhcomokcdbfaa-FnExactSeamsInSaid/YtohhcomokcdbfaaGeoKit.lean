/- Edges on one line: what they have in common, told in two ways. No Go and no memory in it. -/
import Derived.Test.YtohhcomokcdbfaaPAxf46
namespace Go.Proofs.Ytohhcomokcdbfaa.Geo
set_option linter.unusedSimpArgs false
set_option linter.unusedVariables false
open Go.Proofs.Ytohhcomokcdbfaa.PA

def Sm (a : S55) : Prop := (-1000 ≤ a.f0 ∧ a.f0 ≤ 1000) ∧ (-1000 ≤ a.f1 ∧ a.f1 ≤ 1000)
/-- The order of corners, as one number. -/
def key (a : S55) : Int := 2001 * a.f0 + a.f1
def cr (p q c : S55) : Int := (q.f0 - p.f0) * (c.f1 - p.f1) - (q.f1 - p.f1) * (c.f0 - p.f0)
def lt (a b : S55) : Bool := decide (a.f0 < b.f0) || (decide (a.f0 = b.f0) && decide (a.f1 < b.f1))
theorem lt_iff {a b : S55} (ha : Sm a) (hb : Sm b) : lt a b = true ↔ key a < key b := by
  unfold lt key
  unfold Sm at ha hb
  simp only [Bool.or_eq_true, Bool.and_eq_true, decide_eq_true_eq]
  omega
theorem key_inj {a b : S55} (ha : Sm a) (hb : Sm b) (h : key a = key b) : a = b := by
  unfold key at h
  unfold Sm at ha hb
  cases a; cases b
  simp only [S55.mk.injEq]
  dsimp only at h ha hb
  omega
def sq (a b : S55) : Int := (a.f0 - b.f0) * (a.f0 - b.f0) + (a.f1 - b.f1) * (a.f1 - b.f1)
theorem self_nonneg (a : Int) : 0 ≤ a * a := by
  by_cases h : 0 ≤ a
  · exact Int.mul_nonneg h h
  · have := Int.mul_nonneg (show 0 ≤ -a by omega) (show 0 ≤ -a by omega)
    rwa [Int.neg_mul_neg] at this
theorem sq_nonneg (a b : S55) : 0 ≤ sq a b := by
  have h1 := self_nonneg (a.f0 - b.f0)
  have h2 := self_nonneg (a.f1 - b.f1)
  unfold sq; omega
theorem sq_self (a : S55) : sq a a = 0 := by unfold sq; simp
theorem sq_symm (a b : S55) : sq a b = sq b a := by unfold sq; grind
/-- Two points, one beside the other in a direction whose key is K. -/
structure Al (dx dy K : Int) (u v : S55) : Prop where
  hx : (u.f0 - v.f0) * K = dx * (key u - key v)
  hy : (u.f1 - v.f1) * K = dy * (key u - key v)
theorem Al.of_cr {p q u : S55} (h : cr p q u = 0) : Al (q.f0 - p.f0) (q.f1 - p.f1) (2001 * (q.f0 - p.f0) + (q.f1 - p.f1)) u p := by
  unfold cr at h
  constructor <;> unfold key <;> grind
theorem Al.of_end (p q : S55) : Al (q.f0 - p.f0) (q.f1 - p.f1) (2001 * (q.f0 - p.f0) + (q.f1 - p.f1)) q p := by
  constructor <;> unfold key <;> grind
theorem Al.self (dx dy K : Int) (p : S55) : Al dx dy K p p := by constructor <;> simp
theorem Al.sub {dx dy K : Int} {u v p : S55} (hu : Al dx dy K u p) (hv : Al dx dy K v p) : Al dx dy K u v := by
  obtain ⟨a, b⟩ := hu
  obtain ⟨c, d⟩ := hv
  constructor
  · have e : (u.f0 - v.f0) * K = (u.f0 - p.f0) * K - (v.f0 - p.f0) * K := by grind
    rw [e, a, c]; grind
  · have e : (u.f1 - v.f1) * K = (u.f1 - p.f1) * K - (v.f1 - p.f1) * K := by grind
    rw [e, b, d]; grind
theorem Al.neg {dx dy K : Int} {u v : S55} (h : Al dx dy K u v) : Al (-dx) (-dy) (-K) u v := by
  obtain ⟨a, b⟩ := h
  constructor <;> grind
theorem Al.swap {dx dy K : Int} {u v : S55} (h : Al dx dy K u v) : Al dx dy K v u := by
  obtain ⟨a, b⟩ := h
  constructor <;> grind
/-! signs -/
theorem sg1 {a K d t : Int} (hK : 0 < K) (h : a * K = d * t) (hd : 0 ≤ d) (ht : 0 ≤ t) : 0 ≤ a := by
  by_cases c : 0 ≤ a
  · exact c
  · have h1 := Int.mul_nonneg hd ht
    have h2 := Int.mul_neg_of_neg_of_pos (show a < 0 by omega) hK
    omega
theorem sg2 {a K d t : Int} (hK : 0 < K) (h : a * K = d * t) (hd : d ≤ 0) (ht : 0 ≤ t) : a ≤ 0 := by
  have := sg1 (a := -a) (d := -d) hK (by rw [Int.neg_mul, Int.neg_mul, h]) (by omega) ht
  omega
theorem sg3 {a K d t : Int} (hK : 0 < K) (h : a * K = d * t) (hd : 0 < d) (ht : 0 < t) : 0 < a := by
  by_cases c : 0 < a
  · exact c
  · have h1 := Int.mul_pos hd ht
    have h2 := Int.mul_nonneg (show 0 ≤ -a by omega) (show 0 ≤ K by omega)
    rw [Int.neg_mul] at h2
    omega
theorem sg4 {a K d t : Int} (hK : 0 < K) (h : a * K = d * t) (hd : d < 0) (ht : 0 < t) : a < 0 := by
  have := sg3 (a := -a) (d := -d) hK (by rw [Int.neg_mul, Int.neg_mul, h]) (by omega) ht
  omega
/-! a corner in the box of two others -/
def Box (c u v : S55) : Prop := (min u.f0 v.f0 ≤ c.f0 ∧ c.f0 ≤ max u.f0 v.f0) ∧ (min u.f1 v.f1 ≤ c.f1 ∧ c.f1 ≤ max u.f1 v.f1)
instance (c u v : S55) : Decidable (Box c u v) := by unfold Box; infer_instance
theorem box_swap {c u v : S55} : Box c u v ↔ Box c v u := by unfold Box; omega
theorem box_in {dx dy K : Int} {c u v : S55} (hK : 0 < K) (hcu : Al dx dy K c u) (hvc : Al dx dy K v c) (h1 : key u ≤ key c) (h2 : key c ≤ key v) : Box c u v := by
  have x1 : 0 ≤ key c - key u := by omega
  have x2 : 0 ≤ key v - key c := by omega
  unfold Box
  by_cases dxs : 0 ≤ dx <;> by_cases dys : 0 ≤ dy
  · have := sg1 hK hcu.hx dxs x1; have := sg1 hK hvc.hx dxs x2; have := sg1 hK hcu.hy dys x1; have := sg1 hK hvc.hy dys x2; omega
  · have := sg1 hK hcu.hx dxs x1; have := sg1 hK hvc.hx dxs x2; have := sg2 hK hcu.hy (by omega) x1; have := sg2 hK hvc.hy (by omega) x2; omega
  · have := sg2 hK hcu.hx (by omega) x1; have := sg2 hK hvc.hx (by omega) x2; have := sg1 hK hcu.hy dys x1; have := sg1 hK hvc.hy dys x2; omega
  · have := sg2 hK hcu.hx (by omega) x1; have := sg2 hK hvc.hx (by omega) x2; have := sg2 hK hcu.hy (by omega) x1; have := sg2 hK hvc.hy (by omega) x2; omega
theorem box_out {dx dy K : Int} {c u v : S55} (hK : 0 < K) (hd : K = 2001 * dx + dy) (huc : Al dx dy K u c) (hvc : Al dx dy K v c) (h1 : key c < key u) (h2 : key c < key v) : ¬ Box c u v := by
  have x1 : 0 < key u - key c := by omega
  have x2 : 0 < key v - key c := by omega
  unfold Box
  rcases Int.lt_trichotomy dx 0 with h | h | h
  · have := sg4 hK huc.hx h x1; have := sg4 hK hvc.hx h x2; omega
  · have hy : 0 < dy := by omega
    have := sg3 hK huc.hy hy x1; have := sg3 hK hvc.hy hy x2; omega
  · have := sg3 hK huc.hx h x1; have := sg3 hK hvc.hx h x2; omega
theorem box_out2 {dx dy K : Int} {c u v : S55} (hK : 0 < K) (hd : K = 2001 * dx + dy) (hcu : Al dx dy K c u) (hcv : Al dx dy K c v) (h1 : key u < key c) (h2 : key v < key c) : ¬ Box c u v := by
  have x1 : 0 < key c - key u := by omega
  have x2 : 0 < key c - key v := by omega
  unfold Box
  rcases Int.lt_trichotomy dx 0 with h | h | h
  · have := sg4 hK hcu.hx h x1; have := sg4 hK hcv.hx h x2; omega
  · have hy : 0 < dy := by omega
    have := sg3 hK hcu.hy hy x1; have := sg3 hK hcv.hy hy x2; omega
  · have := sg3 hK hcu.hx h x1; have := sg3 hK hcv.hx h x2; omega
theorem box_iff {dx dy K : Int} {c u v : S55} (hK : 0 < K) (hd : K = 2001 * dx + dy) (hcu : Al dx dy K c u) (hcv : Al dx dy K c v) : Box c u v ↔ min (key u) (key v) ≤ key c ∧ key c ≤ max (key u) (key v) := by
  constructor
  · intro hb
    by_cases a : key c < key u ∧ key c < key v
    · exact absurd hb (box_out hK hd hcu.swap hcv.swap a.1 a.2)
    · by_cases b : key u < key c ∧ key v < key c
      · exact absurd hb (box_out2 hK hd hcu hcv b.1 b.2)
      · omega
  · intro h
    by_cases a : key u ≤ key c ∧ key c ≤ key v
    · exact box_in hK hcu hcv.swap a.1 a.2
    · exact box_swap.2 (box_in hK hcv hcu.swap (by omega) (by omega))
/-! farther along the line is farther -/
theorem sq_key {dx dy K : Int} {u v : S55} (h : Al dx dy K u v) : sq u v * (K * K) = (dx * dx + dy * dy) * ((key u - key v) * (key u - key v)) := by
  obtain ⟨a, b⟩ := h
  have e : sq u v * (K * K) = ((u.f0 - v.f0) * K) * ((u.f0 - v.f0) * K) + ((u.f1 - v.f1) * K) * ((u.f1 - v.f1) * K) := by unfold sq; grind
  rw [e, a, b]; grind
theorem mul_self_le {t s : Int} (h1 : -s ≤ t) (h2 : t ≤ s) : t * t ≤ s * s := by
  have := Int.mul_nonneg (show 0 ≤ s - t by omega) (show 0 ≤ s + t by omega)
  grind
theorem sq_mono {dx dy K : Int} {e f p q : S55} (hK : 0 < K) (h : Al dx dy K e f) (h' : Al dx dy K q p) (h1 : -(key q - key p) ≤ key e - key f) (h2 : key e - key f ≤ key q - key p) : sq e f ≤ sq q p := by
  have a := sq_key h
  have b := sq_key h'
  have c := mul_self_le h1 h2
  have n : 0 ≤ dx * dx + dy * dy := by have := self_nonneg dx; have := self_nonneg dy; omega
  have d := Int.mul_le_mul_of_nonneg_left c n
  rw [← a, ← b] at d
  exact Int.le_of_mul_le_mul_right d (Int.mul_pos hK hK)
/-! what two edges have in common -/
def pick (b : Bool) (u v : S55) : S55 := if b = true then u else v
def com2 (p1 q1 : S55) : Int := if lt p1 q1 = true then sq q1 p1 else 0
def com1 (p0 q0 r0 s0 : S55) : Int := com2 (pick (lt p0 r0) r0 p0) (pick (lt s0 q0) s0 q0)
def com (p q u v : S55) : Int := com1 (pick (lt q p) q p) (pick (lt q p) p q) (pick (lt v u) v u) (pick (lt v u) u v)
def endAt (l : List S55) (c u v : S55) : List S55 := if Box c u v then l ++ [c] else l
def ends (p q u v : S55) : List S55 := endAt (endAt (endAt (endAt [] p u v) q u v) u p q) v p q
theorem mem_endAt {l : List S55} {c u v x : S55} : x ∈ endAt l c u v ↔ x ∈ l ∨ (x = c ∧ Box c u v) := by
  unfold endAt
  split
  · rename_i h; simp [h]
  · rename_i h; simp [h]
theorem mem_ends {p q u v x : S55} : x ∈ ends p q u v ↔ (x = p ∧ Box p u v) ∨ (x = q ∧ Box q u v) ∨ (x = u ∧ Box u p q) ∨ (x = v ∧ Box v p q) := by
  unfold ends
  rw [mem_endAt, mem_endAt, mem_endAt, mem_endAt]
  simp only [List.not_mem_nil, false_or, or_assoc]
theorem pick_key (b : Bool) (u v : S55) : key (pick b u v) = if b = true then key u else key v := by unfold pick; split <;> rfl
theorem pick_cases (b : Bool) (u v : S55) : pick b u v = u ∨ pick b u v = v := by unfold pick; split <;> simp
theorem pick_sm {b : Bool} {u v : S55} (hu : Sm u) (hv : Sm v) : Sm (pick b u v) := by unfold pick; split <;> assumption
theorem pick_lo {u v : S55} (hu : Sm u) (hv : Sm v) : key (pick (lt v u) v u) = min (key u) (key v) := by
  rw [pick_key]
  by_cases c : lt v u = true
  · rw [if_pos c]; have := (lt_iff hv hu).1 c; omega
  · rw [if_neg c]; have : ¬ key v < key u := fun h => c ((lt_iff hv hu).2 h); omega
theorem pick_hi {u v : S55} (hu : Sm u) (hv : Sm v) : key (pick (lt v u) u v) = max (key u) (key v) := by
  rw [pick_key]
  by_cases c : lt v u = true
  · rw [if_pos c]; have := (lt_iff hv hu).1 c; omega
  · rw [if_neg c]; have : ¬ key v < key u := fun h => c ((lt_iff hv hu).2 h); omega
theorem com_is {p q u v : S55} (sp : Sm p) (sq_ : Sm q) (su : Sm u) (sv : Sm v) (hpq : key p ≠ key q) (hu : cr p q u = 0) (hv : cr p q v = 0) :
    0 ≤ com p q u v ∧ (∀ e ∈ ends p q u v, ∀ f ∈ ends p q u v, sq e f ≤ com p q u v) ∧ (com p q u v = 0 ∨ ∃ e ∈ ends p q u v, ∃ f ∈ ends p q u v, e ≠ f ∧ com p q u v = sq e f) := by
  obtain ⟨dx, dy, K, hK, hd, hqp, hup, hvp⟩ : ∃ dx dy K : Int, 0 < K ∧ K = 2001 * dx + dy ∧ Al dx dy K q p ∧ Al dx dy K u p ∧ Al dx dy K v p := by
    have a := Al.of_end p q
    have b := Al.of_cr hu
    have c := Al.of_cr hv
    have e : 2001 * (q.f0 - p.f0) + (q.f1 - p.f1) = key q - key p := by unfold key; omega
    by_cases h : 0 < key q - key p
    · exact ⟨_, _, _, by rw [e]; exact h, rfl, a, b, c⟩
    · exact ⟨_, _, _, by rw [e]; omega, by omega, a.neg, b.neg, c.neg⟩
  have hpp := Al.self dx dy K p
  have four : ∀ x, (x = p ∨ x = q ∨ x = u ∨ x = v) → Al dx dy K x p ∧ Sm x := by
    intro x hx
    rcases hx with rfl | rfl | rfl | rfl
    · exact ⟨hpp, sp⟩
    · exact ⟨hqp, sq_⟩
    · exact ⟨hup, su⟩
    · exact ⟨hvp, sv⟩
  have b1 := box_iff hK hd (hpp.sub hup) (hpp.sub hvp)
  have b2 := box_iff hK hd (hqp.sub hup) (hqp.sub hvp)
  have b3 := box_iff hK hd (hup.sub hpp) (hup.sub hqp)
  have b4 := box_iff hK hd (hvp.sub hpp) (hvp.sub hqp)
  have inE : ∀ x ∈ ends p q u v, (x = p ∨ x = q ∨ x = u ∨ x = v) ∧ max (min (key p) (key q)) (min (key u) (key v)) ≤ key x ∧ key x ≤ min (max (key p) (key q)) (max (key u) (key v)) := by
    intro x hx
    rw [mem_ends, b1, b2, b3, b4] at hx
    rcases hx with ⟨rfl, h⟩ | ⟨rfl, h⟩ | ⟨rfl, h⟩ | ⟨rfl, h⟩
    · exact ⟨Or.inl rfl, by omega⟩
    · exact ⟨Or.inr (Or.inl rfl), by omega⟩
    · exact ⟨Or.inr (Or.inr (Or.inl rfl)), by omega⟩
    · exact ⟨Or.inr (Or.inr (Or.inr rfl)), by omega⟩
  have ofE : ∀ x, (x = p ∨ x = q ∨ x = u ∨ x = v) → max (min (key p) (key q)) (min (key u) (key v)) ≤ key x → key x ≤ min (max (key p) (key q)) (max (key u) (key v)) → x ∈ ends p q u v := by
    intro x hx h1 h2
    rw [mem_ends, b1, b2, b3, b4]
    rcases hx with rfl | rfl | rfl | rfl
    · exact Or.inl ⟨rfl, by omega⟩
    · exact Or.inr (Or.inl ⟨rfl, by omega⟩)
    · exact Or.inr (Or.inr (Or.inl ⟨rfl, by omega⟩))
    · exact Or.inr (Or.inr (Or.inr ⟨rfl, by omega⟩))
  unfold com com1
  have kp0 := pick_lo sp sq_
  have kq0 := pick_hi sp sq_
  have kr0 := pick_lo su sv
  have ks0 := pick_hi su sv
  have cp0 := pick_cases (lt q p) q p
  have cq0 := pick_cases (lt q p) p q
  have cr0 := pick_cases (lt v u) v u
  have cs0 := pick_cases (lt v u) u v
  have mp0 : Sm (pick (lt q p) q p) := pick_sm sq_ sp
  have mq0 : Sm (pick (lt q p) p q) := pick_sm sp sq_
  have mr0 : Sm (pick (lt v u) v u) := pick_sm sv su
  have ms0 : Sm (pick (lt v u) u v) := pick_sm su sv
  generalize pick (lt q p) q p = p0 at *
  generalize pick (lt q p) p q = q0 at *
  generalize pick (lt v u) v u = r0 at *
  generalize pick (lt v u) u v = s0 at *
  have kp1 : key (pick (lt p0 r0) r0 p0) = max (key p0) (key r0) := by
    rw [pick_key]
    by_cases c : lt p0 r0 = true
    · rw [if_pos c]; have := (lt_iff mp0 mr0).1 c; omega
    · rw [if_neg c]; have : ¬ key p0 < key r0 := fun h => c ((lt_iff mp0 mr0).2 h); omega
  have kq1 : key (pick (lt s0 q0) s0 q0) = min (key q0) (key s0) := by
    rw [pick_key]
    by_cases c : lt s0 q0 = true
    · rw [if_pos c]; have := (lt_iff ms0 mq0).1 c; omega
    · rw [if_neg c]; have : ¬ key s0 < key q0 := fun h => c ((lt_iff ms0 mq0).2 h); omega
  have cp1 : pick (lt p0 r0) r0 p0 = p ∨ pick (lt p0 r0) r0 p0 = q ∨ pick (lt p0 r0) r0 p0 = u ∨ pick (lt p0 r0) r0 p0 = v := by
    rcases pick_cases (lt p0 r0) r0 p0 with h | h <;> rw [h]
    · rcases cr0 with h | h <;> rw [h] <;> simp
    · rcases cp0 with h | h <;> rw [h] <;> simp
  have cq1 : pick (lt s0 q0) s0 q0 = p ∨ pick (lt s0 q0) s0 q0 = q ∨ pick (lt s0 q0) s0 q0 = u ∨ pick (lt s0 q0) s0 q0 = v := by
    rcases pick_cases (lt s0 q0) s0 q0 with h | h <;> rw [h]
    · rcases cs0 with h | h <;> rw [h] <;> simp
    · rcases cq0 with h | h <;> rw [h] <;> simp
  have mp1 : Sm (pick (lt p0 r0) r0 p0) := pick_sm mr0 mp0
  have mq1 : Sm (pick (lt s0 q0) s0 q0) := pick_sm ms0 mq0
  generalize pick (lt p0 r0) r0 p0 = p1 at *
  generalize pick (lt s0 q0) s0 q0 = q1 at *
  rw [kp0, kr0] at kp1
  rw [kq0, ks0] at kq1
  unfold com2
  by_cases c : lt p1 q1 = true
  · have hlt := (lt_iff mp1 mq1).1 c
    simp only [if_pos c]
    refine ⟨sq_nonneg _ _, fun e he f hf => ?_, Or.inr ⟨q1, ofE q1 cq1 (by omega) (by omega), p1, ofE p1 cp1 (by omega) (by omega), fun h => by rw [h] at hlt; omega, rfl⟩⟩
    obtain ⟨e1, e2, e3⟩ := inE e he
    obtain ⟨f1, f2, f3⟩ := inE f hf
    exact sq_mono hK ((four e e1).1.sub (four f f1).1) ((four q1 cq1).1.sub (four p1 cp1).1) (by omega) (by omega)
  · have hge : ¬ key p1 < key q1 := fun h => c ((lt_iff mp1 mq1).2 h)
    simp only [if_neg c]
    refine ⟨Int.le_refl _, fun e he f hf => ?_, Or.inl trivial⟩
    obtain ⟨e1, e2, e3⟩ := inE e he
    obtain ⟨f1, f2, f3⟩ := inE f hf
    have : e = f := key_inj (four e e1).2 (four f f1).2 (by omega)
    rw [this, sq_self]; exact Int.le_refl _
/-! what is computed with numbers of 64 bits -/
theorem prod_small {a b : Int} (ha : -2000 ≤ a ∧ a ≤ 2000) (hb : -2000 ≤ b ∧ b ≤ 2000) : -4000000 ≤ a * b ∧ a * b ≤ 4000000 := by
  have h1 := Int.mul_nonneg (show 0 ≤ 2000 - a by omega) (show 0 ≤ 2000 + b by omega)
  have h2 := Int.mul_nonneg (show 0 ≤ 2000 + a by omega) (show 0 ≤ 2000 - b by omega)
  have h3 := Int.mul_nonneg (show 0 ≤ 2000 - a by omega) (show 0 ≤ 2000 - b by omega)
  have h4 := Int.mul_nonneg (show 0 ≤ 2000 + a by omega) (show 0 ≤ 2000 + b by omega)
  constructor <;> grind
theorem sq_small {a b : S55} (ha : Sm a) (hb : Sm b) : sq a b ≤ 8000000 := by
  unfold Sm at ha hb
  have h1 := prod_small (a := a.f0 - b.f0) (b := a.f0 - b.f0) (by omega) (by omega)
  have h2 := prod_small (a := a.f1 - b.f1) (b := a.f1 - b.f1) (by omega) (by omega)
  unfold sq; omega
end Go.Proofs.Ytohhcomokcdbfaa.Geo
