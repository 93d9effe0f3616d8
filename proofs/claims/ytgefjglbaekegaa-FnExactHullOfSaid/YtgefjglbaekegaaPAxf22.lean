/- Written by a program of this session out of the translation: pure functions, and that Go's functions come to them. -/
import Derived.Test.YtgefjglbaekegaaPAx0
import Derived.Test.YtgefjglbaekegaaPAxf23
import Derived.Test.YtgefjglbaekegaaPAxf24
import Derived.Test.YtgefjglbaekegaaPAxf25
namespace Go.Proofs.Ytgefjglbaekegaa.PA
open Go.RowKit Go.Proofs.YtgefjglbaekegaaW.PrintWords Go.Proofs.YtgefjglbaekegaaW.PrintLast Go.Proofs.YtgefjglbaekegaaW.PrintMore
attribute [local go_sem] max2_int min2_int max_two min_two max_three min_three max_four min_four   -- for this text's walks alone
set_option linter.unusedVariables false
set_option linter.unusedSimpArgs false

/-! ### impl_Corner_22: function 22 -/
namespace CS
open Go.Shelf Go.Lib Go.Sort
instance : Inhabited S37 := ⟨z37⟩
def enc (c : S37) : List Value := [.int .i16 c.f0, .int .i16 c.f1]
theorem enc_len (c : S37) : (enc c).length = 2 := rfl
theorem enc_one (c : S37) : ∀ v ∈ enc c, v.oneCell' = true := by
  intro v hv
  simp [enc] at hv
  rcases hv with rfl | rfl <;> rfl
def lt (a b : S37) : Bool := decide (a.f0 < b.f0) || (decide (a.f0 = b.f0) && decide (a.f1 < b.f1))
def cf (a b : S37) : Int := if lt a b = true then -1 else if lt b a = true then 1 else 0
theorem less_is (a b : S37) : impl_cornerLess.f a.f0 a.f1 b.f0 b.f1 = some (lt a b) := by
  unfold impl_cornerLess.f lt
  by_cases h1 : a.f0 < b.f0
  · rw [if_pos h1, decide_eq_true h1, Bool.true_or]
  · rw [if_neg h1, decide_eq_false h1, Bool.false_or]
    by_cases h2 : a.f0 = b.f0
    · rw [if_pos h2, decide_eq_true h2, Bool.true_and]
    · rw [if_neg h2, decide_eq_false h2, Bool.false_and]
theorem cf_is (a b : S37) : impl_HullOf_2.f a.f0 a.f1 b.f0 b.f1 = some (cf a b) := by
  unfold impl_HullOf_2.f cf
  rw [less_is, Option.bind_some]
  by_cases h : lt a b = true
  · rw [if_pos h, if_pos h]
  · rw [if_neg h, if_neg h, less_is, Option.bind_some]
    by_cases h2 : lt b a = true
    · rw [if_pos h2, if_pos h2]
    · rw [if_neg h2, if_neg h2]
theorem ltOf_cf (a b : S37) : ltOf cf a b = lt a b := by
  unfold ltOf cf
  by_cases h : lt a b = true
  · rw [if_pos h, h]; rfl
  · rw [if_neg h]
    rw [Bool.not_eq_true] at h
    rw [h]
    split <;> rfl
theorem lt_iff (a b : S37) : lt a b = true ↔ a.f0 < b.f0 ∨ (a.f0 = b.f0 ∧ a.f1 < b.f1) := by
  unfold lt; simp
theorem ext2 {a b : S37} (h : a.f0 = b.f0) (h2 : a.f1 = b.f1) : a = b := by cases a; cases b; simp_all
theorem total (x y : S37) (h1 : ltOf cf x y = false) (h2 : ltOf cf y x = false) : x = y := by
  rw [ltOf_cf, ← Bool.not_eq_true, lt_iff] at h1 h2
  exact ext2 (by omega) (by omega)
theorem swo : SWO (ltOf cf) := by
  constructor
  · intro x
    rw [ltOf_cf, ← Bool.not_eq_true, lt_iff]; omega
  · intro x y z h1 h2
    rw [ltOf_cf, lt_iff] at h1 h2 ⊢; omega
  · intro x y z h1 h2
    rw [ltOf_cf, ← Bool.not_eq_true, lt_iff] at h1 h2 ⊢
    omega
def flat (l : List S37) : List Value := l.flatMap enc
theorem flat_len (l : List S37) : (flat l).length = l.length * 2 := by
  induction l with
  | nil => rfl
  | cons c l ih => rw [flat, List.flatMap_cons, List.length_append, ← flat, ih, enc_len, List.length_cons]; omega
theorem flat_snoc (l : List S37) (c : S37) : flat (l ++ [c]) = flat l ++ enc c := by simp [flat]
theorem flat_reps (w : World) (base : Nat) (ok : Nat → Prop) : ∀ n (l : List S37), l.length = n → Reps (k37.M w base ok) 2 l (flat l)
  | 0, l, h => by
    obtain rfl := List.eq_nil_of_length_eq_zero h
    exact Reps.none _ _
  | n + 1, l, h => by
    rcases List.eq_nil_or_concat l with rfl | ⟨m, c, rfl⟩
    · cases h
    · rw [List.concat_eq_append] at h ⊢
      rw [flat_snoc]
      exact (flat_reps w base ok n m (by simpa using h)).snoc (k37_mkM w base ok c) (enc_len c)
theorem flat_get (l : List S37) : ∀ i, i < l.length → (flat l).drop (i * 2) = enc (l.getD i z37) ++ (flat l).drop (i * 2 + 2) := by
  induction l with
  | nil => intro i h; exact absurd h (by simp)
  | cons c l ih =>
    intro i h
    have e : flat (c :: l) = enc c ++ flat l := by simp [flat]
    rw [e]
    cases i with
    | zero => rfl
    | succ i =>
      have h2 : (i + 1) * 2 = i * 2 + 2 := by omega
      have := ih i (by simpa using h)
      rw [h2]
      show (flat l).drop (i * 2) = enc (l.getD i z37) ++ (flat l).drop (i * 2 + 2)
      exact this
theorem flatK_is (l : List S37) : flatK enc 2 l.toArray = (flat l).toArray := by
  apply Array.ext
  · simp [flat_len]
  · intro t h1 h2
    have ht : t < l.length * 2 := by simpa using h1
    have hi : t / 2 < l.length := by omega
    have h := flat_get l (t / 2) hi
    have e1 := get_flatK enc 2 l.toArray t (by simpa using ht)
    rw [getElem!_pos _ t h1] at e1
    rw [e1]
    have hg : l.toArray[t / 2]! = l.getD (t / 2) z37 := by
      rw [getElem!_def, List.getElem?_toArray, List.getD_eq_getElem?_getD]
      rw [List.getElem?_eq_getElem hi]; rfl
    rw [hg]
    have h3 : (flat l)[t]? = (enc (l.getD (t / 2) z37))[t % 2]? := by
      have e2 : (flat l)[t]? = ((flat l).drop (t / 2 * 2))[t % 2]? := by
        rw [List.getElem?_drop]; congr 1; omega
      rw [e2, h, List.getElem?_append_left (by rw [enc_len]; omega)]
    have h4 : (flat l).toArray[t] = (flat l)[t]'(by simpa using h2) := by simp
    rw [h4]
    rw [List.getElem?_eq_getElem (by simpa using h2)] at h3
    have hm : t % 2 = 0 ∨ t % 2 = 1 := by omega
    rcases hm with hm | hm <;> rw [hm] at h3 ⊢ <;> simp [enc] at h3 ⊢ <;> exact h3.symm
/-- The row, read as the sort reads it. -/
theorem holds {W : World} {base g n cap : Nat} {ok : Nat → Prop} {xs : List S37} (h : Kd.R k37 37 W base ok (.slice (some ⟨g, 0, none⟩) n cap) xs) : HoldsK enc 2 W g 0 xs.toArray := by
  unfold HoldsK
  intro j hj
  have hj' : j < xs.length * 2 := by simpa using hj
  have hn := (Kd.R_reads' h).1
  obtain ⟨c, hl, hM, hc, hf⟩ := Kd.R_elem h z37 ((j / 2 : Nat) : Int) (by omega) (by omega)
  obtain rfl := k37_openM hM
  rw [Int.toNat_natCast] at hc hf hM
  have hd : j / 2 * 2 + j % 2 = j := by omega
  have e1 := get_flatK enc 2 xs.toArray j (by simpa using hj')
  have hg : xs.toArray[j / 2]! = xs.getD (j / 2) z37 := by
    rw [getElem!_def, List.getElem?_toArray, List.getD_eq_getElem?_getD, List.getElem?_eq_getElem (by omega)]; rfl
  rw [hg] at e1
  have hf' := hf (j % 2)
  rw [show j / 2 * k37.sz = j / 2 * 2 from rfl, hd] at hf'
  refine ⟨?_, by rw [Nat.zero_add]; exact hf'⟩
  rw [Nat.zero_add, e1]
  have hm : j % 2 = 0 ∨ j % 2 = 1 := by omega
  rcases hm with hm | hm
  · have := hc 0 _ rfl
    rw [show j / 2 * k37.sz + 0 = j from by show j / 2 * 2 + 0 = j; omega] at this
    rw [this, hm]; simp [enc]
  · have := hc 1 _ rfl
    rw [show j / 2 * k37.sz + 1 = j from by show j / 2 * 2 + 1 = j; omega] at this
    rw [this, hm]; simp [enc]
/-- The row behind the sort. -/
theorem back {W : World} {base g n cap q : Nat} {os : Array Obj} {ok : Nat → Prop} {xs ys : List S37} (h : Kd.R k37 37 W base ok (.slice (some ⟨g, 0, none⟩) n cap) xs) (hy : ys.length = xs.length) :
    Kd.R k37 37 (sortWorldK enc 2 W g 0 q ys.toArray os) base ok (.slice (some ⟨g, 0, none⟩) n cap) ys ∧ W.grownBy (sortWorldK enc 2 W g 0 q ys.toArray os) (some g) := by
  obtain ⟨hn, hnc, _⟩ := Kd.R_reads' h
  obtain ⟨hok, inner, ho, hr⟩ := h
  obtain ⟨ho1, ho2⟩ := ho
  rcases ho2 with ⟨hv, _⟩ | ⟨g', cap', cur, hv, hb, hh, hnc', hcm, hcs, ht⟩
  · cases hv
  injection hv with ha _ hc
  injection ha with ha
  injection ha with hg
  subst hg; subst hc
  have hlt : g < W.heap.size := by
    rcases Nat.lt_or_ge g W.heap.size with h' | h'
    · exact h'
    · rw [Array.getElem?_eq_none h'] at hh; cases hh
  have hsz : (putRowK enc 2 (Sort.ahead W q) g 0 ys.toArray).heap.size = W.heap.size := by simp [putRowK, putRow, mapBlock, Sort.ahead]
  have hget : (sortWorldK enc 2 W g 0 q ys.toArray os).heap[g]? = some (.cells (putCells id 0 (flatK enc 2 ys.toArray) cur) 37 (0, 0)) := by
    unfold sortWorldK grow
    show ((putRowK enc 2 (Sort.ahead W q) g 0 ys.toArray).heap ++ os)[g]? = _
    rw [Array.getElem?_append_left (by rw [hsz]; exact hlt)]
    simp [putRowK, putRow, mapBlock, Sort.ahead, Array.getElem?_modify, hh, onCells]
  have hfar : ∀ k, k < W.heap.size → k ≠ g → (sortWorldK enc 2 W g 0 q ys.toArray os).heap[k]? = W.heap[k]? := by
    intro k hk hne
    unfold sortWorldK grow
    show ((putRowK enc 2 (Sort.ahead W q) g 0 ys.toArray).heap ++ os)[k]? = _
    rw [Array.getElem?_append_left (by rw [hsz]; exact hk)]
    simp [putRowK, putRow, mapBlock, Sort.ahead, Array.getElem?_modify, Ne.symm hne]
  have hG : W.grownBy (sortWorldK enc 2 W g 0 q ys.toArray os) (some g) := ⟨rfl, rfl, rfl, by
    unfold sortWorldK grow
    show _ ≤ ((putRowK enc 2 (Sort.ahead W q) g 0 ys.toArray).heap ++ os).size
    rw [Array.size_append, hsz]; omega, fun k hk hne => hfar k hk (fun e => hne (by rw [e]))⟩
  refine ⟨⟨hok, flat ys, ⟨flat_len ys, .inr ⟨g, cap, _, by rw [hn, hy], hb, hget, by omega, hcm, by simpa [putCells] using hcs, ?_⟩⟩, flat_reps _ _ _ _ ys rfl⟩, hG⟩
  rw [flatK_is]
  have hcz : ys.length * 2 ≤ cur.size := by
    rw [hcs]; exact Nat.mul_le_mul_right 2 (by omega)
  apply List.ext_getElem?
  intro j
  rw [List.getElem?_take, Array.getElem?_toList]
  by_cases hj : j < ys.length * 2
  · rw [if_pos (show j < ys.length * k37.sz from hj)]
    have hjc : j < cur.size := by omega
    simp only [putCells, Array.getElem?_mapIdx, Array.getElem?_eq_getElem hjc, Option.map_some]
    rw [if_pos (by simp [flat_len]; exact hj), List.getElem?_eq_getElem (by rw [flat_len]; exact hj)]
    simp [getElem!_pos, flat_len, hj]
  · rw [if_neg (show ¬ j < ys.length * k37.sz from hj), List.getElem?_eq_none (by rw [flat_len]; omega)]
end CS
def impl_Corner_22.f (l0 : List (S37)) : Option (List (S37)) := if l0.length < 1048576 then some (l0.mergeSort fun x y => !CS.lt y x) else none
set_option maxHeartbeats 4000000 in
theorem impl_Corner_22.less_grow (x y : S37) (W : World) : Calls Try.prog 24 #[.agg #[.int .i16 x.f0, .int .i16 x.f1], .agg #[.int .i16 y.f0, .int .i16 y.f1]] W fun e w' => e = .returned (.bool (CS.lt x y)) ∧ ∃ q os', w' = Sort.grow (W.drewN q) os' := by
  have hu := Try.underlying37
  by_cases h1 : x.f0 < y.f0
  · have e : CS.lt x y = true := (CS.lt_iff x y).2 (Or.inl h1)
    have d1 := decide_eq_true h1
    rw [e]
    go_enter Try.func24, Try.ntmps24
    go_wp2
    go_ret
    exact ⟨rfl, 0, _, by rw [Sort.alloc_eq_grow, Sort.alloc_eq_grow, Sort.grow_grow]; rfl⟩
  · have d1 := decide_eq_false h1
    by_cases h2 : x.f0 = y.f0
    · have d2 : (x.f0 == y.f0) = true := beq_iff_eq.2 h2
      by_cases h3 : x.f1 < y.f1
      · have e : CS.lt x y = true := (CS.lt_iff x y).2 (Or.inr ⟨h2, h3⟩)
        have d3 := decide_eq_true h3
        rw [e]
        go_enter Try.func24, Try.ntmps24
        go_wp2
        go_ret
        exact ⟨rfl, 0, _, by rw [Sort.alloc_eq_grow, Sort.alloc_eq_grow, Sort.grow_grow]; rfl⟩
      · have e : CS.lt x y = false := by rw [← Bool.not_eq_true, CS.lt_iff]; omega
        have d3 := decide_eq_false h3
        rw [e]
        go_enter Try.func24, Try.ntmps24
        go_wp2
        go_ret
        exact ⟨rfl, 0, _, by rw [Sort.alloc_eq_grow, Sort.alloc_eq_grow, Sort.grow_grow]; rfl⟩
    · have d2 : (x.f0 == y.f0) = false := beq_eq_false_iff_ne.2 h2
      have e : CS.lt x y = false := by rw [← Bool.not_eq_true, CS.lt_iff]; omega
      rw [e]
      go_enter Try.func24, Try.ntmps24
      go_wp2
      go_ret
      exact ⟨rfl, 0, _, by rw [Sort.alloc_eq_grow, Sort.alloc_eq_grow, Sort.grow_grow]; rfl⟩
theorem impl_Corner_22.gblk (W : World) (a b : Array Value) (e q : Nat) (os : Array Obj) : (Sort.grow (((W.alloc (.cells a e)).alloc (.cells b e)).drewN q) os).heap[W.heap.size]? = some (.cells a e (0, 0)) ∧ (Sort.grow (((W.alloc (.cells a e)).alloc (.cells b e)).drewN q) os).heap[W.heap.size + 1]? = some (.cells b e (0, 0)) := by
  have n1 := heap_alloc_new W (.cells a e)
  have n2 := heap_alloc_new (W.alloc (.cells a e)) (.cells b e)
  have s1 : (W.alloc (.cells a e)).heap.size = W.heap.size + 1 := by simp
  have s2 : ((W.alloc (.cells a e)).alloc (.cells b e)).heap.size = W.heap.size + 1 + 1 := by simp
  rw [s1] at n2
  have n3 := blk_alloc n1 (.cells b e)
  have hs : ∀ k, k < W.heap.size + 1 + 1 → (Sort.grow (((W.alloc (.cells a e)).alloc (.cells b e)).drewN q) os).heap[k]? = ((W.alloc (.cells a e)).alloc (.cells b e)).heap[k]? := by
    intro k hk
    show (((W.alloc (.cells a e)).alloc (.cells b e)).heap ++ os)[k]? = _
    rw [Array.getElem?_append_left (by rw [s2]; exact hk)]
  exact ⟨(hs _ (by omega)).trans n3, (hs _ (by omega)).trans n2⟩
theorem impl_Corner_22.gr2 (W : World) (a b : Obj) (q q' : Nat) (os os' : Array Obj) : Sort.grow ((Sort.grow (((W.alloc a).alloc b).drewN q) os).drewN q') os' = Sort.grow (W.drewN (q + q')) (#[a] ++ #[b] ++ os ++ os') := by
  rw [Sort.alloc_eq_grow, Sort.alloc_eq_grow]
  simp only [Sort.grow, World.drewN, Array.append_assoc, Nat.add_assoc]
set_option maxHeartbeats 4000000 in
theorem impl_Corner_22.cmp_grow (x y : S37) (W : World) : Calls Try.prog 23 #[.agg #[.int .i16 x.f0, .int .i16 x.f1], .agg #[.int .i16 y.f0, .int .i16 y.f1]] W fun e w' => e = .returned (.int .i64 (CS.cf x y)) ∧ ∃ q os', w' = Sort.grow (W.drewN q) os' := by
  have hu := Try.underlying37
  have h1 := fun W => impl_Corner_22.less_grow x y W
  have h2 := fun W => impl_Corner_22.less_grow y x W
  have hz : ∀ q os, ((Sort.grow (((W.alloc (.cells #[.int .i16 x.f0, .int .i16 x.f1] 37)).alloc (.cells #[.int .i16 y.f0, .int .i16 y.f1] 37)).drewN q) os).cell? ⟨W.heap.size, 0, none⟩ = some (.int .i16 x.f0)) ∧ ((Sort.grow (((W.alloc (.cells #[.int .i16 x.f0, .int .i16 x.f1] 37)).alloc (.cells #[.int .i16 y.f0, .int .i16 y.f1] 37)).drewN q) os).cell? ⟨W.heap.size, 1, none⟩ = some (.int .i16 x.f1)) ∧ ((Sort.grow (((W.alloc (.cells #[.int .i16 x.f0, .int .i16 x.f1] 37)).alloc (.cells #[.int .i16 y.f0, .int .i16 y.f1] 37)).drewN q) os).cell? ⟨W.heap.size + 1, 0, none⟩ = some (.int .i16 y.f0)) ∧ ((Sort.grow (((W.alloc (.cells #[.int .i16 x.f0, .int .i16 x.f1] 37)).alloc (.cells #[.int .i16 y.f0, .int .i16 y.f1] 37)).drewN q) os).cell? ⟨W.heap.size + 1, 1, none⟩ = some (.int .i16 y.f1)) := by
    intro q os
    obtain ⟨g1, g2⟩ := impl_Corner_22.gblk W #[.int .i16 x.f0, .int .i16 x.f1] #[.int .i16 y.f0, .int .i16 y.f1] 37 q os
    exact ⟨(blk_cell g1 0).trans rfl, (blk_cell g1 1).trans rfl, (blk_cell g2 0).trans rfl, (blk_cell g2 1).trans rfl⟩
  have hz1 := fun q os => (hz q os).1
  have hz2 := fun q os => (hz q os).2.1
  have hz3 := fun q os => (hz q os).2.2.1
  have hz4 := fun q os => (hz q os).2.2.2
  clear hz
  unfold CS.cf
  generalize CS.lt x y = b1 at h1 ⊢
  generalize CS.lt y x = b2 at h2 ⊢
  cases b1 with
  | true =>
    rw [if_pos rfl]
    go_enter Try.func23, Try.ntmps23
    go_wp2_with (first | (go_at_call 24; (with_reducible refine (h1 _).mono ?_); rintro e w1 ⟨rfl, q1, os1, rfl⟩) | (go_at_call 24; (with_reducible refine (h2 _).mono ?_); rintro e w2 ⟨rfl, q2, os2, rfl⟩))
    go_ret
    exact ⟨rfl, _, _, impl_Corner_22.gr2 W _ _ q1 0 os1 #[]⟩
  | false =>
    rw [if_neg (by decide)]
    cases b2 with
    | true =>
      rw [if_pos rfl]
      go_enter Try.func23, Try.ntmps23
      go_wp2_with (first | (go_at_call 24; (with_reducible refine (h1 _).mono ?_); rintro e w1 ⟨rfl, q1, os1, rfl⟩) | (go_at_call 24; (with_reducible refine (h2 _).mono ?_); rintro e w2 ⟨rfl, q2, os2, rfl⟩))
      go_ret
      exact ⟨rfl, _, _, impl_Corner_22.gr2 W _ _ q1 q2 os1 os2⟩
    | false =>
      rw [if_neg (by decide)]
      go_enter Try.func23, Try.ntmps23
      go_wp2_with (first | (go_at_call 24; (with_reducible refine (h1 _).mono ?_); rintro e w1 ⟨rfl, q1, os1, rfl⟩) | (go_at_call 24; (with_reducible refine (h2 _).mono ?_); rintro e w2 ⟨rfl, q2, os2, rfl⟩))
      go_ret
      exact ⟨rfl, _, _, impl_Corner_22.gr2 W _ _ q1 q2 os1 os2⟩
theorem impl_Corner_22.calls (P0_ : Nat → Prop) (u9000_ : Value) (l0 : List (S37)) (r : List (S37)) (w0 w : World) (hB : Below w0.heap.size w0 w) (ho0 : Kd.R k37 37 w w0.heap.size P0_ u9000_ l0) (h : impl_Corner_22.f l0 = some r) :
    Calls Try.prog 22 #[u9000_, .func (.func 23) #[] #[]] w fun e w' => e = .returned (.tuple #[]) ∧ Kd.R k37 37 w' w0.heap.size (fun k_ => (P0_ k_ ∨ w.heap.size ≤ k_)) u9000_ r ∧ Below w0.heap.size w0 w' ∧ Kept w w' (fun k_ => P0_ k_) := by
  unfold impl_Corner_22.f at h
  by_cases hl : l0.length < 1048576
  rotate_left
  · rw [if_neg hl] at h; exact absurd h (by simp)
  rw [if_pos hl] at h
  obtain rfl := Option.some.inj h
  by_cases hne : l0 = []
  · subst hne
    obtain ⟨A, c, e⟩ := Kd.R_slice ho0
    subst e
    refine (AnyF.slices_SortFunc_none Try.sortC A c (.func (.func 23) #[] #[]) w).mono ?_
    rintro e w' ⟨rfl, rfl⟩
    rw [show ([] : List (S37)).mergeSort (fun x y => !CS.lt y x) = [] by simp]
    exact ⟨rfl, Kd.R_mono ho0 (fun k_ hk => .inl hk), hB, Kept.refl _ _⟩
  · have hp : 0 < l0.length := List.length_pos_iff.2 hne
    obtain ⟨g, cap, e, hg, hgl, _⟩ := Kd.R_form ho0 hp
    subst e
    have hP : P0_ g := ho0.1 g rfl
    have key := AnyQ.slices_SortFunc_total Try.sortC 2 Try.isAgg37 Try.sizeOf37 CS.enc CS.enc_len CS.enc_one CS.cf CS.swo 23 #[] g 0 cap l0.toArray w (enters_of Try.func23 (by kernel_rfl) rfl) (fun m os dk _ x y => impl_Corner_22.cmp_grow x y _) (CS.holds ho0) hgl (by simp; omega) CS.total
    have hsz : l0.toArray.size = l0.length := by simp
    rw [hsz] at key
    refine key.mono ?_
    rintro e w' ⟨rfl, q, os, rfl⟩
    have hm : (l0.toArray.toList.mergeSort fun x y => !(ltOf CS.cf) y x) = l0.mergeSort fun x y => !CS.lt y x := by
      congr 1
      funext x y
      rw [CS.ltOf_cf]
    rw [hm]
    obtain ⟨h1, h2⟩ := CS.back (q := q) (os := os) (ys := l0.mergeSort fun x y => !CS.lt y x) ho0 (List.length_mergeSort _)
    exact ⟨rfl, Kd.R_mono h1 (fun k_ hk => .inl hk), hB.grown h2 (below_size hB) (fun k_ e_ => by injection e_ with e_; rw [← e_]; exact hg), Kept.of_grown (S := fun k_ => P0_ k_) h2 (Kept.refl _ _) (fun k_ e_ => by injection e_ with e_; rw [← e_]; exact .inl hP)⟩

end Go.Proofs.Ytgefjglbaekegaa.PA
