/- Written by a program of this session out of the translation: pure functions, and that Go's functions come to them. -/
import Derived.Test.YtadighbpjanjbaaPAx0
namespace Go.Proofs.Ytadighbpjanjbaa.PA
open Go.RowKit Go.Proofs.YtadighbpjanjbaaW.PrintWords Go.Proofs.YtadighbpjanjbaaW.PrintLast Go.Proofs.YtadighbpjanjbaaW.PrintMore
attribute [local go_sem] max2_int min2_int max_two min_two max_three min_three max_four min_four   -- for this text's walks alone
set_option linter.unusedVariables false
set_option linter.unusedSimpArgs false

/-! ### impl_longestFirst: function 17 -/
namespace LF
abbrev BEL (w W : World) : Prop := Below w.heap.size w W
/-- The places of a list of m + 1 numbers, as values. -/
def e (m : Nat) (i : Fin (m + 1)) : Value := .int .i64 ((i.val : Nat) : Int)
def cf (l0 : List Int) (m : Nat) (i j : Fin (m + 1)) : Int := wrap64 (rd l0 ((j.val : Nat) : Int) - rd l0 ((i.val : Nat) : Int))
def toF (m : Nat) (x : Int) : Fin (m + 1) := Fin.ofNat (m + 1) x.toNat
def srtF (l0 : List Int) (m : Nat) (xs : List Int) : List Int := (Sort.insertionSort (ltOf (cf l0 m)) (xs.map (toF m)).toArray 0 (xs.map (toF m)).toArray.size).toList.map fun i => ((i.val : Nat) : Int)
def srt (l0 xs : List Int) : List Int := match l0.length with
  | 0 => []
  | m + 1 => srtF l0 m xs
set_option maxHeartbeats 4000000 in
set_option maxRecDepth 100000 in
theorem cmp (A : Option Addr) (c : Nat) (l0 : List Int) (box : Nat) (w : World) (hbox : w.cell? ⟨box, 0, none⟩ = some (.slice A l0.length c)) (hr : Kd.C (Kd.int .i64) w A l0.length l0) (i j : Int) (i0 : 0 ≤ i) (i1 : i < (l0.length : Int)) (j0 : 0 ≤ j) (j1 : j < (l0.length : Int)) :
    Calls Try.prog 27 #[.int .i64 i, .int .i64 j, .pointer (some ⟨box, 0, none⟩)] w fun e w' => e = .returned (.int .i64 (wrap64 (rd l0 j - rd l0 i))) ∧ Drawn0 w w' := by
  obtain ⟨ad1, e1, hx1⟩ := Kd.at_int hr j j0 j1
  subst e1
  obtain ⟨ad2, e2, hx2⟩ := Kd.at_int hr i i0 i1
  cases e2
  replace i0 := eq_true i0
  replace i1 := eq_true i1
  replace j0 := eq_true j0
  replace j1 := eq_true j1
  clear hr
  go_enter Try.func27, Try.ntmps27
  go_wp2
  repeat (go_quiet (fail); try go_wp2)
  go_ret
  exact ⟨by first | rfl | (simp [*]; done), by repeat (first | exact Drawn0.refl _ | apply Drawn0.step)⟩
set_option maxHeartbeats 4000000 in
set_option maxRecDepth 100000 in
theorem ins0 (A : Option Addr) (c : Nat) (fv : Value) (w : World) : Calls Try.prog 32 #[.slice A 0 c, .int .i64 0, .int .i64 0, fv] w fun e w' => e = .returned (.tuple #[]) ∧ Drawn0 w w' := by
  go_enter Try.func32, Try.ntmps32
  go_wp2
  refine wp_loop_rounds 1 ?_
  rw [rounds_succ]
  go_wp2
  go_end0
  exact ⟨rfl, by repeat (first | exact Drawn0.refl _ | apply Drawn0.step)⟩
set_option maxHeartbeats 4000000 in
set_option maxRecDepth 100000 in
theorem stable (v : Value) (n : Nat) (hn : n ≤ 19) (fv : Value) (w : World) (P : World → Prop) (hP : ∀ w q, P w → P (w.drewN q)) (hins : ∀ q, Calls Try.prog 32 #[v, .int .i64 0, .int .i64 n, fv] (w.drewN q) fun e w' => e = .returned (.tuple #[]) ∧ P w') :
    Calls Try.prog 31 #[v, .int .i64 n, fv] w fun e w' => e = .returned (.tuple #[]) ∧ P w' := by
  have hI := Aside0.mk hins
  have hP' := Aside0.mk hP
  clear hins hP
  have c1 : decide ((20 : Int) ≤ (n : Int)) = false := decide_eq_false (by omega)
  have c2 : decide ((20 : Int) < (n : Int)) = false := decide_eq_false (by omega)
  go_enter Try.func31, Try.ntmps31
  go_wp2
  refine wp_loop_rounds 1 ?_
  rw [rounds_succ]
  go_wp2_with (go_at_call 32; refine (hI.out 0).mono ?_; rintro e w1 ⟨rfl, h1⟩; have H1 := Aside0.mk h1; clear h1)
  refine wp_loop_rounds 1 ?_
  rw [rounds_succ]
  go_wp2
  go_end0
  exact ⟨rfl, by repeat (first | exact H1.out | apply hP'.out)⟩
theorem insInner_size {α : Type} [Inhabited α] (lt : α → α → Bool) (a : Nat) : ∀ (j : Nat) (d : Array α), (Sort.insInner lt a j d).size = d.size
  | 0, _ => rfl
  | j + 1, d => by
    rw [Sort.insInner]
    split
    · rw [insInner_size lt a j, Sort.size_swp]
    · rfl
theorem insOuter_size {α : Type} [Inhabited α] (lt : α → α → Bool) (a b : Nat) : ∀ (n i : Nat) (d : Array α), b - i = n → (Sort.insOuter lt a b i d).size = d.size
  | 0, i, d, h => by rw [Sort.insOuter, if_neg (by omega)]
  | n + 1, i, d, h => by rw [Sort.insOuter, if_pos (by omega), insOuter_size lt a b n (i + 1) _ (by omega), insInner_size]
theorem insertionSort_size {α : Type} [Inhabited α] (lt : α → α → Bool) (d : Array α) (a b : Nat) : (Sort.insertionSort lt d a b).size = d.size := insOuter_size lt a b _ _ d rfl
/-- What stays as it was below the base: the variable's box, and the list that is read. -/
theorem C_below {w W : World} {A : Option Addr} {l0 : List Int} (hr : Kd.C (Kd.int .i64) w A l0.length l0) (hb : Below w.heap.size w W) : Kd.C (Kd.int .i64) W A l0.length l0 := by
  exact Kd.C_below hr hb
set_option maxHeartbeats 4000000 in
theorem insN (wb w : World) (A : Option Addr) (c : Nat) (l0 : List Int) (m : Nat) (hm : l0.length = m + 1) (box : Nat) (v : Value) (xs : List Int) (hne : xs ≠ []) (hbox : wb.cell? ⟨box, 0, none⟩ = some (.slice A l0.length c)) (hr : Kd.C (Kd.int .i64) wb A l0.length l0)
    (HO : Kd.R (Kd.int .i64) 2 w wb.heap.size (fun _ => True) v xs) (HB : Below wb.heap.size wb w) (h1 : xs.length ≤ 1048576) (h2 : ∀ x ∈ xs, 0 ≤ x ∧ x < (l0.length : Int)) :
    Calls Try.prog 32 #[v, .int .i64 0, .int .i64 xs.length, .func (.func 27) #[] #[.pointer (some ⟨box, 0, none⟩)]] w fun e w' => e = .returned (.tuple #[]) ∧ Kd.R (Kd.int .i64) 2 w' wb.heap.size (fun _ => True) v (srtF l0 m xs) ∧ Below wb.heap.size wb w' := by
  have hx : xs = ((xs.map (toF m)).map fun i => ((i.val : Nat) : Int)) := by
    rw [List.map_map]
    conv => lhs; rw [← List.map_id xs]
    refine List.map_congr_left (fun x hx => ?_)
    have := h2 x hx
    show x = (((toF m x).val : Nat) : Int)
    unfold toF
    rw [Fin.val_ofNat, Nat.mod_eq_of_lt (by omega)]
    omega
  have ho := Kd.own_of_R HO
  have he : encs (Value.int .i64) xs = (xs.map (toF m)).map (e m) := by
    conv => lhs; rw [hx]
    rw [encs, List.map_map]
    rfl
  have hl : (xs.map (toF m)).length = xs.length := List.length_map ..
  have ho2 : w.ownsRow wb.heap.size 2 1 v xs.length ((xs.map (toF m)).map (e m)) := by rw [← he]; exact ho
  have hv : v ≠ .slice none 0 0 := by
    intro e0
    subst e0
    have := (Kd.R_reads' HO).1
    exact hne (List.eq_nil_of_length_eq_zero this.symm)
  obtain ⟨g, cap, rfl, hg1, hg2, hn, hcm, hzl, hH⟩ := Lib.holds_of_ownsRow ho2 hv
  have hsz : (xs.map (toF m)).toArray.size = xs.length := by simp
  have hc : CmpReads Try.prog 27 #[.pointer (some ⟨box, 0, none⟩)] (e m) (cf l0 m) g 0 (xs.map (toF m)).toArray.size w := by
    intro q os dk _ i j
    have hbw : Below wb.heap.size wb (sortWorld (e m) w g 0 q dk os) := by
      have h0 := Lib.below_putRow (enc := e m) (q := q) (d := dk) HB hg1
      exact below_step h0 (below_grown_sl _ _ 0 os (Nat.le_refl _))
    have hi := i.isLt
    have hj := j.isLt
    have ea : (#[e m i, e m j] ++ #[Value.pointer (some ⟨box, 0, none⟩)] : Array Value) = #[.int .i64 ((i.val : Nat) : Int), .int .i64 ((j.val : Nat) : Int), .pointer (some ⟨box, 0, none⟩)] := by simp [e]
    rw [ea]
    refine Calls.mono (cmp A c l0 box _ ((hbw.cell (World.block_lt_of_cell? wb _ hbox)).trans hbox) (C_below hr hbw) ((i.val : Nat) : Int) ((j.val : Nat) : Int) (by omega) (by omega) (by omega) (by omega)) ?_
    rintro e' w' ⟨rfl, nd, rfl⟩
    exact ⟨rfl, nd, rfl⟩
  have key := Any.insertionSortCmpFunc_one Try.laysSlF20 (e m) (fun _ => rfl) (cf l0 m) 27 #[.pointer (some ⟨box, 0, none⟩)] g 0 cap 0 (xs.map (toF m)).toArray.size (xs.map (toF m)).toArray w (enters_of Try.func27 (by kernel_rfl) rfl) hc hH (Nat.zero_le _) (Nat.le_refl _) (by rw [hsz]; omega)
  rw [hsz] at key
  refine key.mono ?_
  rintro e' w' ⟨rfl, n, rfl⟩
  have ew : (Sort.putRow (e m) w g 0 (Sort.insertionSort (ltOf (cf l0 m)) (xs.map (toF m)).toArray 0 xs.length)).drewN n = Sort.putRow (e m) (Sort.ahead w n) g 0 (Sort.insertionSort (ltOf (cf l0 m)) (xs.map (toF m)).toArray 0 xs.length) := by
    have := putRow_drewN (enc := e m) w 0 n g 0 (Sort.insertionSort (ltOf (cf l0 m)) (xs.map (toF m)).toArray 0 xs.length)
    rw [Nat.zero_add] at this
    exact this
  have hs : (Sort.insertionSort (ltOf (cf l0 m)) (xs.map (toF m)).toArray 0 xs.length).size = xs.length := by rw [insertionSort_size]; exact hsz
  rw [ew]
  have hown := Lib.ownsRow_putRow (q := n) (k := xs.length) (ys := (Sort.insertionSort (ltOf (cf l0 m)) (xs.map (toF m)).toArray 0 xs.length).toList) ho2 (by rw [Array.length_toList, hs]) (Nat.le_refl _)
  refine ⟨rfl, ?_, Lib.below_putRow HB hg1⟩
  have hsl : (srtF l0 m xs).length = xs.length := by unfold srtF; rw [List.length_map, Array.length_toList, hsz, hs]
  refine Kd.R_of_own ?_ (fun _ _ => trivial)
  rw [hsl]
  have henc : encs (Value.int .i64) (srtF l0 m xs) = (((Sort.insertionSort (ltOf (cf l0 m)) (xs.map (toF m)).toArray 0 xs.length).toList).take xs.length).map (e m) := by
    rw [List.take_of_length_le (by rw [Array.length_toList, hs]; exact Nat.le_refl _)]
    unfold srtF
    rw [hsz, encs, List.map_map]
    rfl
  rw [henc]
  exact hown
set_option maxHeartbeats 4000000 in
theorem sort_run (wb w : World) (A : Option Addr) (c : Nat) (l0 : List Int) (box : Nat) (v : Value) (xs : List Int) (hbox : wb.cell? ⟨box, 0, none⟩ = some (.slice A l0.length c)) (hr : Kd.C (Kd.int .i64) wb A l0.length l0)
    (HO : Kd.R (Kd.int .i64) 2 w wb.heap.size (fun _ => True) v xs) (HB : Below wb.heap.size wb w) (h1 : xs.length ≤ 19) (h2 : ∀ x ∈ xs, 0 ≤ x ∧ x < (l0.length : Int)) :
    Calls Try.prog 26 #[v, .func (.func 27) #[] #[.pointer (some ⟨box, 0, none⟩)]] w fun e w' => e = .returned (.tuple #[]) ∧ Kd.R (Kd.int .i64) 2 w' wb.heap.size (fun _ => True) v (srt l0 xs) ∧ Below wb.heap.size wb w' := by
  obtain ⟨Av, cv, rfl⟩ := Kd.R_slice HO
  have hins : ∀ q, Calls Try.prog 32 #[.slice Av xs.length cv, .int .i64 0, .int .i64 xs.length, .func (.func 27) #[] #[.pointer (some ⟨box, 0, none⟩)]] (w.drewN q) fun e w' => e = .returned (.tuple #[]) ∧ (Kd.R (Kd.int .i64) 2 w' wb.heap.size (fun _ => True) (.slice Av xs.length cv) (srt l0 xs) ∧ Below wb.heap.size wb w') := by
    intro q
    cases hm : l0.length with
    | zero =>
      have hx : xs = [] := by
        cases xs with
        | nil => rfl
        | cons x r =>
          have := h2 x List.mem_cons_self
          omega
      subst hx
      have hs : srt l0 [] = [] := by unfold srt; rw [hm]
      rw [hs]
      refine (ins0 Av cv _ _).mono ?_
      rintro e w' ⟨rfl, nd, rfl⟩
      exact ⟨rfl, Kd.R_drewN (Kd.R_drewN HO _) _, pw_below_drewN (pw_below_drewN HB _) _⟩
    | succ m =>
      have hs : srt l0 xs = srtF l0 m xs := by unfold srt; rw [hm]
      rw [hs]
      by_cases hne : xs = []
      · subst hne
        have hs2 : srtF l0 m [] = [] := by
          apply List.eq_nil_of_length_eq_zero
          unfold srtF
          rw [List.length_map, Array.length_toList, insertionSort_size]
          rfl
        rw [hs2]
        refine (ins0 Av cv _ _).mono ?_
        rintro e w' ⟨rfl, nd, rfl⟩
        exact ⟨rfl, Kd.R_drewN (Kd.R_drewN HO _) _, pw_below_drewN (pw_below_drewN HB _) _⟩
      · exact insN wb (w.drewN q) A c l0 m hm box _ xs hne hbox hr (Kd.R_drewN HO _) (pw_below_drewN HB _) (by omega) h2
  have key := stable (.slice Av xs.length cv) xs.length h1 (.func (.func 27) #[] #[.pointer (some ⟨box, 0, none⟩)]) w (fun w' => Kd.R (Kd.int .i64) 2 w' wb.heap.size (fun _ => True) (.slice Av xs.length cv) (srt l0 xs) ∧ Below wb.heap.size wb w') (fun w' q h => ⟨Kd.R_drewN h.1 _, pw_below_drewN h.2 _⟩) hins
  have HK := Aside0.mk key
  clear key hins h2 hr hbox HO HB
  go_enter Try.func26, Try.ntmps26
  go_wp2_with (go_at_call 31; refine HK.out.mono ?_; rintro e w1 ⟨rfl, h1⟩; have H1 := Aside0.mk h1; clear h1)
  go_end0
  exact ⟨rfl, H1.out⟩
theorem box_cell (w : World) (v : Value) {t : Nat} : (w.alloc (.cells #[v] t)).cell? ⟨w.heap.size, 0, none⟩ = some v := (blk_cell (heap_alloc_new w (.cells #[v] t)) 0).trans rfl
end LF
def impl_longestFirst.l0 : Nat → List Int → Int → Int → Option (List Int)
  | 0, _, _, _ => none
  | k + 1, x3, x7, x8 => if x8 < x7 then (if x3.length < 17592186044416 then (impl_longestFirst.l0 k (x3 ++ [x8]) x7 (wrap64 (x8 + 1))) else (none)) else (some x3)
def impl_longestFirst.end_ (l0 xs : List Int) : Option (List Int) := if xs.length ≤ 19 then (if (xs.all fun x => decide (0 ≤ x) && decide (x < (l0.length : Int))) = true then some (LF.srt l0 xs) else none) else none
def impl_longestFirst.f (k : Nat) (l0 : List Int) : Option (List Int) := (impl_longestFirst.l0 k (([] : List Int)) (l0.length : Int) 0).bind fun xs => impl_longestFirst.end_ l0 xs
theorem impl_longestFirst.mono_l : ∀ k, (∀ y0 y1 y2, LeO (impl_longestFirst.l0 k y0 y1 y2) (impl_longestFirst.l0 (k + 1) y0 y1 y2))
  | 0 => fun _ _ _ r h => by simp [impl_longestFirst.l0] at h
  | k + 1 => by
    have ih0 := impl_longestFirst.mono_l k
    · intro y0 y1 y2
      unfold impl_longestFirst.l0
      repeat' first
      | (with_reducible exact ih0 _ _ _)
      | (with_reducible exact LeO.refl _)
      | (with_reducible exact LeO.none _)
      | (with_reducible refine LeO.ite ?_ ?_)
      | (with_reducible refine LeO.bind ?_ (fun _ => ?_))
      | exact ih0 _ _ _
      | exact LeO.none _
      | refine LeO.ite ?_ ?_
      | refine LeO.bind ?_ (fun _ => ?_)
theorem impl_longestFirst.mono : ∀ a0 k, LeO (impl_longestFirst.f k a0) (impl_longestFirst.f (k + 1) a0) := by
  intro a0 k
  have ih0 := impl_longestFirst.mono_l k
  unfold impl_longestFirst.f
  repeat' first
      | (with_reducible exact ih0 _ _ _)
      | (with_reducible exact LeO.refl _)
      | (with_reducible exact LeO.none _)
      | (with_reducible refine LeO.ite ?_ ?_)
      | (with_reducible refine LeO.bind ?_ (fun _ => ?_))
      | exact ih0 _ _ _
      | exact LeO.none _
      | refine LeO.ite ?_ ?_
      | refine LeO.bind ?_ (fun _ => ?_)
set_option maxHeartbeats 8000000 in
set_option maxRecDepth 100000 in
theorem impl_longestFirst.calls (k : Nat) (A0 : Option Addr) (c0 : Nat) (l0 : List Int) (r : List Int) (w : World) (hr0 : Kd.C (Kd.int .i64) w A0 l0.length l0) (hc0 : l0.length ≤ c0) (h : impl_longestFirst.f k l0 = some r) :
    Calls Try.prog 17 #[.slice A0 l0.length c0] w fun e w' => ∃ v0_ : Value, e = .returned (v0_) ∧ Kd.R (Kd.int .i64) 2 w' w.heap.size (fun _ => True) v0_ r ∧ Below w.heap.size w w' := by
  have HR0 := Aside0.mk hr0
  have HC0 := Aside0.mk hc0
  clear hr0 hc0
  have HB := Aside0.mk (Below.refl (w.alloc (.cells #[.slice A0 l0.length c0] 22)).heap.size (w.alloc (.cells #[.slice A0 l0.length c0] 22)))
  obtain ⟨xs, H, hend⟩ := Option.bind_eq_some_iff.1 h
  have HE := Aside0.mk hend
  clear h hend
  obtain ⟨y174, hy174⟩ : ∃ y_ : List Int, y_ = (([] : List Int)) := ⟨_, rfl⟩
  replace H : (impl_longestFirst.l0 k y174 (l0.length : Int) 0) = some xs := by first | (rw [hy174]; with_reducible exact H) | (have H2_ := (Option.bind_some _ _).symm.trans H; rw [hy174]; with_reducible exact H2_) | (have H2_ := (Option.bind_some _ _).symm.trans H; with_reducible exact H2_) | with_reducible exact H | (rw [hy174]; exact H) | exact H
  have Ny174 := Aside0.mk hy174
  clear hy174
  have H' := Aside0.mk H
  clear H
  go_enter Try.func17, Try.ntmps17
  go_wp2_with (first | ((with_reducible refine gate_dst (N := 5) rfl ?_); refine Kd.R_lit (Kd.int .i64) _ 2 ?hg (N := 5) ?hd (xs := ([] : List Int)) (inner := []) (ok := fun _ => True) (okp := fun _ => True) ?hr ?hp (fun _ hk => hk) trivial (Below.refl _ _) (Nat.le_refl _) (by simp) ?_; (case hd => rfl); (case hg => rfl); (case hr => first | (go_simp; done) | (go_simp; rfl)); (case hp => exact (Reps.none _ _)); intro v175 w2 ho3 hb hg_ hnew_; clear hg_ hnew_; (first | rw [← Ny174.out] at ho3 | (simp only [Int.reduceToNat] at ho3; rw [← Ny174.out] at ho3)); have n0_ := Aside0.mk (Kd.R_lower ho3 (below_size (by repeat (first | (with_reducible first | exact HB.out | apply below_alloc | apply pw_below_drewN | apply below_drew1) | exact HB.out)))); have n1_ := Aside0.mk (below_step (by repeat (first | (with_reducible first | exact HB.out | apply below_alloc | apply pw_below_drewN | apply below_drew1) | exact HB.out)) hb); clear HB; have HO176 := n0_; have HB := n1_; clear n0_ n1_; clear hb ho3; have hbx1 := (HB.out.cell (show (⟨w.heap.size, 0, none⟩ : Addr).block < _ from by simp)).trans (LF.box_cell (t := 22) w (.slice A0 l0.length c0))))
  clear hbx1
  go_loopg [3, 8] k (fun kq v3 v8 w' => ∃ (x3_1 : List Int) (x8_1 : Int), v8 = .int .i64 x8_1 ∧ Aside0 (impl_longestFirst.l0 kq x3_1 (l0.length : Int) x8_1 = some xs) ∧ Aside0 (kq ≤ k) ∧ Aside0 (Kd.R (Kd.int .i64) 2 w' (w.alloc (.cells #[.slice A0 l0.length c0] 22)).heap.size (fun _ => True) v3 x3_1) ∧ Aside0 (Below (w.alloc (.cells #[.slice A0 l0.length c0] 22)).heap.size (w.alloc (.cells #[.slice A0 l0.length c0] 22)) w'))
  case atStart => exact ⟨(y174), (0), (by first | rfl | (simp; done) | (simp [*]; done)), H', ⟨Nat.le_refl _⟩, ⟨by (with_reducible repeat (first | apply Kd.R_alloc | apply Kd.R_drewN | apply Kd.R_drew)); exact HO176.out⟩, ⟨by repeat (first | (with_reducible first | exact HB.out | apply below_alloc | apply pw_below_drewN | apply below_drew1) | exact HB.out)⟩⟩
  case round =>
    clear H'
    try clear c1
    try clear p2
    obtain ⟨x3_1, x8_1, rfl, HA, HK1, HO_3, HB⟩ := hrel
    cases gk with
    | zero => exact absurd HA.out (by simp [impl_longestFirst.l0])
    | succ k1 =>
      have H := HA.out
      clear HA
      simp only [impl_longestFirst.l0] at H
      by_cases c4 : x8_1 < (l0.length : Int)
      · rw [if_pos c4] at H
        have c4b0 : decide (x8_1 < (l0.length : Int)) = true := decide_eq_true c4
        clear c4
        by_cases c5 : x3_1.length < 17592186044416
        · rw [if_pos c5] at H
          have LMc5 := Aside0.mk c5
          clear c5
          obtain ⟨y177, hy177⟩ : ∃ y_ : List Int, y_ = (x3_1 ++ [x8_1]) := ⟨_, rfl⟩
          replace H : (impl_longestFirst.l0 k1 y177 (l0.length : Int) (wrap64 (x8_1 + 1))) = some xs := by first | (rw [hy177]; with_reducible exact H) | (have H2_ := (Option.bind_some _ _).symm.trans H; rw [hy177]; with_reducible exact H2_) | (have H2_ := (Option.bind_some _ _).symm.trans H; with_reducible exact H2_) | with_reducible exact H | (rw [hy177]; exact H) | exact H
          have Ny177 := Aside0.mk hy177
          clear hy177
          have H' := Aside0.mk H
          clear H
          go_wp2_with (first | ((with_reducible refine gate_builtin (b := .append) (xs := #[.tmp 11, .tmp 13]) rfl ?_); at_builtin; refine Kd.R_append (Kd.int .i64) (w0 := (w.alloc (.cells #[.slice A0 l0.length c0] 22))) (w.alloc (.cells #[.slice A0 l0.length c0] 22)).heap.size rfl (.tmp 11) (.tmp 13) 22 2 (.int .i64 0) 8 rfl Try.underlying22 info2 rfl (by decide) (by omega) u3 x3_1 x8_1 [.int .i64 x8_1] (fun _ => True) (fun _ => False) rfl rfl ?aP (fun _ hk => hk.elim) ?aF ?aO ?aB ?aS ?aL ?_; (case aP => exact rfl); (case aB => exact (by repeat (first | (with_reducible first | exact HB.out | apply below_alloc | apply pw_below_drewN | apply below_drew1) | exact HB.out))); (case aF => exact (fun _ _ => trivial)); (case aO => exact (by (with_reducible repeat (first | apply Kd.R_alloc | apply Kd.R_drewN | apply Kd.R_drew)); exact HO_3.out)); (case aS => exact (below_size (by repeat (first | (with_reducible first | exact HB.out | apply below_alloc | apply pw_below_drewN | apply below_drew1) | exact HB.out)))); (case aL => have := LMc5.out; omega); intro v178 w6 ho hb hg hat; rw [← Ny177.out] at ho; have n0_ := Aside0.mk (hb); have n1_ := Aside0.mk (ho); clear HB; clear HO_3; have HB := n0_; have HO179 := n1_; clear n0_ n1_; clear ho hb hg hat))
          go_roundg k1
          case measure => have := HK1.out; omega
          case rel => exact ⟨(y177), (wrap64 (x8_1 + 1)), (by first | rfl | (simp; done) | (simp [*]; done)), H', ⟨by have := HK1.out; omega⟩, ⟨by (with_reducible repeat (first | apply Kd.R_alloc | apply Kd.R_drewN | apply Kd.R_drew)); exact HO179.out⟩, ⟨by repeat (first | (with_reducible first | exact HB.out | apply below_alloc | apply pw_below_drewN | apply below_drew1) | exact HB.out)⟩⟩
        · rw [if_neg c5] at H
          exact absurd H (by simp)
      · rw [if_neg c4] at H
        have c4b0 : decide (x8_1 < (l0.length : Int)) = false := decide_eq_false c4
        clear c4
        obtain rfl := Option.some.inj H
        have hE := HE.out
        unfold impl_longestFirst.end_ at hE
        by_cases e1 : x3_1.length ≤ 19
        · rw [if_pos e1] at hE
          by_cases e2 : (x3_1.all fun x => decide (0 ≤ x) && decide (x < (l0.length : Int))) = true
          · rw [if_pos e2] at hE
            obtain rfl := Option.some.inj hE
            have e3 : ∀ x ∈ x3_1, 0 ≤ x ∧ x < (l0.length : Int) := fun x hx => by
              have := List.all_eq_true.1 e2 x hx
              rw [Bool.and_eq_true, decide_eq_true_eq, decide_eq_true_eq] at this
              exact this
            have HL := Aside0.mk e3
            have HN := Aside0.mk e1
            clear e1 e2 e3 hE
            go_wp2_with (go_at_call 26; refine (LF.sort_run (w.alloc (.cells #[.slice A0 l0.length c0] 22)) _ A0 c0 l0 w.heap.size _ x3_1 ?side1 ?side2 ?side3 ?side4 HN.out HL.out).mono ?_; (case side1 => exact (LF.box_cell w _)); (case side2 => exact LF.C_below HR0.out (below_alloc (Below.refl _ _) _)); (case side3 => (with_reducible repeat (first | apply Kd.R_alloc | apply Kd.R_drewN | apply Kd.R_drew)); exact HO_3.out); (case side4 => exact (by repeat (first | (with_reducible first | exact HB.out | apply below_alloc | apply pw_below_drewN | apply below_drew1) | exact HB.out))); rintro e w9 ⟨rfl, ho, hb⟩; have n0_ := Aside0.mk ho; have n1_ := Aside0.mk hb; clear HO_3 HB ho hb; have HO_3 := n0_; have HB := n1_; clear n0_ n1_)
            go_ret
            refine ⟨_, rfl, ?_, ?_⟩
            · (with_reducible repeat (first | apply Kd.R_alloc | apply Kd.R_drewN | apply Kd.R_drew))
              exact Kd.R_lower HO_3.out (by simp)
            · exact below_step (below_alloc (Below.refl _ _) _) (by repeat (first | (with_reducible first | exact HB.out | apply below_alloc | apply pw_below_drewN | apply below_drew1) | exact HB.out))
          · rw [if_neg e2] at hE
            exact absurd hE (by simp)
        · rw [if_neg e1] at hE
          exact absurd hE (by simp)


end Go.Proofs.Ytadighbpjanjbaa.PA
