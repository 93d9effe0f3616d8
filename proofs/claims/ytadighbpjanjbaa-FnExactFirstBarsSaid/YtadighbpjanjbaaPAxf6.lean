/- Written by a program of this session out of the translation: pure functions, and that Go's functions come to them. -/
import Derived.Test.YtadighbpjanjbaaPAx0
import Derived.Test.YtadighbpjanjbaaPAxf17
import Derived.Test.YtadighbpjanjbaaPAxf19
import Derived.Test.YtadighbpjanjbaaPAxgImpl
namespace Go.Proofs.Ytadighbpjanjbaa.PA
open Go.RowKit Go.Proofs.YtadighbpjanjbaaW.PrintWords Go.Proofs.YtadighbpjanjbaaW.PrintLast Go.Proofs.YtadighbpjanjbaaW.PrintMore
attribute [local go_sem] max2_int min2_int max_two min_two max_three min_three max_four min_four   -- for this text's walks alone
set_option linter.unusedVariables false
set_option linter.unusedSimpArgs false

/-! ### impl_FirstBars: function 6 -/
theorem LF6.boxes (w : World) (u v x : Value) (t1 t2 t3 : Nat) (wb : World) (h : wb = (((w.alloc (.cells #[u] t1)).alloc (.cells #[v] t2)).alloc (.cells #[x] t3))) : Below w.heap.size w wb ∧ wb.heap[w.heap.size]? = some (.cells #[u] t1 (0, 0)) ∧ wb.heap[w.heap.size + 1]? = some (.cells #[v] t2 (0, 0)) ∧ wb.heap[w.heap.size + 1 + 1]? = some (.cells #[x] t3 (0, 0)) := by
  subst h
  have b1 := below_alloc (Below.refl w.heap.size w) (.cells #[u] t1)
  have n1 := heap_alloc_new w (.cells #[u] t1)
  have n2 := heap_alloc_new (w.alloc (.cells #[u] t1)) (.cells #[v] t2)
  have n3 := heap_alloc_new ((w.alloc (.cells #[u] t1)).alloc (.cells #[v] t2)) (.cells #[x] t3)
  have s1 : (w.alloc (.cells #[u] t1)).heap.size = w.heap.size + 1 := by simp
  have s2 : ((w.alloc (.cells #[u] t1)).alloc (.cells #[v] t2)).heap.size = w.heap.size + 1 + 1 := by simp
  rw [s1] at n2
  rw [s2] at n3
  exact ⟨below_alloc (below_alloc b1 _) _, blk_alloc (blk_alloc n1 _) _, blk_alloc n2 _, n3⟩
def impl_FirstBars.l0 : Nat → Int → Int → List (List Int) → List Int → List Int → Int → Int → Option ((List (List Int)) × Int)
  | 0, _, _, _, _, _, _, _ => none
  | k + 1, x3, x4, x8, x14, x19, x20, x21 => if x21 < x20 then (if 0 ≤ x21 then (if x21 < (x19.length : Int) then ((impl_FirstBars_1.at_ k x8 x3 x4 x14 (rd x19 x21)).bind fun t191 => (if t191 < 0 then (if x8.length < 5864062014805 then (impl_FirstBars.l0 k x3 x4 (x8 ++ [(([rd x19 x21] : List Int))]) x14 x19 x20 (wrap64 (x21 + 1))) else (none)) else (if 0 ≤ t191 then (if t191 < (x8.length : Int) then (if (rd_L1 x8 t191).length < 17592186044416 then (impl_FirstBars.l0 k x3 x4 (x8.set (t191 : Int).toNat ((rd_L1 x8 t191) ++ [rd x19 x21])) x14 x19 x20 (wrap64 (x21 + 1))) else (none)) else (none)) else (none)))) else (none)) else (none)) else (some (x8, 0))
def impl_FirstBars.f (k : Nat) (a0 : Int) (a1 : Int) (l2 : List Int) : Option ((List (List Int)) × Int) := (impl_areBars.f a0 a1 l2).bind fun t183 => (if t183 = true then ((impl_longestFirst.f k l2).bind fun t187 => (impl_FirstBars.l0 k a0 a1 (([] : List (List Int))) l2 t187 (t187.length : Int) 0)) else (some (([] : List (List Int)), 2)))
theorem impl_FirstBars.mono_l : ∀ k, (∀ y0 y1 y2 y3 y4 y5 y6, LeO (impl_FirstBars.l0 k y0 y1 y2 y3 y4 y5 y6) (impl_FirstBars.l0 (k + 1) y0 y1 y2 y3 y4 y5 y6))
  | 0 => fun _ _ _ _ _ _ _ r h => by simp [impl_FirstBars.l0] at h
  | k + 1 => by
    have ih0 := impl_FirstBars.mono_l k
    · intro y0 y1 y2 y3 y4 y5 y6
      unfold impl_FirstBars.l0
      repeat' first
      | (with_reducible exact ih0 _ _ _ _ _ _ _)
      | (with_reducible exact impl_longestFirst.mono _ _)
      | (with_reducible exact impl_FirstBars_1.at_mono _ _ _ _ _ _)
      | (with_reducible exact LeO.refl _)
      | (with_reducible exact LeO.none _)
      | (with_reducible refine LeO.ite ?_ ?_)
      | (with_reducible refine LeO.bind ?_ (fun _ => ?_))
      | exact ih0 _ _ _ _ _ _ _
      | exact impl_longestFirst.mono _ _
      | exact impl_FirstBars_1.at_mono _ _ _ _ _ _
      | exact LeO.none _
      | refine LeO.ite ?_ ?_
      | refine LeO.bind ?_ (fun _ => ?_)
theorem impl_FirstBars.mono : ∀ a0 a1 a2 k, LeO (impl_FirstBars.f k a0 a1 a2) (impl_FirstBars.f (k + 1) a0 a1 a2) := by
  intro a0 a1 a2 k
  have ih0 := impl_FirstBars.mono_l k
  unfold impl_FirstBars.f
  repeat' first
      | (with_reducible exact ih0 _ _ _ _ _ _ _)
      | (with_reducible exact impl_longestFirst.mono _ _)
      | (with_reducible exact impl_FirstBars_1.at_mono _ _ _ _ _ _)
      | (with_reducible exact LeO.refl _)
      | (with_reducible exact LeO.none _)
      | (with_reducible refine LeO.ite ?_ ?_)
      | (with_reducible refine LeO.bind ?_ (fun _ => ?_))
      | exact ih0 _ _ _ _ _ _ _
      | exact impl_longestFirst.mono _ _
      | exact impl_FirstBars_1.at_mono _ _ _ _ _ _
      | exact LeO.none _
      | refine LeO.ite ?_ ?_
      | refine LeO.bind ?_ (fun _ => ?_)
def impl_FirstBars.T10 : Bool × List (List Nat × List Nat) := (true, [([], []), ([], []), ([], []), ([], []), ([2, 3], [2, 3]), ([4], [4]), ([], []), ([6], [6]), ([5, 7], [5, 7]), ([0, 1, 0, 1, 2, 3, 4, 5, 6, 7, 8], [0, 1]), ([9, 8, 8, 0, 1, 2, 3, 4, 5, 6, 7, 8], [8, 9])])
def impl_FirstBars.B10 : List Nat := [0, 0, 0, 0, 12, 28, 0, 64, 252, 511, 1023]
theorem impl_FirstBars.tab10 : rtab .any (opsOf Try.f6 10) = impl_FirstBars.T10 := by kernel_rfl
theorem impl_FirstBars.bits10 : waitsOk impl_FirstBars.T10.2 impl_FirstBars.B10 = true := by kernel_rfl
set_option maxHeartbeats 8000000 in
set_option maxRecDepth 100000 in
theorem impl_FirstBars.calls (k : Nat) (a0 : Int) (a1 : Int) (A2 : Option Addr) (c2 : Nat) (l2 : List Int) (r1 : List (List Int)) (r2 : Int) (w : World) (hr2 : Kd.C (Kd.int .i64) w A2 l2.length l2) (hc2 : l2.length ≤ c2) (h : impl_FirstBars.f k a0 a1 l2 = some (r1, r2)) :
    Calls Try.prog 6 #[.int .i64 a0, .int .i64 a1, .slice A2 l2.length c2] w fun e w' => ∃ v0_ : Value, e = .returned (.tuple #[v0_, .int .i64 r2]) ∧ Kd.S (Kd.slice 2 (Kd.int .i64)) 22 w' w.heap.size (fun _ => True) v0_ r1 ∧ Below w.heap.size w w' := by
  have HR2 := Aside0.mk hr2
  have HC2 := Aside0.mk hc2
  clear hr2 hc2
  have HB := Aside0.mk (Below.refl w.heap.size w)
  have H : ((impl_areBars.f a0 a1 l2).bind fun t183 => (if t183 = true then ((impl_longestFirst.f k l2).bind fun t187 => (impl_FirstBars.l0 k a0 a1 (([] : List (List Int))) l2 t187 (t187.length : Int) 0)) else (some (([] : List (List Int)), 2)))) = some (r1, r2) := h
  clear h
  replace H := Option.bind_eq_some_iff.mp H
  obtain ⟨t183, A40, H⟩ := H
  replace H : (if t183 = true then ((impl_longestFirst.f k l2).bind fun t187 => (impl_FirstBars.l0 k a0 a1 (([] : List (List Int))) l2 t187 (t187.length : Int) 0)) else (some (([] : List (List Int)), 2))) = some (r1, r2) := H
  have A4 := Aside0.mk A40
  clear A40
  by_cases c5 : t183 = true
  · subst c5
    have H1 : ((impl_longestFirst.f k l2).bind fun t187 => (impl_FirstBars.l0 k a0 a1 (([] : List (List Int))) l2 t187 (t187.length : Int) 0)) = some (r1, r2) := by rw [if_pos rfl] at H; exact H
    clear H
    have H := H1
    clear H1
    obtain ⟨y184, hy184⟩ : ∃ y_ : List (List Int), y_ = (([] : List (List Int))) := ⟨_, rfl⟩
    replace H : ((impl_longestFirst.f k l2).bind fun t187 => (impl_FirstBars.l0 k a0 a1 y184 l2 t187 (t187.length : Int) 0)) = some (r1, r2) := by first | (rw [hy184]; with_reducible exact H) | (have H2_ := (Option.bind_some _ _).symm.trans H; rw [hy184]; with_reducible exact H2_) | (have H2_ := (Option.bind_some _ _).symm.trans H; with_reducible exact H2_) | with_reducible exact H | (rw [hy184]; exact H) | exact H
    have Ny184 := Aside0.mk hy184
    clear hy184
    replace H := Option.bind_eq_some_iff.mp H
    obtain ⟨t187, A60, H⟩ := H
    replace H : (impl_FirstBars.l0 k a0 a1 y184 l2 t187 (t187.length : Int) 0) = some (r1, r2) := H
    have A6 := Aside0.mk A60
    clear A60
    have H' := Aside0.mk H
    clear H
    go_enter Try.func6, Try.ntmps6
    go_upto_region 1 with (fail)
    obtain ⟨wb, hwb⟩ : ∃ wb : World, wb = (((w.alloc (.cells #[.int .i64 a0] 2)).alloc (.cells #[.int .i64 a1] 2)).alloc (.cells #[.slice A2 l2.length c2] 22)) := ⟨_, rfl⟩
    rw [← hwb]
    obtain ⟨hBW, hb0, hb1, hb2⟩ := LF6.boxes w (.int .i64 a0) (.int .i64 a1) (.slice A2 l2.length c2) 2 2 22 wb hwb
    have HR2b := Aside0.mk (Kd.C_below HR2.out hBW)
    clear HR2 HB
    have HR2 := HR2b
    clear HR2b
    have HBW := Aside0.mk hBW
    have HG0 := Aside0.mk hb0
    have HG1 := Aside0.mk hb1
    have HG2 := Aside0.mk hb2
    have e0 := (blk_cell hb0 0).trans (show _ = some (Value.int .i64 a0) from rfl)
    have e1 := (blk_cell hb1 0).trans (show _ = some (Value.int .i64 a1) from rfl)
    have e2 := (blk_cell hb2 0).trans (show _ = some (Value.slice A2 l2.length c2) from rfl)
    clear hBW hb0 hb1 hb2 hwb
    have HB := Aside0.mk (Below.refl wb.heap.size wb)
    go_wp2_with (first | ((with_reducible refine gate_callee (f := 16) rfl ?_); refine goesL_ (some 15) rfl rfl Try.func16 (by kernel_rfl) rfl #[.int .i64 a0, .int .i64 a1, .slice A2 l2.length c2] rfl (by (try simp only [List.map_toArray, List.map_cons, List.map_nil]); first | done | rfl | (simp only [List.length_drop, List.length_take]; rfl)) ?_; (with_reducible refine (impl_areBars.calls a0 a1 _ _ l2 true _ ?side1 ?side2 A4.out).mono ?_); (case side1 => repeat (first | exact HR2.out | (with_reducible refine Kd.C_alloc ?_ _) | (with_reducible refine Kd.C_drewN ?_ _) | (with_reducible refine Kd.C_drew ?_))); (case side2 => exact HC2.out); rintro e w7 ⟨rfl, hb⟩; refine ⟨_, rfl, ?_⟩; have n0_ := Aside0.mk (below_step (by repeat (first | (with_reducible first | exact HB.out | apply below_alloc | apply pw_below_drewN | apply below_drew1) | exact HB.out)) hb); clear HB; have HB := n0_; clear n0_; (try clear hb); (try clear hb2); (try clear hk); (try clear hi)) | ((with_reducible refine gate_dst (N := 17) rfl ?_); refine Kd.S_lit (Kd.slice 2 (Kd.int .i64)) _ 22 ?hg (N := 17) ?hd (xs := ([] : List (List Int))) (inner := []) (ok := fun _ => True) (okp := fun _ => True) ?hr ?hp (fun _ hk => hk) trivial (Below.refl _ _) (Nat.le_refl _) (by simp) ?_; (case hd => rfl); (case hg => rfl); (case hr => first | (go_simp; done) | (go_simp; rfl)); (case hp => exact (Reps.none _ _)); intro v185 w8 ho9 hb hg_ hnew_; clear hg_ hnew_; (first | rw [← Ny184.out] at ho9 | (simp only [Int.reduceToNat] at ho9; rw [← Ny184.out] at ho9)); have n0_ := Aside0.mk (Kd.S_lower ho9 (below_size (by repeat (first | (with_reducible first | exact HB.out | apply below_alloc | apply pw_below_drewN | apply below_drew1) | exact HB.out)))); have n1_ := Aside0.mk (below_step (by repeat (first | (with_reducible first | exact HB.out | apply below_alloc | apply pw_below_drewN | apply below_drew1) | exact HB.out)) hb); clear HB; have HO186 := n0_; have HB := n1_; clear n0_ n1_; clear hb ho9; have e2b := (HB.out.cell (World.block_lt_of_cell? wb _ e2)).trans e2) | ((with_reducible refine gate_callee (f := 17) rfl ?_); refine goesL_ (some 19) rfl rfl Try.func17 (by kernel_rfl) rfl #[.slice A2 l2.length c2] rfl (by (try simp only [List.map_toArray, List.map_cons, List.map_nil]); first | done | rfl | (simp only [List.length_drop, List.length_take]; rfl)) ?_; (with_reducible refine (impl_longestFirst.calls k _ _ l2 t187 _ ?side1 ?side2 A6.out).mono ?_); (case side1 => repeat (first | exact (Kd.C_below HR2.out HB.out) | (with_reducible refine Kd.C_alloc ?_ _) | (with_reducible refine Kd.C_drewN ?_ _) | (with_reducible refine Kd.C_drew ?_))); (case side2 => exact HC2.out); rintro e w10 ⟨v188, rfl, ho0, hb⟩; refine ⟨_, rfl, ?_⟩; have n0_ := Aside0.mk (Kd.S_elder' (by (with_reducible repeat (first | apply Kd.S_alloc | apply Kd.S_drewN | apply Kd.S_drew)); exact HO186.out) (Kd.R_base ho0) hb); have n1_ := Aside0.mk (Kd.R_lower ho0 (below_size (by repeat (first | (with_reducible first | exact HB.out | apply below_alloc | apply pw_below_drewN | apply below_drew1) | exact HB.out)))); have n2_ := Aside0.mk (below_step (by repeat (first | (with_reducible first | exact HB.out | apply below_alloc | apply pw_below_drewN | apply below_drew1) | exact HB.out)) hb); clear HO186; clear HB; have HO186 := n0_; have HO189 := n1_; have HB := n2_; clear n0_ n1_ n2_; (try clear hb); (try clear hb2); (try clear hk); (try clear hi); (try clear ho0); obtain ⟨Ao11, co11, eo11⟩ := Kd.R_slice HO189.out; subst eo11))
    go_loopg [8, 21] k (fun kq v8 v21 w' => ∃ (x8_1 : List (List Int)) (x21_1 : Int), v21 = .int .i64 x21_1 ∧ Aside0 (impl_FirstBars.l0 kq a0 a1 x8_1 l2 t187 (t187.length : Int) x21_1 = some (r1, r2)) ∧ Aside0 (kq ≤ k) ∧ Aside0 (Kd.S (Kd.slice 2 (Kd.int .i64)) 22 w' wb.heap.size (fun k_ => some k_ ≠ ((.slice Ao11 t187.length co11) : Value).ownBlock) v8 x8_1) ∧ Aside0 (Kd.R (Kd.int .i64) 2 w' wb.heap.size (fun _ => True) (.slice Ao11 t187.length co11) t187) ∧ Aside0 (Below wb.heap.size wb w'))
    case atStart => exact ⟨(y184), (0), (by first | rfl | (simp; done) | (simp [*]; done)), H', ⟨Nat.le_refl _⟩, ⟨by (with_reducible repeat (first | apply Kd.S_alloc | apply Kd.S_drewN | apply Kd.S_drew)); exact Kd.S_mono HO186.out (fun _ hk => hk.2)⟩, ⟨by (with_reducible repeat (first | apply Kd.R_alloc | apply Kd.R_drewN | apply Kd.R_drew)); exact HO189.out⟩, ⟨by repeat (first | (with_reducible first | exact HB.out | apply below_alloc | apply pw_below_drewN | apply below_drew1) | exact HB.out)⟩⟩
    case round =>
      clear H'
      try clear c1
      try clear c2
      try clear p2
      try clear c5
      try clear c6
      obtain ⟨x8_1, x21_1, rfl, HA, HK1, HO_8, HO_19, HB⟩ := hrel
      cases gk with
      | zero => exact absurd HA.out (by simp [impl_FirstBars.l0])
      | succ k1 =>
        have H := HA.out
        clear HA
        simp only [impl_FirstBars.l0] at H
        by_cases c12 : x21_1 < (t187.length : Int)
        · rw [if_pos c12] at H
          have c12b0 : decide (x21_1 < (t187.length : Int)) = true := decide_eq_true c12
          clear c12
          by_cases c13 : 0 ≤ x21_1
          · rw [if_pos c13] at H
            have c13b0 : decide (0 ≤ x21_1) = true := decide_eq_true c13
            clear c13
            by_cases c14 : x21_1 < (t187.length : Int)
            · rw [if_pos c14] at H
              have c14b0 : decide (x21_1 < (t187.length : Int)) = true := decide_eq_true c14
              clear c14
              replace H := Option.bind_eq_some_iff.mp H
              obtain ⟨t191, A150, H⟩ := H
              replace H : (if t191 < 0 then (if x8_1.length < 5864062014805 then (impl_FirstBars.l0 k1 a0 a1 (x8_1 ++ [(([rd t187 x21_1] : List Int))]) l2 t187 (t187.length : Int) (wrap64 (x21_1 + 1))) else (none)) else (if 0 ≤ t191 then (if t191 < (x8_1.length : Int) then (if (rd_L1 x8_1 t191).length < 17592186044416 then (impl_FirstBars.l0 k1 a0 a1 (x8_1.set (t191 : Int).toNat ((rd_L1 x8_1 t191) ++ [rd t187 x21_1])) l2 t187 (t187.length : Int) (wrap64 (x21_1 + 1))) else (none)) else (none)) else (none))) = some (r1, r2) := H
              have A15 := Aside0.mk A150
              clear A150
              by_cases c16 : t191 < 0
              · rw [if_pos c16] at H
                have c16b0 : decide (t191 < 0) = true := decide_eq_true c16
                clear c16
                obtain ⟨y192, hy192⟩ : ∃ y_ : List Int, y_ = (([rd t187 x21_1] : List Int)) := ⟨_, rfl⟩
                replace H : (if x8_1.length < 5864062014805 then (impl_FirstBars.l0 k1 a0 a1 (x8_1 ++ [y192]) l2 t187 (t187.length : Int) (wrap64 (x21_1 + 1))) else (none)) = some (r1, r2) := by first | (rw [hy192]; with_reducible exact H) | (have H2_ := (Option.bind_some _ _).symm.trans H; rw [hy192]; with_reducible exact H2_) | (have H2_ := (Option.bind_some _ _).symm.trans H; with_reducible exact H2_) | with_reducible exact H | (rw [hy192]; exact H) | exact H
                have Ny192 := Aside0.mk hy192
                clear hy192
                by_cases c17 : x8_1.length < 5864062014805
                · rw [if_pos c17] at H
                  have LMc17 := Aside0.mk c17
                  clear c17
                  obtain ⟨y195, hy195⟩ : ∃ y_ : List (List Int), y_ = (x8_1 ++ [y192]) := ⟨_, rfl⟩
                  replace H : (impl_FirstBars.l0 k1 a0 a1 y195 l2 t187 (t187.length : Int) (wrap64 (x21_1 + 1))) = some (r1, r2) := by first | (rw [hy195]; with_reducible exact H) | (have H2_ := (Option.bind_some _ _).symm.trans H; rw [hy195]; with_reducible exact H2_) | (have H2_ := (Option.bind_some _ _).symm.trans H; with_reducible exact H2_) | with_reducible exact H | (rw [hy195]; exact H) | exact H
                  have Ny195 := Aside0.mk hy195
                  clear hy195
                  have H' := Aside0.mk H
                  clear H
                  have p190 : 0 ≤ (x21_1 : Int) := of_decide_eq_true (by first | (with_reducible assumption) | assumption)
                  have q190 : x21_1 < (t187.length : Int) := of_decide_eq_true (by first | (with_reducible assumption) | assumption)
                  obtain ⟨ad190, e190, hx190_0⟩ := Kd.at_int (Kd.R_reads' HO_19.out).2.2 x21_1 p190 q190
                  cases e190
                  replace p190 := eq_true p190
                  replace q190 := eq_true q190
                  obtain ⟨Av8, cv8, ev8⟩ := Kd.S_slice HO_8.out
                  subst ev8
                  go_wp2_with (first | (go_at_call 18; refine (impl_FirstBars_1.at_calls k1 Av8 cv8 x8_1 a0 a1 A2 c2 l2 (rd t187 x21_1) w.heap.size (w.heap.size + 1) (w.heap.size + 1 + 1) wr.heap.size t191 _ ?side1 ?side2 ?side3 HC2.out ?side4 ?side5 ?side6 ?side7 A15.out).mono ?_; (case side1 => exact Kd.C_alloc (Kd.S_reads' HO_8.out).2.2 _); (case side2 => exact (Kd.S_reads' HO_8.out).2.1); (case side3 => exact Kd.C_below HR2.out (below_alloc HB.out _)); (case side4 => exact blk_below HG0.out (below_alloc HB.out _)); (case side5 => exact blk_below HG1.out (below_alloc HB.out _)); (case side6 => exact blk_below HG2.out (below_alloc HB.out _)); (case side7 => exact blk_new wr _); rintro e w27 ⟨rfl, hb⟩; have hbn := below_step (below_alloc (Below.refl wr.heap.size wr) (.cells #[.int .i64 (rd t187 x21_1)] 2)) hb; have n0_ := Aside0.mk (Kd.S_below HO_8.out hbn); have n1_ := Aside0.mk (Kd.R_below HO_19.out hbn); have n2_ := Aside0.mk (below_step HB.out hbn); have e4 := (blk_cell (blk_below (blk_new wr (.cells #[.int .i64 (rd t187 x21_1)] 2)) hb) 0).trans (show _ = some (Value.int .i64 (rd t187 x21_1)) from rfl); clear HO_8 HO_19 HB hb hbn; have HO_8 := n0_; have HO_19 := n1_; have HB := n2_; clear n0_ n1_ n2_) | ((with_reducible refine gate_dst (N := 32) rfl ?_); refine Kd.R_lit (Kd.int .i64) _ 2 ?hg (N := 32) ?hd (xs := ([rd t187 x21_1] : List Int)) (inner := [.int .i64 (rd t187 x21_1)]) (ok := fun _ => True) (okp := fun _ => True) ?hr ?hp (fun _ hk => hk) trivial (Below.refl _ _) (Nat.le_refl _) (by simp) ?_; (case hd => rfl); (case hg => rfl); (case hr => first | (go_simp; done) | (go_simp; rfl)); (case hp => exact (Reps.one (show Kd.M (Kd.int .i64) _ _ _ (rd t187 x21_1) [.int .i64 (rd t187 x21_1)] from rfl) (Reps.none _ _))); intro v193 w18 ho19 hb hg_ hnew_; clear hg_ hnew_; (first | rw [← Ny192.out] at ho19 | (simp only [Int.reduceToNat] at ho19; rw [← Ny192.out] at ho19)); have n0_ := Aside0.mk (Kd.S_elder' (by (with_reducible repeat (first | apply Kd.S_alloc | apply Kd.S_drewN | apply Kd.S_drew)); exact HO_8.out) (Kd.R_base ho19) hb); have n1_ := Aside0.mk (Kd.R_elder' (by (with_reducible repeat (first | apply Kd.R_alloc | apply Kd.R_drewN | apply Kd.R_drew)); exact HO_19.out) (Kd.R_base ho19) hb); have n2_ := Aside0.mk (Kd.R_lower (Kd.R_new' ho19 (Kd.R_lt (by (with_reducible repeat (first | apply Kd.R_alloc | apply Kd.R_drewN | apply Kd.R_drew)); exact HO_19.out))) (below_size (by repeat (first | (with_reducible first | exact HB.out | apply below_alloc | apply pw_below_drewN | apply below_drew1) | exact HB.out)))); have n3_ := Aside0.mk (below_step (by repeat (first | (with_reducible first | exact HB.out | apply below_alloc | apply pw_below_drewN | apply below_drew1) | exact HB.out)) hb); clear HO_8; clear HO_19; clear HB; have HO_8 := n0_; have HO_19 := n1_; have HO194 := n2_; have HB := n3_; clear n0_ n1_ n2_ n3_; clear hb ho19; obtain ⟨Ao21, co21, eo21⟩ := Kd.R_slice HO194.out; subst eo21) | ((with_reducible refine gate_builtin (b := .append) (xs := #[.tmp 30, .tmp 33]) rfl ?_); at_builtin; refine Kd.S_append (Kd.slice 2 (Kd.int .i64)) (w0 := wb) wb.heap.size rfl (.tmp 30) (.tmp 33) 23 22 (.slice none 0 0) 24 rfl Try.underlying23 info22 rfl (by decide) (by omega) (.slice Av8 x8_1.length cv8) x8_1 y192 [.slice Ao21 y192.length co21] (fun k_ => some k_ ≠ (.slice (some ad190) t187.length co11 : Value).ownBlock) (fun k_ => some k_ = (.slice Ao21 y192.length co21 : Value).ownBlock) rfl rfl ?aP (fun k_ hk_ => ((Kd.R_mono (ok' := fun k_ => ((fun k_ => some k_ ≠ (.slice (some ad190) t187.length co11 : Value).ownBlock)) k_ ∧ some k_ ≠ ((.slice Av8 x8_1.length cv8) : Value).ownBlock) (Kd.R_apart' (HO194.out) (Kd.S_typed HO_8.out) (by decide)) (fun k_ hk => ⟨hk.1.2, hk.2⟩))).1 k_ hk_.symm) ?aF ?aO ?aB ?aS ?aL ?_; (case aP => exact Kd.M_row (Kd.R_mono (Kd.R_tight rfl (Kd.R_mono (ok' := fun k_ => ((fun k_ => some k_ ≠ (.slice (some ad190) t187.length co11 : Value).ownBlock)) k_ ∧ some k_ ≠ ((.slice Av8 x8_1.length cv8) : Value).ownBlock) (Kd.R_apart' (HO194.out) (Kd.S_typed HO_8.out) (by decide)) (fun k_ hk => ⟨hk.1.2, hk.2⟩))) (fun _ h_ => h_))); (case aB => exact (by repeat (first | (with_reducible first | exact HB.out | apply below_alloc | apply pw_below_drewN | apply below_drew1) | exact HB.out))); (case aF => exact (fun k_ hk => Kd.fresh' (Kd.R_lt (by (with_reducible repeat (first | apply Kd.R_alloc | apply Kd.R_drewN | apply Kd.R_drew)); exact HO_19.out)) k_ hk)); (case aO => exact (by (with_reducible repeat (first | apply Kd.S_alloc | apply Kd.S_drewN | apply Kd.S_drew)); exact Kd.S_mono HO_8.out (fun k_ hk => ⟨hk.1, fun e_ => hk.2 e_⟩))); (case aS => exact (below_size (by repeat (first | (with_reducible first | exact HB.out | apply below_alloc | apply pw_below_drewN | apply below_drew1) | exact HB.out)))); (case aL => have := LMc17.out; omega); intro v196 w20 ho hb hg hat; rw [← Ny195.out] at ho; have n0_ := Aside0.mk (Kd.R_over' (by (with_reducible repeat (first | apply Kd.R_alloc | apply Kd.R_drewN | apply Kd.R_drew)); exact HO_19.out) (Kd.S_typed (by (with_reducible repeat (first | apply Kd.S_alloc | apply Kd.S_drewN | apply Kd.S_drew)); exact HO_8.out)) (by decide) hg); have n1_ := Aside0.mk (hb); have n2_ := Aside0.mk (ho); clear HO_19; clear HB; clear HO_8; clear HO194; have HO_19 := n0_; have HB := n1_; have HO197 := n2_; clear n0_ n1_ n2_; clear ho hb hg hat))
                  go_roundg k1
                  case measure => have := HK1.out; omega
                  case rel => exact ⟨(y195), (wrap64 (x21_1 + 1)), (by first | rfl | (simp; done) | (simp [*]; done)), H', ⟨by have := HK1.out; omega⟩, ⟨by (with_reducible repeat (first | apply Kd.S_alloc | apply Kd.S_drewN | apply Kd.S_drew)); exact HO197.out⟩, ⟨by (with_reducible repeat (first | apply Kd.R_alloc | apply Kd.R_drewN | apply Kd.R_drew)); exact Kd.R_mono HO_19.out (fun _ hk => trivial)⟩, ⟨by repeat (first | (with_reducible first | exact HB.out | apply below_alloc | apply pw_below_drewN | apply below_drew1) | exact HB.out)⟩⟩
                · rw [if_neg c17] at H
                  exact absurd H (by simp)
              · rw [if_neg c16] at H
                have c16b0 : decide (t191 < 0) = false := decide_eq_false c16
                clear c16
                by_cases c22 : 0 ≤ t191
                · rw [if_pos c22] at H
                  have c22b0 : decide (0 ≤ t191) = true := decide_eq_true c22
                  clear c22
                  by_cases c23 : t191 < (x8_1.length : Int)
                  · rw [if_pos c23] at H
                    have c23b0 : decide (t191 < (x8_1.length : Int)) = true := decide_eq_true c23
                    clear c23
                    by_cases c24 : (rd_L1 x8_1 t191).length < 17592186044416
                    · rw [if_pos c24] at H
                      have LMc24 := Aside0.mk c24
                      clear c24
                      obtain ⟨y199, hy199⟩ : ∃ y_ : List Int, y_ = ((rd_L1 x8_1 t191) ++ [rd t187 x21_1]) := ⟨_, rfl⟩
                      replace H : (impl_FirstBars.l0 k1 a0 a1 (x8_1.set (t191 : Int).toNat y199) l2 t187 (t187.length : Int) (wrap64 (x21_1 + 1))) = some (r1, r2) := by first | (rw [hy199]; with_reducible exact H) | (have H2_ := (Option.bind_some _ _).symm.trans H; rw [hy199]; with_reducible exact H2_) | (have H2_ := (Option.bind_some _ _).symm.trans H; with_reducible exact H2_) | with_reducible exact H | (rw [hy199]; exact H) | exact H
                      have Ny199 := Aside0.mk hy199
                      clear hy199
                      obtain ⟨y202, hy202⟩ : ∃ y_ : List (List Int), y_ = (x8_1.set (t191 : Int).toNat y199) := ⟨_, rfl⟩
                      replace H : (impl_FirstBars.l0 k1 a0 a1 y202 l2 t187 (t187.length : Int) (wrap64 (x21_1 + 1))) = some (r1, r2) := by first | (rw [hy202]; with_reducible exact H) | (have H2_ := (Option.bind_some _ _).symm.trans H; rw [hy202]; with_reducible exact H2_) | (have H2_ := (Option.bind_some _ _).symm.trans H; with_reducible exact H2_) | with_reducible exact H | (rw [hy202]; exact H) | exact H
                      have Ny202 := Aside0.mk hy202
                      clear hy202
                      have H' := Aside0.mk H
                      clear H
                      have p190 : 0 ≤ (x21_1 : Int) := of_decide_eq_true (by first | (with_reducible assumption) | assumption)
                      have q190 : x21_1 < (t187.length : Int) := of_decide_eq_true (by first | (with_reducible assumption) | assumption)
                      obtain ⟨ad190, e190, hx190_0⟩ := Kd.at_int (Kd.R_reads' HO_19.out).2.2 x21_1 p190 q190
                      cases e190
                      replace p190 := eq_true p190
                      replace q190 := eq_true q190
                      obtain ⟨Av8, cv8, ev8⟩ := Kd.S_slice HO_8.out
                      subst ev8
                      try go_wp2_with (first | (go_at_call 18; refine (impl_FirstBars_1.at_calls k1 Av8 cv8 x8_1 a0 a1 A2 c2 l2 (rd t187 x21_1) w.heap.size (w.heap.size + 1) (w.heap.size + 1 + 1) wr.heap.size t191 _ ?side1 ?side2 ?side3 HC2.out ?side4 ?side5 ?side6 ?side7 A15.out).mono ?_; (case side1 => exact Kd.C_alloc (Kd.S_reads' HO_8.out).2.2 _); (case side2 => exact (Kd.S_reads' HO_8.out).2.1); (case side3 => exact Kd.C_below HR2.out (below_alloc HB.out _)); (case side4 => exact blk_below HG0.out (below_alloc HB.out _)); (case side5 => exact blk_below HG1.out (below_alloc HB.out _)); (case side6 => exact blk_below HG2.out (below_alloc HB.out _)); (case side7 => exact blk_new wr _); rintro e w27 ⟨rfl, hb⟩; have hbn := below_step (below_alloc (Below.refl wr.heap.size wr) (.cells #[.int .i64 (rd t187 x21_1)] 2)) hb; have n0_ := Aside0.mk (Kd.S_below (Kd.S_elderB HO_8.out wr.heap.size (Nat.le_refl _)) hbn); have n1_ := Aside0.mk (Kd.R_below HO_19.out hbn); have n2_ := Aside0.mk (below_step HB.out hbn); have e4 := (blk_cell (blk_below (blk_new wr (.cells #[.int .i64 (rd t187 x21_1)] 2)) hb) 0).trans (show _ = some (Value.int .i64 (rd t187 x21_1)) from rfl); have hlt4 := blk_lt (blk_below (blk_new wr (.cells #[.int .i64 (rd t187 x21_1)] 2)) hb); clear HO_8 HO_19 HB hb hbn; have HO_8 := n0_; have HO_19 := n1_; have HB := n2_; clear n0_ n1_ n2_))
                      have n0_ := Aside0.mk (Kd.S_drew HO_8.out)
                      have n1_ := Aside0.mk (Kd.R_drew HO_19.out)
                      have n2_ := Aside0.mk (below_drew1 HB.out)
                      clear HO_8
                      clear HO_19
                      clear HB
                      have HO_8 := n0_
                      have HO_19 := n1_
                      have HB := n2_
                      clear n0_ n1_ n2_
                      obtain ⟨Ao27, co27, eo27⟩ := Kd.S_slice HO_8.out
                      (first | subst eo27 | (injection eo27 with f1_ f2_ f3_; have f4_ := f1_.symm; have f5_ := f3_.symm; clear f1_ f2_ f3_; subst f4_; subst f5_))
                      have p198 : 0 ≤ (t191 : Int) := of_decide_eq_true (by first | (with_reducible assumption) | assumption)
                      have q198 : t191 < (x8_1.length : Int) := of_decide_eq_true (by first | (with_reducible assumption) | assumption)
                      obtain ⟨ad198, A198_0, c198_0, e198, hx198_0, hl198_0, hi198_0⟩ := at_L1 (Kd.S_reads' HO_8.out).2.2 t191 p198 q198
                      cases e198
                      obtain ⟨ce198, hce198, hMe198, hcc198⟩ := Kd.S_get HO_8.out [] t191 p198 (by first | exact q198 | exact of_decide_eq_true (by first | (with_reducible assumption) | assumption) | (have e_ := (Kd.S_reads' HO_8.out).1; omega))
                      obtain ⟨ve198_0, rfl, ge198_0⟩ := hMe198
                      have hv198_0 := hcc198 0 _ rfl
                      rw [Nat.add_zero, show ((Kd.slice 2 (Kd.int .i64))).sz = 1 from rfl, Nat.mul_one] at hv198_0
                      replace hv198_0 := Option.some.inj (hv198_0.symm.trans hx198_0)
                      rw [hv198_0] at ge198_0
                      have HL198_0 := Aside0.mk (show Kd.R (Kd.int .i64) 2 _ _ _ _ (rd_L1 x8_1 t191) from ge198_0)
                      clear hv198_0 ge198_0
                      have HX198_0 := Aside0.mk hx198_0
                      clear hcc198 hce198
                      have HR198_0 := Aside0.mk hi198_0
                      have HC198_0 := Aside0.mk hl198_0
                      clear hi198_0 hl198_0
                      replace p198 := eq_true p198
                      replace q198 := eq_true q198
                      obtain ⟨go28, co28, eo28, gb28, gl28, cl28, HG28⟩ := Kd.S_form HO_8.out (by have h_ : (t191 : Int) < ((x8_1.length : Int) : Int) := of_decide_eq_true (by first | (with_reducible assumption) | assumption); have h2_ : 0 ≤ (t191 : Int) := (of_decide_eq_true (by first | (with_reducible assumption) | assumption)); omega)
                      (first | cases eo28 | (injection eo28 with ea_ en_ ec_; (first | subst ea_ | (injection ea_ with ea_; subst ea_)); subst ec_; clear en_))
                      have GB28 := Aside0.mk gb28
                      have GG28 := Aside0.mk HG28
                      clear gb28 gl28 HG28
                      (first | simp only [add_plain] at hx198_0 | skip)
                      obtain ⟨oki28, ce28, hcl28, hM28, hcc28, _, _, hH28⟩ := Kd.S_elem HO_8.out [] (t191 : Int) (of_decide_eq_true (by first | (with_reducible assumption) | assumption)) (by have h_ : (t191 : Int) < ((x8_1.length : Int) : Int) := of_decide_eq_true (by first | (with_reducible assumption) | assumption); first | exact h_ | (have e_ := (Kd.S_reads' HO_8.out).1; omega) | simpa using h_)
                      obtain ⟨ve28_0, rfl, ge28_0⟩ := hM28
                      have hv28 := hcc28 0 _ rfl
                      have hX28 := HX198_0.out
                      (try simp only [add_plain] at hX28)
                      (try simp only [Nat.add_zero] at hv28)
                      (try rw [show ((Kd.slice 2 (Kd.int .i64))).sz = 1 from rfl, Nat.mul_one] at hv28)
                      replace hv28 := Option.some.inj (hv28.symm.trans hX28)
                      subst hv28
                      clear hX28 hcc28 hcl28
                      have UU28 := Aside0.mk (show Kd.R (Kd.int .i64) 2 _ wb.heap.size oki28 (.slice A198_0 (rd_L1 x8_1 t191).length c198_0) (rd_L1 x8_1 t191) from ge28_0)
                      have HH28 := Aside0.mk hH28
                      have HN28 := Aside0.mk (Kd.S_reads' HO_8.out).1
                      clear hH28 ge28_0
                      refine start_ (n := 11) (S := fun w' => w'.cell? ⟨go28, (t191).toNat, none⟩ = some (.slice A198_0 (rd_L1 x8_1 t191).length c198_0) ∧ w'.cell? ⟨wr.heap.size, 0, none⟩ = some (.int .i64 (rd t187 x21_1))) (ds := [10]) #[false, false, false, false, false, false, false, false, false, false, false] (by kernel_rfl) rfl rfl ⟨hx198_0, e4⟩ (fun hHeld => ?_); refine with_tabW impl_FirstBars.tab10 impl_FirstBars.bits10 (fun HT_ HW_ => ?_)
                      have hlt4d : wr.heap.size < w27.drew.heap.size := hlt4
                      clear e4 hlt4
                      generalize w27.drew = w26 at hlt4d HO_8 HO_19 HB GG28 HH28 HL198_0 HR198_0 HX198_0 UU28 hx198_0 hHeld ⊢
                      refine pure_ (i := 0) (N := some 35) (v := ?_) (a' := ?_) #[true, false, false, false, false, false, false, false, false, false, false] rfl rfl (any_of HT_.out (by kernel_rfl)) (fun _ _ _ h => h) (Or.inl ⟨by rfl, ?_⟩) ?_ ?_
                      rotate_left
                      · intro w'
                        go_simp
                        with_reducible rfl
                      rotate_left
                      · simp only [Act.put, List.setIfInBounds_toArray, List.set_cons_zero, List.set_cons_succ, i64_w, i32_w]
                        rfl
                      refine pure_ (i := 1) (N := some 36) (v := ?_) (a' := ?_) #[true, true, false, false, false, false, false, false, false, false, false] rfl rfl (any_of HT_.out (by kernel_rfl)) (fun _ _ _ h => h) (Or.inl ⟨by rfl, ?_⟩) ?_ ?_
                      rotate_left
                      · intro w'
                        go_simp
                        with_reducible rfl
                      rotate_left
                      · simp only [Act.put, List.setIfInBounds_toArray, List.set_cons_zero, List.set_cons_succ, i64_w, i32_w]
                        rfl
                      refine pure_ (i := 2) (N := some 37) (v := ?_) (a' := ?_) #[true, true, true, false, false, false, false, false, false, false, false] rfl rfl (any_of HT_.out (by kernel_rfl)) (fun _ _ _ h => h) (Or.inl ⟨by rfl, ?_⟩) ?_ ?_
                      rotate_left
                      · intro w'
                        go_simp
                        with_reducible rfl
                      rotate_left
                      · simp only [Act.put, List.setIfInBounds_toArray, List.set_cons_zero, List.set_cons_succ, i64_w, i32_w]
                        rfl
                      refine pure_ (i := 3) (N := some 38) (v := ?_) (a' := ?_) #[true, true, true, true, false, false, false, false, false, false, false] rfl rfl (any_of HT_.out (by kernel_rfl)) (fun _ _ _ h => h) (Or.inl ⟨by rfl, ?_⟩) ?_ ?_
                      rotate_left
                      · intro w'
                        go_simp
                        with_reducible rfl
                      rotate_left
                      · simp only [Act.put, List.setIfInBounds_toArray, List.set_cons_zero, List.set_cons_succ, i64_w, i32_w]
                        rfl
                      refine pure_ (i := 4) (N := some 39) (v := ?_) (a' := ?_) #[true, true, true, true, true, false, false, false, false, false, false] rfl rfl (any_of HT_.out (by kernel_rfl)) (fun _ _ _ h => h) (Or.inl ⟨by rfl, ?_⟩) ?_ ?_
                      rotate_left
                      · intro w'
                        go_simp
                        with_reducible rfl
                      rotate_left
                      · simp only [Act.put, List.setIfInBounds_toArray, List.set_cons_zero, List.set_cons_succ, i64_w, i32_w]
                        rfl
                      refine take_ (i := 6) (N := some 41) (v := ?_) (a' := ?_) #[true, true, true, true, true, false, true, false, false, false, false] rfl rfl (take_ofW HT_.out HW_.out (by kernel_rfl)) (fun _ _ _ h => h) (Or.inl ⟨by rfl, ?_⟩) hHeld ?_ ?_
                      rotate_left
                      · intro w' s0
                        obtain ⟨s0, s1⟩ := s0
                        go_simp
                        with_reducible rfl
                      rotate_left
                      · simp only [Act.put, List.setIfInBounds_toArray, List.set_cons_zero, List.set_cons_succ, i64_w, i32_w]
                        rfl
                      refine take_ (i := 5) (N := some 40) (v := ?_) (a' := ?_) #[true, true, true, true, true, true, true, false, false, false, false] rfl rfl (take_ofW HT_.out HW_.out (by kernel_rfl)) (fun _ _ _ h => h) (Or.inl ⟨by rfl, ?_⟩) hHeld ?_ ?_
                      rotate_left
                      · intro w' s0
                        obtain ⟨s0, s1⟩ := s0
                        go_simp
                        with_reducible rfl
                      rotate_left
                      · simp only [Act.put, List.setIfInBounds_toArray, List.set_cons_zero, List.set_cons_succ, i64_w, i32_w]
                        rfl
                      refine one_ (i := 7) (N := some 42) #[true, true, true, true, true, true, true, true, false, false, false] rfl rfl (one_of HT_.out (by kernel_rfl)) (by decide) (fun K hK => ?_)
                      refine value_ (w1 := ?_) (v := ?_) (by rfl) rfl ?_ ?_
                      rotate_left 2
                      · go_simp
                        constructor
                        · rfl
                        · rfl
                      refine hK.out _ _ ⟨(World.cell?_alloc_lt _ _ _ (World.block_lt_of_cell? _ _ (hHeld.1))).trans (hHeld.1), (World.cell?_alloc_lt _ _ _ (World.block_lt_of_cell? _ _ (hHeld.2))).trans (hHeld.2)⟩ (fun hHeld => ?_)
                      clear hK K
                      refine norm_ (a' := ?_) ?_ ?_
                      rotate_left
                      · show Act.put _ (some 42) _ = _
                        simp only [Act.put, List.setIfInBounds_toArray, List.set_cons_zero, List.set_cons_succ, i64_w, i32_w]
                        rfl
                      refine one_ (i := 8) (N := some 43) #[true, true, true, true, true, true, true, true, true, false, false] rfl rfl (one_of HT_.out (by kernel_rfl)) (by decide) (fun K hK => ?_)
                      refine Kd.R_append_step (Kd.int .i64) (w0 := wb) wb.heap.size (by rfl) (.tmp 40) (.tmp 42) 22 2 (.int .i64 0) 8 rfl Try.underlying22 info2 rfl (by decide) (by omega) (.slice A198_0 (rd_L1 x8_1 t191).length c198_0) (rd_L1 x8_1 t191) (rd t187 x21_1) [.int .i64 (rd t187 x21_1)] (fun k_ => oki28 k_ ∨ (some k_ ≠ (.slice (some ad190) t187.length co11 : Value).ownBlock ∧ k_ ≠ wr.heap.size) ∧ w26.heap.size ≤ k_) (fun _ => False) rfl rfl ?aP (fun _ hk => hk.elim) ?aF ?aO ?aB ?aS ?aL ?_
                      (case aP => exact rfl)
                      (case aB => exact (by repeat (first | (with_reducible first | exact HB.out | apply below_alloc | apply pw_below_drewN | apply below_drew1) | exact HB.out)))
                      (case aF => exact (fun k_ hk => .inr ⟨⟨Kd.fresh' (Kd.R_lt (by (with_reducible repeat (first | apply Kd.R_alloc | apply Kd.R_drewN | apply Kd.R_drew)); exact HO_19.out)) k_ hk, fun e_ => by omega⟩, hk⟩))
                      (case aO => exact (by (with_reducible repeat (first | apply Kd.R_alloc | apply Kd.R_drewN | apply Kd.R_drew)); exact Kd.R_mono UU28.out (fun _ hk => .inl hk)))
                      (case aS => exact (below_size (by repeat (first | (with_reducible first | exact HB.out | apply below_alloc | apply pw_below_drewN | apply below_drew1) | exact HB.out))))
                      (case aL => have := LMc24.out; omega)
                      intro v200 w29 ho hb hg hat
                      have HS1_ := Go.Proofs.YtadighbpjanjbaaW.PrintWords.cell_grown hg (cell_unalloc (hHeld.2) hlt4d) (fun e_ => ((HL198_0.out.1 _ e_.symm).1.2) rfl)
                      (first | have HS0_ := Go.Proofs.YtadighbpjanjbaaW.PrintWords.cell_grown hg (hHeld.1) (by first | (rw [add_block]; exact (fun e_ => ((HL198_0.out.1 _ e_.symm).2) rfl)) | (show some (Addr.add _ _).block ≠ _; rw [add_block]; exact (fun e_ => ((HL198_0.out.1 _ e_.symm).2) rfl)) | exact (fun e_ => ((HL198_0.out.1 _ e_.symm).2) rfl)) | have HS0_ := Go.Proofs.YtadighbpjanjbaaW.PrintWords.cell_grown hg (cell_unalloc (hHeld.1) (by first | (rw [add_block]; exact Kd.S_lt HO_8.out _ rfl) | (show (Addr.add _ _).block < _; rw [add_block]; exact Kd.S_lt HO_8.out _ rfl) | exact Kd.S_lt HO_8.out _ rfl)) (by first | (rw [add_block]; exact (fun e_ => ((HL198_0.out.1 _ e_.symm).2) rfl)) | (show some (Addr.add _ _).block ≠ _; rw [add_block]; exact (fun e_ => ((HL198_0.out.1 _ e_.symm).2) rfl)) | exact (fun e_ => ((HL198_0.out.1 _ e_.symm).2) rfl)))
                      rw [← Ny199.out] at ho
                      have n0_ := Aside0.mk (Kd.R_grown2 (by (with_reducible repeat (first | apply Kd.R_alloc | apply Kd.R_drewN | apply Kd.R_drew)); exact HO_19.out) rfl hg (fun k_ e_ => (HL198_0.out.1 k_ e_).1.1))
                      have n1_ := Aside0.mk (hb)
                      have n2_ := Aside0.mk (Kd.H_grown (Kd.H_widen (by repeat (first | exact HH28.out | refine Kd.H_alloc ?_ _ | refine Kd.H_drewN ?_ _ | refine Kd.H_drew ?_))) hg (fun k_ e_ => .inl (UU28.out.1 k_ e_)))
                      have n3_ := Aside0.mk (ho)
                      clear HO_19
                      clear HB
                      clear HH28
                      clear HO_8
                      clear UU28
                      clear HL198_0
                      have HO_19 := n0_
                      have HB := n1_
                      have HH28 := n2_
                      have HO201 := n3_
                      clear n0_ n1_ n2_ n3_
                      clear ho hb hg hat
                      have p25 : 0 ≤ (t191 : Int) := of_decide_eq_true (by first | (with_reducible assumption) | assumption)
                      have q25 : (t191 : Int) < ((x8_1.length : Int) : Int) := of_decide_eq_true (by first | (with_reducible assumption) | assumption)
                      replace p25 := eq_true p25
                      replace q25 := eq_true q25
                      obtain ⟨Ao32, co32, eo32⟩ := Kd.R_slice HO201.out
                      (first | subst eo32 | (injection eo32 with f1_ f2_ f3_; have f4_ := f1_.symm; have f5_ := f3_.symm; clear f1_ f2_ f3_; subst f4_; subst f5_))
                      obtain ⟨_, _, hraw30, _, _, hcc30, _⟩ := Kd.H_raw HH28.out (of_decide_eq_true (by first | (with_reducible assumption) | assumption)) (by have h_ : (t191 : Int) < ((x8_1.length : Int) : Int) := of_decide_eq_true (by first | (with_reducible assumption) | assumption); first | exact h_ | (have e_ := (HN28.out); omega) | simpa using h_)
                      obtain ⟨_, hfr30⟩ := Kd.H_at HH28.out (of_decide_eq_true (by first | (with_reducible assumption) | assumption)) (by have h_ : (t191 : Int) < ((x8_1.length : Int) : Int) := of_decide_eq_true (by first | (with_reducible assumption) | assumption); first | exact h_ | (have e_ := (HN28.out); omega) | simpa using h_)
                      have hx30_0 := hcc30 0 _ rfl
                      have hf30_0 := hfr30 0
                      (try simp only [Nat.add_zero] at hx30_0 hf30_0)
                      (try rw [show ((Kd.slice 2 (Kd.int .i64))).sz = 1 from rfl, Nat.mul_one] at hx30_0)
                      (try rw [show ((Kd.slice 2 (Kd.int .i64))).sz = 1 from rfl, Nat.mul_one] at hf30_0)
                      have HP30 := Kd.S_seg0 HH28.out (of_decide_eq_true (by first | (with_reducible assumption) | assumption)) (by have h_ : (t191 : Int) < ((x8_1.length : Int) : Int) := of_decide_eq_true (by first | (with_reducible assumption) | assumption); first | exact h_ | (have e_ := (HN28.out); omega) | simpa using h_) (seg := [.slice Ao32 y199.length co32]) (j := 0) (show 1 ≤ 1 from by decide) (x' := y199) (Kd.M_row HO201.out) (fun _ hk => hk)
                      (try simp only [show ((Kd.slice 2 (Kd.int .i64))).sz = 1 from rfl, Nat.mul_one, Nat.add_zero] at HP30)
                      clear hcc30 hfr30
                      have HS30 := HP30.1
                      rw [← Ny202.out] at HS30
                      have HQ30 := Aside0.mk HS30
                      obtain ⟨_, hgg30⟩ := Kd.R_typed hraw30 go28 rfl
                      have GG30_ := Aside0.mk hgg30
                      clear HP30 HS30 hgg30
                      refine hK.out _ _ ⟨HS0_, HS1_⟩ (fun hHeld => ?_)
                      clear hK K
                      refine norm_ (a' := ?_) ?_ ?_
                      rotate_left
                      · show Act.put _ (some 43) _ = _
                        simp only [Act.put, List.setIfInBounds_toArray, List.set_cons_zero, List.set_cons_succ, i64_w, i32_w]
                        rfl
                      refine pure_ (i := 9) (N := some 44) (v := ?_) (a' := ?_) #[true, true, true, true, true, true, true, true, true, true, false] rfl rfl (any_of HT_.out (by kernel_rfl)) (fun _ _ _ h => h) (Or.inl ⟨by rfl, ?_⟩) ?_ ?_
                      rotate_left
                      · intro w'
                        go_simp
                        with_reducible rfl
                      rotate_left
                      · simp only [Act.put, List.setIfInBounds_toArray, List.set_cons_zero, List.set_cons_succ, i64_w, i32_w]
                        rfl
                      refine last_ (i := 10) (N := none) #[true, true, true, true, true, true, true, true, true, true, true] rfl rfl (one_of HT_.out (by kernel_rfl)) (by decide) (fun K hK => ?_)
                      refine skip_ (w1 := ?_) (by rfl) rfl ?_ ?_
                      rotate_left
                      · go_simp
                        rfl
                      refine hK.out _ _ ?_
                      clear hK K
                      refine done_ (done_of HT_.out (by kernel_rfl)) ?_
                      try go_wp2
                      go_roundg k1
                      case measure => have := HK1.out; omega
                      case rel => exact ⟨(y202), (wrap64 (x21_1 + 1)), (by first | rfl | (simp; done) | (simp [*]; done)), H', ⟨by have := HK1.out; omega⟩, ⟨by (with_reducible repeat (first | apply Kd.S_alloc | apply Kd.S_drewN | apply Kd.S_drew)); exact Kd.S_mono HQ30.out (fun _ hk => hk.1)⟩, ⟨by (with_reducible repeat (first | apply Kd.R_alloc | apply Kd.R_drewN | apply Kd.R_drew)); exact Kd.R_mono (Kd.R_far (p := ⟨go28, (t191 : Int).toNat, none⟩) (Kd.R_types HO_19.out GG30_.out (by decide)) (fun _ hk => hk.2) (.slice Ao32 y199.length co32)) (fun _ hk => trivial)⟩, ⟨by repeat (first | (with_reducible first | exact HB.out | apply below_alloc | apply pw_below_drewN | apply below_drew1 | refine below_set ?_ GB28.out) | exact HB.out)⟩⟩
                    · rw [if_neg c24] at H
                      exact absurd H (by simp)
                  · rw [if_neg c23] at H
                    exact absurd H (by simp)
                · rw [if_neg c22] at H
                  exact absurd H (by simp)
            · rw [if_neg c14] at H
              exact absurd H (by simp)
          · rw [if_neg c13] at H
            exact absurd H (by simp)
        · rw [if_neg c12] at H
          have c12b0 : decide (x21_1 < (t187.length : Int)) = false := decide_eq_false c12
          clear c12
          simp only [Option.some.injEq, Prod.mk.injEq] at H
          obtain ⟨rfl, rfl⟩ := H
          go_wp2
          go_ret2
          exact ⟨_, by first | rfl | (simp [errW_none, errW_some] <;> rfl) | (simp [*, errW_none, errW_some] <;> rfl), Kd.S_lower (by (with_reducible repeat (first | apply Kd.S_alloc | apply Kd.S_drewN | apply Kd.S_drew)); exact Kd.S_mono HO_8.out (fun _ hk => trivial)) HBW.out.size, below_step HBW.out (by repeat (first | (with_reducible first | exact HB.out | apply below_alloc | apply pw_below_drewN | apply below_drew1) | exact HB.out))⟩
  · replace c5 := Bool.eq_false_iff.mpr c5
    subst c5
    have H1 : (some (([] : List (List Int)), 2)) = some (r1, r2) := by rw [if_neg (show ¬ (false = true) by decide)] at H; exact H
    clear H
    have H := H1
    clear H1
    simp only [Option.some.injEq, Prod.mk.injEq] at H
    obtain ⟨rfl, rfl⟩ := H
    go_enter Try.func6, Try.ntmps6
    go_upto_region 1 with (fail)
    obtain ⟨wb, hwb⟩ : ∃ wb : World, wb = (((w.alloc (.cells #[.int .i64 a0] 2)).alloc (.cells #[.int .i64 a1] 2)).alloc (.cells #[.slice A2 l2.length c2] 22)) := ⟨_, rfl⟩
    rw [← hwb]
    obtain ⟨hBW, hb0, hb1, hb2⟩ := LF6.boxes w (.int .i64 a0) (.int .i64 a1) (.slice A2 l2.length c2) 2 2 22 wb hwb
    have HR2b := Aside0.mk (Kd.C_below HR2.out hBW)
    clear HR2 HB
    have HR2 := HR2b
    clear HR2b
    have HBW := Aside0.mk hBW
    have HG0 := Aside0.mk hb0
    have HG1 := Aside0.mk hb1
    have HG2 := Aside0.mk hb2
    have e0 := (blk_cell hb0 0).trans (show _ = some (Value.int .i64 a0) from rfl)
    have e1 := (blk_cell hb1 0).trans (show _ = some (Value.int .i64 a1) from rfl)
    have e2 := (blk_cell hb2 0).trans (show _ = some (Value.slice A2 l2.length c2) from rfl)
    clear hBW hb0 hb1 hb2 hwb
    have HB := Aside0.mk (Below.refl wb.heap.size wb)
    go_wp2_with (first | ((with_reducible refine gate_callee (f := 16) rfl ?_); refine goesL_ (some 15) rfl rfl Try.func16 (by kernel_rfl) rfl #[.int .i64 a0, .int .i64 a1, .slice A2 l2.length c2] rfl (by (try simp only [List.map_toArray, List.map_cons, List.map_nil]); first | done | rfl | (simp only [List.length_drop, List.length_take]; rfl)) ?_; (with_reducible refine (impl_areBars.calls a0 a1 _ _ l2 false _ ?side1 ?side2 A4.out).mono ?_); (case side1 => repeat (first | exact HR2.out | (with_reducible refine Kd.C_alloc ?_ _) | (with_reducible refine Kd.C_drewN ?_ _) | (with_reducible refine Kd.C_drew ?_))); (case side2 => exact HC2.out); rintro e w33 ⟨rfl, hb⟩; refine ⟨_, rfl, ?_⟩; have n0_ := Aside0.mk (below_step (by repeat (first | (with_reducible first | exact HB.out | apply below_alloc | apply pw_below_drewN | apply below_drew1) | exact HB.out)) hb); clear HB; have HB := n0_; clear n0_; (try clear hb); (try clear hb2); (try clear hk); (try clear hi)))
    go_ret2
    exact ⟨_, by first | rfl | (simp [errW_none, errW_some] <;> rfl) | (simp [*, errW_none, errW_some] <;> rfl), by first | exact Kd.S_nil _ _ _ _ _ | exact Kd.N_nil _ _ _ _ _ | exact Kd.V_nil _ _ _ _ _ | exact Kd.Q_nil _ _ _ _ _ | exact Kd.R_nil _ _ _ _ _, below_step HBW.out (by repeat (first | (with_reducible first | exact HB.out | apply below_alloc | apply pw_below_drewN | apply below_drew1) | exact HB.out))⟩


end Go.Proofs.Ytadighbpjanjbaa.PA
