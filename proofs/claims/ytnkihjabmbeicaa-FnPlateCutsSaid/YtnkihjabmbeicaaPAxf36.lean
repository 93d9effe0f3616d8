/- Pure functions, and that Go's functions come to them. -/
import Derived.Test.YtnkihjabmbeicaaPAx0
import Derived.Test.YtnkihjabmbeicaaPAxm8
import Derived.Test.YtnkihjabmbeicaaPAxm6
import Derived.Test.YtnkihjabmbeicaaPAxgKinds
import Derived.Test.YtnkihjabmbeicaaPAxf36d
namespace Go.Proofs.Ytnkihjabmbeicaa.PA
open Go.RowKit Go.Proofs.YtnkihjabmbeicaaW.PrintWords Go.Proofs.YtnkihjabmbeicaaW.PrintLast Go.Proofs.YtnkihjabmbeicaaW.PrintMore
set_option linter.unusedVariables false
set_option linter.unusedSimpArgs false

attribute [local go_sem high] eqA48
set_option maxHeartbeats 40000000 in
set_option maxRecDepth 100000 in
theorem impl_sizes.calls (k : Nat) (a0 : Int) (a1 : Int) (A2 : Option Addr) (c2 : Nat) (l2 : List (S46)) (A3 : Option Addr) (c3 : Nat) (l3 : List (S48)) (r1 : List (S49)) (r2 : Bool) (w : World) (hr2 : Kd.C k46 w A2 l2.length l2) (hc2 : l2.length ≤ c2) (hr3 : Kd.C k48 w A3 l3.length l3) (hc3 : l3.length ≤ c3) (h : impl_sizes.f k a0 a1 l2 l3 = some (r1, r2)) :
  Calls Try.prog 36 #[.int .i64 a0, .int .i64 a1, .slice A2 l2.length c2, .slice A3 l3.length c3] w fun e w' => ∃ v0_ : Value, e = .returned (.tuple #[v0_, .bool r2]) ∧ Kd.R k49 49 w' w.heap.size (fun _ => True) v0_ r1 ∧ Below w.heap.size w w' := by
 have hu49 := Try.underlying49
 have hu48 := Try.underlying48
 have HR2 := Aside0.mk hr2
 have HC2 := Aside0.mk hc2
 clear hr2 hc2
 have HR3 := Aside0.mk hr3
 have HC3 := Aside0.mk hc3
 clear hr3 hc3
 have HB := Aside0.mk (Below.refl w.heap.size w)
 have H : ((impl_isPlate.f a0 a1).bind fun t159 => (if t159 = true then ((impl_ValidKinds.f l2).bind fun t160 => (if t160 = true then ((impl_within.f (l3.length : Int) 1 60).bind fun t161 => (impl_sizes.j0 k a0 a1 l2 l3 (!t161))) else (impl_sizes.j0 k a0 a1 l2 l3 true))) else (impl_sizes.j0 k a0 a1 l2 l3 true))) = some (r1, r2) := h
 clear h
 have HC5 := Aside0.mk H
 clear H
 go_enter Try.func36, Try.ntmps36
 go_upto_region 1 with (fail)
 go_cut [33] (fun v33 wc => ∃ (kq : Nat) (x33_4 : Bool), v33 = .bool x33_4 ∧ Aside0 (impl_sizes.j0 kq a0 a1 l2 l3 x33_4 = some (r1, r2)) ∧ Aside0 (kq ≤ k) ∧ Aside0 (Below w.heap.size w wc))
 case first =>
  have H := HC5.out
  clear HC5
  obtain ⟨t159, A6, H⟩ := be_ H
  (try dsimp only at H)
  rcases (Decidable.em (t159 = true)).symm with c7 | c7
  ·
   replace c7 := Bool.eq_false_iff.mpr c7
   subst c7
   replace H := gf_ H
   have H' := Aside0.mk H
   clear H
   go_wp2_with (first | ((with_reducible refine gate_callee (f := 24) rfl ?_); refine goM_ (some 21) Try.func24 #[.int .i64 a0, .int .i64 a1] ?_; (with_reducible refine (impl_isPlate.calls a0 a1 false _ A6.out).mono ?_); rintro e w' ⟨rfl, ⟨nd, rfl⟩⟩; refine ⟨_, rfl, ?_⟩))
   go_meet
   case rel => exact ⟨_, (true), (by first | rfl | (simp; done) | (simp [*]; done)), H', ⟨by first | omega | exact Nat.le_refl _⟩, ⟨kB_ HB⟩⟩
  subst c7
  replace H := gt_ H
  obtain ⟨t160, A8, H⟩ := be_ H
  (try dsimp only at H)
  rcases (Decidable.em (t160 = true)).symm with c9 | c9
  ·
   replace c9 := Bool.eq_false_iff.mpr c9
   subst c9
   replace H := gf_ H
   have H' := Aside0.mk H
   clear H
   go_wp2_with (first | ((with_reducible refine gate_callee (f := 24) rfl ?_); refine goM_ (some 21) Try.func24 #[.int .i64 a0, .int .i64 a1] ?_; (with_reducible refine (impl_isPlate.calls a0 a1 true _ A6.out).mono ?_); rintro e w' ⟨rfl, ⟨nd, rfl⟩⟩; refine ⟨_, rfl, ?_⟩) | (go_at_call 12; (with_reducible refine (impl_ValidKinds.calls _ _ l2 false _ ?side1 ?side2 A8.out).mono ?_); (case side1 => repeat (first | exact (Kd.C_below HR2.out (kB_ HB)) | (with_reducible refine Kd.C_alloc ?_ _) | (with_reducible refine Kd.C_drewN ?_ _) | (with_reducible refine Kd.C_drew ?_))); (case side2 => exact HC2.out); rintro e w12 ⟨rfl, hb⟩; replace HB := Aside0.mk (below_step (kB_ HB) hb); clear hb))
   go_meet
   case rel => exact ⟨_, (true), (by first | rfl | (simp; done) | (simp [*]; done)), H', ⟨by first | omega | exact Nat.le_refl _⟩, ⟨kB_ HB⟩⟩
  subst c9
  replace H := gt_ H
  obtain ⟨t161, A10, H⟩ := be_ H
  (try dsimp only at H)
  have H' := Aside0.mk H
  clear H
  go_wp2_with (first | ((with_reducible refine gate_callee (f := 24) rfl ?_); refine goM_ (some 21) Try.func24 #[.int .i64 a0, .int .i64 a1] ?_; (with_reducible refine (impl_isPlate.calls a0 a1 true _ A6.out).mono ?_); rintro e w' ⟨rfl, ⟨nd, rfl⟩⟩; refine ⟨_, rfl, ?_⟩) | (go_at_call 12; (with_reducible refine (impl_ValidKinds.calls _ _ l2 true _ ?side1 ?side2 A8.out).mono ?_); (case side1 => repeat (first | exact (Kd.C_below HR2.out (kB_ HB)) | (with_reducible refine Kd.C_alloc ?_ _) | (with_reducible refine Kd.C_drewN ?_ _) | (with_reducible refine Kd.C_drew ?_))); (case side2 => exact HC2.out); rintro e w11 ⟨rfl, hb⟩; replace HB := Aside0.mk (below_step (kB_ HB) hb); clear hb) | (go_at_call 32; (with_reducible refine (impl_within.calls (l3.length : Int) 1 60 t161 _ A10.out).mono ?_); rintro e w' ⟨rfl, ⟨nd, rfl⟩⟩))
  go_meet
  case rel => exact ⟨_, (!t161), (by first | rfl | (simp; done) | (simp [*]; done)), H', ⟨by first | omega | exact Nat.le_refl _⟩, ⟨kB_ HB⟩⟩
 case rest =>
  clear HC5
  obtain ⟨kq, x33_4, rfl, HA, HJ4, HB⟩ := hcut
  rcases kq with _ | kj4
  · exact absurd HA.out (by simp [impl_sizes.j0])
  have H := HA.out
  clear HA
  simp only [impl_sizes.j0] at H
  by_cases c13 : x33_4 = true
  ·
   subst c13
   replace H := gt_ H
   simp only [Option.some.injEq, Prod.mk.injEq] at H
   obtain ⟨rfl, rfl⟩ := H
   go_wp2
   go_ret2
   exact ⟨_, by first | rfl | (simp [errW_none, errW_some] <;> rfl) | (simp [*, errW_none, errW_some] <;> rfl), by first | exact Kd.R_nil _ _ _ _ _ | exact Kd.N_nil _ _ _ _ _ | exact Kd.V_nil _ _ _ _ _ | exact Kd.Q_nil _ _ _ _ _ | exact Kd.S_nil _ _ _ _ _, kB_ HB⟩
  replace c13 := Bool.eq_false_iff.mpr c13
  subst c13
  replace H := gf_ H
  by_cases c14 : 0 ≤ (l3.length : Int)
  rotate_left
  ·
   rw [if_neg c14] at H
   exact absurd H (by simp)

  rw [if_pos c14] at H
  have c14b0 := eq_true c14
  have c14b1 : decide (0 ≤ (l3.length : Int)) = true := decide_eq_true c14
  clear c14
  by_cases c15 : ((l3.length : Int) : Int).toNat ≤ 17592186044416
  rotate_left
  ·
   rw [if_neg c15] at H
   exact absurd H (by simp)
  rw [if_pos c15] at H
  have c15b0 := eq_true c15
  have c15b1 : decide (((l3.length : Int) : Int).toNat ≤ 17592186044416) = true := decide_eq_true c15
  clear c15
  obtain ⟨y162, hy162⟩ : ∃ y_ : List (S49), y_ = (List.replicate ((l3.length : Int) : Int).toNat z49) := ⟨_, rfl⟩
  replace H : (if ((l3.length : Int) : Int).toNat ≤ 281474976710656 then ((some (List.replicate ((l3.length : Int) : Int).toNat false : List Bool)).bind fun y165 => (if 0 < (y162.length : Int) then (if 0 < (y165.length : Int) then (impl_sizes.l0 kj4 l2 l3 (y162.set (0 : Int).toNat (⟨a0, a1⟩ : S49)) (y165.set (0 : Int).toNat true) l3 (l3.length : Int) 0) else (none)) else (none))) else (none)) = some (r1, r2) := by first | (rw [hy162]; with_reducible exact H) | (have H2_ := (Option.bind_some _ _).symm.trans H; rw [hy162]; with_reducible exact H2_) | (have H2_ := (Option.bind_some _ _).symm.trans H; with_reducible exact H2_) | with_reducible exact H | (rw [hy162]; exact H) | exact H
  have Ny162 := Aside0.mk hy162
  clear hy162
  by_cases c16 : ((l3.length : Int) : Int).toNat ≤ 281474976710656
  rotate_left
  ·
   rw [if_neg c16] at H
   exact absurd H (by simp)
  rw [if_pos c16] at H
  have c16b0 := eq_true c16
  have c16b1 : decide (((l3.length : Int) : Int).toNat ≤ 281474976710656) = true := decide_eq_true c16
  clear c16
  obtain ⟨y165, hy165⟩ : ∃ y_ : List Bool, y_ = (List.replicate ((l3.length : Int) : Int).toNat false) := ⟨_, rfl⟩
  replace H : (if 0 < (y162.length : Int) then (if 0 < (y165.length : Int) then (impl_sizes.l0 kj4 l2 l3 (y162.set (0 : Int).toNat (⟨a0, a1⟩ : S49)) (y165.set (0 : Int).toNat true) l3 (l3.length : Int) 0) else (none)) else (none)) = some (r1, r2) := by first | (rw [hy165]; with_reducible exact H) | (have H2_ := (Option.bind_some _ _).symm.trans H; rw [hy165]; with_reducible exact H2_) | (have H2_ := (Option.bind_some _ _).symm.trans H; with_reducible exact H2_) | with_reducible exact H | (rw [hy165]; exact H) | exact H
  have Ny165 := Aside0.mk hy165
  clear hy165
  by_cases c17 : 0 < (y162.length : Int)
  rotate_left
  ·
   rw [if_neg c17] at H
   exact absurd H (by simp)
  rw [if_pos c17] at H
  have c17b0 : decide (0 < (y162.length : Int)) = true := decide_eq_true c17
  have c17b1 : decide (0 < y162.length) = true := decide_eq_true (by omega)
  clear c17
  obtain ⟨y168, hy168⟩ : ∃ y_ : List (S49), y_ = (y162.set (0 : Int).toNat (⟨a0, a1⟩ : S49)) := ⟨_, rfl⟩
  replace H : (if 0 < (y165.length : Int) then (impl_sizes.l0 kj4 l2 l3 y168 (y165.set (0 : Int).toNat true) l3 (l3.length : Int) 0) else (none)) = some (r1, r2) := by first | (rw [hy168]; with_reducible exact H) | (have H2_ := (Option.bind_some _ _).symm.trans H; rw [hy168]; with_reducible exact H2_) | (have H2_ := (Option.bind_some _ _).symm.trans H; with_reducible exact H2_) | with_reducible exact H | (rw [hy168]; exact H) | exact H
  have Ny168 := Aside0.mk hy168
  clear hy168
  by_cases c19 : 0 < (y165.length : Int)
  rotate_left
  ·
   rw [if_neg c19] at H
   exact absurd H (by simp)
  rw [if_pos c19] at H
  have c19b0 : decide (0 < (y165.length : Int)) = true := decide_eq_true c19
  have c19b1 : decide (0 < y165.length) = true := decide_eq_true (by omega)
  clear c19
  obtain ⟨y169, hy169⟩ : ∃ y_ : List Bool, y_ = (y165.set (0 : Int).toNat true) := ⟨_, rfl⟩
  replace H : (impl_sizes.l0 kj4 l2 l3 y168 y169 l3 (l3.length : Int) 0) = some (r1, r2) := by first | (rw [hy169]; with_reducible exact H) | (have H2_ := (Option.bind_some _ _).symm.trans H; rw [hy169]; with_reducible exact H2_) | (have H2_ := (Option.bind_some _ _).symm.trans H; with_reducible exact H2_) | with_reducible exact H | (rw [hy169]; exact H) | exact H
  have Ny169 := Aside0.mk hy169
  clear hy169
  have H' := Aside0.mk H
  clear H
  try go_wp2
  replace HB := Aside0.mk (below_drew1 HB.out)
  refine start_ (n := 8) (S := fun w' => True) (ds := []) #[false, false, false, false, false, false, false, false] (by kernel_rfl) rfl rfl trivial (fun hHeld => ?_); refine with_tabW impl_sizes.tab3 impl_sizes.bits3 (fun HT_ HW_ => ?_)
  generalize wc.drew = w21 at HB hHeld ⊢
  refine pu_ 0 34 (lA 8 1) ?_ ?_ HT_ ?_
  refine pu_ 1 35 (lA 8 3) ?_ ?_ HT_ ?_
  refine pu_ 3 37 (lA 8 11) ?_ ?_ HT_ ?_
  refine pu_ 4 38 (lA 8 27) ?_ ?_ HT_ ?_
  refine join_ (σ := Value × Value) 1 #[true, true, true, true, true, true, true, false] (fun s_ => [(36, s_.1), (39, s_.2), (10, s_.1)]) (fun s_ w' => (Kd.R k49 49 w' w.heap.size (fun _ => True) s_.1 y162) ∧ (Kd.R Kd.bool 4 w' w.heap.size (fun _ => True) s_.2 y165) ∧ (Below w.heap.size w w')) ?_ ?_
  rotate_left
  ·
   intro hCont
   refine two_ (i := 2) (j := 5) (Ni := some 36) (Nj := some 39) #[true, true, true, true, true, false, false, false] #[true, true, false, true, true, true, false, false] rfl rfl rfl rfl (two_of HT_.out (by kernel_rfl)) (by decide) (by decide) (fun K hK => ?_) (fun K hK => ?_)
   ·
    skip
    refine Kd.R_make_step k49 _ 49 (by rfl) (N := 36) rfl 38 _ _ rfl (l3.length : Int) rfl rfl Try.underlying38 (.agg #[(.int .i64 0), (.int .i64 0)]) 16 info49 rfl (by decide) (by omega) z49 (ok := fun _ => True) (okp := fun _ => True) (k49_mkM _ _ _ z49 ) (fun _ hk => hk) trivial od_ (Nat.le_trans (Nat.mul_le_mul_right _ (od_ : (l3.length : Int).toNat ≤ 17592186044416)) (by omega)) (Below.refl _ _) (Nat.le_refl _) ?_
    intro v163 w22 ho23 hb hg_ hnew_
    clear hg_ hnew_
    (first | rw [← Ny162.out] at ho23 | (simp only [Int.reduceToNat] at ho23; rw [← Ny162.out] at ho23))
    have n0_ := Aside0.mk (Kd.R_lower ho23 (below_size (kB_ HB)))
    have n1_ := Aside0.mk (below_step (kB_ HB) hb)
    clear HB
    have HO164 := n0_
    have HB := n1_
    clear n0_ n1_ hb ho23
    refine hK.out _ _ trivial (fun hHeld => ?_)
    clear hK K
    refine norm_ (a' := ?_) ?_ ?_
    rotate_left
    ·
     show Act.put _ (some 36) _ = _
     simp only [Act.put, List.setIfInBounds_toArray, List.set_cons_zero, List.set_cons_succ, i64_w, i32_w]
     rfl
    refine pu_ 6 10 (lA 8 95) ?_ ?_ HT_ ?_
    refine one_ (i := 5) (N := some 39) (lA 8 127) rfl rfl (one_of HT_.out (by kernel_rfl)) (by decide) (fun K hK => ?_)
    refine Kd.R_make_step Kd.bool _ 4 (by rfl) (N := 39) rfl 86 _ _ rfl (l3.length : Int) rfl rfl Try.underlying86 (.bool false) 1 info4 rfl (by decide) (by omega) false (ok := fun _ => True) (okp := fun _ => True) rfl (fun _ hk => hk) trivial od_ (Nat.le_trans (Nat.mul_le_mul_right _ (od_ : (l3.length : Int).toNat ≤ 281474976710656)) (by omega)) (Below.refl _ _) (Nat.le_refl _) ?_
    intro v166 w24 ho25 hb hg_ hnew_
    clear hg_ hnew_
    (first | rw [← Ny165.out] at ho25 | (simp only [Int.reduceToNat] at ho25; rw [← Ny165.out] at ho25))
    have n0_ := Aside0.mk (Kd.R_below (kp_ HO164) hb)
    have n1_ := Aside0.mk (Kd.R_lower ho25 (below_size (kB_ HB)))
    have n2_ := Aside0.mk (below_step (kB_ HB) hb)
    clear HO164 HB
    have HO164 := n0_
    have HO167 := n1_
    have HB := n2_
    clear n0_ n1_ n2_ hb ho25
    refine hK.out _ _ trivial (fun hHeld => ?_)
    clear hK K
    refine norm_ (a' := ?_) ?_ ?_
    rotate_left
    ·
     show Act.put _ (some 39) _ = _
     simp only [Act.put, List.setIfInBounds_toArray, List.set_cons_zero, List.set_cons_succ, i64_w, i32_w]
     rfl
    exact norm_ (by simp only [putAll, Act.put, List.setIfInBounds_toArray, List.set_cons_zero, List.set_cons_succ]) (hCont (v163, v166) _ ⟨(kp_ HO164), (kp_ HO167), (kB_ HB)⟩)
   ·
    skip
    refine Kd.R_make_step Kd.bool _ 4 (by rfl) (N := 39) rfl 86 _ _ rfl (l3.length : Int) rfl rfl Try.underlying86 (.bool false) 1 info4 rfl (by decide) (by omega) false (ok := fun _ => True) (okp := fun _ => True) rfl (fun _ hk => hk) trivial od_ (Nat.le_trans (Nat.mul_le_mul_right _ (od_ : (l3.length : Int).toNat ≤ 281474976710656)) (by omega)) (Below.refl _ _) (Nat.le_refl _) ?_
    intro v166 w22 ho23 hb hg_ hnew_
    clear hg_ hnew_
    (first | rw [← Ny165.out] at ho23 | (simp only [Int.reduceToNat] at ho23; rw [← Ny165.out] at ho23))
    have n0_ := Aside0.mk (Kd.R_lower ho23 (below_size (kB_ HB)))
    have n1_ := Aside0.mk (below_step (kB_ HB) hb)
    clear HB
    have HO167 := n0_
    have HB := n1_
    clear n0_ n1_ hb ho23
    refine hK.out _ _ trivial (fun hHeld => ?_)
    clear hK K
    refine norm_ (a' := ?_) ?_ ?_
    rotate_left
    ·
     show Act.put _ (some 39) _ = _
     simp only [Act.put, List.setIfInBounds_toArray, List.set_cons_zero, List.set_cons_succ, i64_w, i32_w]
     rfl
    refine one_ (i := 2) (N := some 36) (lA 8 63) rfl rfl (one_of HT_.out (by kernel_rfl)) (by decide) (fun K hK => ?_)
    refine Kd.R_make_step k49 _ 49 (by rfl) (N := 36) rfl 38 _ _ rfl (l3.length : Int) rfl rfl Try.underlying38 (.agg #[(.int .i64 0), (.int .i64 0)]) 16 info49 rfl (by decide) (by omega) z49 (ok := fun _ => True) (okp := fun _ => True) (k49_mkM _ _ _ z49 ) (fun _ hk => hk) trivial od_ (Nat.le_trans (Nat.mul_le_mul_right _ (od_ : (l3.length : Int).toNat ≤ 17592186044416)) (by omega)) (Below.refl _ _) (Nat.le_refl _) ?_
    intro v163 w24 ho25 hb hg_ hnew_
    clear hg_ hnew_
    (first | rw [← Ny162.out] at ho25 | (simp only [Int.reduceToNat] at ho25; rw [← Ny162.out] at ho25))
    have n0_ := Aside0.mk (Kd.R_below (kp_ HO167) hb)
    have n1_ := Aside0.mk (Kd.R_lower ho25 (below_size (kB_ HB)))
    have n2_ := Aside0.mk (below_step (kB_ HB) hb)
    clear HO167 HB
    have HO167 := n0_
    have HO164 := n1_
    have HB := n2_
    clear n0_ n1_ n2_ hb ho25
    refine hK.out _ _ trivial (fun hHeld => ?_)
    clear hK K
    refine norm_ (a' := ?_) ?_ ?_
    rotate_left
    ·
     show Act.put _ (some 36) _ = _
     simp only [Act.put, List.setIfInBounds_toArray, List.set_cons_zero, List.set_cons_succ, i64_w, i32_w]
     rfl
    refine pu_ 6 10 (lA 8 127) ?_ ?_ HT_ ?_
    exact norm_ (by simp only [putAll, Act.put, List.setIfInBounds_toArray, List.set_cons_zero, List.set_cons_succ]) (hCont (v163, v166) _ ⟨(kp_ HO164), (kp_ HO167), (kB_ HB)⟩)
  rintro ⟨v163, v166⟩ w26 ⟨h0_, h1_, h2_⟩
  have n0_ : Aside0 (Kd.R k49 49 w26 w.heap.size (fun _ => True) v163 y162) := ⟨h0_⟩
  have n1_ : Aside0 (Kd.R Kd.bool 4 w26 w.heap.size (fun _ => True) v166 y165) := ⟨h1_⟩
  have n2_ : Aside0 (Below w.heap.size w w26) := ⟨h2_⟩
  clear HB h0_ h1_ h2_
  have HO164 := n0_
  have HO167 := n1_
  have HB := n2_
  clear n0_ n1_ n2_
  have hHeld := trivial
  refine norm_ (a' := ?_) ?_ ?_
  rotate_left
  ·
   simp only [putAll, Act.put, List.setIfInBounds_toArray, List.set_cons_zero, List.set_cons_succ]
   rfl
  refine pu_ 7 11 (lA 8 255) ?_ ?_ HT_ ?_
  refine done_ (done_of HT_.out (by kernel_rfl)) ?_
  have p18 : 0 ≤ (0 : Int) := (by omega)
  have q18 : (0 : Int) < ((y162.length : Int) : Int) := od_
  have qi18 : (0 < y162.length) = True := eq_true (by omega)
  obtain ⟨go18, co18, eo18, gb18, gl18, cl18, HG18⟩ := Kd.R_form HO164.out (by omega)
  (first | cases eo18 | (injection eo18 with ea_ en_ ec_; (first | subst ea_ | (injection ea_ with ea_; subst ea_)); subst ec_; clear en_))
  have GB18 := Aside0.mk gb18
  have GG18 := Aside0.mk HG18
  clear gb18 gl18 HG18
  obtain ⟨ce18, hcl18, hM18, hcc18, hfr18⟩ := Kd.R_elem HO164.out z49 (0 : Int) p18 q18
  obtain rfl := k49_openM hM18
  have hx18_0 : w26.cell? ⟨go18, (0 : Int).toNat * 2, none⟩ = some (.int .i64 ((rd_T49 y162 0).f0)) := hcc18 0 _ rfl
  have hx18_1 : w26.cell? ⟨go18, (0 : Int).toNat * 2 + 1, none⟩ = some (.int .i64 ((rd_T49 y162 0).f1)) := hcc18 1 _ rfl
  have hf18_0 : w26.frozen? ⟨go18, (0 : Int).toNat * 2, none⟩ = false := hfr18 0
  have hf18_1 : w26.frozen? ⟨go18, (0 : Int).toNat * 2 + 1, none⟩ = false := hfr18 1
  clear hcl18 hcc18 hfr18; (try clear hM18)
  (try rw [show ((0 : Int)).toNat = 0 from rfl] at hx18_0)
  (try simp only [Nat.reduceMul, Nat.zero_mul, Nat.zero_add, Nat.reduceAdd] at hx18_0)
  (try rw [show ((0 : Int)).toNat = 0 from rfl] at hf18_0)
  (try simp only [Nat.reduceMul, Nat.zero_mul, Nat.zero_add, Nat.reduceAdd] at hf18_0)
  (try rw [show ((0 : Int)).toNat = 0 from rfl] at hx18_1)
  (try simp only [Nat.reduceMul, Nat.zero_mul, Nat.zero_add, Nat.reduceAdd] at hx18_1)
  (try rw [show ((0 : Int)).toNat = 0 from rfl] at hf18_1)
  (try simp only [Nat.reduceMul, Nat.zero_mul, Nat.zero_add, Nat.reduceAdd] at hf18_1)
  replace p18 := eq_true p18
  replace q18 := eq_true q18
  have HX27 := Aside0.mk (show Kd.R k49 49 w26 w.heap.size (fun _ => True) (.slice (some ⟨go18, 0, none⟩) y162.length co18) y162 from (kp_ HO164))
  obtain ⟨ce27, hcl27, hM27, hcc27, hfr27⟩ := Kd.R_elem HX27.out z49 (0 : Int) (by omega) (by have h_ : (0 : Int) < ((y162.length : Int) : Int) := od_; first | exact h_ | (have e_ := (Kd.R_reads' HO164.out).1; omega) | simpa using h_)
  obtain rfl := k49_openM hM27
  have HP27 := Kd.R_seg HX27.out (0 : Int) (by omega) (by have h_ : (0 : Int) < ((y162.length : Int) : Int) := od_; first | exact h_ | (have e_ := (Kd.R_reads' HO164.out).1; omega) | simpa using h_) (seg := [.int .i64 a0, .int .i64 a1]) (j := 0) hcl27 hcc27 (show 2 ≤ 2 from by decide) (x' := (⟨a0, a1⟩ : S49)) (k49_mkM _ _ _ (⟨a0, a1⟩ : S49) ) (fun _ hk => hk)
  have hx27_0 := hcc27 0 _ rfl
  (try simp only [show (k49).sz = 2 from rfl, Nat.mul_one, Nat.add_zero] at hx27_0)
  (try rw [show ((0 : Int)).toNat = 0 from rfl] at hx27_0)
  (try simp only [Nat.reduceMul, Nat.zero_mul, Nat.zero_add, Nat.reduceAdd] at hx27_0)
  have hf27_0 := hfr27 0
  (try simp only [show (k49).sz = 2 from rfl, Nat.mul_one, Nat.add_zero] at hf27_0)
  (try rw [show ((0 : Int)).toNat = 0 from rfl] at hf27_0)
  (try simp only [Nat.reduceMul, Nat.zero_mul, Nat.zero_add, Nat.reduceAdd] at hf27_0)
  have hx27_1 := hcc27 1 _ rfl
  (try simp only [show (k49).sz = 2 from rfl, Nat.mul_one, Nat.add_zero] at hx27_1)
  (try rw [show ((0 : Int)).toNat = 0 from rfl] at hx27_1)
  (try simp only [Nat.reduceMul, Nat.zero_mul, Nat.zero_add, Nat.reduceAdd] at hx27_1)
  have hf27_1 := hfr27 1
  (try simp only [show (k49).sz = 2 from rfl, Nat.mul_one, Nat.add_zero] at hf27_1)
  (try rw [show ((0 : Int)).toNat = 0 from rfl] at hf27_1)
  (try simp only [Nat.reduceMul, Nat.zero_mul, Nat.zero_add, Nat.reduceAdd] at hf27_1)
  clear hcl27 hcc27 hfr27; (try clear hM27)
  try go_wp2_with (first | ((with_reducible refine gate_store (t := 49) (p := 45) rfl ?_); refine store_event (t := 49) (p := 45) (v := ?vo_w28) (w1 := ((w26.setCell ⟨go18, 0, none⟩ (.int .i64 a0)).setCell ⟨go18, 1, none⟩ (.int .i64 a1))) ?hg ?ho ?hn ?hr ?_; (case ho => rfl); (case hg => rfl); (case hn => rfl); (case hr => first | (go_simp; done) | (go_simp; rfl)); intro w28 hw; have hg : w26.grownBy w28 (some go18) := (by rw [hw]; exact HP27.2); have hp_ : Kd.R k49 49 w28 w.heap.size (fun _ => True) (.slice (some ⟨go18, 0, none⟩) y162.length co18) y168 := (by rw [hw, Ny168.out]; exact HP27.1); clear HP27; replace HO167 := Aside0.mk (Kd.R_over' (v := (.slice (some ⟨go18, 0, none⟩) y162.length co18)) (kp_ HO167) (Kd.R_typed HO164.out) (by decide) hg); replace HO164 := Aside0.mk (hp_); replace HB := Aside0.mk ((by rw [hw]; exact below_set (below_set (HB.out) GB18.out) GB18.out : Below w.heap.size w w28)); clear hg hw hp_; have p20 : 0 ≤ (0 : Int) := (by omega); have q20 : (0 : Int) < ((y165.length : Int) : Int) := od_; have qi20 : (0 < y165.length) = True := eq_true (by omega); obtain ⟨go20, co20, eo20, gb20, gl20, cl20, HG20⟩ := Kd.R_form HO167.out (by omega); (first | cases eo20 | (injection eo20 with ea_ en_ ec_; (first | subst ea_ | (injection ea_ with ea_; subst ea_)); subst ec_; clear en_)); have GB20 := Aside0.mk gb20; have GG20 := Aside0.mk HG20; clear gb20 gl20 HG20; obtain ⟨hx20_0, hf20_0⟩ := Kd.R_celln false HO167.out (0 : Int) p20 q20; (try rw [show ((0 : Int)).toNat = 0 from rfl] at hx20_0); (try simp only [Nat.reduceMul, Nat.zero_mul, Nat.zero_add, Nat.reduceAdd] at hx20_0); (try rw [show ((0 : Int)).toNat = 0 from rfl] at hf20_0); (try simp only [Nat.reduceMul, Nat.zero_mul, Nat.zero_add, Nat.reduceAdd] at hf20_0); replace p20 := eq_true p20; replace q20 := eq_true q20; obtain ⟨hy29_, hz29_⟩ := Kd.R_celln false HO167.out (0 : Int) (by omega) od_; (try simp only [Int.reduceToNat, Int.toNat_zero, Int.toNat_ofNat, Nat.reduceMul, Nat.zero_mul, Nat.zero_add] at hy29_ hz29_); (try rw [show ((0 : Int)).toNat = 0 from rfl] at hy29_); (try rw [show ((0 : Int)).toNat = 0 from rfl] at hz29_); have HP29 := Kd.R_putg HO167.out (0 : Int) true) | ((with_reducible refine gate_store (t := 4) (p := 46) rfl ?_); refine store_event (t := 4) (p := 46) (v := ?vo_w30) (w1 := (w28.setCell ⟨go20, (0 : Int).toNat, none⟩ (.bool true))) ?hg ?ho ?hn ?hr ?_; (case ho => rfl); (case hg => rfl); (case hn => rfl); (case hr => first | (go_simp; done) | (go_simp; rfl)); intro w30 hw; have hg : w28.grownBy w30 (some go20) := (by rw [hw]; exact HP29.2); have hp_ : Kd.R Kd.bool 4 w30 w.heap.size (fun _ => True) (.slice (some ⟨go20, 0, none⟩) y165.length co20) y169 := (by rw [hw, Ny169.out]; exact HP29.1); clear HP29; replace HO164 := Aside0.mk (Kd.R_over' (v := (.slice (some ⟨go20, 0, none⟩) y165.length co20)) (kp_ HO164) (Kd.R_typed HO167.out) (by decide) hg); replace HO167 := Aside0.mk (hp_); replace HB := Aside0.mk ((by rw [hw]; exact below_set (HB.out) GB20.out : Below w.heap.size w w30)); clear hg hw hp_))
  go_loopg [49] kj4 (fun kq v49 w' => ∃ (x10_2 : List (S49)) (x11_2 : List Bool) (x49_2 : Int), v49 = .int .i64 x49_2 ∧ Aside0 (impl_sizes.l0 kq l2 l3 x10_2 x11_2 l3 (l3.length : Int) x49_2 = some (r1, r2)) ∧ Aside0 (kq ≤ kj4) ∧ Aside0 (Kd.R k49 49 w' w.heap.size (fun _ => True) (.slice (some ⟨go18, 0, none⟩) y162.length co18) x10_2) ∧ Aside0 (Kd.R Kd.bool 4 w' w.heap.size (fun _ => True) (.slice (some ⟨go20, 0, none⟩) y165.length co20) x11_2) ∧ Aside0 (Below w.heap.size w w'))
  case atStart => exact ⟨(y168), (y169), (0), (by first | rfl | (simp; done) | (simp [*]; done)), H', ⟨Nat.le_refl _⟩, ⟨kp_ HO164⟩, ⟨kp_ HO167⟩, ⟨kB_ HB⟩⟩
  case round =>
   clear H'
   obtain ⟨x10_2, x11_2, x49_2, rfl, HA, HK2, HO_10, HO_11, HB⟩ := hrel
   have hl10_2 := (Kd.R_reads' HO_10.out).1
   rw [hl10_2] at HO_10
   (try simp only [hl10_2])
   (try simp only [hl10_2] at HO_11)
   have hl11_2 := (Kd.R_reads' HO_11.out).1
   rw [hl11_2] at HO_11
   (try simp only [hl11_2])
   (try simp only [hl11_2] at HO_10)
   rcases gk with _ | k2
   · exact absurd HA.out (by simp [impl_sizes.l0])
   have H := HA.out
   clear HA
   simp only [impl_sizes.l0] at H
   by_cases c31 : x49_2 < (l3.length : Int)
   rotate_left
   ·
    rw [if_neg c31] at H
    have c31b0 : decide (x49_2 < (l3.length : Int)) = false := decide_eq_false c31
    clear c31
    simp only [Option.some.injEq, Prod.mk.injEq] at H
    obtain ⟨rfl, rfl⟩ := H
    go_wp2
    go_ret2
    exact ⟨_, by first | rfl | (simp [errW_none, errW_some] <;> rfl) | (simp [*, errW_none, errW_some] <;> rfl), by (with_reducible repeat (first | apply Kd.R_alloc | apply Kd.R_drewN | apply Kd.R_drew)); exact HO_10.out, kB_ HB⟩
   rw [if_pos c31] at H
   have c31b0 : decide (x49_2 < (l3.length : Int)) = true := decide_eq_true c31
   clear c31
   by_cases c32 : 0 ≤ x49_2
   rotate_left
   ·
    rw [if_neg c32] at H
    exact absurd H (by simp)
   rw [if_pos c32] at H
   have c32b0 : decide (0 ≤ x49_2) = true := decide_eq_true c32
   clear c32
   by_cases c33 : x49_2 < (l3.length : Int)
   rotate_left
   ·
    rw [if_neg c33] at H
    exact absurd H (by simp)
   rw [if_pos c33] at H
   have c33b0 : decide (x49_2 < (l3.length : Int)) = true := decide_eq_true c33
   clear c33
   by_cases c34 : x49_2 < (x10_2.length : Int)
   rotate_left
   ·
    rw [if_neg c34] at H
    exact absurd H (by simp)
   rw [if_pos c34] at H
   have c34b0 : decide (x49_2 < (x10_2.length : Int)) = true := decide_eq_true c34
   clear c34
   by_cases c35 : x49_2 < (x11_2.length : Int)
   rotate_left
   ·
    rw [if_neg c35] at H
    exact absurd H (by simp)
   rw [if_pos c35] at H
   have c35b0 : decide (x49_2 < (x11_2.length : Int)) = true := decide_eq_true c35
   clear c35
   obtain ⟨bq36, hbq36⟩ : ∃ b_ : Bool, b_ = (rdOf false x11_2 x49_2) := ⟨_, rfl⟩
   replace H : (if bq36 = true then (if ((rd_T48 l3 x49_2).f0) = 0 then (if (!(((rd_T48 l3 x49_2).f0) == 0) || (!(((rd_T48 l3 x49_2).f1) == 0) || (!(((rd_T48 l3 x49_2).f2) == 0) || (!(((rd_T48 l3 x49_2).f3) == 0))))) = true then (some (([] : List (S49)), false)) else (impl_sizes.l0 k2 l2 l3 x10_2 x11_2 l3 (l3.length : Int) (wrap64 (x49_2 + 1)))) else (if ((rd_T48 l3 x49_2).f0) = 1 then (if ((rd_T48 l3 x49_2).f1) = 0 then (if ((rd_T48 l3 x49_2).f3) = 0 then ((impl_within.f (wrap64 ((rd_T48 l3 x49_2).f2)) 0 (wrap64 ((l2.length : Int) - 1))).bind fun t175 => (if t175 = true then (if 0 ≤ (wrap64 ((rd_T48 l3 x49_2).f2)) then (if (wrap64 ((rd_T48 l3 x49_2).f2)) < (l2.length : Int) then (if (wrap64 ((rd_T46 l2 (wrap64 ((rd_T48 l3 x49_2).f2))).f0)) = ((rd_T49 x10_2 x49_2).f0) then (if (wrap64 ((rd_T46 l2 (wrap64 ((rd_T48 l3 x49_2).f2))).f1)) = ((rd_T49 x10_2 x49_2).f1) then (impl_sizes.l0 k2 l2 l3 x10_2 x11_2 l3 (l3.length : Int) (wrap64 (x49_2 + 1))) else (some (([] : List (S49)), false))) else (some (([] : List (S49)), false))) else (none)) else (none)) else (some (([] : List (S49)), false)))) else (some (([] : List (S49)), false))) else (some (([] : List (S49)), false))) else (if ((rd_T48 l3 x49_2).f0) = 2 then (impl_sizes.j2 k2 l2 l3 x10_2 x11_2 x49_2 l3 (l3.length : Int) x49_2 (((rd_T48 l3 x49_2).f0) == 2) ((rd_T48 l3 x49_2).f0) ((rd_T48 l3 x49_2).f1) ((rd_T48 l3 x49_2).f2) ((rd_T48 l3 x49_2).f3) ((rd_T49 x10_2 x49_2).f0) ((rd_T49 x10_2 x49_2).f1)) else (impl_sizes.j2 k2 l2 l3 x10_2 x11_2 x49_2 l3 (l3.length : Int) x49_2 (((rd_T48 l3 x49_2).f0) == 3) ((rd_T48 l3 x49_2).f0) ((rd_T48 l3 x49_2).f1) ((rd_T48 l3 x49_2).f2) ((rd_T48 l3 x49_2).f3) ((rd_T49 x10_2 x49_2).f0) ((rd_T49 x10_2 x49_2).f1))))) else (some (([] : List (S49)), false))) = some (r1, r2) := by rw [← hbq36] at H; exact H
   have Nbq36 := Aside0.mk hbq36
   clear hbq36
   by_cases c37 : bq36 = true
   rotate_left
   ·
    replace c37 := Bool.eq_false_iff.mpr c37
    subst c37
    replace H := gf_ H
    simp only [Option.some.injEq, Prod.mk.injEq] at H
    obtain ⟨rfl, rfl⟩ := H
    have p170 : 0 ≤ (x49_2 : Int) := od_
    have q170 : x49_2 < (l3.length : Int) := od_
    obtain ⟨ad170, e170, hx170_0, hx170_1, hx170_2, hx170_3⟩ := at_T48 HR3.out x49_2 p170 q170
    cases e170
    replace hx170_0 := (hw_ HB hx170_0 :)
    replace hx170_1 := (hw_ HB hx170_1 :)
    replace hx170_2 := (hw_ HB hx170_2 :)
    replace hx170_3 := (hw_ HB hx170_3 :)
    replace p170 := eq_true p170
    replace q170 := eq_true q170
    go_wp2_with (first | ((with_reducible refine gate_dst (N := 13) rfl ?_); (try (refine gate_guard (by rfl) ?_; dsimp only)); refine boxM_ 13 #[.int .i8 0, .int .i8 0, .int .i8 0, .int .i8 0] 48 ?_; intro gb171 hg w204 hbox hb; replace HO_10 := Aside0.mk (Kd.R_below (kp_ HO_10) hb); replace HO_11 := Aside0.mk (Kd.R_below (kp_ HO_11) hb); have BK171 := Aside0.mk (hbox); have GW171 := Aside0.mk ((by rw [hg]; exact (below_size (kB_ HB)) : w.heap.size ≤ gb171)); have GE171 := Aside0.mk ((by rw [hg]; exact (below_size (kB_ HB)) : w.heap.size ≤ gb171)); replace HB := Aside0.mk (below_step (kB_ HB) hb); clear hb hbox hg; have hcz205_0 : w204.cell? ⟨gb171, 0, none⟩ = some (.int .i8 0) := (blk_cell BK171.out 0).trans rfl; have hcz205_1 : w204.cell? ⟨gb171, 1, none⟩ = some (.int .i8 0) := (blk_cell BK171.out 1).trans rfl; have hcz205_2 : w204.cell? ⟨gb171, 2, none⟩ = some (.int .i8 0) := (blk_cell BK171.out 2).trans rfl; have hcz205_3 : w204.cell? ⟨gb171, 3, none⟩ = some (.int .i8 0) := (blk_cell BK171.out 3).trans rfl; have hfz205_0 := blk_frozen BK171.out 0; have hfz205_1 := blk_frozen BK171.out 1; have hfz205_2 := blk_frozen BK171.out 2; have hfz205_3 := blk_frozen BK171.out 3; have p172 : 0 ≤ (x49_2 : Int) := od_; have q172 : x49_2 < (x10_2.length : Int) := od_; obtain ⟨ad172, e172, hx172_0, hx172_1⟩ := at_T49 (Kd.R_reads' HO_10.out).2.2 x49_2 p172 q172; obtain rfl : (⟨go18, 0, none⟩ : Addr) = ad172 := (by injection e172); (first | simp only [add_plain] at hx172_0 | simp only [add_at] at hx172_0 | simp only [Addr.add, Nat.zero_add] at hx172_0 | skip); (first | simp only [add_plain] at hx172_1 | simp only [add_at] at hx172_1 | simp only [Addr.add, Nat.zero_add] at hx172_1 | skip); have hn172_0 : (⟨go18, 0, none⟩ : Addr).block ≠ gb171 := Kd.own_blk (Kd.R_ne HO_10.out BK171.out (by decide)); have hn172_1 : (⟨go18, 0, none⟩ : Addr).block ≠ gb171 := Kd.own_blk (Kd.R_ne HO_10.out BK171.out (by decide)); have hn172_2 : (⟨go18, 0, none⟩ : Addr).block ≠ gb171 := Kd.own_blk (Kd.R_ne HO_10.out BK171.out (by decide)); have hn172_3 : (⟨go18, 0, none⟩ : Addr).block ≠ gb171 := Kd.own_blk (Kd.R_ne HO_10.out BK171.out (by decide)); replace hx172_0 := (cell_far (p := ⟨gb171, 0, none⟩) (by first | (rw [add_block]; exact hn172_0) | (show (Addr.add _ _).block ≠ _; rw [add_block]; exact hn172_0) | exact hn172_0) (.int .i8 ((rd_T48 l3 x49_2).f0))).trans hx172_0; replace hx172_1 := (cell_far (p := ⟨gb171, 0, none⟩) (by first | (rw [add_block]; exact hn172_0) | (show (Addr.add _ _).block ≠ _; rw [add_block]; exact hn172_0) | exact hn172_0) (.int .i8 ((rd_T48 l3 x49_2).f0))).trans hx172_1; replace hx172_0 := (cell_far (p := ⟨gb171, 1, none⟩) (by first | (rw [add_block]; exact hn172_1) | (show (Addr.add _ _).block ≠ _; rw [add_block]; exact hn172_1) | exact hn172_1) (.int .i8 ((rd_T48 l3 x49_2).f1))).trans hx172_0; replace hx172_1 := (cell_far (p := ⟨gb171, 1, none⟩) (by first | (rw [add_block]; exact hn172_1) | (show (Addr.add _ _).block ≠ _; rw [add_block]; exact hn172_1) | exact hn172_1) (.int .i8 ((rd_T48 l3 x49_2).f1))).trans hx172_1; replace hx172_0 := (cell_far (p := ⟨gb171, 2, none⟩) (by first | (rw [add_block]; exact hn172_2) | (show (Addr.add _ _).block ≠ _; rw [add_block]; exact hn172_2) | exact hn172_2) (.int .i8 ((rd_T48 l3 x49_2).f2))).trans hx172_0; replace hx172_1 := (cell_far (p := ⟨gb171, 2, none⟩) (by first | (rw [add_block]; exact hn172_2) | (show (Addr.add _ _).block ≠ _; rw [add_block]; exact hn172_2) | exact hn172_2) (.int .i8 ((rd_T48 l3 x49_2).f2))).trans hx172_1; replace hx172_0 := (cell_far (p := ⟨gb171, 3, none⟩) (by first | (rw [add_block]; exact hn172_3) | (show (Addr.add _ _).block ≠ _; rw [add_block]; exact hn172_3) | exact hn172_3) (.int .i8 ((rd_T48 l3 x49_2).f3))).trans hx172_0; replace hx172_1 := (cell_far (p := ⟨gb171, 3, none⟩) (by first | (rw [add_block]; exact hn172_3) | (show (Addr.add _ _).block ≠ _; rw [add_block]; exact hn172_3) | exact hn172_3) (.int .i8 ((rd_T48 l3 x49_2).f3))).trans hx172_1; clear hn172_0; clear hn172_1; clear hn172_2; clear hn172_3; replace p172 := eq_true p172; replace q172 := eq_true q172) | ((with_reducible refine gate_dst (N := 14) rfl ?_); (try (refine gate_guard (by rfl) ?_; dsimp only)); refine boxM_ 14 #[.int .i64 0, .int .i64 0] 49 ?_; intro gb173 hg w206 hbox hb; replace HO_10 := Aside0.mk (Kd.R_below (Kd.R_elderB (by (with_reducible repeat (first | apply Kd.R_alloc | apply Kd.R_drewN | apply Kd.R_drew)); exact (Kd.R_mono (Kd.R_far (p := ⟨gb171, 3, none⟩) (Kd.R_far (p := ⟨gb171, 2, none⟩) (Kd.R_far (p := ⟨gb171, 1, none⟩) (Kd.R_far (p := ⟨gb171, 0, none⟩) (Kd.R_types HO_10.out BK171.out (by decide)) (fun _ hk => hk.2) (.int .i8 ((rd_T48 l3 x49_2).f0))) (fun _ hk => hk.2) (.int .i8 ((rd_T48 l3 x49_2).f1))) (fun _ hk => hk.2) (.int .i8 ((rd_T48 l3 x49_2).f2))) (fun _ hk => hk.2) (.int .i8 ((rd_T48 l3 x49_2).f3))) (fun _ h_ => h_.1))) gb173 (Nat.le_of_eq hg.symm)) hb); replace HO_11 := Aside0.mk (Kd.R_below (by (with_reducible repeat (first | apply Kd.R_alloc | apply Kd.R_drewN | apply Kd.R_drew)); exact (Kd.R_mono (Kd.R_far (p := ⟨gb171, 3, none⟩) (Kd.R_far (p := ⟨gb171, 2, none⟩) (Kd.R_far (p := ⟨gb171, 1, none⟩) (Kd.R_far (p := ⟨gb171, 0, none⟩) (Kd.R_types HO_11.out BK171.out (by decide)) (fun _ hk => hk.2) (.int .i8 ((rd_T48 l3 x49_2).f0))) (fun _ hk => hk.2) (.int .i8 ((rd_T48 l3 x49_2).f1))) (fun _ hk => hk.2) (.int .i8 ((rd_T48 l3 x49_2).f2))) (fun _ hk => hk.2) (.int .i8 ((rd_T48 l3 x49_2).f3))) (fun _ h_ => h_.1))) hb); have BK173 := Aside0.mk (hbox); have GW173 := Aside0.mk ((by rw [hg]; exact (below_size (k1_ HB GE171)) : w.heap.size ≤ gb173)); have GE173 := Aside0.mk ((by rw [hg]; exact (below_size (k1_ HB GE171)) : w.heap.size ≤ gb173)); replace HB := Aside0.mk (below_step (k1_ HB GE171) hb); have NB171_173 := Aside0.mk ((by rw [hg]; exact Nat.ne_of_lt (blk_lt (g := gb171) (o := .cells #[.int .i8 ((rd_T48 l3 x49_2).f0), .int .i8 ((rd_T48 l3 x49_2).f1), .int .i8 ((rd_T48 l3 x49_2).f2), .int .i8 ((rd_T48 l3 x49_2).f3)] 48 (0, 0)) (by (with_reducible repeat (first | refine blk_drewN ?_ _ | refine blk_drew ?_ | refine blk_alloc ?_ _)); refine blk_put (cs := #[.int .i8 ((rd_T48 l3 x49_2).f0), .int .i8 ((rd_T48 l3 x49_2).f1), .int .i8 ((rd_T48 l3 x49_2).f2), .int .i8 0]) ?_ 3 _ rfl; (with_reducible repeat (first | refine blk_drewN ?_ _ | refine blk_drew ?_ | refine blk_alloc ?_ _)); refine blk_put (cs := #[.int .i8 ((rd_T48 l3 x49_2).f0), .int .i8 ((rd_T48 l3 x49_2).f1), .int .i8 0, .int .i8 0]) ?_ 2 _ rfl; (with_reducible repeat (first | refine blk_drewN ?_ _ | refine blk_drew ?_ | refine blk_alloc ?_ _)); refine blk_put (cs := #[.int .i8 ((rd_T48 l3 x49_2).f0), .int .i8 0, .int .i8 0, .int .i8 0]) ?_ 1 _ rfl; (with_reducible repeat (first | refine blk_drewN ?_ _ | refine blk_drew ?_ | refine blk_alloc ?_ _)); refine blk_put (cs := #[.int .i8 0, .int .i8 0, .int .i8 0, .int .i8 0]) ?_ 0 _ rfl; (with_reducible repeat (first | refine blk_drewN ?_ _ | refine blk_drew ?_ | refine blk_alloc ?_ _)); exact BK171.out)) : gb171 ≠ gb173)); have NB173_171 := Aside0.mk ((by rw [hg]; exact Nat.ne_of_gt (blk_lt (g := gb171) (o := .cells #[.int .i8 ((rd_T48 l3 x49_2).f0), .int .i8 ((rd_T48 l3 x49_2).f1), .int .i8 ((rd_T48 l3 x49_2).f2), .int .i8 ((rd_T48 l3 x49_2).f3)] 48 (0, 0)) (by (with_reducible repeat (first | refine blk_drewN ?_ _ | refine blk_drew ?_ | refine blk_alloc ?_ _)); refine blk_put (cs := #[.int .i8 ((rd_T48 l3 x49_2).f0), .int .i8 ((rd_T48 l3 x49_2).f1), .int .i8 ((rd_T48 l3 x49_2).f2), .int .i8 0]) ?_ 3 _ rfl; (with_reducible repeat (first | refine blk_drewN ?_ _ | refine blk_drew ?_ | refine blk_alloc ?_ _)); refine blk_put (cs := #[.int .i8 ((rd_T48 l3 x49_2).f0), .int .i8 ((rd_T48 l3 x49_2).f1), .int .i8 0, .int .i8 0]) ?_ 2 _ rfl; (with_reducible repeat (first | refine blk_drewN ?_ _ | refine blk_drew ?_ | refine blk_alloc ?_ _)); refine blk_put (cs := #[.int .i8 ((rd_T48 l3 x49_2).f0), .int .i8 0, .int .i8 0, .int .i8 0]) ?_ 1 _ rfl; (with_reducible repeat (first | refine blk_drewN ?_ _ | refine blk_drew ?_ | refine blk_alloc ?_ _)); refine blk_put (cs := #[.int .i8 0, .int .i8 0, .int .i8 0, .int .i8 0]) ?_ 0 _ rfl; (with_reducible repeat (first | refine blk_drewN ?_ _ | refine blk_drew ?_ | refine blk_alloc ?_ _)); exact BK171.out)) : gb173 ≠ gb171)); replace BK171 := Aside0.mk (blk_below (g := gb171) (o := .cells #[.int .i8 ((rd_T48 l3 x49_2).f0), .int .i8 ((rd_T48 l3 x49_2).f1), .int .i8 ((rd_T48 l3 x49_2).f2), .int .i8 ((rd_T48 l3 x49_2).f3)] 48 (0, 0)) (by (with_reducible repeat (first | refine blk_drewN ?_ _ | refine blk_drew ?_ | refine blk_alloc ?_ _)); refine blk_put (cs := #[.int .i8 ((rd_T48 l3 x49_2).f0), .int .i8 ((rd_T48 l3 x49_2).f1), .int .i8 ((rd_T48 l3 x49_2).f2), .int .i8 0]) ?_ 3 _ rfl; (with_reducible repeat (first | refine blk_drewN ?_ _ | refine blk_drew ?_ | refine blk_alloc ?_ _)); refine blk_put (cs := #[.int .i8 ((rd_T48 l3 x49_2).f0), .int .i8 ((rd_T48 l3 x49_2).f1), .int .i8 0, .int .i8 0]) ?_ 2 _ rfl; (with_reducible repeat (first | refine blk_drewN ?_ _ | refine blk_drew ?_ | refine blk_alloc ?_ _)); refine blk_put (cs := #[.int .i8 ((rd_T48 l3 x49_2).f0), .int .i8 0, .int .i8 0, .int .i8 0]) ?_ 1 _ rfl; (with_reducible repeat (first | refine blk_drewN ?_ _ | refine blk_drew ?_ | refine blk_alloc ?_ _)); refine blk_put (cs := #[.int .i8 0, .int .i8 0, .int .i8 0, .int .i8 0]) ?_ 0 _ rfl; (with_reducible repeat (first | refine blk_drewN ?_ _ | refine blk_drew ?_ | refine blk_alloc ?_ _)); exact BK171.out) hb); clear hb hbox hg; have hnb207 := NB173_171.out; have hnc207 := NB171_173.out; obtain ⟨⟨hcz208_0, hcz208_1⟩, hfz208_0, hfz208_1⟩ := bq_ BK173; have p174 : 0 ≤ (x49_2 : Int) := od_; have q174 : x49_2 < (x11_2.length : Int) := od_; obtain ⟨ad174, e174, hx174_0⟩ := Kd.at_bool (Kd.R_reads' HO_11.out).2.2 x49_2 p174 q174; (try rw [← Nbq36.out] at hx174_0); obtain rfl : (⟨go20, 0, none⟩ : Addr) = ad174 := (by injection e174); (first | simp only [add_plain] at hx174_0 | simp only [add_at] at hx174_0 | simp only [Addr.add, Nat.zero_add] at hx174_0 | skip); have hn174_0 : (⟨go20, 0, none⟩ : Addr).block ≠ gb173 := Kd.own_blk (Kd.R_ne HO_11.out BK173.out (by decide)); have hn174_1 : (⟨go20, 0, none⟩ : Addr).block ≠ gb173 := Kd.own_blk (Kd.R_ne HO_11.out BK173.out (by decide)); replace hx174_0 := (cell_far (p := ⟨gb173, 0, none⟩) (by first | (rw [add_block]; exact hn174_0) | (show (Addr.add _ _).block ≠ _; rw [add_block]; exact hn174_0) | exact hn174_0) (.int .i64 ((rd_T49 x10_2 x49_2).f0))).trans hx174_0; replace hx174_0 := (cell_far (p := ⟨gb173, 1, none⟩) (by first | (rw [add_block]; exact hn174_1) | (show (Addr.add _ _).block ≠ _; rw [add_block]; exact hn174_1) | exact hn174_1) (.int .i64 ((rd_T49 x10_2 x49_2).f1))).trans hx174_0; clear hn174_0; clear hn174_1; replace p174 := eq_true p174; replace q174 := eq_true q174))
    go_ret2
    exact ⟨_, by first | rfl | (simp [errW_none, errW_some] <;> rfl) | (simp [*, errW_none, errW_some] <;> rfl), by first | exact Kd.R_nil _ _ _ _ _ | exact Kd.N_nil _ _ _ _ _ | exact Kd.V_nil _ _ _ _ _ | exact Kd.Q_nil _ _ _ _ _ | exact Kd.S_nil _ _ _ _ _, kS_ HB GE171 GE173⟩
   subst c37
   replace H := gt_ H
   have p170 : 0 ≤ (x49_2 : Int) := od_
   have q170 : x49_2 < (l3.length : Int) := od_
   obtain ⟨ad170, e170, hx170_0, hx170_1, hx170_2, hx170_3⟩ := at_T48 HR3.out x49_2 p170 q170
   cases e170
   replace hx170_0 := (hw_ HB hx170_0 :)
   replace hx170_1 := (hw_ HB hx170_1 :)
   replace hx170_2 := (hw_ HB hx170_2 :)
   replace hx170_3 := (hw_ HB hx170_3 :)
   replace p170 := eq_true p170
   replace q170 := eq_true q170
   go_upto_region 13 with (first | ((with_reducible refine gate_dst (N := 13) rfl ?_); (try (refine gate_guard (by rfl) ?_; dsimp only)); refine boxM_ 13 #[.int .i8 0, .int .i8 0, .int .i8 0, .int .i8 0] 48 ?_; intro gb171 hg w40 hbox hb; replace HO_10 := Aside0.mk (Kd.R_below (kp_ HO_10) hb); replace HO_11 := Aside0.mk (Kd.R_below (kp_ HO_11) hb); have BK171 := Aside0.mk (hbox); have GW171 := Aside0.mk ((by rw [hg]; exact (below_size (kB_ HB)) : w.heap.size ≤ gb171)); have GE171 := Aside0.mk ((by rw [hg]; exact (below_size (kB_ HB)) : w.heap.size ≤ gb171)); replace HB := Aside0.mk (below_step (kB_ HB) hb); clear hb hbox hg; have hcz41_0 : w40.cell? ⟨gb171, 0, none⟩ = some (.int .i8 0) := (blk_cell BK171.out 0).trans rfl; have hcz41_1 : w40.cell? ⟨gb171, 1, none⟩ = some (.int .i8 0) := (blk_cell BK171.out 1).trans rfl; have hcz41_2 : w40.cell? ⟨gb171, 2, none⟩ = some (.int .i8 0) := (blk_cell BK171.out 2).trans rfl; have hcz41_3 : w40.cell? ⟨gb171, 3, none⟩ = some (.int .i8 0) := (blk_cell BK171.out 3).trans rfl; have hfz41_0 := blk_frozen BK171.out 0; have hfz41_1 := blk_frozen BK171.out 1; have hfz41_2 := blk_frozen BK171.out 2; have hfz41_3 := blk_frozen BK171.out 3; have p172 : 0 ≤ (x49_2 : Int) := od_; have q172 : x49_2 < (x10_2.length : Int) := od_; obtain ⟨ad172, e172, hx172_0, hx172_1⟩ := at_T49 (Kd.R_reads' HO_10.out).2.2 x49_2 p172 q172; obtain rfl : (⟨go18, 0, none⟩ : Addr) = ad172 := (by injection e172); (first | simp only [add_plain] at hx172_0 | simp only [add_at] at hx172_0 | simp only [Addr.add, Nat.zero_add] at hx172_0 | skip); (first | simp only [add_plain] at hx172_1 | simp only [add_at] at hx172_1 | simp only [Addr.add, Nat.zero_add] at hx172_1 | skip); have hn172_0 : (⟨go18, 0, none⟩ : Addr).block ≠ gb171 := Kd.own_blk (Kd.R_ne HO_10.out BK171.out (by decide)); have hn172_1 : (⟨go18, 0, none⟩ : Addr).block ≠ gb171 := Kd.own_blk (Kd.R_ne HO_10.out BK171.out (by decide)); have hn172_2 : (⟨go18, 0, none⟩ : Addr).block ≠ gb171 := Kd.own_blk (Kd.R_ne HO_10.out BK171.out (by decide)); have hn172_3 : (⟨go18, 0, none⟩ : Addr).block ≠ gb171 := Kd.own_blk (Kd.R_ne HO_10.out BK171.out (by decide)); replace hx172_0 := (cell_far (p := ⟨gb171, 0, none⟩) (by first | (rw [add_block]; exact hn172_0) | (show (Addr.add _ _).block ≠ _; rw [add_block]; exact hn172_0) | exact hn172_0) (.int .i8 ((rd_T48 l3 x49_2).f0))).trans hx172_0; replace hx172_1 := (cell_far (p := ⟨gb171, 0, none⟩) (by first | (rw [add_block]; exact hn172_0) | (show (Addr.add _ _).block ≠ _; rw [add_block]; exact hn172_0) | exact hn172_0) (.int .i8 ((rd_T48 l3 x49_2).f0))).trans hx172_1; replace hx172_0 := (cell_far (p := ⟨gb171, 1, none⟩) (by first | (rw [add_block]; exact hn172_1) | (show (Addr.add _ _).block ≠ _; rw [add_block]; exact hn172_1) | exact hn172_1) (.int .i8 ((rd_T48 l3 x49_2).f1))).trans hx172_0; replace hx172_1 := (cell_far (p := ⟨gb171, 1, none⟩) (by first | (rw [add_block]; exact hn172_1) | (show (Addr.add _ _).block ≠ _; rw [add_block]; exact hn172_1) | exact hn172_1) (.int .i8 ((rd_T48 l3 x49_2).f1))).trans hx172_1; replace hx172_0 := (cell_far (p := ⟨gb171, 2, none⟩) (by first | (rw [add_block]; exact hn172_2) | (show (Addr.add _ _).block ≠ _; rw [add_block]; exact hn172_2) | exact hn172_2) (.int .i8 ((rd_T48 l3 x49_2).f2))).trans hx172_0; replace hx172_1 := (cell_far (p := ⟨gb171, 2, none⟩) (by first | (rw [add_block]; exact hn172_2) | (show (Addr.add _ _).block ≠ _; rw [add_block]; exact hn172_2) | exact hn172_2) (.int .i8 ((rd_T48 l3 x49_2).f2))).trans hx172_1; replace hx172_0 := (cell_far (p := ⟨gb171, 3, none⟩) (by first | (rw [add_block]; exact hn172_3) | (show (Addr.add _ _).block ≠ _; rw [add_block]; exact hn172_3) | exact hn172_3) (.int .i8 ((rd_T48 l3 x49_2).f3))).trans hx172_0; replace hx172_1 := (cell_far (p := ⟨gb171, 3, none⟩) (by first | (rw [add_block]; exact hn172_3) | (show (Addr.add _ _).block ≠ _; rw [add_block]; exact hn172_3) | exact hn172_3) (.int .i8 ((rd_T48 l3 x49_2).f3))).trans hx172_1; clear hn172_0; clear hn172_1; clear hn172_2; clear hn172_3; replace p172 := eq_true p172; replace q172 := eq_true q172) | ((with_reducible refine gate_dst (N := 14) rfl ?_); (try (refine gate_guard (by rfl) ?_; dsimp only)); refine boxM_ 14 #[.int .i64 0, .int .i64 0] 49 ?_; intro gb173 hg w42 hbox hb; replace HO_10 := Aside0.mk (Kd.R_below (Kd.R_elderB (by (with_reducible repeat (first | apply Kd.R_alloc | apply Kd.R_drewN | apply Kd.R_drew)); exact (Kd.R_mono (Kd.R_far (p := ⟨gb171, 3, none⟩) (Kd.R_far (p := ⟨gb171, 2, none⟩) (Kd.R_far (p := ⟨gb171, 1, none⟩) (Kd.R_far (p := ⟨gb171, 0, none⟩) (Kd.R_types HO_10.out BK171.out (by decide)) (fun _ hk => hk.2) (.int .i8 ((rd_T48 l3 x49_2).f0))) (fun _ hk => hk.2) (.int .i8 ((rd_T48 l3 x49_2).f1))) (fun _ hk => hk.2) (.int .i8 ((rd_T48 l3 x49_2).f2))) (fun _ hk => hk.2) (.int .i8 ((rd_T48 l3 x49_2).f3))) (fun _ h_ => h_.1))) gb173 (Nat.le_of_eq hg.symm)) hb); replace HO_11 := Aside0.mk (Kd.R_below (by (with_reducible repeat (first | apply Kd.R_alloc | apply Kd.R_drewN | apply Kd.R_drew)); exact (Kd.R_mono (Kd.R_far (p := ⟨gb171, 3, none⟩) (Kd.R_far (p := ⟨gb171, 2, none⟩) (Kd.R_far (p := ⟨gb171, 1, none⟩) (Kd.R_far (p := ⟨gb171, 0, none⟩) (Kd.R_types HO_11.out BK171.out (by decide)) (fun _ hk => hk.2) (.int .i8 ((rd_T48 l3 x49_2).f0))) (fun _ hk => hk.2) (.int .i8 ((rd_T48 l3 x49_2).f1))) (fun _ hk => hk.2) (.int .i8 ((rd_T48 l3 x49_2).f2))) (fun _ hk => hk.2) (.int .i8 ((rd_T48 l3 x49_2).f3))) (fun _ h_ => h_.1))) hb); have BK173 := Aside0.mk (hbox); have GW173 := Aside0.mk ((by rw [hg]; exact (below_size (k1_ HB GE171)) : w.heap.size ≤ gb173)); have GE173 := Aside0.mk ((by rw [hg]; exact (below_size (k1_ HB GE171)) : w.heap.size ≤ gb173)); replace HB := Aside0.mk (below_step (k1_ HB GE171) hb); have NB171_173 := Aside0.mk ((by rw [hg]; exact Nat.ne_of_lt (blk_lt (g := gb171) (o := .cells #[.int .i8 ((rd_T48 l3 x49_2).f0), .int .i8 ((rd_T48 l3 x49_2).f1), .int .i8 ((rd_T48 l3 x49_2).f2), .int .i8 ((rd_T48 l3 x49_2).f3)] 48 (0, 0)) (by (with_reducible repeat (first | refine blk_drewN ?_ _ | refine blk_drew ?_ | refine blk_alloc ?_ _)); refine blk_put (cs := #[.int .i8 ((rd_T48 l3 x49_2).f0), .int .i8 ((rd_T48 l3 x49_2).f1), .int .i8 ((rd_T48 l3 x49_2).f2), .int .i8 0]) ?_ 3 _ rfl; (with_reducible repeat (first | refine blk_drewN ?_ _ | refine blk_drew ?_ | refine blk_alloc ?_ _)); refine blk_put (cs := #[.int .i8 ((rd_T48 l3 x49_2).f0), .int .i8 ((rd_T48 l3 x49_2).f1), .int .i8 0, .int .i8 0]) ?_ 2 _ rfl; (with_reducible repeat (first | refine blk_drewN ?_ _ | refine blk_drew ?_ | refine blk_alloc ?_ _)); refine blk_put (cs := #[.int .i8 ((rd_T48 l3 x49_2).f0), .int .i8 0, .int .i8 0, .int .i8 0]) ?_ 1 _ rfl; (with_reducible repeat (first | refine blk_drewN ?_ _ | refine blk_drew ?_ | refine blk_alloc ?_ _)); refine blk_put (cs := #[.int .i8 0, .int .i8 0, .int .i8 0, .int .i8 0]) ?_ 0 _ rfl; (with_reducible repeat (first | refine blk_drewN ?_ _ | refine blk_drew ?_ | refine blk_alloc ?_ _)); exact BK171.out)) : gb171 ≠ gb173)); have NB173_171 := Aside0.mk ((by rw [hg]; exact Nat.ne_of_gt (blk_lt (g := gb171) (o := .cells #[.int .i8 ((rd_T48 l3 x49_2).f0), .int .i8 ((rd_T48 l3 x49_2).f1), .int .i8 ((rd_T48 l3 x49_2).f2), .int .i8 ((rd_T48 l3 x49_2).f3)] 48 (0, 0)) (by (with_reducible repeat (first | refine blk_drewN ?_ _ | refine blk_drew ?_ | refine blk_alloc ?_ _)); refine blk_put (cs := #[.int .i8 ((rd_T48 l3 x49_2).f0), .int .i8 ((rd_T48 l3 x49_2).f1), .int .i8 ((rd_T48 l3 x49_2).f2), .int .i8 0]) ?_ 3 _ rfl; (with_reducible repeat (first | refine blk_drewN ?_ _ | refine blk_drew ?_ | refine blk_alloc ?_ _)); refine blk_put (cs := #[.int .i8 ((rd_T48 l3 x49_2).f0), .int .i8 ((rd_T48 l3 x49_2).f1), .int .i8 0, .int .i8 0]) ?_ 2 _ rfl; (with_reducible repeat (first | refine blk_drewN ?_ _ | refine blk_drew ?_ | refine blk_alloc ?_ _)); refine blk_put (cs := #[.int .i8 ((rd_T48 l3 x49_2).f0), .int .i8 0, .int .i8 0, .int .i8 0]) ?_ 1 _ rfl; (with_reducible repeat (first | refine blk_drewN ?_ _ | refine blk_drew ?_ | refine blk_alloc ?_ _)); refine blk_put (cs := #[.int .i8 0, .int .i8 0, .int .i8 0, .int .i8 0]) ?_ 0 _ rfl; (with_reducible repeat (first | refine blk_drewN ?_ _ | refine blk_drew ?_ | refine blk_alloc ?_ _)); exact BK171.out)) : gb173 ≠ gb171)); replace BK171 := Aside0.mk (blk_below (g := gb171) (o := .cells #[.int .i8 ((rd_T48 l3 x49_2).f0), .int .i8 ((rd_T48 l3 x49_2).f1), .int .i8 ((rd_T48 l3 x49_2).f2), .int .i8 ((rd_T48 l3 x49_2).f3)] 48 (0, 0)) (by (with_reducible repeat (first | refine blk_drewN ?_ _ | refine blk_drew ?_ | refine blk_alloc ?_ _)); refine blk_put (cs := #[.int .i8 ((rd_T48 l3 x49_2).f0), .int .i8 ((rd_T48 l3 x49_2).f1), .int .i8 ((rd_T48 l3 x49_2).f2), .int .i8 0]) ?_ 3 _ rfl; (with_reducible repeat (first | refine blk_drewN ?_ _ | refine blk_drew ?_ | refine blk_alloc ?_ _)); refine blk_put (cs := #[.int .i8 ((rd_T48 l3 x49_2).f0), .int .i8 ((rd_T48 l3 x49_2).f1), .int .i8 0, .int .i8 0]) ?_ 2 _ rfl; (with_reducible repeat (first | refine blk_drewN ?_ _ | refine blk_drew ?_ | refine blk_alloc ?_ _)); refine blk_put (cs := #[.int .i8 ((rd_T48 l3 x49_2).f0), .int .i8 0, .int .i8 0, .int .i8 0]) ?_ 1 _ rfl; (with_reducible repeat (first | refine blk_drewN ?_ _ | refine blk_drew ?_ | refine blk_alloc ?_ _)); refine blk_put (cs := #[.int .i8 0, .int .i8 0, .int .i8 0, .int .i8 0]) ?_ 0 _ rfl; (with_reducible repeat (first | refine blk_drewN ?_ _ | refine blk_drew ?_ | refine blk_alloc ?_ _)); exact BK171.out) hb); clear hb hbox hg; have hnb43 := NB173_171.out; have hnc43 := NB171_173.out; obtain ⟨⟨hcz44_0, hcz44_1⟩, hfz44_0, hfz44_1⟩ := bq_ BK173; have p174 : 0 ≤ (x49_2 : Int) := od_; have q174 : x49_2 < (x11_2.length : Int) := od_; obtain ⟨ad174, e174, hx174_0⟩ := Kd.at_bool (Kd.R_reads' HO_11.out).2.2 x49_2 p174 q174; (try rw [← Nbq36.out] at hx174_0); obtain rfl : (⟨go20, 0, none⟩ : Addr) = ad174 := (by injection e174); (first | simp only [add_plain] at hx174_0 | simp only [add_at] at hx174_0 | simp only [Addr.add, Nat.zero_add] at hx174_0 | skip); have hn174_0 : (⟨go20, 0, none⟩ : Addr).block ≠ gb173 := Kd.own_blk (Kd.R_ne HO_11.out BK173.out (by decide)); have hn174_1 : (⟨go20, 0, none⟩ : Addr).block ≠ gb173 := Kd.own_blk (Kd.R_ne HO_11.out BK173.out (by decide)); replace hx174_0 := (cell_far (p := ⟨gb173, 0, none⟩) (by first | (rw [add_block]; exact hn174_0) | (show (Addr.add _ _).block ≠ _; rw [add_block]; exact hn174_0) | exact hn174_0) (.int .i64 ((rd_T49 x10_2 x49_2).f0))).trans hx174_0; replace hx174_0 := (cell_far (p := ⟨gb173, 1, none⟩) (by first | (rw [add_block]; exact hn174_1) | (show (Addr.add _ _).block ≠ _; rw [add_block]; exact hn174_1) | exact hn174_1) (.int .i64 ((rd_T49 x10_2 x49_2).f1))).trans hx174_0; clear hn174_0; clear hn174_1; replace p174 := eq_true p174; replace q174 := eq_true q174; have hcz45_0 : w42.cell? ⟨gb171, 0, none⟩ = some (.int .i8 ((rd_T48 l3 x49_2).f0)) := (blk_cell BK171.out 0).trans rfl; have hcz45_1 : w42.cell? ⟨gb171, 1, none⟩ = some (.int .i8 ((rd_T48 l3 x49_2).f1)) := (blk_cell BK171.out 1).trans rfl; have hcz45_2 : w42.cell? ⟨gb171, 2, none⟩ = some (.int .i8 ((rd_T48 l3 x49_2).f2)) := (blk_cell BK171.out 2).trans rfl; have hcz45_3 : w42.cell? ⟨gb171, 3, none⟩ = some (.int .i8 ((rd_T48 l3 x49_2).f3)) := (blk_cell BK171.out 3).trans rfl; have hfz45_0 := blk_frozen BK171.out 0; have hfz45_1 := blk_frozen BK171.out 1; have hfz45_2 := blk_frozen BK171.out 2; have hfz45_3 := blk_frozen BK171.out 3))
   as_aux_lemma =>
   by_cases c38 : ((rd_T48 l3 x49_2).f0) = 0
   ·
    rw [if_pos c38] at H
    have c38b0 : (((rd_T48 l3 x49_2).f0) == 0) = true := beq_iff_eq.mpr c38
    have c38b1 : (((rd_T48 l3 x49_2).f0) != 0) = false := bne_eq_false_iff_eq.mpr c38
    clear c38
    by_cases c39 : (!(((rd_T48 l3 x49_2).f0) == 0) || (!(((rd_T48 l3 x49_2).f1) == 0) || (!(((rd_T48 l3 x49_2).f2) == 0) || (!(((rd_T48 l3 x49_2).f3) == 0))))) = true
    ·
     rw [if_pos c39] at H
     have c39b0 : (!(((rd_T48 l3 x49_2).f0) == 0) || (!(((rd_T48 l3 x49_2).f1) == 0) || (!(((rd_T48 l3 x49_2).f2) == 0) || (!(((rd_T48 l3 x49_2).f3) == 0))))) = true := c39
     have c39c0 := c39b0; simp only [c38b0, Bool.not_true, Bool.false_or] at c39c0
     clear c39
     simp only [Option.some.injEq, Prod.mk.injEq] at H
     obtain ⟨rfl, rfl⟩ := H
     go_wp2
     go_ret2
     exact ⟨_, by first | rfl | (simp [errW_none, errW_some] <;> rfl) | (simp [*, errW_none, errW_some] <;> rfl), by first | exact Kd.R_nil _ _ _ _ _ | exact Kd.N_nil _ _ _ _ _ | exact Kd.V_nil _ _ _ _ _ | exact Kd.Q_nil _ _ _ _ _ | exact Kd.S_nil _ _ _ _ _, kS_ HB GE171 GE173⟩
    rw [if_neg c39] at H
    have c39b0 : (!(((rd_T48 l3 x49_2).f0) == 0) || (!(((rd_T48 l3 x49_2).f1) == 0) || (!(((rd_T48 l3 x49_2).f2) == 0) || (!(((rd_T48 l3 x49_2).f3) == 0))))) = false := by simpa using c39
    have c39c0 := c39b0; simp only [c38b0, Bool.not_true, Bool.false_or] at c39c0
    clear c39
    have H' := Aside0.mk H
    clear H
    go_wp2
    (try simp only [← hl10_2, ← hl11_2])
    go_roundg k2
    case measure => have := HJ4.out; have := HK2.out; omega
    case rel => exact ⟨(x10_2), (x11_2), (wrap64 (x49_2 + 1)), (by first | rfl | (simp; done) | (simp [*]; done)), H', ⟨by have := HJ4.out; have := HK2.out; omega⟩, ⟨by (try simp only [hl10_2]); (try simp only [hl11_2]); (with_reducible repeat (first | apply Kd.R_alloc | apply Kd.R_drewN | apply Kd.R_drew)); exact Kd.R_mono (Kd.R_far (p := ⟨gb173, 1, none⟩) (Kd.R_far (p := ⟨gb173, 0, none⟩) (Kd.R_mono HO_10.out (fun k_ hk => (⟨hk, hk.2⟩ : _ ∧ k_ ≠ gb173))) (fun _ hk => hk.2) (.int .i64 ((rd_T49 x10_2 x49_2).f0))) (fun _ hk => hk.2) (.int .i64 ((rd_T49 x10_2 x49_2).f1))) (fun _ hk => trivial)⟩, ⟨by (try simp only [hl10_2]); (try simp only [hl11_2]); (with_reducible repeat (first | apply Kd.R_alloc | apply Kd.R_drewN | apply Kd.R_drew)); exact Kd.R_mono (Kd.R_far (p := ⟨gb173, 1, none⟩) (Kd.R_far (p := ⟨gb173, 0, none⟩) (Kd.R_types HO_11.out BK173.out (by decide)) (fun _ hk => hk.2) (.int .i64 ((rd_T49 x10_2 x49_2).f0))) (fun _ hk => hk.2) (.int .i64 ((rd_T49 x10_2 x49_2).f1))) (fun _ hk => trivial)⟩, ⟨kS_ HB GE171 GE173⟩⟩
   rw [if_neg c38] at H
   have c38b0 : (((rd_T48 l3 x49_2).f0) == 0) = false := beq_eq_false_iff_ne.mpr c38
   have c38b1 : (((rd_T48 l3 x49_2).f0) != 0) = true := bne_iff_ne.mpr c38
   by_cases c52 : ((rd_T48 l3 x49_2).f0) = 1
   ·
    rw [if_pos c52] at H
    have c52b0 : (((rd_T48 l3 x49_2).f0) == 1) = true := beq_iff_eq.mpr c52
    have c52b1 : (((rd_T48 l3 x49_2).f0) != 1) = false := bne_eq_false_iff_eq.mpr c52
    clear c52
    try go_wp2
    have n0_ : Aside0 (Kd.R k49 49 ((w42.setCell ⟨gb173, 0, none⟩ (.int .i64 ((rd_T49 x10_2 x49_2).f0))).setCell ⟨gb173, 1, none⟩ (.int .i64 ((rd_T49 x10_2 x49_2).f1))) w.heap.size (fun k_ => k_ ≠ gb173) (.slice (some ⟨go18, 0, none⟩) x10_2.length co18) x10_2) := ⟨by (with_reducible repeat (first | apply Kd.R_alloc | apply Kd.R_drewN | apply Kd.R_drew)); exact Kd.R_mono (Kd.R_far (p := ⟨gb173, 1, none⟩) (Kd.R_far (p := ⟨gb173, 0, none⟩) (Kd.R_mono HO_10.out (fun k_ hk => (⟨hk, hk.2⟩ : _ ∧ k_ ≠ gb173))) (fun _ hk => hk.2) (.int .i64 ((rd_T49 x10_2 x49_2).f0))) (fun _ hk => hk.2) (.int .i64 ((rd_T49 x10_2 x49_2).f1))) (fun _ hk => hk.1.2)⟩
    have n1_ : Aside0 (Kd.R Kd.bool 4 ((w42.setCell ⟨gb173, 0, none⟩ (.int .i64 ((rd_T49 x10_2 x49_2).f0))).setCell ⟨gb173, 1, none⟩ (.int .i64 ((rd_T49 x10_2 x49_2).f1))) w.heap.size (fun _ => True) (.slice (some ⟨go20, 0, none⟩) x11_2.length co20) x11_2) := ⟨by (with_reducible repeat (first | apply Kd.R_alloc | apply Kd.R_drewN | apply Kd.R_drew)); exact Kd.R_mono (Kd.R_far (p := ⟨gb173, 1, none⟩) (Kd.R_far (p := ⟨gb173, 0, none⟩) (Kd.R_types HO_11.out BK173.out (by decide)) (fun _ hk => hk.2) (.int .i64 ((rd_T49 x10_2 x49_2).f0))) (fun _ hk => hk.2) (.int .i64 ((rd_T49 x10_2 x49_2).f1))) (fun _ hk => trivial)⟩
    have n2_ : Aside0 (((w42.setCell ⟨gb173, 0, none⟩ (.int .i64 ((rd_T49 x10_2 x49_2).f0))).setCell ⟨gb173, 1, none⟩ (.int .i64 ((rd_T49 x10_2 x49_2).f1))).heap[gb171]? = some (.cells #[.int .i8 ((rd_T48 l3 x49_2).f0), .int .i8 ((rd_T48 l3 x49_2).f1), .int .i8 ((rd_T48 l3 x49_2).f2), .int .i8 ((rd_T48 l3 x49_2).f3)] 48 (0, 0))) := ⟨by (with_reducible repeat (first | refine blk_drewN ?_ _ | refine blk_drew ?_ | refine blk_alloc ?_ _)); refine blk_far ?_ NB171_173.out _; (with_reducible repeat (first | refine blk_drewN ?_ _ | refine blk_drew ?_ | refine blk_alloc ?_ _)); refine blk_far ?_ NB171_173.out _; (with_reducible repeat (first | refine blk_drewN ?_ _ | refine blk_drew ?_ | refine blk_alloc ?_ _)); exact BK171.out⟩
    have n3_ : Aside0 (((w42.setCell ⟨gb173, 0, none⟩ (.int .i64 ((rd_T49 x10_2 x49_2).f0))).setCell ⟨gb173, 1, none⟩ (.int .i64 ((rd_T49 x10_2 x49_2).f1))).heap[gb173]? = some (.cells #[.int .i64 ((rd_T49 x10_2 x49_2).f0), .int .i64 ((rd_T49 x10_2 x49_2).f1)] 49 (0, 0))) := ⟨by (with_reducible repeat (first | refine blk_drewN ?_ _ | refine blk_drew ?_ | refine blk_alloc ?_ _)); refine blk_put (cs := #[.int .i64 ((rd_T49 x10_2 x49_2).f0), .int .i64 0]) ?_ 1 _ rfl; (with_reducible repeat (first | refine blk_drewN ?_ _ | refine blk_drew ?_ | refine blk_alloc ?_ _)); refine blk_put (cs := #[.int .i64 0, .int .i64 0]) ?_ 0 _ rfl; (with_reducible repeat (first | refine blk_drewN ?_ _ | refine blk_drew ?_ | refine blk_alloc ?_ _)); exact BK173.out⟩
    have n4_ : Aside0 (Below w.heap.size w ((w42.setCell ⟨gb173, 0, none⟩ (.int .i64 ((rd_T49 x10_2 x49_2).f0))).setCell ⟨gb173, 1, none⟩ (.int .i64 ((rd_T49 x10_2 x49_2).f1)))) := ⟨kS_ HB GE171 GE173⟩
    generalize ((w42.setCell ⟨gb173, 0, none⟩ (.int .i64 ((rd_T49 x10_2 x49_2).f0))).setCell ⟨gb173, 1, none⟩ (.int .i64 ((rd_T49 x10_2 x49_2).f1))) = w68 at n0_ n1_ n2_ n3_ n4_ ⊢
    have HO_10 := n0_
    have HO_11 := n1_
    have BK171 := n2_
    have BK173 := n3_
    have HB := n4_
    clear n0_ n1_ n2_ n3_ n4_
    replace HO_10 := Aside0.mk (Kd.R_drew HO_10.out)
    replace HO_11 := Aside0.mk (Kd.R_drew HO_11.out)
    replace BK171 := Aside0.mk (blk_drew BK171.out)
    replace BK173 := Aside0.mk (blk_drew BK173.out)
    replace HB := Aside0.mk (below_drew1 HB.out)
    rcases (Decidable.em (((rd_T48 l3 x49_2).f1) = 0)).symm with c53 | c53
    ·
     as_aux_lemma =>
     rw [if_neg c53] at H
     have c53b0 : (((rd_T48 l3 x49_2).f1) == 0) = false := beq_eq_false_iff_ne.mpr c53
     have c53b1 : (((rd_T48 l3 x49_2).f1) != 0) = true := bne_iff_ne.mpr c53
     simp only [Option.some.injEq, Prod.mk.injEq] at H
     obtain ⟨rfl, rfl⟩ := H
     refine start_ (n := 38) (S := fun w' => w'.cell? ⟨gb171, 0, none⟩ = some (.int .i8 ((rd_T48 l3 x49_2).f0)) ∧ w'.cell? ⟨gb171, 1, none⟩ = some (.int .i8 ((rd_T48 l3 x49_2).f1)) ∧ w'.cell? ⟨gb171, 2, none⟩ = some (.int .i8 ((rd_T48 l3 x49_2).f2)) ∧ w'.cell? ⟨gb171, 3, none⟩ = some (.int .i8 ((rd_T48 l3 x49_2).f3))) (ds := []) #[false, false, false, false, false, false, false, false, false, false, false, false, false, false, false, false, false, false, false, false, false, false, false, false, false, false, false, false, false, false, false, false, false, false, false, false, false, false] (by kernel_rfl) rfl rfl ⟨(blk_cell BK171.out 0).trans rfl, (blk_cell BK171.out 1).trans rfl, (blk_cell BK171.out 2).trans rfl, (blk_cell BK171.out 3).trans rfl⟩ (fun hHeld => ?_); refine with_tabW impl_sizes.tab18 impl_sizes.bits18 (fun HT_ HW_ => ?_)
     generalize w68.drew = w109 at HO_10 HO_11 BK171 BK173 HB hHeld ⊢
     refine pu_ 0 75 (lA 38 1) ?_ ?_ HT_ ?_
     refine tk_ 1 76 (lA 38 3) ?_ ?_ HT_ HW_ hHeld ?_
     refine pu_ 2 77 (lA 38 7) ?_ ?_ HT_ ?_
     refine pu_ 3 78 (lA 38 15) ?_ ?_ HT_ ?_
     refine pn_ 4 79 (lA 38 31) ?_ HT_ ?_
     refine pn_ 5 80 (lA 38 63) ?_ HT_ ?_
     refine pn_ 6 81 (lA 38 127) ?_ HT_ ?_
     refine pu_ 7 82 (lA 38 255) ?_ ?_ HT_ ?_
     refine pu_ 8 83 (lA 38 511) ?_ ?_ HT_ ?_
     refine pn_ 9 84 (lA 38 1023) ?_ HT_ ?_
     refine pn_ 10 85 (lA 38 2047) ?_ HT_ ?_
     refine pn_ 11 86 (lA 38 4095) ?_ HT_ ?_
     refine pn_ 12 87 (lA 38 8191) ?_ HT_ ?_
     refine pn_ 13 88 (lA 38 16383) ?_ HT_ ?_
     refine pn_ 14 89 (lA 38 32767) ?_ HT_ ?_
     refine pu_ 15 90 (lA 38 65535) ?_ ?_ HT_ ?_
     refine pu_ 16 91 (lA 38 131071) ?_ ?_ HT_ ?_
     refine pn_ 17 92 (lA 38 262143) ?_ HT_ ?_
     refine pn_ 18 93 (lA 38 524287) ?_ HT_ ?_
     refine pn_ 19 94 (lA 38 1048575) ?_ HT_ ?_
     refine pn_ 20 95 (lA 38 2097151) ?_ HT_ ?_
     refine pn_ 21 96 (lA 38 4194303) ?_ HT_ ?_
     refine pn_ 22 97 (lA 38 8388607) ?_ HT_ ?_
     refine pn_ 23 98 (lA 38 16777215) ?_ HT_ ?_
     refine pn_ 24 99 (lA 38 33554431) ?_ HT_ ?_
     refine pn_ 25 100 (lA 38 67108863) ?_ HT_ ?_
     refine pu_ 26 101 (lA 38 134217727) ?_ ?_ HT_ ?_
     refine pu_ 27 102 (lA 38 268435455) ?_ ?_ HT_ ?_
     refine pn_ 28 103 (lA 38 536870911) ?_ HT_ ?_
     refine pn_ 29 104 (lA 38 1073741823) ?_ HT_ ?_
     refine pn_ 30 105 (lA 38 2147483647) ?_ HT_ ?_
     refine pn_ 31 106 (lA 38 4294967295) ?_ HT_ ?_
     refine pn_ 32 107 (lA 38 8589934591) ?_ HT_ ?_
     refine pn_ 33 108 (lA 38 17179869183) ?_ HT_ ?_
     refine pn_ 34 109 (lA 38 34359738367) ?_ HT_ ?_
     refine pn_ 35 110 (lA 38 68719476735) ?_ HT_ ?_
     refine pn_ 36 111 (lA 38 137438953471) ?_ HT_ ?_
     refine pu_ 37 112 (lA 38 274877906943) ?_ ?_ HT_ ?_
     refine done_ (done_of HT_.out (by kernel_rfl)) ?_
     try go_wp2
     go_ret2
     exact ⟨_, by first | rfl | (simp [errW_none, errW_some] <;> rfl) | (simp [*, errW_none, errW_some] <;> rfl), by first | exact Kd.R_nil _ _ _ _ _ | exact Kd.N_nil _ _ _ _ _ | exact Kd.V_nil _ _ _ _ _ | exact Kd.Q_nil _ _ _ _ _ | exact Kd.S_nil _ _ _ _ _, kS_ HB GE171 GE173⟩
    as_aux_lemma =>
    rw [if_pos c53] at H
    have c53b0 : (((rd_T48 l3 x49_2).f1) == 0) = true := beq_iff_eq.mpr c53
    have c53b1 : (((rd_T48 l3 x49_2).f1) != 0) = false := bne_eq_false_iff_eq.mpr c53
    clear c53
    rcases (Decidable.em (((rd_T48 l3 x49_2).f3) = 0)).symm with c54 | c54
    ·
     rw [if_neg c54] at H
     have c54b0 : (((rd_T48 l3 x49_2).f3) == 0) = false := beq_eq_false_iff_ne.mpr c54
     have c54b1 : (((rd_T48 l3 x49_2).f3) != 0) = true := bne_iff_ne.mpr c54
     simp only [Option.some.injEq, Prod.mk.injEq] at H
     obtain ⟨rfl, rfl⟩ := H
     refine start_ (n := 38) (S := fun w' => w'.cell? ⟨gb171, 0, none⟩ = some (.int .i8 ((rd_T48 l3 x49_2).f0)) ∧ w'.cell? ⟨gb171, 1, none⟩ = some (.int .i8 ((rd_T48 l3 x49_2).f1)) ∧ w'.cell? ⟨gb171, 2, none⟩ = some (.int .i8 ((rd_T48 l3 x49_2).f2)) ∧ w'.cell? ⟨gb171, 3, none⟩ = some (.int .i8 ((rd_T48 l3 x49_2).f3))) (ds := []) #[false, false, false, false, false, false, false, false, false, false, false, false, false, false, false, false, false, false, false, false, false, false, false, false, false, false, false, false, false, false, false, false, false, false, false, false, false, false] (by kernel_rfl) rfl rfl ⟨(blk_cell BK171.out 0).trans rfl, (blk_cell BK171.out 1).trans rfl, (blk_cell BK171.out 2).trans rfl, (blk_cell BK171.out 3).trans rfl⟩ (fun hHeld => ?_); refine with_tabW impl_sizes.tab18 impl_sizes.bits18 (fun HT_ HW_ => ?_)
     generalize w68.drew = w101 at HO_10 HO_11 BK171 BK173 HB hHeld ⊢
     refine pu_ 0 75 (lA 38 1) ?_ ?_ HT_ ?_
     refine tk_ 1 76 (lA 38 3) ?_ ?_ HT_ HW_ hHeld ?_
     refine pu_ 2 77 (lA 38 7) ?_ ?_ HT_ ?_
     refine pu_ 3 78 (lA 38 15) ?_ ?_ HT_ ?_
     refine pu_ 4 79 (lA 38 31) ?_ ?_ HT_ ?_
     refine tk_ 5 80 (lA 38 63) ?_ ?_ HT_ HW_ hHeld ?_
     refine pu_ 6 81 (lA 38 127) ?_ ?_ HT_ ?_
     refine pu_ 7 82 (lA 38 255) ?_ ?_ HT_ ?_
     refine pu_ 8 83 (lA 38 511) ?_ ?_ HT_ ?_
     refine pn_ 9 84 (lA 38 1023) ?_ HT_ ?_
     refine pn_ 10 85 (lA 38 2047) ?_ HT_ ?_
     refine pn_ 11 86 (lA 38 4095) ?_ HT_ ?_
     refine pn_ 12 87 (lA 38 8191) ?_ HT_ ?_
     refine pn_ 13 88 (lA 38 16383) ?_ HT_ ?_
     refine pn_ 14 89 (lA 38 32767) ?_ HT_ ?_
     refine pu_ 15 90 (lA 38 65535) ?_ ?_ HT_ ?_
     refine pu_ 16 91 (lA 38 131071) ?_ ?_ HT_ ?_
     refine pn_ 17 92 (lA 38 262143) ?_ HT_ ?_
     refine pn_ 18 93 (lA 38 524287) ?_ HT_ ?_
     refine pn_ 19 94 (lA 38 1048575) ?_ HT_ ?_
     refine pn_ 20 95 (lA 38 2097151) ?_ HT_ ?_
     refine pn_ 21 96 (lA 38 4194303) ?_ HT_ ?_
     refine pn_ 22 97 (lA 38 8388607) ?_ HT_ ?_
     refine pn_ 23 98 (lA 38 16777215) ?_ HT_ ?_
     refine pn_ 24 99 (lA 38 33554431) ?_ HT_ ?_
     refine pn_ 25 100 (lA 38 67108863) ?_ HT_ ?_
     refine pu_ 26 101 (lA 38 134217727) ?_ ?_ HT_ ?_
     refine pu_ 27 102 (lA 38 268435455) ?_ ?_ HT_ ?_
     refine pn_ 28 103 (lA 38 536870911) ?_ HT_ ?_
     refine pn_ 29 104 (lA 38 1073741823) ?_ HT_ ?_
     refine pn_ 30 105 (lA 38 2147483647) ?_ HT_ ?_
     refine pn_ 31 106 (lA 38 4294967295) ?_ HT_ ?_
     refine pn_ 32 107 (lA 38 8589934591) ?_ HT_ ?_
     refine pn_ 33 108 (lA 38 17179869183) ?_ HT_ ?_
     refine pn_ 34 109 (lA 38 34359738367) ?_ HT_ ?_
     refine pn_ 35 110 (lA 38 68719476735) ?_ HT_ ?_
     refine pn_ 36 111 (lA 38 137438953471) ?_ HT_ ?_
     refine pu_ 37 112 (lA 38 274877906943) ?_ ?_ HT_ ?_
     refine done_ (done_of HT_.out (by kernel_rfl)) ?_
     try go_wp2
     go_ret2
     exact ⟨_, by first | rfl | (simp [errW_none, errW_some] <;> rfl) | (simp [*, errW_none, errW_some] <;> rfl), by first | exact Kd.R_nil _ _ _ _ _ | exact Kd.N_nil _ _ _ _ _ | exact Kd.V_nil _ _ _ _ _ | exact Kd.Q_nil _ _ _ _ _ | exact Kd.S_nil _ _ _ _ _, kS_ HB GE171 GE173⟩
    rw [if_pos c54] at H
    have c54b0 : (((rd_T48 l3 x49_2).f3) == 0) = true := beq_iff_eq.mpr c54
    have c54b1 : (((rd_T48 l3 x49_2).f3) != 0) = false := bne_eq_false_iff_eq.mpr c54
    clear c54
    obtain ⟨t175, A55, H⟩ := be_ H
    (try dsimp only at H)
    rcases (Decidable.em (t175 = true)).symm with c56 | c56
    ·
     replace c56 := Bool.eq_false_iff.mpr c56
     subst c56
     replace H := gf_ H
     simp only [Option.some.injEq, Prod.mk.injEq] at H
     obtain ⟨rfl, rfl⟩ := H
     refine start_ (n := 38) (S := fun w' => w'.cell? ⟨gb171, 0, none⟩ = some (.int .i8 ((rd_T48 l3 x49_2).f0)) ∧ w'.cell? ⟨gb171, 1, none⟩ = some (.int .i8 ((rd_T48 l3 x49_2).f1)) ∧ w'.cell? ⟨gb171, 2, none⟩ = some (.int .i8 ((rd_T48 l3 x49_2).f2)) ∧ w'.cell? ⟨gb171, 3, none⟩ = some (.int .i8 ((rd_T48 l3 x49_2).f3))) (ds := []) #[false, false, false, false, false, false, false, false, false, false, false, false, false, false, false, false, false, false, false, false, false, false, false, false, false, false, false, false, false, false, false, false, false, false, false, false, false, false] (by kernel_rfl) rfl rfl ⟨(blk_cell BK171.out 0).trans rfl, (blk_cell BK171.out 1).trans rfl, (blk_cell BK171.out 2).trans rfl, (blk_cell BK171.out 3).trans rfl⟩ (fun hHeld => ?_); refine with_tabW impl_sizes.tab18 impl_sizes.bits18 (fun HT_ HW_ => ?_)
     generalize w68.drew = w93 at HO_10 HO_11 BK171 BK173 HB hHeld ⊢
     refine pu_ 0 75 (lA 38 1) ?_ ?_ HT_ ?_
     refine tk_ 1 76 (lA 38 3) ?_ ?_ HT_ HW_ hHeld ?_
     refine pu_ 2 77 (lA 38 7) ?_ ?_ HT_ ?_
     refine pu_ 3 78 (lA 38 15) ?_ ?_ HT_ ?_
     refine pu_ 4 79 (lA 38 31) ?_ ?_ HT_ ?_
     refine tk_ 5 80 (lA 38 63) ?_ ?_ HT_ HW_ hHeld ?_
     refine pu_ 6 81 (lA 38 127) ?_ ?_ HT_ ?_
     refine pu_ 7 82 (lA 38 255) ?_ ?_ HT_ ?_
     refine pu_ 8 83 (lA 38 511) ?_ ?_ HT_ ?_
     refine pu_ 9 84 (lA 38 1023) ?_ ?_ HT_ ?_
     refine pu_ 10 85 (lA 38 2047) ?_ ?_ HT_ ?_
     refine pu_ 11 86 (lA 38 4095) ?_ ?_ HT_ ?_
     refine pu_ 12 87 (lA 38 8191) ?_ ?_ HT_ ?_
     refine one_ (i := 13) (N := some 88) (lA 38 16383) rfl rfl (one_of HT_.out (by kernel_rfl)) (by decide) (fun K hK => ?_)
     refine goes_ Try.func32 (by kernel_rfl) rfl #[.int .i64 (wrap64 ((rd_T48 l3 x49_2).f2)), .int .i64 0, .int .i64 (wrap64 ((l2.length : Int) - 1))] (by rfl) rfl rfl (by (try simp only [List.map_toArray, List.map_cons, List.map_nil]); first | done | rfl | (simp only [List.length_drop, List.length_take]; rfl)) ?_
     with_reducible refine (impl_within.calls (wrap64 ((rd_T48 l3 x49_2).f2)) 0 (wrap64 ((l2.length : Int) - 1)) false _ A55.out).mono ?_
     rintro e w' ⟨rfl, ⟨nd, rfl⟩⟩
     refine ⟨_, rfl, ?_⟩
     refine hK.out _ _ ⟨(blk_cell BK171.out 0).trans rfl, (blk_cell BK171.out 1).trans rfl, (blk_cell BK171.out 2).trans rfl, (blk_cell BK171.out 3).trans rfl⟩ (fun hHeld => ?_)
     clear hK K
     refine norm_ (a' := ?_) ?_ ?_
     rotate_left
     ·
      show Act.put _ (some 88) _ = _
      simp only [Act.put, List.setIfInBounds_toArray, List.set_cons_zero, List.set_cons_succ, i64_w, i32_w]
      rfl
     refine pu_ 14 89 (lA 38 32767) ?_ ?_ HT_ ?_
     refine pu_ 15 90 (lA 38 65535) ?_ ?_ HT_ ?_
     refine pu_ 16 91 (lA 38 131071) ?_ ?_ HT_ ?_
     refine pn_ 17 92 (lA 38 262143) ?_ HT_ ?_
     refine pn_ 18 93 (lA 38 524287) ?_ HT_ ?_
     refine pn_ 19 94 (lA 38 1048575) ?_ HT_ ?_
     refine pn_ 20 95 (lA 38 2097151) ?_ HT_ ?_
     refine pn_ 21 96 (lA 38 4194303) ?_ HT_ ?_
     refine pn_ 22 97 (lA 38 8388607) ?_ HT_ ?_
     refine pn_ 23 98 (lA 38 16777215) ?_ HT_ ?_
     refine pn_ 24 99 (lA 38 33554431) ?_ HT_ ?_
     refine pn_ 25 100 (lA 38 67108863) ?_ HT_ ?_
     refine pu_ 26 101 (lA 38 134217727) ?_ ?_ HT_ ?_
     refine pu_ 27 102 (lA 38 268435455) ?_ ?_ HT_ ?_
     refine pn_ 28 103 (lA 38 536870911) ?_ HT_ ?_
     refine pn_ 29 104 (lA 38 1073741823) ?_ HT_ ?_
     refine pn_ 30 105 (lA 38 2147483647) ?_ HT_ ?_
     refine pn_ 31 106 (lA 38 4294967295) ?_ HT_ ?_
     refine pn_ 32 107 (lA 38 8589934591) ?_ HT_ ?_
     refine pn_ 33 108 (lA 38 17179869183) ?_ HT_ ?_
     refine pn_ 34 109 (lA 38 34359738367) ?_ HT_ ?_
     refine pn_ 35 110 (lA 38 68719476735) ?_ HT_ ?_
     refine pn_ 36 111 (lA 38 137438953471) ?_ HT_ ?_
     refine pu_ 37 112 (lA 38 274877906943) ?_ ?_ HT_ ?_
     refine done_ (done_of HT_.out (by kernel_rfl)) ?_
     try go_wp2
     go_ret2
     exact ⟨_, by first | rfl | (simp [errW_none, errW_some] <;> rfl) | (simp [*, errW_none, errW_some] <;> rfl), by first | exact Kd.R_nil _ _ _ _ _ | exact Kd.N_nil _ _ _ _ _ | exact Kd.V_nil _ _ _ _ _ | exact Kd.Q_nil _ _ _ _ _ | exact Kd.S_nil _ _ _ _ _, kS_ HB GE171 GE173⟩
    subst c56
    replace H := gt_ H
    obtain ⟨ji57, hji57⟩ : ∃ j_ : Int, (wrap64 ((rd_T48 l3 x49_2).f2)) = j_ := ⟨_, rfl⟩
    replace H : (if 0 ≤ (ji57) then (if (ji57) < (l2.length : Int) then (if (wrap64 ((rd_T46 l2 (ji57)).f0)) = ((rd_T49 x10_2 x49_2).f0) then (if (wrap64 ((rd_T46 l2 (ji57)).f1)) = ((rd_T49 x10_2 x49_2).f1) then (impl_sizes.l0 k2 l2 l3 x10_2 x11_2 l3 (l3.length : Int) (wrap64 (x49_2 + 1))) else (some (([] : List (S49)), false))) else (some (([] : List (S49)), false))) else (none)) else (none)) = some (r1, r2) := by first | (rw [hji57] at H; exact H) | (simp only [hji57] at H ⊢; exact H)
    (try rw [hji57] at A55)
    have hji57w : (IntKind.i64.wrap ((rd_T48 l3 x49_2).f2)) = ji57 := (i64_w _).trans hji57
    by_cases c58 : 0 ≤ (ji57)
    rotate_left
    ·
     rw [if_neg c58] at H
     exact absurd H (by simp)
    rw [if_pos c58] at H
    have c58b0 : decide (0 ≤ (ji57)) = true := decide_eq_true c58
    clear c58
    by_cases c59 : (ji57) < (l2.length : Int)
    rotate_left
    ·
     rw [if_neg c59] at H
     exact absurd H (by simp)
    rw [if_pos c59] at H
    have c59b0 : decide ((ji57) < (l2.length : Int)) = true := decide_eq_true c59
    clear c59
    rcases (Decidable.em ((wrap64 ((rd_T46 l2 (ji57)).f0)) = ((rd_T49 x10_2 x49_2).f0))).symm with c60 | c60
    ·
     rw [if_neg c60] at H
     have c60b0 : ((wrap64 ((rd_T46 l2 (ji57)).f0)) == ((rd_T49 x10_2 x49_2).f0)) = false := beq_eq_false_iff_ne.mpr c60
     have c60b1 : ((wrap64 ((rd_T46 l2 (ji57)).f0)) != ((rd_T49 x10_2 x49_2).f0)) = true := bne_iff_ne.mpr c60
     simp only [Option.some.injEq, Prod.mk.injEq] at H
     obtain ⟨rfl, rfl⟩ := H
     have p176 : 0 ≤ ((ji57) : Int) := od_
     have q176 : (ji57) < (l2.length : Int) := od_
     obtain ⟨ad176, e176, hx176_0, hx176_1, hx176_2⟩ := at_T46 HR2.out (ji57) p176 q176
     have hw176_2 := hx176_2
     have hw176_1 := hx176_1
     have hw176_0 := hx176_0
     cases e176
     replace hx176_0 := (hw_ HB hx176_0 :)
     replace hx176_1 := (hw_ HB hx176_1 :)
     replace hx176_2 := (hw_ HB hx176_2 :)
     replace p176 := eq_true p176
     replace q176 := eq_true q176
     refine start_ (n := 38) (S := fun w' => w'.cell? ⟨gb171, 0, none⟩ = some (.int .i8 ((rd_T48 l3 x49_2).f0)) ∧ w'.cell? ⟨gb171, 1, none⟩ = some (.int .i8 ((rd_T48 l3 x49_2).f1)) ∧ w'.cell? ⟨gb171, 2, none⟩ = some (.int .i8 ((rd_T48 l3 x49_2).f2)) ∧ w'.cell? ⟨gb171, 3, none⟩ = some (.int .i8 ((rd_T48 l3 x49_2).f3)) ∧ w'.cell? ⟨gb173, 0, none⟩ = some (.int .i64 ((rd_T49 x10_2 x49_2).f0)) ∧ w'.cell? ⟨gb173, 1, none⟩ = some (.int .i64 ((rd_T49 x10_2 x49_2).f1)) ∧ w'.cell? (ad176.add (((ji57)).toNat * 3)) = some (.int .i8 ((rd_T46 l2 (ji57)).f0)) ∧ w'.cell? ⟨(ad176.add (((ji57)).toNat * 3)).block, (ad176.add (((ji57)).toNat * 3)).off + 1, none⟩ = some (.int .i8 ((rd_T46 l2 (ji57)).f1)) ∧ w'.cell? ⟨(ad176.add (((ji57)).toNat * 3)).block, (ad176.add (((ji57)).toNat * 3)).off + 2, none⟩ = some (.int .i16 ((rd_T46 l2 (ji57)).f2))) (ds := []) #[false, false, false, false, false, false, false, false, false, false, false, false, false, false, false, false, false, false, false, false, false, false, false, false, false, false, false, false, false, false, false, false, false, false, false, false, false, false] (by kernel_rfl) rfl rfl ⟨(blk_cell BK171.out 0).trans rfl, (blk_cell BK171.out 1).trans rfl, (blk_cell BK171.out 2).trans rfl, (blk_cell BK171.out 3).trans rfl, (blk_cell BK173.out 0).trans rfl, (blk_cell BK173.out 1).trans rfl, ((hw_ HB hw176_0 :)), ((hw_ HB hw176_1 :)), ((hw_ HB hw176_2 :))⟩ (fun hHeld => ?_); refine with_tabW impl_sizes.tab18 impl_sizes.bits18 (fun HT_ HW_ => ?_)
     generalize w68.drew = w85 at HO_10 HO_11 BK171 BK173 HB hx176_0 hx176_1 hx176_2 hHeld ⊢
     refine pu_ 0 75 (lA 38 1) ?_ ?_ HT_ ?_
     refine tk_ 1 76 (lA 38 3) ?_ ?_ HT_ HW_ hHeld ?_
     refine pu_ 2 77 (lA 38 7) ?_ ?_ HT_ ?_
     refine pu_ 3 78 (lA 38 15) ?_ ?_ HT_ ?_
     refine pu_ 4 79 (lA 38 31) ?_ ?_ HT_ ?_
     refine tk_ 5 80 (lA 38 63) ?_ ?_ HT_ HW_ hHeld ?_
     refine pu_ 6 81 (lA 38 127) ?_ ?_ HT_ ?_
     refine pu_ 7 82 (lA 38 255) ?_ ?_ HT_ ?_
     refine pu_ 8 83 (lA 38 511) ?_ ?_ HT_ ?_
     refine pu_ 9 84 (lA 38 1023) ?_ ?_ HT_ ?_
     refine pu_ 10 85 (lA 38 2047) ?_ ?_ HT_ ?_
     refine pu_ 11 86 (lA 38 4095) ?_ ?_ HT_ ?_
     refine pu_ 12 87 (lA 38 8191) ?_ ?_ HT_ ?_
     refine one_ (i := 13) (N := some 88) (lA 38 16383) rfl rfl (one_of HT_.out (by kernel_rfl)) (by decide) (fun K hK => ?_)
     refine goes_ Try.func32 (by kernel_rfl) rfl #[.int .i64 ji57, .int .i64 0, .int .i64 (wrap64 ((l2.length : Int) - 1))] (by rfl) rfl rfl (by (try simp only [List.map_toArray, List.map_cons, List.map_nil]); first | done | (simp only [hji57]; rfl) | rfl | (simp only [List.length_drop, List.length_take]; rfl)) ?_
     with_reducible refine (impl_within.calls ji57 0 (wrap64 ((l2.length : Int) - 1)) true _ A55.out).mono ?_
     rintro e w' ⟨rfl, ⟨nd, rfl⟩⟩
     refine ⟨_, rfl, ?_⟩
     refine hK.out _ _ ⟨(blk_cell BK171.out 0).trans rfl, (blk_cell BK171.out 1).trans rfl, (blk_cell BK171.out 2).trans rfl, (blk_cell BK171.out 3).trans rfl, (blk_cell BK173.out 0).trans rfl, (blk_cell BK173.out 1).trans rfl, ((hw_ HB hw176_0 :)), ((hw_ HB hw176_1 :)), ((hw_ HB hw176_2 :))⟩ (fun hHeld => ?_)
     clear hK K
     refine norm_ (a' := ?_) ?_ ?_
     rotate_left
     ·
      show Act.put _ (some 88) _ = _
      simp only [Act.put, List.setIfInBounds_toArray, List.set_cons_zero, List.set_cons_succ, i64_w, i32_w]
      rfl
     refine pu_ 14 89 (lA 38 32767) ?_ ?_ HT_ ?_
     refine pu_ 15 90 (lA 38 65535) ?_ ?_ HT_ ?_
     refine pu_ 16 91 (lA 38 131071) ?_ ?_ HT_ ?_
     refine pu_ 17 92 (lA 38 262143) ?_ ?_ HT_ ?_
     refine pu_ 18 93 (lA 38 524287) ?_ ?_ HT_ ?_
     refine pu_ 19 94 (lA 38 1048575) ?_ ?_ HT_ ?_
     refine pu_ 20 95 (lA 38 2097151) ?_ ?_ HT_ ?_
     refine pu_ 23 98 (lA 38 10485759) ?_ ?_ HT_ ?_
     refine tk_ 21 96 (lA 38 12582911) ?_ ?_ HT_ HW_ hHeld ?_
     refine pu_ 22 97 (lA 38 16777215) ?_ ?_ HT_ ?_
     refine tk_ 24 99 (lA 38 33554431) ?_ ?_ HT_ HW_ hHeld ?_
     refine pu_ 25 100 (lA 38 67108863) ?_ ?_ HT_ ?_
     refine pu_ 26 101 (lA 38 134217727) ?_ ?_ HT_ ?_
     refine pu_ 27 102 (lA 38 268435455) ?_ ?_ HT_ ?_
     refine pn_ 28 103 (lA 38 536870911) ?_ HT_ ?_
     refine pn_ 29 104 (lA 38 1073741823) ?_ HT_ ?_
     refine pn_ 30 105 (lA 38 2147483647) ?_ HT_ ?_
     refine pn_ 31 106 (lA 38 4294967295) ?_ HT_ ?_
     refine pn_ 32 107 (lA 38 8589934591) ?_ HT_ ?_
     refine pn_ 33 108 (lA 38 17179869183) ?_ HT_ ?_
     refine pn_ 34 109 (lA 38 34359738367) ?_ HT_ ?_
     refine pn_ 35 110 (lA 38 68719476735) ?_ HT_ ?_
     refine pn_ 36 111 (lA 38 137438953471) ?_ HT_ ?_
     refine pu_ 37 112 (lA 38 274877906943) ?_ ?_ HT_ ?_
     refine done_ (done_of HT_.out (by kernel_rfl)) ?_
     try go_wp2
     go_ret2
     exact ⟨_, by first | rfl | (simp [errW_none, errW_some] <;> rfl) | (simp only [← hji57]; first | rfl | (simp [errW_none, errW_some] <;> rfl)) | (simp [*, errW_none, errW_some] <;> rfl), by first | exact Kd.R_nil _ _ _ _ _ | exact Kd.N_nil _ _ _ _ _ | exact Kd.V_nil _ _ _ _ _ | exact Kd.Q_nil _ _ _ _ _ | exact Kd.S_nil _ _ _ _ _, kS_ HB GE171 GE173⟩
    rw [if_pos c60] at H
    have c60b0 : ((wrap64 ((rd_T46 l2 (ji57)).f0)) == ((rd_T49 x10_2 x49_2).f0)) = true := beq_iff_eq.mpr c60
    have c60b1 : ((wrap64 ((rd_T46 l2 (ji57)).f0)) != ((rd_T49 x10_2 x49_2).f0)) = false := bne_eq_false_iff_eq.mpr c60
    clear c60
    rcases (Decidable.em ((wrap64 ((rd_T46 l2 (ji57)).f1)) = ((rd_T49 x10_2 x49_2).f1))).symm with c61 | c61
    ·
     rw [if_neg c61] at H
     have c61b0 : ((wrap64 ((rd_T46 l2 (ji57)).f1)) == ((rd_T49 x10_2 x49_2).f1)) = false := beq_eq_false_iff_ne.mpr c61
     have c61b1 : ((wrap64 ((rd_T46 l2 (ji57)).f1)) != ((rd_T49 x10_2 x49_2).f1)) = true := bne_iff_ne.mpr c61
     simp only [Option.some.injEq, Prod.mk.injEq] at H
     obtain ⟨rfl, rfl⟩ := H
     have p176 : 0 ≤ ((ji57) : Int) := od_
     have q176 : (ji57) < (l2.length : Int) := od_
     obtain ⟨ad176, e176, hx176_0, hx176_1, hx176_2⟩ := at_T46 HR2.out (ji57) p176 q176
     have hw176_2 := hx176_2
     have hw176_1 := hx176_1
     have hw176_0 := hx176_0
     cases e176
     replace hx176_0 := (hw_ HB hx176_0 :)
     replace hx176_1 := (hw_ HB hx176_1 :)
     replace hx176_2 := (hw_ HB hx176_2 :)
     replace p176 := eq_true p176
     replace q176 := eq_true q176
     have p177 : 0 ≤ ((ji57) : Int) := od_
     have q177 : (ji57) < (l2.length : Int) := od_
     obtain ⟨ad177, e177, hx177_0, hx177_1, hx177_2⟩ := at_T46 HR2.out (ji57) p177 q177
     have hw177_2 := hx177_2
     have hw177_1 := hx177_1
     have hw177_0 := hx177_0
     obtain rfl : ad176 = ad177 := (by injection e177)
     replace hx177_0 := (hw_ HB hx177_0 :)
     replace hx177_1 := (hw_ HB hx177_1 :)
     replace hx177_2 := (hw_ HB hx177_2 :)
     replace p177 := eq_true p177
     replace q177 := eq_true q177
     refine start_ (n := 38) (S := fun w' => w'.cell? ⟨gb171, 0, none⟩ = some (.int .i8 ((rd_T48 l3 x49_2).f0)) ∧ w'.cell? ⟨gb171, 1, none⟩ = some (.int .i8 ((rd_T48 l3 x49_2).f1)) ∧ w'.cell? ⟨gb171, 2, none⟩ = some (.int .i8 ((rd_T48 l3 x49_2).f2)) ∧ w'.cell? ⟨gb171, 3, none⟩ = some (.int .i8 ((rd_T48 l3 x49_2).f3)) ∧ w'.cell? ⟨gb173, 0, none⟩ = some (.int .i64 ((rd_T49 x10_2 x49_2).f0)) ∧ w'.cell? ⟨gb173, 1, none⟩ = some (.int .i64 ((rd_T49 x10_2 x49_2).f1)) ∧ w'.cell? (ad176.add (((ji57)).toNat * 3)) = some (.int .i8 ((rd_T46 l2 (ji57)).f0)) ∧ w'.cell? ⟨(ad176.add (((ji57)).toNat * 3)).block, (ad176.add (((ji57)).toNat * 3)).off + 1, none⟩ = some (.int .i8 ((rd_T46 l2 (ji57)).f1)) ∧ w'.cell? ⟨(ad176.add (((ji57)).toNat * 3)).block, (ad176.add (((ji57)).toNat * 3)).off + 2, none⟩ = some (.int .i16 ((rd_T46 l2 (ji57)).f2)) ∧ w'.cell? (ad176.add (((ji57)).toNat * 3)) = some (.int .i8 ((rd_T46 l2 (ji57)).f0)) ∧ w'.cell? ⟨(ad176.add (((ji57)).toNat * 3)).block, (ad176.add (((ji57)).toNat * 3)).off + 1, none⟩ = some (.int .i8 ((rd_T46 l2 (ji57)).f1)) ∧ w'.cell? ⟨(ad176.add (((ji57)).toNat * 3)).block, (ad176.add (((ji57)).toNat * 3)).off + 2, none⟩ = some (.int .i16 ((rd_T46 l2 (ji57)).f2))) (ds := []) #[false, false, false, false, false, false, false, false, false, false, false, false, false, false, false, false, false, false, false, false, false, false, false, false, false, false, false, false, false, false, false, false, false, false, false, false, false, false] (by kernel_rfl) rfl rfl ⟨(blk_cell BK171.out 0).trans rfl, (blk_cell BK171.out 1).trans rfl, (blk_cell BK171.out 2).trans rfl, (blk_cell BK171.out 3).trans rfl, (blk_cell BK173.out 0).trans rfl, (blk_cell BK173.out 1).trans rfl, ((hw_ HB hw176_0 :)), ((hw_ HB hw176_1 :)), ((hw_ HB hw176_2 :)), ((hw_ HB hw177_0 :)), ((hw_ HB hw177_1 :)), ((hw_ HB hw177_2 :))⟩ (fun hHeld => ?_); refine with_tabW impl_sizes.tab18 impl_sizes.bits18 (fun HT_ HW_ => ?_)
     generalize w68.drew = w77 at HO_10 HO_11 BK171 BK173 HB hx176_0 hx176_1 hx176_2 hx177_0 hx177_1 hx177_2 hHeld ⊢
     refine pu_ 0 75 (lA 38 1) ?_ ?_ HT_ ?_
     refine tk_ 1 76 (lA 38 3) ?_ ?_ HT_ HW_ hHeld ?_
     refine pu_ 2 77 (lA 38 7) ?_ ?_ HT_ ?_
     refine pu_ 3 78 (lA 38 15) ?_ ?_ HT_ ?_
     refine pu_ 4 79 (lA 38 31) ?_ ?_ HT_ ?_
     refine tk_ 5 80 (lA 38 63) ?_ ?_ HT_ HW_ hHeld ?_
     refine pu_ 6 81 (lA 38 127) ?_ ?_ HT_ ?_
     refine pu_ 7 82 (lA 38 255) ?_ ?_ HT_ ?_
     refine pu_ 8 83 (lA 38 511) ?_ ?_ HT_ ?_
     refine pu_ 9 84 (lA 38 1023) ?_ ?_ HT_ ?_
     refine pu_ 10 85 (lA 38 2047) ?_ ?_ HT_ ?_
     refine pu_ 11 86 (lA 38 4095) ?_ ?_ HT_ ?_
     refine pu_ 12 87 (lA 38 8191) ?_ ?_ HT_ ?_
     refine one_ (i := 13) (N := some 88) (lA 38 16383) rfl rfl (one_of HT_.out (by kernel_rfl)) (by decide) (fun K hK => ?_)
     refine goes_ Try.func32 (by kernel_rfl) rfl #[.int .i64 ji57, .int .i64 0, .int .i64 (wrap64 ((l2.length : Int) - 1))] (by rfl) rfl rfl (by (try simp only [List.map_toArray, List.map_cons, List.map_nil]); first | done | (simp only [hji57]; rfl) | rfl | (simp only [List.length_drop, List.length_take]; rfl)) ?_
     with_reducible refine (impl_within.calls ji57 0 (wrap64 ((l2.length : Int) - 1)) true _ A55.out).mono ?_
     rintro e w' ⟨rfl, ⟨nd, rfl⟩⟩
     refine ⟨_, rfl, ?_⟩
     refine hK.out _ _ ⟨(blk_cell BK171.out 0).trans rfl, (blk_cell BK171.out 1).trans rfl, (blk_cell BK171.out 2).trans rfl, (blk_cell BK171.out 3).trans rfl, (blk_cell BK173.out 0).trans rfl, (blk_cell BK173.out 1).trans rfl, ((hw_ HB hw176_0 :)), ((hw_ HB hw176_1 :)), ((hw_ HB hw176_2 :)), ((hw_ HB hw177_0 :)), ((hw_ HB hw177_1 :)), ((hw_ HB hw177_2 :))⟩ (fun hHeld => ?_)
     clear hK K
     refine norm_ (a' := ?_) ?_ ?_
     rotate_left
     ·
      show Act.put _ (some 88) _ = _
      simp only [Act.put, List.setIfInBounds_toArray, List.set_cons_zero, List.set_cons_succ, i64_w, i32_w]
      rfl
     refine pu_ 14 89 (lA 38 32767) ?_ ?_ HT_ ?_
     refine pu_ 15 90 (lA 38 65535) ?_ ?_ HT_ ?_
     refine pu_ 16 91 (lA 38 131071) ?_ ?_ HT_ ?_
     refine pu_ 17 92 (lA 38 262143) ?_ ?_ HT_ ?_
     refine pu_ 18 93 (lA 38 524287) ?_ ?_ HT_ ?_
     refine pu_ 19 94 (lA 38 1048575) ?_ ?_ HT_ ?_
     refine pu_ 20 95 (lA 38 2097151) ?_ ?_ HT_ ?_
     refine pu_ 23 98 (lA 38 10485759) ?_ ?_ HT_ ?_
     refine tk_ 21 96 (lA 38 12582911) ?_ ?_ HT_ HW_ hHeld ?_
     refine pu_ 22 97 (lA 38 16777215) ?_ ?_ HT_ ?_
     refine tk_ 24 99 (lA 38 33554431) ?_ ?_ HT_ HW_ hHeld ?_
     refine pu_ 25 100 (lA 38 67108863) ?_ ?_ HT_ ?_
     refine pu_ 26 101 (lA 38 134217727) ?_ ?_ HT_ ?_
     refine pu_ 27 102 (lA 38 268435455) ?_ ?_ HT_ ?_
     refine pu_ 28 103 (lA 38 536870911) ?_ ?_ HT_ ?_
     refine pu_ 29 104 (lA 38 1073741823) ?_ ?_ HT_ ?_
     refine pu_ 30 105 (lA 38 2147483647) ?_ ?_ HT_ ?_
     refine pu_ 31 106 (lA 38 4294967295) ?_ ?_ HT_ ?_
     refine pu_ 34 109 (lA 38 21474836479) ?_ ?_ HT_ ?_
     refine tk_ 32 107 (lA 38 25769803775) ?_ ?_ HT_ HW_ hHeld ?_
     refine pu_ 33 108 (lA 38 34359738367) ?_ ?_ HT_ ?_
     refine tk_ 35 110 (lA 38 68719476735) ?_ ?_ HT_ HW_ hHeld ?_
     refine pu_ 36 111 (lA 38 137438953471) ?_ ?_ HT_ ?_
     refine pu_ 37 112 (lA 38 274877906943) ?_ ?_ HT_ ?_
     refine done_ (done_of HT_.out (by kernel_rfl)) ?_
     try go_wp2
     go_ret2
     exact ⟨_, by first | rfl | (simp [errW_none, errW_some] <;> rfl) | (simp only [← hji57]; first | rfl | (simp [errW_none, errW_some] <;> rfl)) | (simp [*, errW_none, errW_some] <;> rfl), by first | exact Kd.R_nil _ _ _ _ _ | exact Kd.N_nil _ _ _ _ _ | exact Kd.V_nil _ _ _ _ _ | exact Kd.Q_nil _ _ _ _ _ | exact Kd.S_nil _ _ _ _ _, kS_ HB GE171 GE173⟩
    rw [if_pos c61] at H
    have c61b0 : ((wrap64 ((rd_T46 l2 (ji57)).f1)) == ((rd_T49 x10_2 x49_2).f1)) = true := beq_iff_eq.mpr c61
    have c61b1 : ((wrap64 ((rd_T46 l2 (ji57)).f1)) != ((rd_T49 x10_2 x49_2).f1)) = false := bne_eq_false_iff_eq.mpr c61
    clear c61
    have H' := Aside0.mk H
    clear H
    have p176 : 0 ≤ ((ji57) : Int) := od_
    have q176 : (ji57) < (l2.length : Int) := od_
    obtain ⟨ad176, e176, hx176_0, hx176_1, hx176_2⟩ := at_T46 HR2.out (ji57) p176 q176
    have hw176_2 := hx176_2
    have hw176_1 := hx176_1
    have hw176_0 := hx176_0
    cases e176
    replace hx176_0 := (hw_ HB hx176_0 :)
    replace hx176_1 := (hw_ HB hx176_1 :)
    replace hx176_2 := (hw_ HB hx176_2 :)
    replace p176 := eq_true p176
    replace q176 := eq_true q176
    have p177 : 0 ≤ ((ji57) : Int) := od_
    have q177 : (ji57) < (l2.length : Int) := od_
    obtain ⟨ad177, e177, hx177_0, hx177_1, hx177_2⟩ := at_T46 HR2.out (ji57) p177 q177
    have hw177_2 := hx177_2
    have hw177_1 := hx177_1
    have hw177_0 := hx177_0
    obtain rfl : ad176 = ad177 := (by injection e177)
    replace hx177_0 := (hw_ HB hx177_0 :)
    replace hx177_1 := (hw_ HB hx177_1 :)
    replace hx177_2 := (hw_ HB hx177_2 :)
    replace p177 := eq_true p177
    replace q177 := eq_true q177
    refine start_ (n := 38) (S := fun w' => w'.cell? ⟨gb171, 0, none⟩ = some (.int .i8 ((rd_T48 l3 x49_2).f0)) ∧ w'.cell? ⟨gb171, 1, none⟩ = some (.int .i8 ((rd_T48 l3 x49_2).f1)) ∧ w'.cell? ⟨gb171, 2, none⟩ = some (.int .i8 ((rd_T48 l3 x49_2).f2)) ∧ w'.cell? ⟨gb171, 3, none⟩ = some (.int .i8 ((rd_T48 l3 x49_2).f3)) ∧ w'.cell? ⟨gb173, 0, none⟩ = some (.int .i64 ((rd_T49 x10_2 x49_2).f0)) ∧ w'.cell? ⟨gb173, 1, none⟩ = some (.int .i64 ((rd_T49 x10_2 x49_2).f1)) ∧ w'.cell? (ad176.add (((ji57)).toNat * 3)) = some (.int .i8 ((rd_T46 l2 (ji57)).f0)) ∧ w'.cell? ⟨(ad176.add (((ji57)).toNat * 3)).block, (ad176.add (((ji57)).toNat * 3)).off + 1, none⟩ = some (.int .i8 ((rd_T46 l2 (ji57)).f1)) ∧ w'.cell? ⟨(ad176.add (((ji57)).toNat * 3)).block, (ad176.add (((ji57)).toNat * 3)).off + 2, none⟩ = some (.int .i16 ((rd_T46 l2 (ji57)).f2)) ∧ w'.cell? (ad176.add (((ji57)).toNat * 3)) = some (.int .i8 ((rd_T46 l2 (ji57)).f0)) ∧ w'.cell? ⟨(ad176.add (((ji57)).toNat * 3)).block, (ad176.add (((ji57)).toNat * 3)).off + 1, none⟩ = some (.int .i8 ((rd_T46 l2 (ji57)).f1)) ∧ w'.cell? ⟨(ad176.add (((ji57)).toNat * 3)).block, (ad176.add (((ji57)).toNat * 3)).off + 2, none⟩ = some (.int .i16 ((rd_T46 l2 (ji57)).f2))) (ds := []) #[false, false, false, false, false, false, false, false, false, false, false, false, false, false, false, false, false, false, false, false, false, false, false, false, false, false, false, false, false, false, false, false, false, false, false, false, false, false] (by kernel_rfl) rfl rfl ⟨(blk_cell BK171.out 0).trans rfl, (blk_cell BK171.out 1).trans rfl, (blk_cell BK171.out 2).trans rfl, (blk_cell BK171.out 3).trans rfl, (blk_cell BK173.out 0).trans rfl, (blk_cell BK173.out 1).trans rfl, ((hw_ HB hw176_0 :)), ((hw_ HB hw176_1 :)), ((hw_ HB hw176_2 :)), ((hw_ HB hw177_0 :)), ((hw_ HB hw177_1 :)), ((hw_ HB hw177_2 :))⟩ (fun hHeld => ?_); refine with_tabW impl_sizes.tab18 impl_sizes.bits18 (fun HT_ HW_ => ?_)
    generalize w68.drew = w69 at HO_10 HO_11 BK171 BK173 HB hx176_0 hx176_1 hx176_2 hx177_0 hx177_1 hx177_2 hHeld ⊢
    refine pu_ 0 75 (lA 38 1) ?_ ?_ HT_ ?_
    refine tk_ 1 76 (lA 38 3) ?_ ?_ HT_ HW_ hHeld ?_
    refine pu_ 2 77 (lA 38 7) ?_ ?_ HT_ ?_
    refine pu_ 3 78 (lA 38 15) ?_ ?_ HT_ ?_
    refine pu_ 4 79 (lA 38 31) ?_ ?_ HT_ ?_
    refine tk_ 5 80 (lA 38 63) ?_ ?_ HT_ HW_ hHeld ?_
    refine pu_ 6 81 (lA 38 127) ?_ ?_ HT_ ?_
    refine pu_ 7 82 (lA 38 255) ?_ ?_ HT_ ?_
    refine pu_ 8 83 (lA 38 511) ?_ ?_ HT_ ?_
    refine pu_ 9 84 (lA 38 1023) ?_ ?_ HT_ ?_
    refine pu_ 10 85 (lA 38 2047) ?_ ?_ HT_ ?_
    refine pu_ 11 86 (lA 38 4095) ?_ ?_ HT_ ?_
    refine pu_ 12 87 (lA 38 8191) ?_ ?_ HT_ ?_
    refine one_ (i := 13) (N := some 88) (lA 38 16383) rfl rfl (one_of HT_.out (by kernel_rfl)) (by decide) (fun K hK => ?_)
    refine goes_ Try.func32 (by kernel_rfl) rfl #[.int .i64 ji57, .int .i64 0, .int .i64 (wrap64 ((l2.length : Int) - 1))] (by rfl) rfl rfl (by (try simp only [List.map_toArray, List.map_cons, List.map_nil]); first | done | (simp only [hji57]; rfl) | rfl | (simp only [List.length_drop, List.length_take]; rfl)) ?_
    with_reducible refine (impl_within.calls ji57 0 (wrap64 ((l2.length : Int) - 1)) true _ A55.out).mono ?_
    rintro e w' ⟨rfl, ⟨nd, rfl⟩⟩
    refine ⟨_, rfl, ?_⟩
    refine hK.out _ _ ⟨(blk_cell BK171.out 0).trans rfl, (blk_cell BK171.out 1).trans rfl, (blk_cell BK171.out 2).trans rfl, (blk_cell BK171.out 3).trans rfl, (blk_cell BK173.out 0).trans rfl, (blk_cell BK173.out 1).trans rfl, ((hw_ HB hw176_0 :)), ((hw_ HB hw176_1 :)), ((hw_ HB hw176_2 :)), ((hw_ HB hw177_0 :)), ((hw_ HB hw177_1 :)), ((hw_ HB hw177_2 :))⟩ (fun hHeld => ?_)
    clear hK K
    refine norm_ (a' := ?_) ?_ ?_
    rotate_left
    ·
     show Act.put _ (some 88) _ = _
     simp only [Act.put, List.setIfInBounds_toArray, List.set_cons_zero, List.set_cons_succ, i64_w, i32_w]
     rfl
    refine pu_ 14 89 (lA 38 32767) ?_ ?_ HT_ ?_
    refine pu_ 15 90 (lA 38 65535) ?_ ?_ HT_ ?_
    refine pu_ 16 91 (lA 38 131071) ?_ ?_ HT_ ?_
    refine pu_ 17 92 (lA 38 262143) ?_ ?_ HT_ ?_
    refine pu_ 18 93 (lA 38 524287) ?_ ?_ HT_ ?_
    refine pu_ 19 94 (lA 38 1048575) ?_ ?_ HT_ ?_
    refine pu_ 20 95 (lA 38 2097151) ?_ ?_ HT_ ?_
    refine pu_ 23 98 (lA 38 10485759) ?_ ?_ HT_ ?_
    refine tk_ 21 96 (lA 38 12582911) ?_ ?_ HT_ HW_ hHeld ?_
    refine pu_ 22 97 (lA 38 16777215) ?_ ?_ HT_ ?_
    refine tk_ 24 99 (lA 38 33554431) ?_ ?_ HT_ HW_ hHeld ?_
    refine pu_ 25 100 (lA 38 67108863) ?_ ?_ HT_ ?_
    refine pu_ 26 101 (lA 38 134217727) ?_ ?_ HT_ ?_
    refine pu_ 27 102 (lA 38 268435455) ?_ ?_ HT_ ?_
    refine pu_ 28 103 (lA 38 536870911) ?_ ?_ HT_ ?_
    refine pu_ 29 104 (lA 38 1073741823) ?_ ?_ HT_ ?_
    refine pu_ 30 105 (lA 38 2147483647) ?_ ?_ HT_ ?_
    refine pu_ 31 106 (lA 38 4294967295) ?_ ?_ HT_ ?_
    refine pu_ 34 109 (lA 38 21474836479) ?_ ?_ HT_ ?_
    refine tk_ 32 107 (lA 38 25769803775) ?_ ?_ HT_ HW_ hHeld ?_
    refine pu_ 33 108 (lA 38 34359738367) ?_ ?_ HT_ ?_
    refine tk_ 35 110 (lA 38 68719476735) ?_ ?_ HT_ HW_ hHeld ?_
    refine pu_ 36 111 (lA 38 137438953471) ?_ ?_ HT_ ?_
    refine pu_ 37 112 (lA 38 274877906943) ?_ ?_ HT_ ?_
    refine done_ (done_of HT_.out (by kernel_rfl)) ?_
    try go_wp2
    (try simp only [← hl10_2, ← hl11_2])
    go_roundg k2
    case measure => have := HJ4.out; have := HK2.out; omega
    case rel => exact ⟨(x10_2), (x11_2), (wrap64 (x49_2 + 1)), (by first | rfl | (simp; done) | (simp [*]; done)), H', ⟨by have := HJ4.out; have := HK2.out; omega⟩, ⟨by (try simp only [hl10_2]); (try simp only [hl11_2]); (with_reducible repeat (first | apply Kd.R_alloc | apply Kd.R_drewN | apply Kd.R_drew)); exact Kd.R_mono HO_10.out (fun _ hk => trivial)⟩, ⟨by (try simp only [hl10_2]); (try simp only [hl11_2]); (with_reducible repeat (first | apply Kd.R_alloc | apply Kd.R_drewN | apply Kd.R_drew)); exact HO_11.out⟩, ⟨kS_ HB GE171 GE173⟩⟩
   rw [if_neg c52] at H
   have c52b0 : (((rd_T48 l3 x49_2).f0) == 1) = false := beq_eq_false_iff_ne.mpr c52
   have c52b1 : (((rd_T48 l3 x49_2).f0) != 1) = true := bne_iff_ne.mpr c52
   have HC110 := Aside0.mk H
   clear H
   go_upto_if 113 with fail
   (try simp only [Act.put, List.setIfInBounds_toArray, List.set_cons_zero, List.set_cons_succ])
   go_cut [113] (fun v113 wc => ∃ (kq : Nat) (x113_109 : Bool), v113 = .bool x113_109 ∧ Aside0 (impl_sizes.j2 kq l2 l3 x10_2 x11_2 x49_2 l3 (l3.length : Int) x49_2 x113_109 ((rd_T48 l3 x49_2).f0) ((rd_T48 l3 x49_2).f1) ((rd_T48 l3 x49_2).f2) ((rd_T48 l3 x49_2).f3) ((rd_T49 x10_2 x49_2).f0) ((rd_T49 x10_2 x49_2).f1) = some (r1, r2)) ∧ Aside0 (kq ≤ k2) ∧ Aside0 (Kd.R k49 49 wc w.heap.size (fun k_ => k_ ≠ gb173) (.slice (some ⟨go18, 0, none⟩) x10_2.length co18) x10_2) ∧ Aside0 (Kd.R Kd.bool 4 wc w.heap.size (fun _ => True) (.slice (some ⟨go20, 0, none⟩) x11_2.length co20) x11_2) ∧ Aside0 (wc.heap[gb171]? = some (.cells #[.int .i8 ((rd_T48 l3 x49_2).f0), .int .i8 ((rd_T48 l3 x49_2).f1), .int .i8 ((rd_T48 l3 x49_2).f2), .int .i8 ((rd_T48 l3 x49_2).f3)] 48 (0, 0))) ∧ Aside0 (wc.heap[gb173]? = some (.cells #[.int .i64 ((rd_T49 x10_2 x49_2).f0), .int .i64 ((rd_T49 x10_2 x49_2).f1)] 49 (0, 0))) ∧ Aside0 (Below w.heap.size w wc))
   case first =>
    have H := HC110.out
    clear HC110
    by_cases c117 : ((rd_T48 l3 x49_2).f0) = 2
    ·
     rw [if_pos c117] at H
     have c117b0 : (((rd_T48 l3 x49_2).f0) == 2) = true := beq_iff_eq.mpr c117
     have c117b1 : (((rd_T48 l3 x49_2).f0) != 2) = false := bne_eq_false_iff_eq.mpr c117
     clear c117
     (first | rw [c117b0] | (simp only [i64_w, i32_w]; rw [c117b0]) | skip)
     have H' := Aside0.mk H
     clear H
     go_wp2
     go_meet
     case rel => exact ⟨_, ((((rd_T48 l3 x49_2).f0) == 2)), (by first | rfl | (simp; done) | (simp [*]; done)), H', ⟨by have := HJ4.out; have := HK2.out; first | omega | exact Nat.le_refl _⟩, ⟨by (try simp only [hl10_2]); (try simp only [hl11_2]); (with_reducible repeat (first | apply Kd.R_alloc | apply Kd.R_drewN | apply Kd.R_drew)); exact Kd.R_mono (Kd.R_far (p := ⟨gb173, 1, none⟩) (Kd.R_far (p := ⟨gb173, 0, none⟩) (Kd.R_mono HO_10.out (fun k_ hk => (⟨hk, hk.2⟩ : _ ∧ k_ ≠ gb173))) (fun _ hk => hk.2) (.int .i64 ((rd_T49 x10_2 x49_2).f0))) (fun _ hk => hk.2) (.int .i64 ((rd_T49 x10_2 x49_2).f1))) (fun _ hk => hk.1.2)⟩, ⟨by (try simp only [hl10_2]); (try simp only [hl11_2]); (with_reducible repeat (first | apply Kd.R_alloc | apply Kd.R_drewN | apply Kd.R_drew)); exact Kd.R_mono (Kd.R_far (p := ⟨gb173, 1, none⟩) (Kd.R_far (p := ⟨gb173, 0, none⟩) (Kd.R_types HO_11.out BK173.out (by decide)) (fun _ hk => hk.2) (.int .i64 ((rd_T49 x10_2 x49_2).f0))) (fun _ hk => hk.2) (.int .i64 ((rd_T49 x10_2 x49_2).f1))) (fun _ hk => trivial)⟩, ⟨by (try simp only [hl10_2]); (try simp only [hl11_2]); (with_reducible repeat (first | refine blk_drewN ?_ _ | refine blk_drew ?_ | refine blk_alloc ?_ _)); refine blk_far ?_ NB171_173.out _; (with_reducible repeat (first | refine blk_drewN ?_ _ | refine blk_drew ?_ | refine blk_alloc ?_ _)); refine blk_far ?_ NB171_173.out _; (with_reducible repeat (first | refine blk_drewN ?_ _ | refine blk_drew ?_ | refine blk_alloc ?_ _)); exact BK171.out⟩, ⟨by (try simp only [hl10_2]); (try simp only [hl11_2]); (with_reducible repeat (first | refine blk_drewN ?_ _ | refine blk_drew ?_ | refine blk_alloc ?_ _)); refine blk_put (cs := #[.int .i64 ((rd_T49 x10_2 x49_2).f0), .int .i64 0]) ?_ 1 _ rfl; (with_reducible repeat (first | refine blk_drewN ?_ _ | refine blk_drew ?_ | refine blk_alloc ?_ _)); refine blk_put (cs := #[.int .i64 0, .int .i64 0]) ?_ 0 _ rfl; (with_reducible repeat (first | refine blk_drewN ?_ _ | refine blk_drew ?_ | refine blk_alloc ?_ _)); exact BK173.out⟩, ⟨kS_ HB GE171 GE173⟩⟩
    ·
     rw [if_neg c117] at H
     have c117b0 : (((rd_T48 l3 x49_2).f0) == 2) = false := beq_eq_false_iff_ne.mpr c117
     have c117b1 : (((rd_T48 l3 x49_2).f0) != 2) = true := bne_iff_ne.mpr c117
     (first | rw [c117b0] | (simp only [i64_w, i32_w]; rw [c117b0]) | skip)
     have H' := Aside0.mk H
     clear H
     go_wp2
     go_meet
     case rel => exact ⟨_, ((((rd_T48 l3 x49_2).f0) == 3)), (by first | rfl | (simp; done) | (simp [*]; done)), H', ⟨by have := HJ4.out; have := HK2.out; first | omega | exact Nat.le_refl _⟩, ⟨by (try simp only [hl10_2]); (try simp only [hl11_2]); (with_reducible repeat (first | apply Kd.R_alloc | apply Kd.R_drewN | apply Kd.R_drew)); exact Kd.R_mono (Kd.R_far (p := ⟨gb173, 1, none⟩) (Kd.R_far (p := ⟨gb173, 0, none⟩) (Kd.R_mono HO_10.out (fun k_ hk => (⟨hk, hk.2⟩ : _ ∧ k_ ≠ gb173))) (fun _ hk => hk.2) (.int .i64 ((rd_T49 x10_2 x49_2).f0))) (fun _ hk => hk.2) (.int .i64 ((rd_T49 x10_2 x49_2).f1))) (fun _ hk => hk.1.2)⟩, ⟨by (try simp only [hl10_2]); (try simp only [hl11_2]); (with_reducible repeat (first | apply Kd.R_alloc | apply Kd.R_drewN | apply Kd.R_drew)); exact Kd.R_mono (Kd.R_far (p := ⟨gb173, 1, none⟩) (Kd.R_far (p := ⟨gb173, 0, none⟩) (Kd.R_types HO_11.out BK173.out (by decide)) (fun _ hk => hk.2) (.int .i64 ((rd_T49 x10_2 x49_2).f0))) (fun _ hk => hk.2) (.int .i64 ((rd_T49 x10_2 x49_2).f1))) (fun _ hk => trivial)⟩, ⟨by (try simp only [hl10_2]); (try simp only [hl11_2]); (with_reducible repeat (first | refine blk_drewN ?_ _ | refine blk_drew ?_ | refine blk_alloc ?_ _)); refine blk_far ?_ NB171_173.out _; (with_reducible repeat (first | refine blk_drewN ?_ _ | refine blk_drew ?_ | refine blk_alloc ?_ _)); refine blk_far ?_ NB171_173.out _; (with_reducible repeat (first | refine blk_drewN ?_ _ | refine blk_drew ?_ | refine blk_alloc ?_ _)); exact BK171.out⟩, ⟨by (try simp only [hl10_2]); (try simp only [hl11_2]); (with_reducible repeat (first | refine blk_drewN ?_ _ | refine blk_drew ?_ | refine blk_alloc ?_ _)); refine blk_put (cs := #[.int .i64 ((rd_T49 x10_2 x49_2).f0), .int .i64 0]) ?_ 1 _ rfl; (with_reducible repeat (first | refine blk_drewN ?_ _ | refine blk_drew ?_ | refine blk_alloc ?_ _)); refine blk_put (cs := #[.int .i64 0, .int .i64 0]) ?_ 0 _ rfl; (with_reducible repeat (first | refine blk_drewN ?_ _ | refine blk_drew ?_ | refine blk_alloc ?_ _)); exact BK173.out⟩, ⟨kS_ HB GE171 GE173⟩⟩
   case rest =>
    clear HC110
    obtain ⟨kq, x113_109, rfl, HA, HJ109, HO_10, HO_11, BK171, BK173, HB⟩ := hcut
    rcases kq with _ | kj109
    · exact absurd HA.out (by simp [impl_sizes.j2])
    have H := HA.out
    clear HA
    simp only [impl_sizes.j2] at H
    by_cases c118 : x113_109 = true
    rotate_left
    ·
     replace c118 := Bool.eq_false_iff.mpr c118
     subst c118
     replace H := gf_ H
     simp only [Option.some.injEq, Prod.mk.injEq] at H
     obtain ⟨rfl, rfl⟩ := H
     go_wp2
     go_ret2
     exact ⟨_, by first | rfl | (simp [errW_none, errW_some] <;> rfl) | (simp [*, errW_none, errW_some] <;> rfl), by first | exact Kd.R_nil _ _ _ _ _ | exact Kd.N_nil _ _ _ _ _ | exact Kd.V_nil _ _ _ _ _ | exact Kd.Q_nil _ _ _ _ _ | exact Kd.S_nil _ _ _ _ _, kS_ HB GE171 GE173⟩
    subst c118
    replace H := gt_ H
    try go_wp2
    replace HO_10 := Aside0.mk (Kd.R_drew HO_10.out)
    replace HO_11 := Aside0.mk (Kd.R_drew HO_11.out)
    replace BK171 := Aside0.mk (blk_drew BK171.out)
    replace BK173 := Aside0.mk (blk_drew BK173.out)
    replace HB := Aside0.mk (below_drew1 HB.out)
    refine start_ (n := 13) (S := fun w' => w'.cell? ⟨gb171, 0, none⟩ = some (.int .i8 ((rd_T48 l3 x49_2).f0)) ∧ w'.cell? ⟨gb171, 1, none⟩ = some (.int .i8 ((rd_T48 l3 x49_2).f1)) ∧ w'.cell? ⟨gb171, 2, none⟩ = some (.int .i8 ((rd_T48 l3 x49_2).f2)) ∧ w'.cell? ⟨gb171, 3, none⟩ = some (.int .i8 ((rd_T48 l3 x49_2).f3))) (ds := []) #[false, false, false, false, false, false, false, false, false, false, false, false, false] (by kernel_rfl) rfl rfl ⟨(blk_cell BK171.out 0).trans rfl, (blk_cell BK171.out 1).trans rfl, (blk_cell BK171.out 2).trans rfl, (blk_cell BK171.out 3).trans rfl⟩ (fun hHeld => ?_); refine with_tabW impl_sizes.tab22 impl_sizes.bits22 (fun HT_ HW_ => ?_)
    generalize wc.drew = w120 at HO_10 HO_11 BK171 BK173 HB hHeld ⊢
    refine pu_ 0 116 (lA 13 1) ?_ ?_ HT_ ?_
    refine pu_ 3 119 (lA 13 9) ?_ ?_ HT_ ?_
    refine pu_ 6 122 (lA 13 73) ?_ ?_ HT_ ?_
    refine tk_ 1 117 (lA 13 75) ?_ ?_ HT_ HW_ hHeld ?_
    refine pu_ 2 118 (lA 13 79) ?_ ?_ HT_ ?_
    refine pu_ 10 16 (lA 13 1103) ?_ ?_ HT_ ?_
    refine tk_ 4 120 (lA 13 1119) ?_ ?_ HT_ HW_ hHeld ?_
    refine pu_ 5 121 (lA 13 1151) ?_ ?_ HT_ ?_
    refine pu_ 11 17 (lA 13 3199) ?_ ?_ HT_ ?_
    refine tk_ 7 123 (lA 13 3327) ?_ ?_ HT_ HW_ hHeld ?_
    refine pu_ 8 124 (lA 13 3583) ?_ ?_ HT_ ?_
    refine pu_ 9 125 (lA 13 4095) ?_ ?_ HT_ ?_
    refine pu_ 12 18 (lA 13 8191) ?_ ?_ HT_ ?_
    refine done_ (done_of HT_.out (by kernel_rfl)) ?_
    as_aux_lemma =>
    by_cases c119 : (wrap64 (((rd_T48 l3 x49_2).f2))) ≤ x49_2
    ·
     as_aux_lemma =>
     rw [if_pos c119] at H
     have c119b0 : decide ((wrap64 (((rd_T48 l3 x49_2).f2))) ≤ x49_2) = true := decide_eq_true c119
     clear c119
     simp only [Option.some.injEq, Prod.mk.injEq] at H
     obtain ⟨rfl, rfl⟩ := H
     try go_wp2
     replace HO_10 := Aside0.mk (Kd.R_drew HO_10.out)
     replace HO_11 := Aside0.mk (Kd.R_drew HO_11.out)
     replace BK171 := Aside0.mk (blk_drew BK171.out)
     replace BK173 := Aside0.mk (blk_drew BK173.out)
     replace HB := Aside0.mk (below_drew1 HB.out)
     refine start_ (n := 48) (S := fun w' => True) (ds := []) #[false, false, false, false, false, false, false, false, false, false, false, false, false, false, false, false, false, false, false, false, false, false, false, false, false, false, false, false, false, false, false, false, false, false, false, false, false, false, false, false, false, false, false, false, false, false, false, false] (by kernel_rfl) rfl rfl trivial (fun hHeld => ?_); refine with_tabW impl_sizes.tab23 impl_sizes.bits23 (fun HT_ HW_ => ?_)
     generalize w120.drew = w121 at HO_10 HO_11 BK171 BK173 HB hHeld ⊢
     refine pu_ 0 126 (lA 48 1) ?_ ?_ HT_ ?_
     refine pu_ 1 127 (lA 48 3) ?_ ?_ HT_ ?_
     refine pu_ 2 128 (lA 48 7) ?_ ?_ HT_ ?_
     refine pu_ 3 129 (lA 48 15) ?_ ?_ HT_ ?_
     refine pn_ 4 130 (lA 48 31) ?_ HT_ ?_
     refine pn_ 5 131 (lA 48 63) ?_ HT_ ?_
     refine pn_ 6 132 (lA 48 127) ?_ HT_ ?_
     refine pu_ 7 133 (lA 48 255) ?_ ?_ HT_ ?_
     refine pu_ 8 134 (lA 48 511) ?_ ?_ HT_ ?_
     refine pn_ 9 135 (lA 48 1023) ?_ HT_ ?_
     refine pn_ 10 136 (lA 48 2047) ?_ HT_ ?_
     refine pn_ 11 137 (lA 48 4095) ?_ HT_ ?_
     refine pn_ 12 138 (lA 48 8191) ?_ HT_ ?_
     refine pu_ 13 139 (lA 48 16383) ?_ ?_ HT_ ?_
     refine pu_ 14 140 (lA 48 32767) ?_ ?_ HT_ ?_
     refine pn_ 15 141 (lA 48 65535) ?_ HT_ ?_
     refine pn_ 16 142 (lA 48 131071) ?_ HT_ ?_
     refine pn_ 17 143 (lA 48 262143) ?_ HT_ ?_
     refine pn_ 18 144 (lA 48 524287) ?_ HT_ ?_
     refine pu_ 19 145 (lA 48 1048575) ?_ ?_ HT_ ?_
     refine pu_ 20 146 (lA 48 2097151) ?_ ?_ HT_ ?_
     refine pn_ 21 147 (lA 48 4194303) ?_ HT_ ?_
     refine pn_ 22 148 (lA 48 8388607) ?_ HT_ ?_
     refine pn_ 23 149 (lA 48 16777215) ?_ HT_ ?_
     refine pu_ 24 150 (lA 48 33554431) ?_ ?_ HT_ ?_
     refine pu_ 25 151 (lA 48 67108863) ?_ ?_ HT_ ?_
     refine pn_ 26 152 (lA 48 134217727) ?_ HT_ ?_
     refine pn_ 27 153 (lA 48 268435455) ?_ HT_ ?_
     refine pn_ 28 154 (lA 48 536870911) ?_ HT_ ?_
     refine pn_ 29 155 (lA 48 1073741823) ?_ HT_ ?_
     refine pu_ 30 156 (lA 48 2147483647) ?_ ?_ HT_ ?_
     refine pu_ 31 157 (lA 48 4294967295) ?_ ?_ HT_ ?_
     refine pn_ 32 158 (lA 48 8589934591) ?_ HT_ ?_
     refine pn_ 33 159 (lA 48 17179869183) ?_ HT_ ?_
     refine pn_ 34 160 (lA 48 34359738367) ?_ HT_ ?_
     refine pn_ 35 161 (lA 48 68719476735) ?_ HT_ ?_
     refine pu_ 36 162 (lA 48 137438953471) ?_ ?_ HT_ ?_
     refine pu_ 37 163 (lA 48 274877906943) ?_ ?_ HT_ ?_
     refine pn_ 38 164 (lA 48 549755813887) ?_ HT_ ?_
     refine pn_ 39 165 (lA 48 1099511627775) ?_ HT_ ?_
     refine pn_ 40 166 (lA 48 2199023255551) ?_ HT_ ?_
     refine pn_ 41 167 (lA 48 4398046511103) ?_ HT_ ?_
     refine pn_ 42 168 (lA 48 8796093022207) ?_ HT_ ?_
     refine pn_ 43 169 (lA 48 17592186044415) ?_ HT_ ?_
     refine pn_ 44 170 (lA 48 35184372088831) ?_ HT_ ?_
     refine pn_ 45 171 (lA 48 70368744177663) ?_ HT_ ?_
     refine pn_ 46 172 (lA 48 140737488355327) ?_ HT_ ?_
     refine pu_ 47 173 (lA 48 281474976710655) ?_ ?_ HT_ ?_
     refine done_ (done_of HT_.out (by kernel_rfl)) ?_
     try go_wp2
     go_ret2
     exact ⟨_, by first | rfl | (simp [errW_none, errW_some] <;> rfl) | (simp [*, errW_none, errW_some] <;> rfl), by first | exact Kd.R_nil _ _ _ _ _ | exact Kd.N_nil _ _ _ _ _ | exact Kd.V_nil _ _ _ _ _ | exact Kd.Q_nil _ _ _ _ _ | exact Kd.S_nil _ _ _ _ _, kS_ HB GE171 GE173⟩
    rw [if_neg c119] at H
    have c119b0 : decide ((wrap64 (((rd_T48 l3 x49_2).f2))) ≤ x49_2) = false := decide_eq_false c119
    clear c119
    by_cases c122 : (wrap64 (((rd_T48 l3 x49_2).f3))) ≤ x49_2
    ·
     as_aux_lemma =>
     rw [if_pos c122] at H
     have c122b0 : decide ((wrap64 (((rd_T48 l3 x49_2).f3))) ≤ x49_2) = true := decide_eq_true c122
     clear c122
     simp only [Option.some.injEq, Prod.mk.injEq] at H
     obtain ⟨rfl, rfl⟩ := H
     try go_wp2
     replace HO_10 := Aside0.mk (Kd.R_drew HO_10.out)
     replace HO_11 := Aside0.mk (Kd.R_drew HO_11.out)
     replace BK171 := Aside0.mk (blk_drew BK171.out)
     replace BK173 := Aside0.mk (blk_drew BK173.out)
     replace HB := Aside0.mk (below_drew1 HB.out)
     refine start_ (n := 48) (S := fun w' => True) (ds := []) #[false, false, false, false, false, false, false, false, false, false, false, false, false, false, false, false, false, false, false, false, false, false, false, false, false, false, false, false, false, false, false, false, false, false, false, false, false, false, false, false, false, false, false, false, false, false, false, false] (by kernel_rfl) rfl rfl trivial (fun hHeld => ?_); refine with_tabW impl_sizes.tab23 impl_sizes.bits23 (fun HT_ HW_ => ?_)
     generalize w120.drew = w124 at HO_10 HO_11 BK171 BK173 HB hHeld ⊢
     refine pu_ 0 126 (lA 48 1) ?_ ?_ HT_ ?_
     refine pu_ 1 127 (lA 48 3) ?_ ?_ HT_ ?_
     refine pu_ 2 128 (lA 48 7) ?_ ?_ HT_ ?_
     refine pu_ 3 129 (lA 48 15) ?_ ?_ HT_ ?_
     refine pu_ 4 130 (lA 48 31) ?_ ?_ HT_ ?_
     refine pu_ 5 131 (lA 48 63) ?_ ?_ HT_ ?_
     refine pu_ 6 132 (lA 48 127) ?_ ?_ HT_ ?_
     refine pu_ 7 133 (lA 48 255) ?_ ?_ HT_ ?_
     refine pu_ 8 134 (lA 48 511) ?_ ?_ HT_ ?_
     refine pn_ 9 135 (lA 48 1023) ?_ HT_ ?_
     refine pn_ 10 136 (lA 48 2047) ?_ HT_ ?_
     refine pn_ 11 137 (lA 48 4095) ?_ HT_ ?_
     refine pn_ 12 138 (lA 48 8191) ?_ HT_ ?_
     refine pu_ 13 139 (lA 48 16383) ?_ ?_ HT_ ?_
     refine pu_ 14 140 (lA 48 32767) ?_ ?_ HT_ ?_
     refine pn_ 15 141 (lA 48 65535) ?_ HT_ ?_
     refine pn_ 16 142 (lA 48 131071) ?_ HT_ ?_
     refine pn_ 17 143 (lA 48 262143) ?_ HT_ ?_
     refine pn_ 18 144 (lA 48 524287) ?_ HT_ ?_
     refine pu_ 19 145 (lA 48 1048575) ?_ ?_ HT_ ?_
     refine pu_ 20 146 (lA 48 2097151) ?_ ?_ HT_ ?_
     refine pn_ 21 147 (lA 48 4194303) ?_ HT_ ?_
     refine pn_ 22 148 (lA 48 8388607) ?_ HT_ ?_
     refine pn_ 23 149 (lA 48 16777215) ?_ HT_ ?_
     refine pu_ 24 150 (lA 48 33554431) ?_ ?_ HT_ ?_
     refine pu_ 25 151 (lA 48 67108863) ?_ ?_ HT_ ?_
     refine pn_ 26 152 (lA 48 134217727) ?_ HT_ ?_
     refine pn_ 27 153 (lA 48 268435455) ?_ HT_ ?_
     refine pn_ 28 154 (lA 48 536870911) ?_ HT_ ?_
     refine pn_ 29 155 (lA 48 1073741823) ?_ HT_ ?_
     refine pu_ 30 156 (lA 48 2147483647) ?_ ?_ HT_ ?_
     refine pu_ 31 157 (lA 48 4294967295) ?_ ?_ HT_ ?_
     refine pn_ 32 158 (lA 48 8589934591) ?_ HT_ ?_
     refine pn_ 33 159 (lA 48 17179869183) ?_ HT_ ?_
     refine pn_ 34 160 (lA 48 34359738367) ?_ HT_ ?_
     refine pn_ 35 161 (lA 48 68719476735) ?_ HT_ ?_
     refine pu_ 36 162 (lA 48 137438953471) ?_ ?_ HT_ ?_
     refine pu_ 37 163 (lA 48 274877906943) ?_ ?_ HT_ ?_
     refine pn_ 38 164 (lA 48 549755813887) ?_ HT_ ?_
     refine pn_ 39 165 (lA 48 1099511627775) ?_ HT_ ?_
     refine pn_ 40 166 (lA 48 2199023255551) ?_ HT_ ?_
     refine pn_ 41 167 (lA 48 4398046511103) ?_ HT_ ?_
     refine pn_ 42 168 (lA 48 8796093022207) ?_ HT_ ?_
     refine pn_ 43 169 (lA 48 17592186044415) ?_ HT_ ?_
     refine pn_ 44 170 (lA 48 35184372088831) ?_ HT_ ?_
     refine pn_ 45 171 (lA 48 70368744177663) ?_ HT_ ?_
     refine pn_ 46 172 (lA 48 140737488355327) ?_ HT_ ?_
     refine pu_ 47 173 (lA 48 281474976710655) ?_ ?_ HT_ ?_
     refine done_ (done_of HT_.out (by kernel_rfl)) ?_
     try go_wp2
     go_ret2
     exact ⟨_, by first | rfl | (simp [errW_none, errW_some] <;> rfl) | (simp [*, errW_none, errW_some] <;> rfl), by first | exact Kd.R_nil _ _ _ _ _ | exact Kd.N_nil _ _ _ _ _ | exact Kd.V_nil _ _ _ _ _ | exact Kd.Q_nil _ _ _ _ _ | exact Kd.S_nil _ _ _ _ _, kS_ HB GE171 GE173⟩
    rw [if_neg c122] at H
    have c122b0 : decide ((wrap64 (((rd_T48 l3 x49_2).f3))) ≤ x49_2) = false := decide_eq_false c122
    clear c122
    by_cases c125 : (wrap64 (((rd_T48 l3 x49_2).f2))) ≥ (l3.length : Int)
    ·
     as_aux_lemma =>
     rw [if_pos c125] at H
     have c125b0 : decide ((l3.length : Int) ≤ (wrap64 (((rd_T48 l3 x49_2).f2)))) = true := decide_eq_true c125
     clear c125
     simp only [Option.some.injEq, Prod.mk.injEq] at H
     obtain ⟨rfl, rfl⟩ := H
     try go_wp2
     replace HO_10 := Aside0.mk (Kd.R_drew HO_10.out)
     replace HO_11 := Aside0.mk (Kd.R_drew HO_11.out)
     replace BK171 := Aside0.mk (blk_drew BK171.out)
     replace BK173 := Aside0.mk (blk_drew BK173.out)
     replace HB := Aside0.mk (below_drew1 HB.out)
     refine start_ (n := 48) (S := fun w' => True) (ds := []) #[false, false, false, false, false, false, false, false, false, false, false, false, false, false, false, false, false, false, false, false, false, false, false, false, false, false, false, false, false, false, false, false, false, false, false, false, false, false, false, false, false, false, false, false, false, false, false, false] (by kernel_rfl) rfl rfl trivial (fun hHeld => ?_); refine with_tabW impl_sizes.tab23 impl_sizes.bits23 (fun HT_ HW_ => ?_)
     generalize w120.drew = w127 at HO_10 HO_11 BK171 BK173 HB hHeld ⊢
     refine pu_ 0 126 (lA 48 1) ?_ ?_ HT_ ?_
     refine pu_ 1 127 (lA 48 3) ?_ ?_ HT_ ?_
     refine pu_ 2 128 (lA 48 7) ?_ ?_ HT_ ?_
     refine pu_ 3 129 (lA 48 15) ?_ ?_ HT_ ?_
     refine pu_ 4 130 (lA 48 31) ?_ ?_ HT_ ?_
     refine pu_ 5 131 (lA 48 63) ?_ ?_ HT_ ?_
     refine pu_ 6 132 (lA 48 127) ?_ ?_ HT_ ?_
     refine pu_ 7 133 (lA 48 255) ?_ ?_ HT_ ?_
     refine pu_ 8 134 (lA 48 511) ?_ ?_ HT_ ?_
     refine pu_ 9 135 (lA 48 1023) ?_ ?_ HT_ ?_
     refine pu_ 10 136 (lA 48 2047) ?_ ?_ HT_ ?_
     refine pu_ 11 137 (lA 48 4095) ?_ ?_ HT_ ?_
     refine pu_ 12 138 (lA 48 8191) ?_ ?_ HT_ ?_
     refine pu_ 13 139 (lA 48 16383) ?_ ?_ HT_ ?_
     refine pu_ 14 140 (lA 48 32767) ?_ ?_ HT_ ?_
     refine pn_ 15 141 (lA 48 65535) ?_ HT_ ?_
     refine pn_ 16 142 (lA 48 131071) ?_ HT_ ?_
     refine pn_ 17 143 (lA 48 262143) ?_ HT_ ?_
     refine pn_ 18 144 (lA 48 524287) ?_ HT_ ?_
     refine pu_ 19 145 (lA 48 1048575) ?_ ?_ HT_ ?_
     refine pu_ 20 146 (lA 48 2097151) ?_ ?_ HT_ ?_
     refine pn_ 21 147 (lA 48 4194303) ?_ HT_ ?_
     refine pn_ 22 148 (lA 48 8388607) ?_ HT_ ?_
     refine pn_ 23 149 (lA 48 16777215) ?_ HT_ ?_
     refine pu_ 24 150 (lA 48 33554431) ?_ ?_ HT_ ?_
     refine pu_ 25 151 (lA 48 67108863) ?_ ?_ HT_ ?_
     refine pn_ 26 152 (lA 48 134217727) ?_ HT_ ?_
     refine pn_ 27 153 (lA 48 268435455) ?_ HT_ ?_
     refine pn_ 28 154 (lA 48 536870911) ?_ HT_ ?_
     refine pn_ 29 155 (lA 48 1073741823) ?_ HT_ ?_
     refine pu_ 30 156 (lA 48 2147483647) ?_ ?_ HT_ ?_
     refine pu_ 31 157 (lA 48 4294967295) ?_ ?_ HT_ ?_
     refine pn_ 32 158 (lA 48 8589934591) ?_ HT_ ?_
     refine pn_ 33 159 (lA 48 17179869183) ?_ HT_ ?_
     refine pn_ 34 160 (lA 48 34359738367) ?_ HT_ ?_
     refine pn_ 35 161 (lA 48 68719476735) ?_ HT_ ?_
     refine pu_ 36 162 (lA 48 137438953471) ?_ ?_ HT_ ?_
     refine pu_ 37 163 (lA 48 274877906943) ?_ ?_ HT_ ?_
     refine pn_ 38 164 (lA 48 549755813887) ?_ HT_ ?_
     refine pn_ 39 165 (lA 48 1099511627775) ?_ HT_ ?_
     refine pn_ 40 166 (lA 48 2199023255551) ?_ HT_ ?_
     refine pn_ 41 167 (lA 48 4398046511103) ?_ HT_ ?_
     refine pn_ 42 168 (lA 48 8796093022207) ?_ HT_ ?_
     refine pn_ 43 169 (lA 48 17592186044415) ?_ HT_ ?_
     refine pn_ 44 170 (lA 48 35184372088831) ?_ HT_ ?_
     refine pn_ 45 171 (lA 48 70368744177663) ?_ HT_ ?_
     refine pn_ 46 172 (lA 48 140737488355327) ?_ HT_ ?_
     refine pu_ 47 173 (lA 48 281474976710655) ?_ ?_ HT_ ?_
     refine done_ (done_of HT_.out (by kernel_rfl)) ?_
     try go_wp2
     go_ret2
     exact ⟨_, by first | rfl | (simp [errW_none, errW_some] <;> rfl) | (simp [*, errW_none, errW_some] <;> rfl), by first | exact Kd.R_nil _ _ _ _ _ | exact Kd.N_nil _ _ _ _ _ | exact Kd.V_nil _ _ _ _ _ | exact Kd.Q_nil _ _ _ _ _ | exact Kd.S_nil _ _ _ _ _, kS_ HB GE171 GE173⟩
    rw [if_neg c125] at H
    have c125b0 : decide ((l3.length : Int) ≤ (wrap64 (((rd_T48 l3 x49_2).f2)))) = false := decide_eq_false c125
    clear c125
    by_cases c128 : (wrap64 (((rd_T48 l3 x49_2).f3))) ≥ (l3.length : Int)
    ·
     as_aux_lemma =>
     rw [if_pos c128] at H
     have c128b0 : decide ((l3.length : Int) ≤ (wrap64 (((rd_T48 l3 x49_2).f3)))) = true := decide_eq_true c128
     clear c128
     simp only [Option.some.injEq, Prod.mk.injEq] at H
     obtain ⟨rfl, rfl⟩ := H
     try go_wp2
     replace HO_10 := Aside0.mk (Kd.R_drew HO_10.out)
     replace HO_11 := Aside0.mk (Kd.R_drew HO_11.out)
     replace BK171 := Aside0.mk (blk_drew BK171.out)
     replace BK173 := Aside0.mk (blk_drew BK173.out)
     replace HB := Aside0.mk (below_drew1 HB.out)
     refine start_ (n := 48) (S := fun w' => True) (ds := []) #[false, false, false, false, false, false, false, false, false, false, false, false, false, false, false, false, false, false, false, false, false, false, false, false, false, false, false, false, false, false, false, false, false, false, false, false, false, false, false, false, false, false, false, false, false, false, false, false] (by kernel_rfl) rfl rfl trivial (fun hHeld => ?_); refine with_tabW impl_sizes.tab23 impl_sizes.bits23 (fun HT_ HW_ => ?_)
     generalize w120.drew = w130 at HO_10 HO_11 BK171 BK173 HB hHeld ⊢
     refine pu_ 0 126 (lA 48 1) ?_ ?_ HT_ ?_
     refine pu_ 1 127 (lA 48 3) ?_ ?_ HT_ ?_
     refine pu_ 2 128 (lA 48 7) ?_ ?_ HT_ ?_
     refine pu_ 3 129 (lA 48 15) ?_ ?_ HT_ ?_
     refine pu_ 4 130 (lA 48 31) ?_ ?_ HT_ ?_
     refine pu_ 5 131 (lA 48 63) ?_ ?_ HT_ ?_
     refine pu_ 6 132 (lA 48 127) ?_ ?_ HT_ ?_
     refine pu_ 7 133 (lA 48 255) ?_ ?_ HT_ ?_
     refine pu_ 8 134 (lA 48 511) ?_ ?_ HT_ ?_
     refine pu_ 9 135 (lA 48 1023) ?_ ?_ HT_ ?_
     refine pu_ 10 136 (lA 48 2047) ?_ ?_ HT_ ?_
     refine pu_ 11 137 (lA 48 4095) ?_ ?_ HT_ ?_
     refine pu_ 12 138 (lA 48 8191) ?_ ?_ HT_ ?_
     refine pu_ 13 139 (lA 48 16383) ?_ ?_ HT_ ?_
     refine pu_ 14 140 (lA 48 32767) ?_ ?_ HT_ ?_
     refine pu_ 15 141 (lA 48 65535) ?_ ?_ HT_ ?_
     refine pu_ 16 142 (lA 48 131071) ?_ ?_ HT_ ?_
     refine pu_ 17 143 (lA 48 262143) ?_ ?_ HT_ ?_
     refine pu_ 18 144 (lA 48 524287) ?_ ?_ HT_ ?_
     refine pu_ 19 145 (lA 48 1048575) ?_ ?_ HT_ ?_
     refine pu_ 20 146 (lA 48 2097151) ?_ ?_ HT_ ?_
     refine pn_ 21 147 (lA 48 4194303) ?_ HT_ ?_
     refine pn_ 22 148 (lA 48 8388607) ?_ HT_ ?_
     refine pn_ 23 149 (lA 48 16777215) ?_ HT_ ?_
     refine pu_ 24 150 (lA 48 33554431) ?_ ?_ HT_ ?_
     refine pu_ 25 151 (lA 48 67108863) ?_ ?_ HT_ ?_
     refine pn_ 26 152 (lA 48 134217727) ?_ HT_ ?_
     refine pn_ 27 153 (lA 48 268435455) ?_ HT_ ?_
     refine pn_ 28 154 (lA 48 536870911) ?_ HT_ ?_
     refine pn_ 29 155 (lA 48 1073741823) ?_ HT_ ?_
     refine pu_ 30 156 (lA 48 2147483647) ?_ ?_ HT_ ?_
     refine pu_ 31 157 (lA 48 4294967295) ?_ ?_ HT_ ?_
     refine pn_ 32 158 (lA 48 8589934591) ?_ HT_ ?_
     refine pn_ 33 159 (lA 48 17179869183) ?_ HT_ ?_
     refine pn_ 34 160 (lA 48 34359738367) ?_ HT_ ?_
     refine pn_ 35 161 (lA 48 68719476735) ?_ HT_ ?_
     refine pu_ 36 162 (lA 48 137438953471) ?_ ?_ HT_ ?_
     refine pu_ 37 163 (lA 48 274877906943) ?_ ?_ HT_ ?_
     refine pn_ 38 164 (lA 48 549755813887) ?_ HT_ ?_
     refine pn_ 39 165 (lA 48 1099511627775) ?_ HT_ ?_
     refine pn_ 40 166 (lA 48 2199023255551) ?_ HT_ ?_
     refine pn_ 41 167 (lA 48 4398046511103) ?_ HT_ ?_
     refine pn_ 42 168 (lA 48 8796093022207) ?_ HT_ ?_
     refine pn_ 43 169 (lA 48 17592186044415) ?_ HT_ ?_
     refine pn_ 44 170 (lA 48 35184372088831) ?_ HT_ ?_
     refine pn_ 45 171 (lA 48 70368744177663) ?_ HT_ ?_
     refine pn_ 46 172 (lA 48 140737488355327) ?_ HT_ ?_
     refine pu_ 47 173 (lA 48 281474976710655) ?_ ?_ HT_ ?_
     refine done_ (done_of HT_.out (by kernel_rfl)) ?_
     try go_wp2
     go_ret2
     exact ⟨_, by first | rfl | (simp [errW_none, errW_some] <;> rfl) | (simp [*, errW_none, errW_some] <;> rfl), by first | exact Kd.R_nil _ _ _ _ _ | exact Kd.N_nil _ _ _ _ _ | exact Kd.V_nil _ _ _ _ _ | exact Kd.Q_nil _ _ _ _ _ | exact Kd.S_nil _ _ _ _ _, kS_ HB GE171 GE173⟩
    rw [if_neg c128] at H
    have c128b0 : decide ((l3.length : Int) ≤ (wrap64 (((rd_T48 l3 x49_2).f3)))) = false := decide_eq_false c128
    clear c128
    by_cases c131 : (wrap64 (((rd_T48 l3 x49_2).f2))) = (wrap64 (((rd_T48 l3 x49_2).f3)))
    ·
     as_aux_lemma =>
     rw [if_pos c131] at H
     have c131b0 : ((wrap64 (((rd_T48 l3 x49_2).f2))) == (wrap64 (((rd_T48 l3 x49_2).f3)))) = true := beq_iff_eq.mpr c131
     have c131b1 : ((wrap64 (((rd_T48 l3 x49_2).f2))) != (wrap64 (((rd_T48 l3 x49_2).f3)))) = false := bne_eq_false_iff_eq.mpr c131
     clear c131
     simp only [Option.some.injEq, Prod.mk.injEq] at H
     obtain ⟨rfl, rfl⟩ := H
     try go_wp2
     replace HO_10 := Aside0.mk (Kd.R_drew HO_10.out)
     replace HO_11 := Aside0.mk (Kd.R_drew HO_11.out)
     replace BK171 := Aside0.mk (blk_drew BK171.out)
     replace BK173 := Aside0.mk (blk_drew BK173.out)
     replace HB := Aside0.mk (below_drew1 HB.out)
     refine start_ (n := 48) (S := fun w' => True) (ds := []) #[false, false, false, false, false, false, false, false, false, false, false, false, false, false, false, false, false, false, false, false, false, false, false, false, false, false, false, false, false, false, false, false, false, false, false, false, false, false, false, false, false, false, false, false, false, false, false, false] (by kernel_rfl) rfl rfl trivial (fun hHeld => ?_); refine with_tabW impl_sizes.tab23 impl_sizes.bits23 (fun HT_ HW_ => ?_)
     generalize w120.drew = w133 at HO_10 HO_11 BK171 BK173 HB hHeld ⊢
     refine pu_ 0 126 (lA 48 1) ?_ ?_ HT_ ?_
     refine pu_ 1 127 (lA 48 3) ?_ ?_ HT_ ?_
     refine pu_ 2 128 (lA 48 7) ?_ ?_ HT_ ?_
     refine pu_ 3 129 (lA 48 15) ?_ ?_ HT_ ?_
     refine pu_ 4 130 (lA 48 31) ?_ ?_ HT_ ?_
     refine pu_ 5 131 (lA 48 63) ?_ ?_ HT_ ?_
     refine pu_ 6 132 (lA 48 127) ?_ ?_ HT_ ?_
     refine pu_ 7 133 (lA 48 255) ?_ ?_ HT_ ?_
     refine pu_ 8 134 (lA 48 511) ?_ ?_ HT_ ?_
     refine pu_ 9 135 (lA 48 1023) ?_ ?_ HT_ ?_
     refine pu_ 10 136 (lA 48 2047) ?_ ?_ HT_ ?_
     refine pu_ 11 137 (lA 48 4095) ?_ ?_ HT_ ?_
     refine pu_ 12 138 (lA 48 8191) ?_ ?_ HT_ ?_
     refine pu_ 13 139 (lA 48 16383) ?_ ?_ HT_ ?_
     refine pu_ 14 140 (lA 48 32767) ?_ ?_ HT_ ?_
     refine pu_ 15 141 (lA 48 65535) ?_ ?_ HT_ ?_
     refine pu_ 16 142 (lA 48 131071) ?_ ?_ HT_ ?_
     refine pu_ 17 143 (lA 48 262143) ?_ ?_ HT_ ?_
     refine pu_ 18 144 (lA 48 524287) ?_ ?_ HT_ ?_
     refine pu_ 19 145 (lA 48 1048575) ?_ ?_ HT_ ?_
     refine pu_ 20 146 (lA 48 2097151) ?_ ?_ HT_ ?_
     refine pu_ 21 147 (lA 48 4194303) ?_ ?_ HT_ ?_
     refine pu_ 22 148 (lA 48 8388607) ?_ ?_ HT_ ?_
     refine pu_ 23 149 (lA 48 16777215) ?_ ?_ HT_ ?_
     refine pu_ 24 150 (lA 48 33554431) ?_ ?_ HT_ ?_
     refine pu_ 25 151 (lA 48 67108863) ?_ ?_ HT_ ?_
     refine pn_ 26 152 (lA 48 134217727) ?_ HT_ ?_
     refine pn_ 27 153 (lA 48 268435455) ?_ HT_ ?_
     refine pn_ 28 154 (lA 48 536870911) ?_ HT_ ?_
     refine pn_ 29 155 (lA 48 1073741823) ?_ HT_ ?_
     refine pu_ 30 156 (lA 48 2147483647) ?_ ?_ HT_ ?_
     refine pu_ 31 157 (lA 48 4294967295) ?_ ?_ HT_ ?_
     refine pn_ 32 158 (lA 48 8589934591) ?_ HT_ ?_
     refine pn_ 33 159 (lA 48 17179869183) ?_ HT_ ?_
     refine pn_ 34 160 (lA 48 34359738367) ?_ HT_ ?_
     refine pn_ 35 161 (lA 48 68719476735) ?_ HT_ ?_
     refine pu_ 36 162 (lA 48 137438953471) ?_ ?_ HT_ ?_
     refine pu_ 37 163 (lA 48 274877906943) ?_ ?_ HT_ ?_
     refine pn_ 38 164 (lA 48 549755813887) ?_ HT_ ?_
     refine pn_ 39 165 (lA 48 1099511627775) ?_ HT_ ?_
     refine pn_ 40 166 (lA 48 2199023255551) ?_ HT_ ?_
     refine pn_ 41 167 (lA 48 4398046511103) ?_ HT_ ?_
     refine pn_ 42 168 (lA 48 8796093022207) ?_ HT_ ?_
     refine pn_ 43 169 (lA 48 17592186044415) ?_ HT_ ?_
     refine pn_ 44 170 (lA 48 35184372088831) ?_ HT_ ?_
     refine pn_ 45 171 (lA 48 70368744177663) ?_ HT_ ?_
     refine pn_ 46 172 (lA 48 140737488355327) ?_ HT_ ?_
     refine pu_ 47 173 (lA 48 281474976710655) ?_ ?_ HT_ ?_
     refine done_ (done_of HT_.out (by kernel_rfl)) ?_
     try go_wp2
     go_ret2
     exact ⟨_, by first | rfl | (simp [errW_none, errW_some] <;> rfl) | (simp [*, errW_none, errW_some] <;> rfl), by first | exact Kd.R_nil _ _ _ _ _ | exact Kd.N_nil _ _ _ _ _ | exact Kd.V_nil _ _ _ _ _ | exact Kd.Q_nil _ _ _ _ _ | exact Kd.S_nil _ _ _ _ _, kS_ HB GE171 GE173⟩
    rw [if_neg c131] at H
    have c131b0 : ((wrap64 (((rd_T48 l3 x49_2).f2))) == (wrap64 (((rd_T48 l3 x49_2).f3)))) = false := beq_eq_false_iff_ne.mpr c131
    have c131b1 : ((wrap64 (((rd_T48 l3 x49_2).f2))) != (wrap64 (((rd_T48 l3 x49_2).f3)))) = true := bne_iff_ne.mpr c131
    obtain ⟨ji134, hji134⟩ : ∃ j_ : Int, (wrap64 (((rd_T48 l3 x49_2).f2))) = j_ := ⟨_, rfl⟩
    replace H : (if 0 ≤ (ji134) then (if (ji134) < (x11_2.length : Int) then (if rdOf false x11_2 (ji134) = true then (some (([] : List (S49)), false)) else (if 0 ≤ (wrap64 (((rd_T48 l3 x49_2).f3))) then (if (wrap64 (((rd_T48 l3 x49_2).f3))) < (x11_2.length : Int) then (if rdOf false x11_2 (wrap64 (((rd_T48 l3 x49_2).f3))) = true then (some (([] : List (S49)), false)) else (if (wrap64 (IntKind.i8.wrap (((rd_T48 l3 x49_2).f0) - 2))) = (0 : Int) then ((impl_within.f (wrap64 (((rd_T48 l3 x49_2).f1))) 1 (wrap64 (((rd_T49 x10_2 x49_2).f0) - 1))).bind fun t180 => (if t180 = true then (if (ji134) < (x10_2.length : Int) then (if (wrap64 (((rd_T48 l3 x49_2).f3))) < (x10_2.length : Int) then ((some ((x10_2.set ((ji134) : Int).toNat (⟨((rd_T49 x10_2 x49_2).f0), ((rd_T49 x10_2 x49_2).f1)⟩ : S49)).set ((wrap64 (((rd_T48 l3 x49_2).f3))) : Int).toNat (⟨((rd_T49 x10_2 x49_2).f0), ((rd_T49 x10_2 x49_2).f1)⟩ : S49) : List (S49))).bind fun y184 => ((some (y184.set ((ji134) : Int).toNat (⟨wrap64 (((rd_T48 l3 x49_2).f1)), (rd_T49 y184 (ji134)).f1⟩ : S49) : List (S49))).bind fun y185 => (impl_sizes.l0 kj109 l2 l3 (y185.set ((wrap64 (((rd_T48 l3 x49_2).f3))) : Int).toNat (⟨wrap64 (((rd_T49 y185 (wrap64 (((rd_T48 l3 x49_2).f3)))).f0) - (wrap64 (((rd_T48 l3 x49_2).f1)))), (rd_T49 y185 (wrap64 (((rd_T48 l3 x49_2).f3)))).f1⟩ : S49)) ((x11_2.set ((ji134) : Int).toNat true).set ((wrap64 (((rd_T48 l3 x49_2).f3))) : Int).toNat true) l3 (l3.length : Int) (wrap64 (x49_2 + 1))))) else (none)) else (none)) else (some (([] : List (S49)), false)))) else (if (wrap64 (IntKind.i8.wrap (((rd_T48 l3 x49_2).f0) - 2))) = (1 : Int) then ((impl_within.f (wrap64 (((rd_T48 l3 x49_2).f1))) 1 (wrap64 (((rd_T49 x10_2 x49_2).f1) - 1))).bind fun t188 => (if t188 = true then (if (ji134) < (x10_2.length : Int) then (if (wrap64 (((rd_T48 l3 x49_2).f3))) < (x10_2.length : Int) then ((some ((x10_2.set ((ji134) : Int).toNat (⟨((rd_T49 x10_2 x49_2).f0), ((rd_T49 x10_2 x49_2).f1)⟩ : S49)).set ((wrap64 (((rd_T48 l3 x49_2).f3))) : Int).toNat (⟨((rd_T49 x10_2 x49_2).f0), ((rd_T49 x10_2 x49_2).f1)⟩ : S49) : List (S49))).bind fun y192 => ((some (y192.set ((ji134) : Int).toNat (⟨(rd_T49 y192 (ji134)).f0, wrap64 (((rd_T48 l3 x49_2).f1))⟩ : S49) : List (S49))).bind fun y193 => (impl_sizes.l0 kj109 l2 l3 (y193.set ((wrap64 (((rd_T48 l3 x49_2).f3))) : Int).toNat (⟨(rd_T49 y193 (wrap64 (((rd_T48 l3 x49_2).f3)))).f0, wrap64 (((rd_T49 y193 (wrap64 (((rd_T48 l3 x49_2).f3)))).f1) - (wrap64 (((rd_T48 l3 x49_2).f1))))⟩ : S49)) ((x11_2.set ((ji134) : Int).toNat true).set ((wrap64 (((rd_T48 l3 x49_2).f3))) : Int).toNat true) l3 (l3.length : Int) (wrap64 (x49_2 + 1))))) else (none)) else (none)) else (some (([] : List (S49)), false)))) else (none)))) else (none)) else (none))) else (none)) else (none)) = some (r1, r2) := by first | (rw [hji134] at H; exact H) | (simp only [hji134] at H ⊢; exact H)
    (try rw [hji134] at c119b0)
    (try rw [hji134] at c125b0)
    (try rw [hji134] at c131b0)
    (try rw [hji134] at c131b1)
    have hji134w : (IntKind.i64.wrap (((rd_T48 l3 x49_2).f2))) = ji134 := (i64_w _).trans hji134
    by_cases c135 : 0 ≤ (ji134)
    rotate_left
    ·
     rw [if_neg c135] at H
     exact absurd H (by simp)
    rw [if_pos c135] at H
    have c135b0 : decide (0 ≤ (ji134)) = true := decide_eq_true c135
    clear c135
    by_cases c136 : (ji134) < (x11_2.length : Int)
    rotate_left
    ·
     rw [if_neg c136] at H
     exact absurd H (by simp)
    rw [if_pos c136] at H
    have c136b0 : decide ((ji134) < (x11_2.length : Int)) = true := decide_eq_true c136
    clear c136
    obtain ⟨bq137, hbq137⟩ : ∃ b_ : Bool, b_ = (rdOf false x11_2 (ji134)) := ⟨_, rfl⟩
    replace H : (if bq137 = true then (some (([] : List (S49)), false)) else (if 0 ≤ (wrap64 (((rd_T48 l3 x49_2).f3))) then (if (wrap64 (((rd_T48 l3 x49_2).f3))) < (x11_2.length : Int) then (if rdOf false x11_2 (wrap64 (((rd_T48 l3 x49_2).f3))) = true then (some (([] : List (S49)), false)) else (if (wrap64 (IntKind.i8.wrap (((rd_T48 l3 x49_2).f0) - 2))) = (0 : Int) then ((impl_within.f (wrap64 (((rd_T48 l3 x49_2).f1))) 1 (wrap64 (((rd_T49 x10_2 x49_2).f0) - 1))).bind fun t180 => (if t180 = true then (if (ji134) < (x10_2.length : Int) then (if (wrap64 (((rd_T48 l3 x49_2).f3))) < (x10_2.length : Int) then ((some ((x10_2.set ((ji134) : Int).toNat (⟨((rd_T49 x10_2 x49_2).f0), ((rd_T49 x10_2 x49_2).f1)⟩ : S49)).set ((wrap64 (((rd_T48 l3 x49_2).f3))) : Int).toNat (⟨((rd_T49 x10_2 x49_2).f0), ((rd_T49 x10_2 x49_2).f1)⟩ : S49) : List (S49))).bind fun y184 => ((some (y184.set ((ji134) : Int).toNat (⟨wrap64 (((rd_T48 l3 x49_2).f1)), (rd_T49 y184 (ji134)).f1⟩ : S49) : List (S49))).bind fun y185 => (impl_sizes.l0 kj109 l2 l3 (y185.set ((wrap64 (((rd_T48 l3 x49_2).f3))) : Int).toNat (⟨wrap64 (((rd_T49 y185 (wrap64 (((rd_T48 l3 x49_2).f3)))).f0) - (wrap64 (((rd_T48 l3 x49_2).f1)))), (rd_T49 y185 (wrap64 (((rd_T48 l3 x49_2).f3)))).f1⟩ : S49)) ((x11_2.set ((ji134) : Int).toNat true).set ((wrap64 (((rd_T48 l3 x49_2).f3))) : Int).toNat true) l3 (l3.length : Int) (wrap64 (x49_2 + 1))))) else (none)) else (none)) else (some (([] : List (S49)), false)))) else (if (wrap64 (IntKind.i8.wrap (((rd_T48 l3 x49_2).f0) - 2))) = (1 : Int) then ((impl_within.f (wrap64 (((rd_T48 l3 x49_2).f1))) 1 (wrap64 (((rd_T49 x10_2 x49_2).f1) - 1))).bind fun t188 => (if t188 = true then (if (ji134) < (x10_2.length : Int) then (if (wrap64 (((rd_T48 l3 x49_2).f3))) < (x10_2.length : Int) then ((some ((x10_2.set ((ji134) : Int).toNat (⟨((rd_T49 x10_2 x49_2).f0), ((rd_T49 x10_2 x49_2).f1)⟩ : S49)).set ((wrap64 (((rd_T48 l3 x49_2).f3))) : Int).toNat (⟨((rd_T49 x10_2 x49_2).f0), ((rd_T49 x10_2 x49_2).f1)⟩ : S49) : List (S49))).bind fun y192 => ((some (y192.set ((ji134) : Int).toNat (⟨(rd_T49 y192 (ji134)).f0, wrap64 (((rd_T48 l3 x49_2).f1))⟩ : S49) : List (S49))).bind fun y193 => (impl_sizes.l0 kj109 l2 l3 (y193.set ((wrap64 (((rd_T48 l3 x49_2).f3))) : Int).toNat (⟨(rd_T49 y193 (wrap64 (((rd_T48 l3 x49_2).f3)))).f0, wrap64 (((rd_T49 y193 (wrap64 (((rd_T48 l3 x49_2).f3)))).f1) - (wrap64 (((rd_T48 l3 x49_2).f1))))⟩ : S49)) ((x11_2.set ((ji134) : Int).toNat true).set ((wrap64 (((rd_T48 l3 x49_2).f3))) : Int).toNat true) l3 (l3.length : Int) (wrap64 (x49_2 + 1))))) else (none)) else (none)) else (some (([] : List (S49)), false)))) else (none)))) else (none)) else (none))) = some (r1, r2) := by rw [← hbq137] at H; exact H
    have Nbq137 := Aside0.mk hbq137
    clear hbq137
    by_cases c138 : bq137 = true
    ·
     subst c138
     replace H := gt_ H
     simp only [Option.some.injEq, Prod.mk.injEq] at H
     obtain ⟨rfl, rfl⟩ := H
     try go_wp2
     replace HO_10 := Aside0.mk (Kd.R_drew HO_10.out)
     replace HO_11 := Aside0.mk (Kd.R_drew HO_11.out)
     replace BK171 := Aside0.mk (blk_drew BK171.out)
     replace BK173 := Aside0.mk (blk_drew BK173.out)
     replace HB := Aside0.mk (below_drew1 HB.out)
     have p178 : 0 ≤ ((ji134) : Int) := od_
     have q178 : (ji134) < (x11_2.length : Int) := od_
     obtain ⟨ad178, e178, hx178_0⟩ := Kd.at_bool (Kd.R_reads' HO_11.out).2.2 (ji134) p178 q178
     (try rw [← Nbq36.out] at hx178_0)
     (try rw [← Nbq137.out] at hx178_0)
     obtain rfl : (⟨go20, 0, none⟩ : Addr) = ad178 := (by injection e178)
     (first | simp only [add_plain] at hx178_0 | simp only [add_at] at hx178_0 | simp only [Addr.add, Nat.zero_add] at hx178_0 | skip)
     replace p178 := eq_true p178
     replace q178 := eq_true q178
     refine start_ (n := 48) (S := fun w' => w'.cell? ⟨go20, ((ji134)).toNat, none⟩ = some (.bool true)) (ds := []) #[false, false, false, false, false, false, false, false, false, false, false, false, false, false, false, false, false, false, false, false, false, false, false, false, false, false, false, false, false, false, false, false, false, false, false, false, false, false, false, false, false, false, false, false, false, false, false, false] (by kernel_rfl) rfl rfl (hx178_0) (fun hHeld => ?_); refine with_tabW impl_sizes.tab23 impl_sizes.bits23 (fun HT_ HW_ => ?_)
     generalize w120.drew = w140 at HO_10 HO_11 BK171 BK173 HB hx178_0 hHeld ⊢
     refine pu_ 0 126 (lA 48 1) ?_ ?_ HT_ ?_
     refine pu_ 1 127 (lA 48 3) ?_ ?_ HT_ ?_
     refine pu_ 2 128 (lA 48 7) ?_ ?_ HT_ ?_
     refine pu_ 3 129 (lA 48 15) ?_ ?_ HT_ ?_
     refine pu_ 4 130 (lA 48 31) ?_ ?_ HT_ ?_
     refine pu_ 5 131 (lA 48 63) ?_ ?_ HT_ ?_
     refine pu_ 6 132 (lA 48 127) ?_ ?_ HT_ ?_
     refine pu_ 7 133 (lA 48 255) ?_ ?_ HT_ ?_
     refine pu_ 8 134 (lA 48 511) ?_ ?_ HT_ ?_
     refine pu_ 9 135 (lA 48 1023) ?_ ?_ HT_ ?_
     refine pu_ 10 136 (lA 48 2047) ?_ ?_ HT_ ?_
     refine pu_ 11 137 (lA 48 4095) ?_ ?_ HT_ ?_
     refine pu_ 12 138 (lA 48 8191) ?_ ?_ HT_ ?_
     refine pu_ 13 139 (lA 48 16383) ?_ ?_ HT_ ?_
     refine pu_ 14 140 (lA 48 32767) ?_ ?_ HT_ ?_
     refine pu_ 15 141 (lA 48 65535) ?_ ?_ HT_ ?_
     refine pu_ 16 142 (lA 48 131071) ?_ ?_ HT_ ?_
     refine pu_ 17 143 (lA 48 262143) ?_ ?_ HT_ ?_
     refine pu_ 18 144 (lA 48 524287) ?_ ?_ HT_ ?_
     refine pu_ 19 145 (lA 48 1048575) ?_ ?_ HT_ ?_
     refine pu_ 20 146 (lA 48 2097151) ?_ ?_ HT_ ?_
     refine pu_ 21 147 (lA 48 4194303) ?_ ?_ HT_ ?_
     refine pu_ 22 148 (lA 48 8388607) ?_ ?_ HT_ ?_
     refine pu_ 23 149 (lA 48 16777215) ?_ ?_ HT_ ?_
     refine pu_ 24 150 (lA 48 33554431) ?_ ?_ HT_ ?_
     refine pu_ 25 151 (lA 48 67108863) ?_ ?_ HT_ ?_
     refine pu_ 26 152 (lA 48 134217727) ?_ ?_ HT_ ?_
     refine pu_ 27 153 (lA 48 268435455) ?_ ?_ HT_ ?_
     refine pu_ 28 154 (lA 48 536870911) ?_ ?_ HT_ ?_
     refine tk_ 29 155 (lA 48 1073741823) ?_ ?_ HT_ HW_ hHeld ?_
     refine pu_ 30 156 (lA 48 2147483647) ?_ ?_ HT_ ?_
     refine pu_ 31 157 (lA 48 4294967295) ?_ ?_ HT_ ?_
     refine pn_ 32 158 (lA 48 8589934591) ?_ HT_ ?_
     refine pn_ 33 159 (lA 48 17179869183) ?_ HT_ ?_
     refine pn_ 34 160 (lA 48 34359738367) ?_ HT_ ?_
     refine pn_ 35 161 (lA 48 68719476735) ?_ HT_ ?_
     refine pu_ 36 162 (lA 48 137438953471) ?_ ?_ HT_ ?_
     refine pu_ 37 163 (lA 48 274877906943) ?_ ?_ HT_ ?_
     refine pn_ 38 164 (lA 48 549755813887) ?_ HT_ ?_
     refine pn_ 39 165 (lA 48 1099511627775) ?_ HT_ ?_
     refine pn_ 40 166 (lA 48 2199023255551) ?_ HT_ ?_
     refine pn_ 41 167 (lA 48 4398046511103) ?_ HT_ ?_
     refine pn_ 42 168 (lA 48 8796093022207) ?_ HT_ ?_
     refine pn_ 43 169 (lA 48 17592186044415) ?_ HT_ ?_
     refine pn_ 44 170 (lA 48 35184372088831) ?_ HT_ ?_
     refine pn_ 45 171 (lA 48 70368744177663) ?_ HT_ ?_
     refine pn_ 46 172 (lA 48 140737488355327) ?_ HT_ ?_
     refine pu_ 47 173 (lA 48 281474976710655) ?_ ?_ HT_ ?_
     refine done_ (done_of HT_.out (by kernel_rfl)) ?_
     try go_wp2
     go_ret2
     exact ⟨_, by first | rfl | (simp [errW_none, errW_some] <;> rfl) | (simp only [← hji134]; first | rfl | (simp [errW_none, errW_some] <;> rfl)) | (simp [*, errW_none, errW_some] <;> rfl), by first | exact Kd.R_nil _ _ _ _ _ | exact Kd.N_nil _ _ _ _ _ | exact Kd.V_nil _ _ _ _ _ | exact Kd.Q_nil _ _ _ _ _ | exact Kd.S_nil _ _ _ _ _, kS_ HB GE171 GE173⟩
    replace c138 := Bool.eq_false_iff.mpr c138
    subst c138
    replace H := gf_ H
    obtain ⟨ji141, hji141⟩ : ∃ j_ : Int, (wrap64 (((rd_T48 l3 x49_2).f3))) = j_ := ⟨_, rfl⟩
    replace H : (if 0 ≤ (ji141) then (if (ji141) < (x11_2.length : Int) then (if rdOf false x11_2 (ji141) = true then (some (([] : List (S49)), false)) else (if (wrap64 (IntKind.i8.wrap (((rd_T48 l3 x49_2).f0) - 2))) = (0 : Int) then ((impl_within.f (wrap64 (((rd_T48 l3 x49_2).f1))) 1 (wrap64 (((rd_T49 x10_2 x49_2).f0) - 1))).bind fun t180 => (if t180 = true then (if (ji134) < (x10_2.length : Int) then (if (ji141) < (x10_2.length : Int) then ((some ((x10_2.set ((ji134) : Int).toNat (⟨((rd_T49 x10_2 x49_2).f0), ((rd_T49 x10_2 x49_2).f1)⟩ : S49)).set ((ji141) : Int).toNat (⟨((rd_T49 x10_2 x49_2).f0), ((rd_T49 x10_2 x49_2).f1)⟩ : S49) : List (S49))).bind fun y184 => ((some (y184.set ((ji134) : Int).toNat (⟨wrap64 (((rd_T48 l3 x49_2).f1)), (rd_T49 y184 (ji134)).f1⟩ : S49) : List (S49))).bind fun y185 => (impl_sizes.l0 kj109 l2 l3 (y185.set ((ji141) : Int).toNat (⟨wrap64 (((rd_T49 y185 (ji141)).f0) - (wrap64 (((rd_T48 l3 x49_2).f1)))), (rd_T49 y185 (ji141)).f1⟩ : S49)) ((x11_2.set ((ji134) : Int).toNat true).set ((ji141) : Int).toNat true) l3 (l3.length : Int) (wrap64 (x49_2 + 1))))) else (none)) else (none)) else (some (([] : List (S49)), false)))) else (if (wrap64 (IntKind.i8.wrap (((rd_T48 l3 x49_2).f0) - 2))) = (1 : Int) then ((impl_within.f (wrap64 (((rd_T48 l3 x49_2).f1))) 1 (wrap64 (((rd_T49 x10_2 x49_2).f1) - 1))).bind fun t188 => (if t188 = true then (if (ji134) < (x10_2.length : Int) then (if (ji141) < (x10_2.length : Int) then ((some ((x10_2.set ((ji134) : Int).toNat (⟨((rd_T49 x10_2 x49_2).f0), ((rd_T49 x10_2 x49_2).f1)⟩ : S49)).set ((ji141) : Int).toNat (⟨((rd_T49 x10_2 x49_2).f0), ((rd_T49 x10_2 x49_2).f1)⟩ : S49) : List (S49))).bind fun y192 => ((some (y192.set ((ji134) : Int).toNat (⟨(rd_T49 y192 (ji134)).f0, wrap64 (((rd_T48 l3 x49_2).f1))⟩ : S49) : List (S49))).bind fun y193 => (impl_sizes.l0 kj109 l2 l3 (y193.set ((ji141) : Int).toNat (⟨(rd_T49 y193 (ji141)).f0, wrap64 (((rd_T49 y193 (ji141)).f1) - (wrap64 (((rd_T48 l3 x49_2).f1))))⟩ : S49)) ((x11_2.set ((ji134) : Int).toNat true).set ((ji141) : Int).toNat true) l3 (l3.length : Int) (wrap64 (x49_2 + 1))))) else (none)) else (none)) else (some (([] : List (S49)), false)))) else (none)))) else (none)) else (none)) = some (r1, r2) := by first | (rw [hji141] at H; exact H) | (simp only [hji141] at H ⊢; exact H)
    (try rw [hji141] at c122b0)
    (try rw [hji141] at c128b0)
    (try rw [hji141] at c131b0)
    (try rw [hji141] at c131b1)
    have hji141w : (IntKind.i64.wrap (((rd_T48 l3 x49_2).f3))) = ji141 := (i64_w _).trans hji141
    by_cases c142 : 0 ≤ (ji141)
    rotate_left
    ·
     rw [if_neg c142] at H
     exact absurd H (by simp)
    rw [if_pos c142] at H
    have c142b0 : decide (0 ≤ (ji141)) = true := decide_eq_true c142
    clear c142
    by_cases c143 : (ji141) < (x11_2.length : Int)
    rotate_left
    ·
     rw [if_neg c143] at H
     exact absurd H (by simp)
    rw [if_pos c143] at H
    have c143b0 : decide ((ji141) < (x11_2.length : Int)) = true := decide_eq_true c143
    clear c143
    obtain ⟨bq144, hbq144⟩ : ∃ b_ : Bool, b_ = (rdOf false x11_2 (ji141)) := ⟨_, rfl⟩
    replace H : (if bq144 = true then (some (([] : List (S49)), false)) else (if (wrap64 (IntKind.i8.wrap (((rd_T48 l3 x49_2).f0) - 2))) = (0 : Int) then ((impl_within.f (wrap64 (((rd_T48 l3 x49_2).f1))) 1 (wrap64 (((rd_T49 x10_2 x49_2).f0) - 1))).bind fun t180 => (if t180 = true then (if (ji134) < (x10_2.length : Int) then (if (ji141) < (x10_2.length : Int) then ((some ((x10_2.set ((ji134) : Int).toNat (⟨((rd_T49 x10_2 x49_2).f0), ((rd_T49 x10_2 x49_2).f1)⟩ : S49)).set ((ji141) : Int).toNat (⟨((rd_T49 x10_2 x49_2).f0), ((rd_T49 x10_2 x49_2).f1)⟩ : S49) : List (S49))).bind fun y184 => ((some (y184.set ((ji134) : Int).toNat (⟨wrap64 (((rd_T48 l3 x49_2).f1)), (rd_T49 y184 (ji134)).f1⟩ : S49) : List (S49))).bind fun y185 => (impl_sizes.l0 kj109 l2 l3 (y185.set ((ji141) : Int).toNat (⟨wrap64 (((rd_T49 y185 (ji141)).f0) - (wrap64 (((rd_T48 l3 x49_2).f1)))), (rd_T49 y185 (ji141)).f1⟩ : S49)) ((x11_2.set ((ji134) : Int).toNat true).set ((ji141) : Int).toNat true) l3 (l3.length : Int) (wrap64 (x49_2 + 1))))) else (none)) else (none)) else (some (([] : List (S49)), false)))) else (if (wrap64 (IntKind.i8.wrap (((rd_T48 l3 x49_2).f0) - 2))) = (1 : Int) then ((impl_within.f (wrap64 (((rd_T48 l3 x49_2).f1))) 1 (wrap64 (((rd_T49 x10_2 x49_2).f1) - 1))).bind fun t188 => (if t188 = true then (if (ji134) < (x10_2.length : Int) then (if (ji141) < (x10_2.length : Int) then ((some ((x10_2.set ((ji134) : Int).toNat (⟨((rd_T49 x10_2 x49_2).f0), ((rd_T49 x10_2 x49_2).f1)⟩ : S49)).set ((ji141) : Int).toNat (⟨((rd_T49 x10_2 x49_2).f0), ((rd_T49 x10_2 x49_2).f1)⟩ : S49) : List (S49))).bind fun y192 => ((some (y192.set ((ji134) : Int).toNat (⟨(rd_T49 y192 (ji134)).f0, wrap64 (((rd_T48 l3 x49_2).f1))⟩ : S49) : List (S49))).bind fun y193 => (impl_sizes.l0 kj109 l2 l3 (y193.set ((ji141) : Int).toNat (⟨(rd_T49 y193 (ji141)).f0, wrap64 (((rd_T49 y193 (ji141)).f1) - (wrap64 (((rd_T48 l3 x49_2).f1))))⟩ : S49)) ((x11_2.set ((ji134) : Int).toNat true).set ((ji141) : Int).toNat true) l3 (l3.length : Int) (wrap64 (x49_2 + 1))))) else (none)) else (none)) else (some (([] : List (S49)), false)))) else (none)))) = some (r1, r2) := by rw [← hbq144] at H; exact H
    have Nbq144 := Aside0.mk hbq144
    clear hbq144
    by_cases c145 : bq144 = true
    ·
     subst c145
     replace H := gt_ H
     simp only [Option.some.injEq, Prod.mk.injEq] at H
     obtain ⟨rfl, rfl⟩ := H
     try go_wp2
     replace HO_10 := Aside0.mk (Kd.R_drew HO_10.out)
     replace HO_11 := Aside0.mk (Kd.R_drew HO_11.out)
     replace BK171 := Aside0.mk (blk_drew BK171.out)
     replace BK173 := Aside0.mk (blk_drew BK173.out)
     replace HB := Aside0.mk (below_drew1 HB.out)
     have p178 : 0 ≤ ((ji134) : Int) := od_
     have q178 : (ji134) < (x11_2.length : Int) := od_
     obtain ⟨ad178, e178, hx178_0⟩ := Kd.at_bool (Kd.R_reads' HO_11.out).2.2 (ji134) p178 q178
     (try rw [← Nbq36.out] at hx178_0)
     (try rw [← Nbq137.out] at hx178_0)
     (try rw [← Nbq144.out] at hx178_0)
     obtain rfl : (⟨go20, 0, none⟩ : Addr) = ad178 := (by injection e178)
     (first | simp only [add_plain] at hx178_0 | simp only [add_at] at hx178_0 | simp only [Addr.add, Nat.zero_add] at hx178_0 | skip)
     replace p178 := eq_true p178
     replace q178 := eq_true q178
     have p179 : 0 ≤ ((ji141) : Int) := od_
     have q179 : (ji141) < (x11_2.length : Int) := od_
     obtain ⟨ad179, e179, hx179_0⟩ := Kd.at_bool (Kd.R_reads' HO_11.out).2.2 (ji141) p179 q179
     (try rw [← Nbq36.out] at hx179_0)
     (try rw [← Nbq137.out] at hx179_0)
     (try rw [← Nbq144.out] at hx179_0)
     obtain rfl : (⟨go20, 0, none⟩ : Addr) = ad179 := (by injection e179)
     (first | simp only [add_plain] at hx179_0 | simp only [add_at] at hx179_0 | simp only [Addr.add, Nat.zero_add] at hx179_0 | skip)
     replace p179 := eq_true p179
     replace q179 := eq_true q179
     refine start_ (n := 48) (S := fun w' => w'.cell? ⟨go20, ((ji134)).toNat, none⟩ = some (.bool false) ∧ w'.cell? ⟨go20, ((ji141)).toNat, none⟩ = some (.bool true)) (ds := []) #[false, false, false, false, false, false, false, false, false, false, false, false, false, false, false, false, false, false, false, false, false, false, false, false, false, false, false, false, false, false, false, false, false, false, false, false, false, false, false, false, false, false, false, false, false, false, false, false] (by kernel_rfl) rfl rfl ⟨hx178_0, hx179_0⟩ (fun hHeld => ?_); refine with_tabW impl_sizes.tab23 impl_sizes.bits23 (fun HT_ HW_ => ?_)
     generalize w120.drew = w147 at HO_10 HO_11 BK171 BK173 HB hx178_0 hx179_0 hHeld ⊢
     refine pu_ 0 126 (lA 48 1) ?_ ?_ HT_ ?_
     refine pu_ 1 127 (lA 48 3) ?_ ?_ HT_ ?_
     refine pu_ 2 128 (lA 48 7) ?_ ?_ HT_ ?_
     refine pu_ 3 129 (lA 48 15) ?_ ?_ HT_ ?_
     refine pu_ 4 130 (lA 48 31) ?_ ?_ HT_ ?_
     refine pu_ 5 131 (lA 48 63) ?_ ?_ HT_ ?_
     refine pu_ 6 132 (lA 48 127) ?_ ?_ HT_ ?_
     refine pu_ 7 133 (lA 48 255) ?_ ?_ HT_ ?_
     refine pu_ 8 134 (lA 48 511) ?_ ?_ HT_ ?_
     refine pu_ 9 135 (lA 48 1023) ?_ ?_ HT_ ?_
     refine pu_ 10 136 (lA 48 2047) ?_ ?_ HT_ ?_
     refine pu_ 11 137 (lA 48 4095) ?_ ?_ HT_ ?_
     refine pu_ 12 138 (lA 48 8191) ?_ ?_ HT_ ?_
     refine pu_ 13 139 (lA 48 16383) ?_ ?_ HT_ ?_
     refine pu_ 14 140 (lA 48 32767) ?_ ?_ HT_ ?_
     refine pu_ 15 141 (lA 48 65535) ?_ ?_ HT_ ?_
     refine pu_ 16 142 (lA 48 131071) ?_ ?_ HT_ ?_
     refine pu_ 17 143 (lA 48 262143) ?_ ?_ HT_ ?_
     refine pu_ 18 144 (lA 48 524287) ?_ ?_ HT_ ?_
     refine pu_ 19 145 (lA 48 1048575) ?_ ?_ HT_ ?_
     refine pu_ 20 146 (lA 48 2097151) ?_ ?_ HT_ ?_
     refine pu_ 21 147 (lA 48 4194303) ?_ ?_ HT_ ?_
     refine pu_ 22 148 (lA 48 8388607) ?_ ?_ HT_ ?_
     refine pu_ 23 149 (lA 48 16777215) ?_ ?_ HT_ ?_
     refine pu_ 24 150 (lA 48 33554431) ?_ ?_ HT_ ?_
     refine pu_ 25 151 (lA 48 67108863) ?_ ?_ HT_ ?_
     refine pu_ 26 152 (lA 48 134217727) ?_ ?_ HT_ ?_
     refine pu_ 27 153 (lA 48 268435455) ?_ ?_ HT_ ?_
     refine pu_ 28 154 (lA 48 536870911) ?_ ?_ HT_ ?_
     refine tk_ 29 155 (lA 48 1073741823) ?_ ?_ HT_ HW_ hHeld ?_
     refine pu_ 30 156 (lA 48 2147483647) ?_ ?_ HT_ ?_
     refine pu_ 31 157 (lA 48 4294967295) ?_ ?_ HT_ ?_
     refine pu_ 32 158 (lA 48 8589934591) ?_ ?_ HT_ ?_
     refine pu_ 33 159 (lA 48 17179869183) ?_ ?_ HT_ ?_
     refine pu_ 34 160 (lA 48 34359738367) ?_ ?_ HT_ ?_
     refine tk_ 35 161 (lA 48 68719476735) ?_ ?_ HT_ HW_ hHeld ?_
     refine pu_ 36 162 (lA 48 137438953471) ?_ ?_ HT_ ?_
     refine pu_ 37 163 (lA 48 274877906943) ?_ ?_ HT_ ?_
     refine pn_ 38 164 (lA 48 549755813887) ?_ HT_ ?_
     refine pn_ 39 165 (lA 48 1099511627775) ?_ HT_ ?_
     refine pn_ 40 166 (lA 48 2199023255551) ?_ HT_ ?_
     refine pn_ 41 167 (lA 48 4398046511103) ?_ HT_ ?_
     refine pn_ 42 168 (lA 48 8796093022207) ?_ HT_ ?_
     refine pn_ 43 169 (lA 48 17592186044415) ?_ HT_ ?_
     refine pn_ 44 170 (lA 48 35184372088831) ?_ HT_ ?_
     refine pn_ 45 171 (lA 48 70368744177663) ?_ HT_ ?_
     refine pn_ 46 172 (lA 48 140737488355327) ?_ HT_ ?_
     refine pu_ 47 173 (lA 48 281474976710655) ?_ ?_ HT_ ?_
     refine done_ (done_of HT_.out (by kernel_rfl)) ?_
     try go_wp2
     go_ret2
     exact ⟨_, by first | rfl | (simp [errW_none, errW_some] <;> rfl) | (simp only [← hji134, ← hji141]; first | rfl | (simp [errW_none, errW_some] <;> rfl)) | (simp [*, errW_none, errW_some] <;> rfl), by first | exact Kd.R_nil _ _ _ _ _ | exact Kd.N_nil _ _ _ _ _ | exact Kd.V_nil _ _ _ _ _ | exact Kd.Q_nil _ _ _ _ _ | exact Kd.S_nil _ _ _ _ _, kS_ HB GE171 GE173⟩
    replace c145 := Bool.eq_false_iff.mpr c145
    subst c145
    replace H := gf_ H
    by_cases c148 : (wrap64 (IntKind.i8.wrap (((rd_T48 l3 x49_2).f0) - 2))) = (0 : Int)
    ·
     rw [if_pos c148] at H
     (try (have c148b0 : (wrap64 (IntKind.i8.wrap (((rd_T48 l3 x49_2).f0) - 2))) = (0 : Int) := c148))
     clear c148
     obtain ⟨t180, A149, H⟩ := be_ H
     (try dsimp only at H)
     rcases (Decidable.em (t180 = true)).symm with c150 | c150
     ·
      as_aux_lemma =>
      replace c150 := Bool.eq_false_iff.mpr c150
      subst c150
      replace H := gf_ H
      simp only [Option.some.injEq, Prod.mk.injEq] at H
      obtain ⟨rfl, rfl⟩ := H
      try go_wp2
      replace HO_10 := Aside0.mk (Kd.R_drew HO_10.out)
      replace HO_11 := Aside0.mk (Kd.R_drew HO_11.out)
      replace BK171 := Aside0.mk (blk_drew BK171.out)
      replace BK173 := Aside0.mk (blk_drew BK173.out)
      replace HB := Aside0.mk (below_drew1 HB.out)
      have p178 : 0 ≤ ((ji134) : Int) := od_
      have q178 : (ji134) < (x11_2.length : Int) := od_
      obtain ⟨ad178, e178, hx178_0⟩ := Kd.at_bool (Kd.R_reads' HO_11.out).2.2 (ji134) p178 q178
      (try rw [← Nbq36.out] at hx178_0)
      (try rw [← Nbq137.out] at hx178_0)
      (try rw [← Nbq144.out] at hx178_0)
      obtain rfl : (⟨go20, 0, none⟩ : Addr) = ad178 := (by injection e178)
      (first | simp only [add_plain] at hx178_0 | simp only [add_at] at hx178_0 | simp only [Addr.add, Nat.zero_add] at hx178_0 | skip)
      replace p178 := eq_true p178
      replace q178 := eq_true q178
      have p179 : 0 ≤ ((ji141) : Int) := od_
      have q179 : (ji141) < (x11_2.length : Int) := od_
      obtain ⟨ad179, e179, hx179_0⟩ := Kd.at_bool (Kd.R_reads' HO_11.out).2.2 (ji141) p179 q179
      (try rw [← Nbq36.out] at hx179_0)
      (try rw [← Nbq137.out] at hx179_0)
      (try rw [← Nbq144.out] at hx179_0)
      obtain rfl : (⟨go20, 0, none⟩ : Addr) = ad179 := (by injection e179)
      (first | simp only [add_plain] at hx179_0 | simp only [add_at] at hx179_0 | simp only [Addr.add, Nat.zero_add] at hx179_0 | skip)
      replace p179 := eq_true p179
      replace q179 := eq_true q179
      refine start_ (n := 48) (S := fun w' => w'.cell? ⟨gb171, 0, none⟩ = some (.int .i8 ((rd_T48 l3 x49_2).f0)) ∧ w'.cell? ⟨gb171, 1, none⟩ = some (.int .i8 ((rd_T48 l3 x49_2).f1)) ∧ w'.cell? ⟨gb171, 2, none⟩ = some (.int .i8 ((rd_T48 l3 x49_2).f2)) ∧ w'.cell? ⟨gb171, 3, none⟩ = some (.int .i8 ((rd_T48 l3 x49_2).f3)) ∧ w'.cell? ⟨gb173, 0, none⟩ = some (.int .i64 ((rd_T49 x10_2 x49_2).f0)) ∧ w'.cell? ⟨gb173, 1, none⟩ = some (.int .i64 ((rd_T49 x10_2 x49_2).f1)) ∧ w'.cell? ⟨go20, ((ji134)).toNat, none⟩ = some (.bool false) ∧ w'.cell? ⟨go20, ((ji141)).toNat, none⟩ = some (.bool false)) (ds := []) #[false, false, false, false, false, false, false, false, false, false, false, false, false, false, false, false, false, false, false, false, false, false, false, false, false, false, false, false, false, false, false, false, false, false, false, false, false, false, false, false, false, false, false, false, false, false, false, false] (by kernel_rfl) rfl rfl ⟨(blk_cell BK171.out 0).trans rfl, (blk_cell BK171.out 1).trans rfl, (blk_cell BK171.out 2).trans rfl, (blk_cell BK171.out 3).trans rfl, (blk_cell BK173.out 0).trans rfl, (blk_cell BK173.out 1).trans rfl, hx178_0, hx179_0⟩ (fun hHeld => ?_); refine with_tabW impl_sizes.tab23 impl_sizes.bits23 (fun HT_ HW_ => ?_)
      generalize w120.drew = w175 at HO_10 HO_11 BK171 BK173 HB hx178_0 hx179_0 hHeld ⊢
      refine pu_ 0 126 (lA 48 1) ?_ ?_ HT_ ?_
      refine pu_ 1 127 (lA 48 3) ?_ ?_ HT_ ?_
      refine pu_ 2 128 (lA 48 7) ?_ ?_ HT_ ?_
      refine pu_ 3 129 (lA 48 15) ?_ ?_ HT_ ?_
      refine pu_ 4 130 (lA 48 31) ?_ ?_ HT_ ?_
      refine pu_ 5 131 (lA 48 63) ?_ ?_ HT_ ?_
      refine pu_ 6 132 (lA 48 127) ?_ ?_ HT_ ?_
      refine pu_ 7 133 (lA 48 255) ?_ ?_ HT_ ?_
      refine pu_ 8 134 (lA 48 511) ?_ ?_ HT_ ?_
      refine pu_ 9 135 (lA 48 1023) ?_ ?_ HT_ ?_
      refine pu_ 10 136 (lA 48 2047) ?_ ?_ HT_ ?_
      refine pu_ 11 137 (lA 48 4095) ?_ ?_ HT_ ?_
      refine pu_ 12 138 (lA 48 8191) ?_ ?_ HT_ ?_
      refine pu_ 13 139 (lA 48 16383) ?_ ?_ HT_ ?_
      refine pu_ 14 140 (lA 48 32767) ?_ ?_ HT_ ?_
      refine pu_ 15 141 (lA 48 65535) ?_ ?_ HT_ ?_
      refine pu_ 16 142 (lA 48 131071) ?_ ?_ HT_ ?_
      refine pu_ 17 143 (lA 48 262143) ?_ ?_ HT_ ?_
      refine pu_ 18 144 (lA 48 524287) ?_ ?_ HT_ ?_
      refine pu_ 19 145 (lA 48 1048575) ?_ ?_ HT_ ?_
      refine pu_ 20 146 (lA 48 2097151) ?_ ?_ HT_ ?_
      refine pu_ 21 147 (lA 48 4194303) ?_ ?_ HT_ ?_
      refine pu_ 22 148 (lA 48 8388607) ?_ ?_ HT_ ?_
      refine pu_ 23 149 (lA 48 16777215) ?_ ?_ HT_ ?_
      refine pu_ 24 150 (lA 48 33554431) ?_ ?_ HT_ ?_
      refine pu_ 25 151 (lA 48 67108863) ?_ ?_ HT_ ?_
      refine pu_ 26 152 (lA 48 134217727) ?_ ?_ HT_ ?_
      refine pu_ 27 153 (lA 48 268435455) ?_ ?_ HT_ ?_
      refine pu_ 28 154 (lA 48 536870911) ?_ ?_ HT_ ?_
      refine tk_ 29 155 (lA 48 1073741823) ?_ ?_ HT_ HW_ hHeld ?_
      refine pu_ 30 156 (lA 48 2147483647) ?_ ?_ HT_ ?_
      refine pu_ 31 157 (lA 48 4294967295) ?_ ?_ HT_ ?_
      refine pu_ 32 158 (lA 48 8589934591) ?_ ?_ HT_ ?_
      refine pu_ 33 159 (lA 48 17179869183) ?_ ?_ HT_ ?_
      refine pu_ 34 160 (lA 48 34359738367) ?_ ?_ HT_ ?_
      refine tk_ 35 161 (lA 48 68719476735) ?_ ?_ HT_ HW_ hHeld ?_
      refine pu_ 36 162 (lA 48 137438953471) ?_ ?_ HT_ ?_
      refine pu_ 37 163 (lA 48 274877906943) ?_ ?_ HT_ ?_
      refine pu_ 38 164 (lA 48 549755813887) ?_ ?_ HT_ ?_
      refine pu_ 41 167 (lA 48 2748779069439) ?_ ?_ HT_ ?_
      refine pu_ 42 168 (lA 48 7146825580543) ?_ ?_ HT_ ?_
      refine tk_ 39 165 (lA 48 7696581394431) ?_ ?_ HT_ HW_ hHeld ?_
      refine pu_ 40 166 (lA 48 8796093022207) ?_ ?_ HT_ ?_
      refine tk_ 43 169 (lA 48 17592186044415) ?_ ?_ HT_ HW_ hHeld ?_
      refine pu_ 44 170 (lA 48 35184372088831) ?_ ?_ HT_ ?_
      refine one_ (i := 45) (N := some 171) (lA 48 70368744177663) rfl rfl (one_of HT_.out (by kernel_rfl)) (by decide) (fun K hK => ?_)
      refine goes_ Try.func32 (by kernel_rfl) rfl #[.int .i64 (wrap64 (((rd_T48 l3 x49_2).f1))), .int .i64 1, .int .i64 (wrap64 (((rd_T49 x10_2 x49_2).f0) - 1))] (by rfl) rfl rfl (by (try simp only [List.map_toArray, List.map_cons, List.map_nil]); first | done | rfl | (simp only [List.length_drop, List.length_take]; rfl)) ?_
      with_reducible refine (impl_within.calls (wrap64 (((rd_T48 l3 x49_2).f1))) 1 (wrap64 (((rd_T49 x10_2 x49_2).f0) - 1)) false _ A149.out).mono ?_
      rintro e w' ⟨rfl, ⟨nd, rfl⟩⟩
      refine ⟨_, rfl, ?_⟩
      refine hK.out _ _ ⟨(blk_cell BK171.out 0).trans rfl, (blk_cell BK171.out 1).trans rfl, (blk_cell BK171.out 2).trans rfl, (blk_cell BK171.out 3).trans rfl, (blk_cell BK173.out 0).trans rfl, (blk_cell BK173.out 1).trans rfl, hHeld.2.2.2.2.2.2.1, hHeld.2.2.2.2.2.2.2⟩ (fun hHeld => ?_)
      clear hK K
      refine norm_ (a' := ?_) ?_ ?_
      rotate_left
      ·
       show Act.put _ (some 171) _ = _
       simp only [Act.put, List.setIfInBounds_toArray, List.set_cons_zero, List.set_cons_succ, i64_w, i32_w]
       rfl
      refine pu_ 46 172 (lA 48 140737488355327) ?_ ?_ HT_ ?_
      refine pu_ 47 173 (lA 48 281474976710655) ?_ ?_ HT_ ?_
      refine done_ (done_of HT_.out (by kernel_rfl)) ?_
      try go_wp2
      go_ret2
      exact ⟨_, by first | rfl | (simp [errW_none, errW_some] <;> rfl) | (simp only [← hji134, ← hji141]; first | rfl | (simp [errW_none, errW_some] <;> rfl)) | (simp [*, errW_none, errW_some] <;> rfl), by first | exact Kd.R_nil _ _ _ _ _ | exact Kd.N_nil _ _ _ _ _ | exact Kd.V_nil _ _ _ _ _ | exact Kd.Q_nil _ _ _ _ _ | exact Kd.S_nil _ _ _ _ _, kS_ HB GE171 GE173⟩
     subst c150
     replace H := gt_ H
     obtain ⟨y181, hy181⟩ : ∃ y_ : List Bool, y_ = (x11_2.set ((ji134) : Int).toNat true) := ⟨_, rfl⟩
     replace H : (if (ji134) < (x10_2.length : Int) then (if (ji141) < (x10_2.length : Int) then ((some ((x10_2.set ((ji134) : Int).toNat (⟨((rd_T49 x10_2 x49_2).f0), ((rd_T49 x10_2 x49_2).f1)⟩ : S49)).set ((ji141) : Int).toNat (⟨((rd_T49 x10_2 x49_2).f0), ((rd_T49 x10_2 x49_2).f1)⟩ : S49) : List (S49))).bind fun y184 => ((some (y184.set ((ji134) : Int).toNat (⟨wrap64 (((rd_T48 l3 x49_2).f1)), (rd_T49 y184 (ji134)).f1⟩ : S49) : List (S49))).bind fun y185 => (impl_sizes.l0 kj109 l2 l3 (y185.set ((ji141) : Int).toNat (⟨wrap64 (((rd_T49 y185 (ji141)).f0) - (wrap64 (((rd_T48 l3 x49_2).f1)))), (rd_T49 y185 (ji141)).f1⟩ : S49)) (y181.set ((ji141) : Int).toNat true) l3 (l3.length : Int) (wrap64 (x49_2 + 1))))) else (none)) else (none)) = some (r1, r2) := by first | (rw [hy181]; with_reducible exact H) | (have H2_ := (Option.bind_some _ _).symm.trans H; rw [hy181]; with_reducible exact H2_) | (have H2_ := (Option.bind_some _ _).symm.trans H; with_reducible exact H2_) | with_reducible exact H | (rw [hy181]; exact H) | exact H
     have Ny181 := Aside0.mk hy181
     clear hy181
     obtain ⟨y182, hy182⟩ : ∃ y_ : List Bool, y_ = (y181.set ((ji141) : Int).toNat true) := ⟨_, rfl⟩
     replace H : (if (ji134) < (x10_2.length : Int) then (if (ji141) < (x10_2.length : Int) then ((some ((x10_2.set ((ji134) : Int).toNat (⟨((rd_T49 x10_2 x49_2).f0), ((rd_T49 x10_2 x49_2).f1)⟩ : S49)).set ((ji141) : Int).toNat (⟨((rd_T49 x10_2 x49_2).f0), ((rd_T49 x10_2 x49_2).f1)⟩ : S49) : List (S49))).bind fun y184 => ((some (y184.set ((ji134) : Int).toNat (⟨wrap64 (((rd_T48 l3 x49_2).f1)), (rd_T49 y184 (ji134)).f1⟩ : S49) : List (S49))).bind fun y185 => (impl_sizes.l0 kj109 l2 l3 (y185.set ((ji141) : Int).toNat (⟨wrap64 (((rd_T49 y185 (ji141)).f0) - (wrap64 (((rd_T48 l3 x49_2).f1)))), (rd_T49 y185 (ji141)).f1⟩ : S49)) y182 l3 (l3.length : Int) (wrap64 (x49_2 + 1))))) else (none)) else (none)) = some (r1, r2) := by first | (rw [hy182]; with_reducible exact H) | (have H2_ := (Option.bind_some _ _).symm.trans H; rw [hy182]; with_reducible exact H2_) | (have H2_ := (Option.bind_some _ _).symm.trans H; with_reducible exact H2_) | with_reducible exact H | (rw [hy182]; exact H) | exact H
     have Ny182 := Aside0.mk hy182
     clear hy182
     by_cases c153 : (ji134) < (x10_2.length : Int)
     rotate_left
     ·
      rw [if_neg c153] at H
      exact absurd H (by simp)
     rw [if_pos c153] at H
     have c153b0 : decide ((ji134) < (x10_2.length : Int)) = true := decide_eq_true c153
     clear c153
     obtain ⟨y183, hy183⟩ : ∃ y_ : List (S49), y_ = (x10_2.set ((ji134) : Int).toNat (⟨((rd_T49 x10_2 x49_2).f0), ((rd_T49 x10_2 x49_2).f1)⟩ : S49)) := ⟨_, rfl⟩
     replace H : (if (ji141) < (x10_2.length : Int) then ((some (y183.set ((ji141) : Int).toNat (⟨((rd_T49 x10_2 x49_2).f0), ((rd_T49 x10_2 x49_2).f1)⟩ : S49) : List (S49))).bind fun y184 => ((some (y184.set ((ji134) : Int).toNat (⟨wrap64 (((rd_T48 l3 x49_2).f1)), (rd_T49 y184 (ji134)).f1⟩ : S49) : List (S49))).bind fun y185 => (impl_sizes.l0 kj109 l2 l3 (y185.set ((ji141) : Int).toNat (⟨wrap64 (((rd_T49 y185 (ji141)).f0) - (wrap64 (((rd_T48 l3 x49_2).f1)))), (rd_T49 y185 (ji141)).f1⟩ : S49)) y182 l3 (l3.length : Int) (wrap64 (x49_2 + 1))))) else (none)) = some (r1, r2) := by first | (rw [hy183]; with_reducible exact H) | (have H2_ := (Option.bind_some _ _).symm.trans H; rw [hy183]; with_reducible exact H2_) | (have H2_ := (Option.bind_some _ _).symm.trans H; with_reducible exact H2_) | with_reducible exact H | (rw [hy183]; exact H) | exact H
     have Ny183 := Aside0.mk hy183
     clear hy183
     by_cases c155 : (ji141) < (x10_2.length : Int)
     rotate_left
     ·
      rw [if_neg c155] at H
      exact absurd H (by simp)
     rw [if_pos c155] at H
     have c155b0 : decide ((ji141) < (x10_2.length : Int)) = true := decide_eq_true c155
     clear c155
     obtain ⟨y184, hy184⟩ : ∃ y_ : List (S49), y_ = (y183.set ((ji141) : Int).toNat (⟨((rd_T49 x10_2 x49_2).f0), ((rd_T49 x10_2 x49_2).f1)⟩ : S49)) := ⟨_, rfl⟩
     replace H : ((some (y184.set ((ji134) : Int).toNat (⟨wrap64 (((rd_T48 l3 x49_2).f1)), (rd_T49 y184 (ji134)).f1⟩ : S49) : List (S49))).bind fun y185 => (impl_sizes.l0 kj109 l2 l3 (y185.set ((ji141) : Int).toNat (⟨wrap64 (((rd_T49 y185 (ji141)).f0) - (wrap64 (((rd_T48 l3 x49_2).f1)))), (rd_T49 y185 (ji141)).f1⟩ : S49)) y182 l3 (l3.length : Int) (wrap64 (x49_2 + 1)))) = some (r1, r2) := by first | (rw [hy184]; with_reducible exact H) | (have H2_ := (Option.bind_some _ _).symm.trans H; rw [hy184]; with_reducible exact H2_) | (have H2_ := (Option.bind_some _ _).symm.trans H; with_reducible exact H2_) | with_reducible exact H | (rw [hy184]; exact H) | exact H
     have Ny184 := Aside0.mk hy184
     clear hy184
     obtain ⟨y185, hy185⟩ : ∃ y_ : List (S49), y_ = (y184.set ((ji134) : Int).toNat (⟨wrap64 (((rd_T48 l3 x49_2).f1)), (rd_T49 y184 (ji134)).f1⟩ : S49)) := ⟨_, rfl⟩
     replace H : (impl_sizes.l0 kj109 l2 l3 (y185.set ((ji141) : Int).toNat (⟨wrap64 (((rd_T49 y185 (ji141)).f0) - (wrap64 (((rd_T48 l3 x49_2).f1)))), (rd_T49 y185 (ji141)).f1⟩ : S49)) y182 l3 (l3.length : Int) (wrap64 (x49_2 + 1))) = some (r1, r2) := by first | (rw [hy185]; with_reducible exact H) | (have H2_ := (Option.bind_some _ _).symm.trans H; rw [hy185]; with_reducible exact H2_) | (have H2_ := (Option.bind_some _ _).symm.trans H; with_reducible exact H2_) | with_reducible exact H | (rw [hy185]; exact H) | exact H
     have Ny185 := Aside0.mk hy185
     clear hy185
     obtain ⟨y187, hy187⟩ : ∃ y_ : List (S49), y_ = (y185.set ((ji141) : Int).toNat (⟨wrap64 (((rd_T49 y185 (ji141)).f0) - (wrap64 (((rd_T48 l3 x49_2).f1)))), (rd_T49 y185 (ji141)).f1⟩ : S49)) := ⟨_, rfl⟩
     replace H : (impl_sizes.l0 kj109 l2 l3 y187 y182 l3 (l3.length : Int) (wrap64 (x49_2 + 1))) = some (r1, r2) := by first | (rw [hy187]; with_reducible exact H) | (have H2_ := (Option.bind_some _ _).symm.trans H; rw [hy187]; with_reducible exact H2_) | (have H2_ := (Option.bind_some _ _).symm.trans H; with_reducible exact H2_) | with_reducible exact H | (rw [hy187]; exact H) | exact H
     have Ny187 := Aside0.mk hy187
     clear hy187
     have H' := Aside0.mk H
     clear H
     try go_wp2
     replace HO_10 := Aside0.mk (Kd.R_drew HO_10.out)
     replace HO_11 := Aside0.mk (Kd.R_drew HO_11.out)
     replace BK171 := Aside0.mk (blk_drew BK171.out)
     replace BK173 := Aside0.mk (blk_drew BK173.out)
     replace HB := Aside0.mk (below_drew1 HB.out)
     have p178 : 0 ≤ ((ji134) : Int) := od_
     have q178 : (ji134) < (x11_2.length : Int) := od_
     obtain ⟨ad178, e178, hx178_0⟩ := Kd.at_bool (Kd.R_reads' HO_11.out).2.2 (ji134) p178 q178
     (try rw [← Nbq36.out] at hx178_0)
     (try rw [← Nbq137.out] at hx178_0)
     (try rw [← Nbq144.out] at hx178_0)
     obtain rfl : (⟨go20, 0, none⟩ : Addr) = ad178 := (by injection e178)
     (first | simp only [add_plain] at hx178_0 | simp only [add_at] at hx178_0 | simp only [Addr.add, Nat.zero_add] at hx178_0 | skip)
     replace p178 := eq_true p178
     replace q178 := eq_true q178
     have p179 : 0 ≤ ((ji141) : Int) := od_
     have q179 : (ji141) < (x11_2.length : Int) := od_
     obtain ⟨ad179, e179, hx179_0⟩ := Kd.at_bool (Kd.R_reads' HO_11.out).2.2 (ji141) p179 q179
     (try rw [← Nbq36.out] at hx179_0)
     (try rw [← Nbq137.out] at hx179_0)
     (try rw [← Nbq144.out] at hx179_0)
     obtain rfl : (⟨go20, 0, none⟩ : Addr) = ad179 := (by injection e179)
     (first | simp only [add_plain] at hx179_0 | simp only [add_at] at hx179_0 | simp only [Addr.add, Nat.zero_add] at hx179_0 | skip)
     replace p179 := eq_true p179
     replace q179 := eq_true q179
     refine start_ (n := 48) (S := fun w' => w'.cell? ⟨gb171, 0, none⟩ = some (.int .i8 ((rd_T48 l3 x49_2).f0)) ∧ w'.cell? ⟨gb171, 1, none⟩ = some (.int .i8 ((rd_T48 l3 x49_2).f1)) ∧ w'.cell? ⟨gb171, 2, none⟩ = some (.int .i8 ((rd_T48 l3 x49_2).f2)) ∧ w'.cell? ⟨gb171, 3, none⟩ = some (.int .i8 ((rd_T48 l3 x49_2).f3)) ∧ w'.cell? ⟨gb173, 0, none⟩ = some (.int .i64 ((rd_T49 x10_2 x49_2).f0)) ∧ w'.cell? ⟨gb173, 1, none⟩ = some (.int .i64 ((rd_T49 x10_2 x49_2).f1)) ∧ w'.cell? ⟨go20, ((ji134)).toNat, none⟩ = some (.bool false) ∧ w'.cell? ⟨go20, ((ji141)).toNat, none⟩ = some (.bool false)) (ds := []) #[false, false, false, false, false, false, false, false, false, false, false, false, false, false, false, false, false, false, false, false, false, false, false, false, false, false, false, false, false, false, false, false, false, false, false, false, false, false, false, false, false, false, false, false, false, false, false, false] (by kernel_rfl) rfl rfl ⟨(blk_cell BK171.out 0).trans rfl, (blk_cell BK171.out 1).trans rfl, (blk_cell BK171.out 2).trans rfl, (blk_cell BK171.out 3).trans rfl, (blk_cell BK173.out 0).trans rfl, (blk_cell BK173.out 1).trans rfl, hx178_0, hx179_0⟩ (fun hHeld => ?_); refine with_tabW impl_sizes.tab23 impl_sizes.bits23 (fun HT_ HW_ => ?_)
     generalize w120.drew = w160 at HO_10 HO_11 BK171 BK173 HB hx178_0 hx179_0 hHeld ⊢
     refine pu_ 0 126 (lA 48 1) ?_ ?_ HT_ ?_
     refine pu_ 1 127 (lA 48 3) ?_ ?_ HT_ ?_
     refine pu_ 2 128 (lA 48 7) ?_ ?_ HT_ ?_
     refine pu_ 3 129 (lA 48 15) ?_ ?_ HT_ ?_
     refine pu_ 4 130 (lA 48 31) ?_ ?_ HT_ ?_
     refine pu_ 5 131 (lA 48 63) ?_ ?_ HT_ ?_
     refine pu_ 6 132 (lA 48 127) ?_ ?_ HT_ ?_
     refine pu_ 7 133 (lA 48 255) ?_ ?_ HT_ ?_
     refine pu_ 8 134 (lA 48 511) ?_ ?_ HT_ ?_
     refine pu_ 9 135 (lA 48 1023) ?_ ?_ HT_ ?_
     refine pu_ 10 136 (lA 48 2047) ?_ ?_ HT_ ?_
     refine pu_ 11 137 (lA 48 4095) ?_ ?_ HT_ ?_
     refine pu_ 12 138 (lA 48 8191) ?_ ?_ HT_ ?_
     refine pu_ 13 139 (lA 48 16383) ?_ ?_ HT_ ?_
     refine pu_ 14 140 (lA 48 32767) ?_ ?_ HT_ ?_
     refine pu_ 15 141 (lA 48 65535) ?_ ?_ HT_ ?_
     refine pu_ 16 142 (lA 48 131071) ?_ ?_ HT_ ?_
     refine pu_ 17 143 (lA 48 262143) ?_ ?_ HT_ ?_
     refine pu_ 18 144 (lA 48 524287) ?_ ?_ HT_ ?_
     refine pu_ 19 145 (lA 48 1048575) ?_ ?_ HT_ ?_
     refine pu_ 20 146 (lA 48 2097151) ?_ ?_ HT_ ?_
     refine pu_ 21 147 (lA 48 4194303) ?_ ?_ HT_ ?_
     refine pu_ 22 148 (lA 48 8388607) ?_ ?_ HT_ ?_
     refine pu_ 23 149 (lA 48 16777215) ?_ ?_ HT_ ?_
     refine pu_ 24 150 (lA 48 33554431) ?_ ?_ HT_ ?_
     refine pu_ 25 151 (lA 48 67108863) ?_ ?_ HT_ ?_
     refine pu_ 26 152 (lA 48 134217727) ?_ ?_ HT_ ?_
     refine pu_ 27 153 (lA 48 268435455) ?_ ?_ HT_ ?_
     refine pu_ 28 154 (lA 48 536870911) ?_ ?_ HT_ ?_
     refine tk_ 29 155 (lA 48 1073741823) ?_ ?_ HT_ HW_ hHeld ?_
     refine pu_ 30 156 (lA 48 2147483647) ?_ ?_ HT_ ?_
     refine pu_ 31 157 (lA 48 4294967295) ?_ ?_ HT_ ?_
     refine pu_ 32 158 (lA 48 8589934591) ?_ ?_ HT_ ?_
     refine pu_ 33 159 (lA 48 17179869183) ?_ ?_ HT_ ?_
     refine pu_ 34 160 (lA 48 34359738367) ?_ ?_ HT_ ?_
     refine tk_ 35 161 (lA 48 68719476735) ?_ ?_ HT_ HW_ hHeld ?_
     refine pu_ 36 162 (lA 48 137438953471) ?_ ?_ HT_ ?_
     refine pu_ 37 163 (lA 48 274877906943) ?_ ?_ HT_ ?_
     refine pu_ 38 164 (lA 48 549755813887) ?_ ?_ HT_ ?_
     refine pu_ 41 167 (lA 48 2748779069439) ?_ ?_ HT_ ?_
     refine pu_ 42 168 (lA 48 7146825580543) ?_ ?_ HT_ ?_
     refine tk_ 39 165 (lA 48 7696581394431) ?_ ?_ HT_ HW_ hHeld ?_
     refine pu_ 40 166 (lA 48 8796093022207) ?_ ?_ HT_ ?_
     refine tk_ 43 169 (lA 48 17592186044415) ?_ ?_ HT_ HW_ hHeld ?_
     refine pu_ 44 170 (lA 48 35184372088831) ?_ ?_ HT_ ?_
     refine one_ (i := 45) (N := some 171) (lA 48 70368744177663) rfl rfl (one_of HT_.out (by kernel_rfl)) (by decide) (fun K hK => ?_)
     refine goes_ Try.func32 (by kernel_rfl) rfl #[.int .i64 (wrap64 (((rd_T48 l3 x49_2).f1))), .int .i64 1, .int .i64 (wrap64 (((rd_T49 x10_2 x49_2).f0) - 1))] (by rfl) rfl rfl (by (try simp only [List.map_toArray, List.map_cons, List.map_nil]); first | done | rfl | (simp only [List.length_drop, List.length_take]; rfl)) ?_
     with_reducible refine (impl_within.calls (wrap64 (((rd_T48 l3 x49_2).f1))) 1 (wrap64 (((rd_T49 x10_2 x49_2).f0) - 1)) true _ A149.out).mono ?_
     rintro e w' ⟨rfl, ⟨nd, rfl⟩⟩
     refine ⟨_, rfl, ?_⟩
     refine hK.out _ _ ⟨(blk_cell BK171.out 0).trans rfl, (blk_cell BK171.out 1).trans rfl, (blk_cell BK171.out 2).trans rfl, (blk_cell BK171.out 3).trans rfl, (blk_cell BK173.out 0).trans rfl, (blk_cell BK173.out 1).trans rfl, hHeld.2.2.2.2.2.2.1, hHeld.2.2.2.2.2.2.2⟩ (fun hHeld => ?_)
     clear hK K
     refine norm_ (a' := ?_) ?_ ?_
     rotate_left
     ·
      show Act.put _ (some 171) _ = _
      simp only [Act.put, List.setIfInBounds_toArray, List.set_cons_zero, List.set_cons_succ, i64_w, i32_w]
      rfl
     refine pu_ 46 172 (lA 48 140737488355327) ?_ ?_ HT_ ?_
     refine pu_ 47 173 (lA 48 281474976710655) ?_ ?_ HT_ ?_
     refine done_ (done_of HT_.out (by kernel_rfl)) ?_
     (try (rw [drewN_self w160]; generalize hq_ : World.drewN w160 _ = w160; have n0_ : Aside0 (Kd.R k49 49 w160 w.heap.size (fun k_ => k_ ≠ gb173) (.slice (some ⟨go18, 0, none⟩) x10_2.length co18) x10_2) := ⟨by rw [← hq_]; exact (kp_ HO_10)⟩; have n1_ : Aside0 (Kd.R Kd.bool 4 w160 w.heap.size (fun _ => True) (.slice (some ⟨go20, 0, none⟩) x11_2.length co20) x11_2) := ⟨by rw [← hq_]; exact (kp_ HO_11)⟩; have n2_ : Aside0 (w160.heap[gb171]? = some (.cells #[.int .i8 ((rd_T48 l3 x49_2).f0), .int .i8 ((rd_T48 l3 x49_2).f1), .int .i8 ((rd_T48 l3 x49_2).f2), .int .i8 ((rd_T48 l3 x49_2).f3)] 48 (0, 0))) := ⟨by rw [← hq_]; exact (kb_ BK171)⟩; have n3_ : Aside0 (w160.heap[gb173]? = some (.cells #[.int .i64 ((rd_T49 x10_2 x49_2).f0), .int .i64 ((rd_T49 x10_2 x49_2).f1)] 49 (0, 0))) := ⟨by rw [← hq_]; exact (kb_ BK173)⟩; have n4_ : Aside0 (Below w.heap.size w w160) := ⟨by rw [← hq_]; exact (kS_ HB GE171 GE173)⟩; clear HO_10 HO_11 BK171 BK173 HB hq_; have HO_10 := n0_; have HO_11 := n1_; have BK171 := n2_; have BK173 := n3_; have HB := n4_; clear n0_ n1_ n2_ n3_ n4_))
     have p151 : 0 ≤ ((ji134) : Int) := od_
     have q151 : ((ji134) : Int) < ((x11_2.length : Int) : Int) := od_
     obtain ⟨hx151_0, hf151_0⟩ := Kd.R_celln false HO_11.out ((ji134) : Int) p151 q151
     replace p151 := eq_true p151
     replace q151 := eq_true q151
     obtain ⟨hy161_, hz161_⟩ := Kd.R_celln false HO_11.out ((ji134) : Int) od_ od_
     have HP161 := Kd.R_putg HO_11.out ((ji134) : Int) true
     try go_wp2_with (first | ((with_reducible refine gate_store (t := 4) (p := 178) rfl ?_); refine store_event (t := 4) (p := 178) (v := ?vo_w162) (w1 := (w160.setCell ⟨go20, ((ji134) : Int).toNat, none⟩ (.bool true))) ?hg ?ho ?hn ?hr ?_; (case ho => rfl); (case hg => rfl); (case hn => rfl); (case hr => first | (go_simp; done) | (go_simp; rfl)); intro w162 hw; have hg : w160.grownBy w162 (some go20) := (by rw [hw]; exact HP161.2); have hp_ : Kd.R Kd.bool 4 w162 w.heap.size (fun _ => True) (.slice (some ⟨go20, 0, none⟩) x11_2.length co20) y181 := (by rw [hw, Ny181.out]; exact HP161.1); clear HP161; replace HO_10 := Aside0.mk (Kd.R_over' (v := (.slice (some ⟨go20, 0, none⟩) x11_2.length co20)) (kp_ HO_10) (Kd.R_typed HO_11.out) (by decide) hg); replace BK171 := Aside0.mk (blk_grown (g := gb171) (o := .cells #[.int .i8 ((rd_T48 l3 x49_2).f0), .int .i8 ((rd_T48 l3 x49_2).f1), .int .i8 ((rd_T48 l3 x49_2).f2), .int .i8 ((rd_T48 l3 x49_2).f3)] 48 (0, 0)) (kb_ BK171) hg (Kd.R_ne HO_11.out BK171.out (by decide))); replace BK173 := Aside0.mk (blk_grown (g := gb173) (o := .cells #[.int .i64 ((rd_T49 x10_2 x49_2).f0), .int .i64 ((rd_T49 x10_2 x49_2).f1)] 49 (0, 0)) (kb_ BK173) hg (Kd.R_ne HO_11.out BK173.out (by decide))); replace HO_11 := Aside0.mk (hp_); replace HB := Aside0.mk ((by rw [hw]; exact below_set (HB.out) GB20.out : Below w.heap.size w w162)); clear hg hw hp_; have p152 : 0 ≤ ((ji141) : Int) := od_; have q152 : ((ji141) : Int) < ((x11_2.length : Int) : Int) := od_; obtain ⟨hx152_0, hf152_0⟩ := Kd.R_celln false HO_11.out ((ji141) : Int) p152 q152; replace p152 := eq_true p152; replace q152 := eq_true q152; obtain ⟨hy163_, hz163_⟩ := Kd.R_celln false HO_11.out ((ji141) : Int) od_ od_; have HP163 := Kd.R_putg HO_11.out ((ji141) : Int) true) | ((with_reducible refine gate_store (t := 4) (p := 179) rfl ?_); refine store_event (t := 4) (p := 179) (v := ?vo_w164) (w1 := (w162.setCell ⟨go20, ((ji141) : Int).toNat, none⟩ (.bool true))) ?hg ?ho ?hn ?hr ?_; (case ho => rfl); (case hg => rfl); (case hn => rfl); (case hr => first | (go_simp; done) | (go_simp; rfl)); intro w164 hw; have hg : w162.grownBy w164 (some go20) := (by rw [hw]; exact HP163.2); have hp_ : Kd.R Kd.bool 4 w164 w.heap.size (fun _ => True) (.slice (some ⟨go20, 0, none⟩) x11_2.length co20) y182 := (by rw [hw, Ny182.out]; exact HP163.1); clear HP163; replace HO_10 := Aside0.mk (Kd.R_over' (v := (.slice (some ⟨go20, 0, none⟩) x11_2.length co20)) (kp_ HO_10) (Kd.R_typed HO_11.out) (by decide) hg); replace BK171 := Aside0.mk (blk_grown (g := gb171) (o := .cells #[.int .i8 ((rd_T48 l3 x49_2).f0), .int .i8 ((rd_T48 l3 x49_2).f1), .int .i8 ((rd_T48 l3 x49_2).f2), .int .i8 ((rd_T48 l3 x49_2).f3)] 48 (0, 0)) (kb_ BK171) hg (Kd.R_ne HO_11.out BK171.out (by decide))); replace BK173 := Aside0.mk (blk_grown (g := gb173) (o := .cells #[.int .i64 ((rd_T49 x10_2 x49_2).f0), .int .i64 ((rd_T49 x10_2 x49_2).f1)] 49 (0, 0)) (kb_ BK173) hg (Kd.R_ne HO_11.out BK173.out (by decide))); replace HO_11 := Aside0.mk (hp_); replace HB := Aside0.mk ((by rw [hw]; exact below_set (HB.out) GB20.out : Below w.heap.size w w164)); clear hg hw hp_))
     replace HO_10 := Aside0.mk (Kd.R_drew HO_10.out)
     replace HO_11 := Aside0.mk (Kd.R_drew HO_11.out)
     replace BK171 := Aside0.mk (blk_drew BK171.out)
     replace BK173 := Aside0.mk (blk_drew BK173.out)
     replace HB := Aside0.mk (below_drew1 HB.out)
     have p154 : 0 ≤ ((ji134) : Int) := od_
     have q154 : ((ji134) : Int) < ((x10_2.length : Int) : Int) := od_
     obtain ⟨ce154, hcl154, hM154, hcc154, hfr154⟩ := Kd.R_elem HO_10.out z49 ((ji134) : Int) p154 q154
     obtain rfl := k49_openM hM154
     have hx154_0 : World.cell? _ ⟨go18, ((ji134) : Int).toNat * 2, none⟩ = some (.int .i64 ((rd_T49 x10_2 (ji134)).f0)) := hcc154 0 _ rfl
     have hx154_1 : World.cell? _ ⟨go18, ((ji134) : Int).toNat * 2 + 1, none⟩ = some (.int .i64 ((rd_T49 x10_2 (ji134)).f1)) := hcc154 1 _ rfl
     have hf154_0 : World.frozen? _ ⟨go18, ((ji134) : Int).toNat * 2, none⟩ = false := hfr154 0
     have hf154_1 : World.frozen? _ ⟨go18, ((ji134) : Int).toNat * 2 + 1, none⟩ = false := hfr154 1
     clear hcl154 hcc154 hfr154; (try clear hM154)
     replace p154 := eq_true p154
     replace q154 := eq_true q154
     obtain ⟨ce166, hcl166, hM166, hcc166, hfr166⟩ := Kd.R_elem HO_10.out z49 ((ji134) : Int) od_ (by have h_ : ((ji134) : Int) < ((x10_2.length : Int) : Int) := od_; first | exact h_ | (have e_ := (Kd.R_reads' HO_10.out).1; omega) | simpa using h_)
     obtain rfl := k49_openM hM166
     have HP166 := (Kd.R_seg HO_10.out ((ji134) : Int) od_ (by have h_ : ((ji134) : Int) < ((x10_2.length : Int) : Int) := od_; first | exact h_ | (have e_ := (Kd.R_reads' HO_10.out).1; omega) | simpa using h_) (seg := [.int .i64 ((rd_T49 x10_2 x49_2).f0), .int .i64 ((rd_T49 x10_2 x49_2).f1)]) (j := 0) hcl166 hcc166 (show 2 ≤ 2 from by decide) (x' := (⟨((rd_T49 x10_2 x49_2).f0), ((rd_T49 x10_2 x49_2).f1)⟩ : S49)) (k49_mkM _ _ _ (⟨((rd_T49 x10_2 x49_2).f0), ((rd_T49 x10_2 x49_2).f1)⟩ : S49) ) (fun _ hk => hk)).1
     rw [← Ny183.out] at HP166
     have HQ166 := Aside0.mk HP166
     clear hcl166 hcc166 hfr166; (try clear hM166); clear HP166
     have p156 : 0 ≤ ((ji141) : Int) := od_
     have q156 : ((ji141) : Int) < ((x10_2.length : Int) : Int) := od_
     obtain ⟨ce156, hcl156, hM156, hcc156, hfr156⟩ := Kd.R_elem HQ166.out z49 ((ji141) : Int) p156 q156
     obtain rfl := k49_openM hM156
     have hx156_0 : World.cell? _ ⟨go18, ((ji141) : Int).toNat * 2, none⟩ = some (.int .i64 ((rd_T49 y183 (ji141)).f0)) := hcc156 0 _ rfl
     have hx156_1 : World.cell? _ ⟨go18, ((ji141) : Int).toNat * 2 + 1, none⟩ = some (.int .i64 ((rd_T49 y183 (ji141)).f1)) := hcc156 1 _ rfl
     have hf156_0 : World.frozen? _ ⟨go18, ((ji141) : Int).toNat * 2, none⟩ = false := hfr156 0
     have hf156_1 : World.frozen? _ ⟨go18, ((ji141) : Int).toNat * 2 + 1, none⟩ = false := hfr156 1
     clear hcl156 hcc156 hfr156; (try clear hM156)
     replace p156 := eq_true p156
     replace q156 := eq_true q156
     obtain ⟨ce167, hcl167, hM167, hcc167, hfr167⟩ := Kd.R_elem HQ166.out z49 ((ji141) : Int) od_ (by have h_ : ((ji141) : Int) < ((x10_2.length : Int) : Int) := od_; first | exact h_ | (have e_ := (Kd.R_reads' HO_10.out).1; omega) | simpa using h_)
     obtain rfl := k49_openM hM167
     have HP167 := (Kd.R_seg HQ166.out ((ji141) : Int) od_ (by have h_ : ((ji141) : Int) < ((x10_2.length : Int) : Int) := od_; first | exact h_ | (have e_ := (Kd.R_reads' HO_10.out).1; omega) | simpa using h_) (seg := [.int .i64 ((rd_T49 x10_2 x49_2).f0), .int .i64 ((rd_T49 x10_2 x49_2).f1)]) (j := 0) hcl167 hcc167 (show 2 ≤ 2 from by decide) (x' := (⟨((rd_T49 x10_2 x49_2).f0), ((rd_T49 x10_2 x49_2).f1)⟩ : S49)) (k49_mkM _ _ _ (⟨((rd_T49 x10_2 x49_2).f0), ((rd_T49 x10_2 x49_2).f1)⟩ : S49) ) (fun _ hk => hk)).1
     rw [← Ny184.out] at HP167
     have HQ167 := Aside0.mk HP167
     clear hcl167 hcc167 hfr167; (try clear hM167); clear HP167
     refine start_ (n := 10) (S := fun w' => w'.cell? ⟨gb173, 0, none⟩ = some (.int .i64 ((rd_T49 x10_2 x49_2).f0)) ∧ w'.cell? ⟨gb173, 1, none⟩ = some (.int .i64 ((rd_T49 x10_2 x49_2).f1))) (ds := [9]) #[false, false, false, false, false, false, false, false, false, false] (by kernel_rfl) rfl rfl ⟨(blk_cell BK173.out 0).trans rfl, (blk_cell BK173.out 1).trans rfl⟩ (fun hHeld => ?_); refine with_tabW impl_sizes.tab26 impl_sizes.bits26 (fun HT_ HW_ => ?_)
     generalize w164.drew = w165 at HO_10 HO_11 BK171 BK173 HB HQ166 HQ167 hf154_0 hf154_1 hf156_0 hf156_1 hx154_0 hx154_1 hx156_0 hx156_1 hHeld ⊢
     (try (have shf154_0 := hf154_0; simp [World.setCells, show (k49).sz = 2 from rfl, go_sem] at shf154_0))
     (try (have shf154_1 := hf154_1; simp [World.setCells, show (k49).sz = 2 from rfl, go_sem] at shf154_1))
     (try (have shf156_0 := hf156_0; simp [World.setCells, show (k49).sz = 2 from rfl, go_sem] at shf156_0))
     (try (have shf156_1 := hf156_1; simp [World.setCells, show (k49).sz = 2 from rfl, go_sem] at shf156_1))
     (try (have shx154_0 := hx154_0; simp [World.setCells, show (k49).sz = 2 from rfl, go_sem] at shx154_0))
     (try (have shx154_1 := hx154_1; simp [World.setCells, show (k49).sz = 2 from rfl, go_sem] at shx154_1))
     (try (have shx156_0 := hx156_0; simp [World.setCells, show (k49).sz = 2 from rfl, go_sem] at shx156_0))
     (try (have shx156_1 := hx156_1; simp [World.setCells, show (k49).sz = 2 from rfl, go_sem] at shx156_1))
     refine pu_ 0 180 (lA 10 1) ?_ ?_ HT_ ?_
     refine pu_ 1 181 (lA 10 3) ?_ ?_ HT_ ?_
     refine pu_ 2 182 (lA 10 7) ?_ ?_ HT_ ?_
     refine pu_ 3 183 (lA 10 15) ?_ ?_ HT_ ?_
     refine tk_ 4 184 (lA 10 31) ?_ ?_ HT_ HW_ hHeld ?_
     refine pu_ 6 186 (lA 10 95) ?_ ?_ HT_ ?_
     refine tk_ 5 185 (lA 10 127) ?_ ?_ HT_ HW_ hHeld ?_
     refine one_ (i := 7) (N := none) (lA 10 255) rfl rfl (one_of HT_.out (by kernel_rfl)) (by decide) (fun K hK => ?_)
     refine skip_ (w1 := ?_) (by rfl) rfl ?_ ?_
     rotate_left
     ·
      go_simp
      rfl
     refine hK.out _ _ ⟨((cell_far (p := ⟨go18, _, none⟩) (show gb173 ≠ go18 from (by have h_ := Kd.R_away HO_10.out (fun _ hk => hk); intro e_; exact h_ (by rw [e_]; rfl))) _).trans (((cell_far (p := ⟨go18, _, none⟩) (show gb173 ≠ go18 from (by have h_ := Kd.R_away HO_10.out (fun _ hk => hk); intro e_; exact h_ (by rw [e_]; rfl))) _).trans (hHeld.1)))), ((cell_far (p := ⟨go18, _, none⟩) (show gb173 ≠ go18 from (by have h_ := Kd.R_away HO_10.out (fun _ hk => hk); intro e_; exact h_ (by rw [e_]; rfl))) _).trans (((cell_far (p := ⟨go18, _, none⟩) (show gb173 ≠ go18 from (by have h_ := Kd.R_away HO_10.out (fun _ hk => hk); intro e_; exact h_ (by rw [e_]; rfl))) _).trans (hHeld.2))))⟩ (fun hHeld => ?_)
     clear hK K
     refine pu_ 8 187 (lA 10 511) ?_ ?_ HT_ ?_
     refine last_ (i := 9) (N := none) (lA 10 1023) rfl rfl (one_of HT_.out (by kernel_rfl)) (by decide) (fun K hK => ?_)
     refine skip_ (w1 := ?_) (by rfl) rfl ?_ ?_
     rotate_left
     ·
      go_simp
      rfl
     refine hK.out _ _ ?_
     clear hK K
     refine done_ (done_of HT_.out (by kernel_rfl)) ?_
     try go_wp2
     have n0_ : Aside0 (Kd.R k49 49 ((((w165.setCell ⟨go18, ((ji134) : Int).toNat * 2, none⟩ (.int .i64 ((rd_T49 x10_2 x49_2).f0))).setCell ⟨go18, ((ji134) : Int).toNat * 2 + 1, none⟩ (.int .i64 ((rd_T49 x10_2 x49_2).f1))).setCell ⟨go18, ((ji141) : Int).toNat * 2, none⟩ (.int .i64 ((rd_T49 x10_2 x49_2).f0))).setCell ⟨go18, ((ji141) : Int).toNat * 2 + 1, none⟩ (.int .i64 ((rd_T49 x10_2 x49_2).f1))) w.heap.size (fun k_ => k_ ≠ gb173) (.slice (some ⟨go18, 0, none⟩) x10_2.length co18) y184) := ⟨kp_ HQ167⟩
     have n1_ : Aside0 (Kd.R Kd.bool 4 ((((w165.setCell ⟨go18, ((ji134) : Int).toNat * 2, none⟩ (.int .i64 ((rd_T49 x10_2 x49_2).f0))).setCell ⟨go18, ((ji134) : Int).toNat * 2 + 1, none⟩ (.int .i64 ((rd_T49 x10_2 x49_2).f1))).setCell ⟨go18, ((ji141) : Int).toNat * 2, none⟩ (.int .i64 ((rd_T49 x10_2 x49_2).f0))).setCell ⟨go18, ((ji141) : Int).toNat * 2 + 1, none⟩ (.int .i64 ((rd_T49 x10_2 x49_2).f1))) w.heap.size (fun _ => True) (.slice (some ⟨go20, 0, none⟩) x11_2.length co20) y182) := ⟨by (with_reducible repeat (first | apply Kd.R_alloc | apply Kd.R_drewN | apply Kd.R_drew)); exact Kd.R_mono (Kd.R_far (p := ⟨go18, ((ji141) : Int).toNat * 2 + 1, none⟩) (Kd.R_far (p := ⟨go18, ((ji141) : Int).toNat * 2, none⟩) (Kd.R_far (p := ⟨go18, ((ji134) : Int).toNat * 2 + 1, none⟩) (Kd.R_far (p := ⟨go18, ((ji134) : Int).toNat * 2, none⟩) (Kd.R_types HO_11.out (Kd.R_typed HO_10.out go18 rfl).choose_spec (by decide)) (fun _ hk => hk.2) (.int .i64 ((rd_T49 x10_2 x49_2).f0))) (fun _ hk => hk.2) (.int .i64 ((rd_T49 x10_2 x49_2).f1))) (fun _ hk => hk.2) (.int .i64 ((rd_T49 x10_2 x49_2).f0))) (fun _ hk => hk.2) (.int .i64 ((rd_T49 x10_2 x49_2).f1))) (fun _ hk => trivial)⟩
     have n2_ : Aside0 (((((w165.setCell ⟨go18, ((ji134) : Int).toNat * 2, none⟩ (.int .i64 ((rd_T49 x10_2 x49_2).f0))).setCell ⟨go18, ((ji134) : Int).toNat * 2 + 1, none⟩ (.int .i64 ((rd_T49 x10_2 x49_2).f1))).setCell ⟨go18, ((ji141) : Int).toNat * 2, none⟩ (.int .i64 ((rd_T49 x10_2 x49_2).f0))).setCell ⟨go18, ((ji141) : Int).toNat * 2 + 1, none⟩ (.int .i64 ((rd_T49 x10_2 x49_2).f1))).heap[gb171]? = some (.cells #[.int .i8 ((rd_T48 l3 x49_2).f0), .int .i8 ((rd_T48 l3 x49_2).f1), .int .i8 ((rd_T48 l3 x49_2).f2), .int .i8 ((rd_T48 l3 x49_2).f3)] 48 (0, 0))) := ⟨by (with_reducible repeat (first | refine blk_drewN ?_ _ | refine blk_drew ?_ | refine blk_alloc ?_ _)); refine blk_far ?_ (by have h_ := Kd.R_ne HO_10.out BK171.out (by decide); intro e_; exact h_ (by rw [e_]; rfl)) _; (with_reducible repeat (first | refine blk_drewN ?_ _ | refine blk_drew ?_ | refine blk_alloc ?_ _)); refine blk_far ?_ (by have h_ := Kd.R_ne HO_10.out BK171.out (by decide); intro e_; exact h_ (by rw [e_]; rfl)) _; (with_reducible repeat (first | refine blk_drewN ?_ _ | refine blk_drew ?_ | refine blk_alloc ?_ _)); refine blk_far ?_ (by have h_ := Kd.R_ne HO_10.out BK171.out (by decide); intro e_; exact h_ (by rw [e_]; rfl)) _; (with_reducible repeat (first | refine blk_drewN ?_ _ | refine blk_drew ?_ | refine blk_alloc ?_ _)); refine blk_far ?_ (by have h_ := Kd.R_ne HO_10.out BK171.out (by decide); intro e_; exact h_ (by rw [e_]; rfl)) _; (with_reducible repeat (first | refine blk_drewN ?_ _ | refine blk_drew ?_ | refine blk_alloc ?_ _)); exact BK171.out⟩
     have n3_ : Aside0 (((((w165.setCell ⟨go18, ((ji134) : Int).toNat * 2, none⟩ (.int .i64 ((rd_T49 x10_2 x49_2).f0))).setCell ⟨go18, ((ji134) : Int).toNat * 2 + 1, none⟩ (.int .i64 ((rd_T49 x10_2 x49_2).f1))).setCell ⟨go18, ((ji141) : Int).toNat * 2, none⟩ (.int .i64 ((rd_T49 x10_2 x49_2).f0))).setCell ⟨go18, ((ji141) : Int).toNat * 2 + 1, none⟩ (.int .i64 ((rd_T49 x10_2 x49_2).f1))).heap[gb173]? = some (.cells #[.int .i64 ((rd_T49 x10_2 x49_2).f0), .int .i64 ((rd_T49 x10_2 x49_2).f1)] 49 (0, 0))) := ⟨by (with_reducible repeat (first | refine blk_drewN ?_ _ | refine blk_drew ?_ | refine blk_alloc ?_ _)); refine blk_far ?_ (by have h_ := Kd.R_away HO_10.out (fun _ hk => hk); intro e_; exact h_ (by rw [e_]; rfl)) _; (with_reducible repeat (first | refine blk_drewN ?_ _ | refine blk_drew ?_ | refine blk_alloc ?_ _)); refine blk_far ?_ (by have h_ := Kd.R_away HO_10.out (fun _ hk => hk); intro e_; exact h_ (by rw [e_]; rfl)) _; (with_reducible repeat (first | refine blk_drewN ?_ _ | refine blk_drew ?_ | refine blk_alloc ?_ _)); refine blk_far ?_ (by have h_ := Kd.R_away HO_10.out (fun _ hk => hk); intro e_; exact h_ (by rw [e_]; rfl)) _; (with_reducible repeat (first | refine blk_drewN ?_ _ | refine blk_drew ?_ | refine blk_alloc ?_ _)); refine blk_far ?_ (by have h_ := Kd.R_away HO_10.out (fun _ hk => hk); intro e_; exact h_ (by rw [e_]; rfl)) _; (with_reducible repeat (first | refine blk_drewN ?_ _ | refine blk_drew ?_ | refine blk_alloc ?_ _)); exact BK173.out⟩
     have n4_ : Aside0 (Below w.heap.size w ((((w165.setCell ⟨go18, ((ji134) : Int).toNat * 2, none⟩ (.int .i64 ((rd_T49 x10_2 x49_2).f0))).setCell ⟨go18, ((ji134) : Int).toNat * 2 + 1, none⟩ (.int .i64 ((rd_T49 x10_2 x49_2).f1))).setCell ⟨go18, ((ji141) : Int).toNat * 2, none⟩ (.int .i64 ((rd_T49 x10_2 x49_2).f0))).setCell ⟨go18, ((ji141) : Int).toNat * 2 + 1, none⟩ (.int .i64 ((rd_T49 x10_2 x49_2).f1)))) := ⟨by repeat (first | (with_reducible first | exact HB.out | apply below_alloc | apply pw_below_drewN | apply below_drew1 | refine below_set ?_ GB18.out | refine below_set ?_ GB18.out | refine below_set ?_ GB18.out | refine below_set ?_ GB18.out | refine below_set ?_ GE171.out | refine below_set ?_ GE173.out) | exact HB.out)⟩
     generalize ((((w165.setCell ⟨go18, ((ji134) : Int).toNat * 2, none⟩ (.int .i64 ((rd_T49 x10_2 x49_2).f0))).setCell ⟨go18, ((ji134) : Int).toNat * 2 + 1, none⟩ (.int .i64 ((rd_T49 x10_2 x49_2).f1))).setCell ⟨go18, ((ji141) : Int).toNat * 2, none⟩ (.int .i64 ((rd_T49 x10_2 x49_2).f0))).setCell ⟨go18, ((ji141) : Int).toNat * 2 + 1, none⟩ (.int .i64 ((rd_T49 x10_2 x49_2).f1))) = w168 at n0_ n1_ n2_ n3_ n4_ ⊢
     have HO_10 := n0_
     have HO_11 := n1_
     have BK171 := n2_
     have BK173 := n3_
     have HB := n4_
     clear n0_ n1_ n2_ n3_ n4_
     replace HO_10 := Aside0.mk (Kd.R_drew HO_10.out)
     replace HO_11 := Aside0.mk (Kd.R_drew HO_11.out)
     replace BK171 := Aside0.mk (blk_drew BK171.out)
     replace BK173 := Aside0.mk (blk_drew BK173.out)
     replace HB := Aside0.mk (below_drew1 HB.out)
     have p157 : 0 ≤ ((ji134) : Int) := od_
     have q157 : ((ji134) : Int) < ((x10_2.length : Int) : Int) := od_
     obtain ⟨ce157, hcl157, hM157, hcc157, hfr157⟩ := Kd.R_elem HO_10.out z49 ((ji134) : Int) p157 q157
     obtain rfl := k49_openM hM157
     have hx157_0 : World.cell? _ ⟨go18, ((ji134) : Int).toNat * 2, none⟩ = some (.int .i64 ((rd_T49 y184 (ji134)).f0)) := hcc157 0 _ rfl
     have hx157_1 : World.cell? _ ⟨go18, ((ji134) : Int).toNat * 2 + 1, none⟩ = some (.int .i64 ((rd_T49 y184 (ji134)).f1)) := hcc157 1 _ rfl
     have hf157_0 : World.frozen? _ ⟨go18, ((ji134) : Int).toNat * 2, none⟩ = false := hfr157 0
     have hf157_1 : World.frozen? _ ⟨go18, ((ji134) : Int).toNat * 2 + 1, none⟩ = false := hfr157 1
     clear hcl157 hcc157 hfr157; (try clear hM157)
     replace p157 := eq_true p157
     replace q157 := eq_true q157
     obtain ⟨ce170, hcl170, hM170, hcc170, hfr170⟩ := Kd.R_elem HO_10.out z49 ((ji134) : Int) od_ (by have h_ : ((ji134) : Int) < ((x10_2.length : Int) : Int) := od_; first | exact h_ | (have e_ := (Kd.R_reads' HO_10.out).1; omega) | simpa using h_)
     obtain rfl := k49_openM hM170
     have HP170 := (Kd.R_seg HO_10.out ((ji134) : Int) od_ (by have h_ : ((ji134) : Int) < ((x10_2.length : Int) : Int) := od_; first | exact h_ | (have e_ := (Kd.R_reads' HO_10.out).1; omega) | simpa using h_) (seg := [.int .i64 (wrap64 (((rd_T48 l3 x49_2).f1)))]) (j := 0) hcl170 hcc170 (show 1 ≤ 2 from by decide) (x' := (⟨wrap64 (((rd_T48 l3 x49_2).f1)), (rd_T49 y184 (ji134)).f1⟩ : S49)) (k49_mkM _ _ _ (⟨wrap64 (((rd_T48 l3 x49_2).f1)), (rd_T49 y184 (ji134)).f1⟩ : S49) ) (fun _ hk => hk)).1
     rw [← Ny185.out] at HP170
     have HQ170 := Aside0.mk HP170
     clear hcl170 hcc170 hfr170; (try clear hM170); clear HP170
     refine start_ (n := 9) (S := fun w' => w'.cell? ⟨gb171, 0, none⟩ = some (.int .i8 ((rd_T48 l3 x49_2).f0)) ∧ w'.cell? ⟨gb171, 1, none⟩ = some (.int .i8 ((rd_T48 l3 x49_2).f1)) ∧ w'.cell? ⟨gb171, 2, none⟩ = some (.int .i8 ((rd_T48 l3 x49_2).f2)) ∧ w'.cell? ⟨gb171, 3, none⟩ = some (.int .i8 ((rd_T48 l3 x49_2).f3))) (ds := [8]) #[false, false, false, false, false, false, false, false, false] (by kernel_rfl) rfl rfl ⟨(blk_cell BK171.out 0).trans rfl, (blk_cell BK171.out 1).trans rfl, (blk_cell BK171.out 2).trans rfl, (blk_cell BK171.out 3).trans rfl⟩ (fun hHeld => ?_); refine with_tabW impl_sizes.tab27 impl_sizes.bits27 (fun HT_ HW_ => ?_)
     generalize w168.drew = w169 at HO_10 HO_11 BK171 BK173 HB HQ167 HQ170 hf157_0 hf157_1 hx157_0 hx157_1 hHeld ⊢
     (try (have shf157_0 := hf157_0; simp [World.setCells, show (k49).sz = 2 from rfl, go_sem] at shf157_0))
     (try (have shf157_1 := hf157_1; simp [World.setCells, show (k49).sz = 2 from rfl, go_sem] at shf157_1))
     (try (have shx157_0 := hx157_0; simp [World.setCells, show (k49).sz = 2 from rfl, go_sem] at shx157_0))
     (try (have shx157_1 := hx157_1; simp [World.setCells, show (k49).sz = 2 from rfl, go_sem] at shx157_1))
     refine pu_ 0 188 (lA 9 1) ?_ ?_ HT_ ?_
     refine pu_ 1 189 (lA 9 3) ?_ ?_ HT_ ?_
     refine pu_ 2 190 (lA 9 7) ?_ ?_ HT_ ?_
     refine pu_ 3 191 (lA 9 15) ?_ ?_ HT_ ?_
     refine pu_ 6 194 (lA 9 79) ?_ ?_ HT_ ?_
     refine tk_ 4 192 (lA 9 95) ?_ ?_ HT_ HW_ hHeld ?_
     refine pu_ 5 193 (lA 9 127) ?_ ?_ HT_ ?_
     refine pu_ 7 195 (lA 9 255) ?_ ?_ HT_ ?_
     refine last_ (i := 8) (N := none) (lA 9 511) rfl rfl (one_of HT_.out (by kernel_rfl)) (by decide) (fun K hK => ?_)
     refine skip_ (w1 := ?_) (by rfl) rfl ?_ ?_
     rotate_left
     ·
      go_simp
      rfl
     refine hK.out _ _ ?_
     clear hK K
     refine done_ (done_of HT_.out (by kernel_rfl)) ?_
     try go_wp2
     have n0_ : Aside0 (Kd.R k49 49 (w169.setCell ⟨go18, ((ji134) : Int).toNat * 2, none⟩ (.int .i64 (wrap64 (((rd_T48 l3 x49_2).f1))))) w.heap.size (fun k_ => k_ ≠ gb173) (.slice (some ⟨go18, 0, none⟩) x10_2.length co18) y185) := ⟨kp_ HQ170⟩
     have n1_ : Aside0 (Kd.R Kd.bool 4 (w169.setCell ⟨go18, ((ji134) : Int).toNat * 2, none⟩ (.int .i64 (wrap64 (((rd_T48 l3 x49_2).f1))))) w.heap.size (fun _ => True) (.slice (some ⟨go20, 0, none⟩) x11_2.length co20) y182) := ⟨by (with_reducible repeat (first | apply Kd.R_alloc | apply Kd.R_drewN | apply Kd.R_drew)); exact Kd.R_mono (Kd.R_far (p := ⟨go18, ((ji134) : Int).toNat * 2, none⟩) (Kd.R_types HO_11.out (Kd.R_typed HO_10.out go18 rfl).choose_spec (by decide)) (fun _ hk => hk.2) (.int .i64 (wrap64 (((rd_T48 l3 x49_2).f1))))) (fun _ hk => trivial)⟩
     have n2_ : Aside0 ((w169.setCell ⟨go18, ((ji134) : Int).toNat * 2, none⟩ (.int .i64 (wrap64 (((rd_T48 l3 x49_2).f1))))).heap[gb171]? = some (.cells #[.int .i8 ((rd_T48 l3 x49_2).f0), .int .i8 ((rd_T48 l3 x49_2).f1), .int .i8 ((rd_T48 l3 x49_2).f2), .int .i8 ((rd_T48 l3 x49_2).f3)] 48 (0, 0))) := ⟨by (with_reducible repeat (first | refine blk_drewN ?_ _ | refine blk_drew ?_ | refine blk_alloc ?_ _)); refine blk_far ?_ (by have h_ := Kd.R_ne HO_10.out BK171.out (by decide); intro e_; exact h_ (by rw [e_]; rfl)) _; (with_reducible repeat (first | refine blk_drewN ?_ _ | refine blk_drew ?_ | refine blk_alloc ?_ _)); exact BK171.out⟩
     have n3_ : Aside0 ((w169.setCell ⟨go18, ((ji134) : Int).toNat * 2, none⟩ (.int .i64 (wrap64 (((rd_T48 l3 x49_2).f1))))).heap[gb173]? = some (.cells #[.int .i64 ((rd_T49 x10_2 x49_2).f0), .int .i64 ((rd_T49 x10_2 x49_2).f1)] 49 (0, 0))) := ⟨by (with_reducible repeat (first | refine blk_drewN ?_ _ | refine blk_drew ?_ | refine blk_alloc ?_ _)); refine blk_far ?_ (by have h_ := Kd.R_away HO_10.out (fun _ hk => hk); intro e_; exact h_ (by rw [e_]; rfl)) _; (with_reducible repeat (first | refine blk_drewN ?_ _ | refine blk_drew ?_ | refine blk_alloc ?_ _)); exact BK173.out⟩
     have n4_ : Aside0 (Below w.heap.size w (w169.setCell ⟨go18, ((ji134) : Int).toNat * 2, none⟩ (.int .i64 (wrap64 (((rd_T48 l3 x49_2).f1)))))) := ⟨by repeat (first | (with_reducible first | exact HB.out | apply below_alloc | apply pw_below_drewN | apply below_drew1 | refine below_set ?_ GB18.out | refine below_set ?_ GE171.out | refine below_set ?_ GE173.out) | exact HB.out)⟩
     generalize (w169.setCell ⟨go18, ((ji134) : Int).toNat * 2, none⟩ (.int .i64 (wrap64 (((rd_T48 l3 x49_2).f1))))) = w171 at n0_ n1_ n2_ n3_ n4_ ⊢
     have HO_10 := n0_
     have HO_11 := n1_
     have BK171 := n2_
     have BK173 := n3_
     have HB := n4_
     clear n0_ n1_ n2_ n3_ n4_
     replace HO_10 := Aside0.mk (Kd.R_drew HO_10.out)
     replace HO_11 := Aside0.mk (Kd.R_drew HO_11.out)
     replace BK171 := Aside0.mk (blk_drew BK171.out)
     replace BK173 := Aside0.mk (blk_drew BK173.out)
     replace HB := Aside0.mk (below_drew1 HB.out)
     have p186 : 0 ≤ ((ji141) : Int) := od_
     have q186 : (ji141) < (y185.length : Int) := (by have h_ : ((ji141) : Int) < ((x10_2.length : Int) : Int) := od_; first | (have e_ := (Kd.R_reads' HO_10.out).1; omega) | simpa only [Ny183.out, Ny184.out, Ny185.out, List.length_set] using h_)
     have ql186 : (((ji141) : Int) < ((x10_2.length : Int) : Int)) = True := eq_true od_
     obtain ⟨ad186, e186, hx186_0, hx186_1⟩ := at_T49 (Kd.R_reads' HO_10.out).2.2 (ji141) p186 q186
     obtain rfl : (⟨go18, 0, none⟩ : Addr) = ad186 := (by injection e186)
     (first | simp only [add_plain] at hx186_0 | simp only [add_at] at hx186_0 | simp only [Addr.add, Nat.zero_add] at hx186_0 | skip)
     (first | simp only [add_plain] at hx186_1 | simp only [add_at] at hx186_1 | simp only [Addr.add, Nat.zero_add] at hx186_1 | skip)
     replace p186 := eq_true p186
     replace q186 := eq_true q186
     have p158 : 0 ≤ ((ji141) : Int) := od_
     have q158 : ((ji141) : Int) < ((x10_2.length : Int) : Int) := od_
     obtain ⟨ce158, hcl158, hM158, hcc158, hfr158⟩ := Kd.R_elem HO_10.out z49 ((ji141) : Int) p158 q158
     obtain rfl := k49_openM hM158
     have hx158_0 : World.cell? _ ⟨go18, ((ji141) : Int).toNat * 2, none⟩ = some (.int .i64 ((rd_T49 y185 (ji141)).f0)) := hcc158 0 _ rfl
     have hx158_1 : World.cell? _ ⟨go18, ((ji141) : Int).toNat * 2 + 1, none⟩ = some (.int .i64 ((rd_T49 y185 (ji141)).f1)) := hcc158 1 _ rfl
     have hf158_0 : World.frozen? _ ⟨go18, ((ji141) : Int).toNat * 2, none⟩ = false := hfr158 0
     have hf158_1 : World.frozen? _ ⟨go18, ((ji141) : Int).toNat * 2 + 1, none⟩ = false := hfr158 1
     clear hcl158 hcc158 hfr158; (try clear hM158)
     replace p158 := eq_true p158
     replace q158 := eq_true q158
     obtain ⟨ce173, hcl173, hM173, hcc173, hfr173⟩ := Kd.R_elem HO_10.out z49 ((ji141) : Int) od_ (by have h_ : ((ji141) : Int) < ((x10_2.length : Int) : Int) := od_; first | exact h_ | (have e_ := (Kd.R_reads' HO_10.out).1; omega) | simpa using h_)
     obtain rfl := k49_openM hM173
     have HP173 := (Kd.R_seg HO_10.out ((ji141) : Int) od_ (by have h_ : ((ji141) : Int) < ((x10_2.length : Int) : Int) := od_; first | exact h_ | (have e_ := (Kd.R_reads' HO_10.out).1; omega) | simpa using h_) (seg := [.int .i64 (wrap64 (((rd_T49 y185 (ji141)).f0) - (wrap64 (((rd_T48 l3 x49_2).f1)))))]) (j := 0) hcl173 hcc173 (show 1 ≤ 2 from by decide) (x' := (⟨wrap64 (((rd_T49 y185 (ji141)).f0) - (wrap64 (((rd_T48 l3 x49_2).f1)))), (rd_T49 y185 (ji141)).f1⟩ : S49)) (k49_mkM _ _ _ (⟨wrap64 (((rd_T49 y185 (ji141)).f0) - (wrap64 (((rd_T48 l3 x49_2).f1)))), (rd_T49 y185 (ji141)).f1⟩ : S49) ) (fun _ hk => hk)).1
     rw [← Ny187.out] at HP173
     have HQ173 := Aside0.mk HP173
     clear hcl173 hcc173 hfr173; (try clear hM173); clear HP173
     refine start_ (n := 13) (S := fun w' => w'.cell? ⟨gb171, 0, none⟩ = some (.int .i8 ((rd_T48 l3 x49_2).f0)) ∧ w'.cell? ⟨gb171, 1, none⟩ = some (.int .i8 ((rd_T48 l3 x49_2).f1)) ∧ w'.cell? ⟨gb171, 2, none⟩ = some (.int .i8 ((rd_T48 l3 x49_2).f2)) ∧ w'.cell? ⟨gb171, 3, none⟩ = some (.int .i8 ((rd_T48 l3 x49_2).f3)) ∧ w'.cell? ⟨go18, ((ji141)).toNat * 2, none⟩ = some (.int .i64 ((rd_T49 y185 (ji141)).f0)) ∧ w'.cell? ⟨go18, ((ji141)).toNat * 2 + 1, none⟩ = some (.int .i64 ((rd_T49 y185 (ji141)).f1))) (ds := [12]) #[false, false, false, false, false, false, false, false, false, false, false, false, false] (by kernel_rfl) rfl rfl ⟨(blk_cell BK171.out 0).trans rfl, (blk_cell BK171.out 1).trans rfl, (blk_cell BK171.out 2).trans rfl, (blk_cell BK171.out 3).trans rfl, hx186_0, hx186_1⟩ (fun hHeld => ?_); refine with_tabW impl_sizes.tab28 impl_sizes.bits28 (fun HT_ HW_ => ?_)
     generalize w171.drew = w172 at HO_10 HO_11 BK171 BK173 HB HQ170 HQ173 hf158_0 hf158_1 hx158_0 hx158_1 hx186_0 hx186_1 hHeld ⊢
     (try (have shf158_0 := hf158_0; simp [World.setCells, show (k49).sz = 2 from rfl, go_sem] at shf158_0))
     (try (have shf158_1 := hf158_1; simp [World.setCells, show (k49).sz = 2 from rfl, go_sem] at shf158_1))
     (try (have shx158_0 := hx158_0; simp [World.setCells, show (k49).sz = 2 from rfl, go_sem] at shx158_0))
     (try (have shx158_1 := hx158_1; simp [World.setCells, show (k49).sz = 2 from rfl, go_sem] at shx158_1))
     (try (have shx186_0 := hx186_0; simp [World.setCells, show (k49).sz = 2 from rfl, go_sem] at shx186_0))
     (try (have shx186_1 := hx186_1; simp [World.setCells, show (k49).sz = 2 from rfl, go_sem] at shx186_1))
     refine pu_ 0 196 (lA 13 1) ?_ ?_ HT_ ?_
     refine pu_ 1 197 (lA 13 3) ?_ ?_ HT_ ?_
     refine pu_ 2 198 (lA 13 7) ?_ ?_ HT_ ?_
     refine pu_ 3 199 (lA 13 15) ?_ ?_ HT_ ?_
     refine pu_ 4 200 (lA 13 31) ?_ ?_ HT_ ?_
     refine pu_ 6 202 (lA 13 95) ?_ ?_ HT_ ?_
     refine pu_ 10 206 (lA 13 1119) ?_ ?_ HT_ ?_
     refine tk_ 5 201 (lA 13 1151) ?_ ?_ HT_ HW_ hHeld ?_
     refine tk_ 7 203 (lA 13 1279) ?_ ?_ HT_ HW_ hHeld ?_
     refine pu_ 8 204 (lA 13 1535) ?_ ?_ HT_ ?_
     refine pu_ 9 205 (lA 13 2047) ?_ ?_ HT_ ?_
     refine pu_ 11 207 (lA 13 4095) ?_ ?_ HT_ ?_
     refine last_ (i := 12) (N := none) (lA 13 8191) rfl rfl (one_of HT_.out (by kernel_rfl)) (by decide) (fun K hK => ?_)
     refine skip_ (w1 := ?_) (by rfl) rfl ?_ ?_
     rotate_left
     ·
      go_simp
      rfl
     refine hK.out _ _ ?_
     clear hK K
     refine done_ (done_of HT_.out (by kernel_rfl)) ?_
     try go_wp2
     (try simp only [← hl10_2, ← hl11_2])
     go_roundg kj109
     case measure => have := HJ4.out; have := HK2.out; have := HJ109.out; omega
     case rel => exact ⟨(y187), (y182), (wrap64 (x49_2 + 1)), (by first | rfl | (simp; done) | (simp [*]; done)), H', ⟨by have := HJ4.out; have := HK2.out; have := HJ109.out; omega⟩, ⟨by (try simp only [hl10_2]); (try simp only [hl11_2]); (with_reducible repeat (first | apply Kd.R_alloc | apply Kd.R_drewN | apply Kd.R_drew)); exact Kd.R_mono HQ173.out (fun _ hk => trivial)⟩, ⟨by (try simp only [hl10_2]); (try simp only [hl11_2]); (with_reducible repeat (first | apply Kd.R_alloc | apply Kd.R_drewN | apply Kd.R_drew)); exact Kd.R_mono (Kd.R_far (p := ⟨go18, ((ji141) : Int).toNat * 2, none⟩) (Kd.R_types HO_11.out (Kd.R_typed HO_10.out go18 rfl).choose_spec (by decide)) (fun _ hk => hk.2) (.int .i64 (wrap64 (((rd_T49 y185 (ji141)).f0) - (wrap64 (((rd_T48 l3 x49_2).f1))))))) (fun _ hk => trivial)⟩, ⟨by repeat (first | (with_reducible first | exact HB.out | apply below_alloc | apply pw_below_drewN | apply below_drew1 | refine below_set ?_ GB18.out | refine below_set ?_ GE171.out | refine below_set ?_ GE173.out) | exact HB.out)⟩⟩
    rw [if_neg c148] at H
    have c148b0 : ((wrap64 (IntKind.i8.wrap (((rd_T48 l3 x49_2).f0) - 2))) == (0 : Int)) = false := beq_eq_false_iff_ne.mpr c148
    have c148b1 : ((wrap64 (IntKind.i8.wrap (((rd_T48 l3 x49_2).f0) - 2))) != (0 : Int)) = true := bne_iff_ne.mpr c148
    by_cases c176 : (wrap64 (IntKind.i8.wrap (((rd_T48 l3 x49_2).f0) - 2))) = (1 : Int)
    rotate_left
    ·
     rw [if_neg c176] at H
     exact absurd H (by simp)
    rw [if_pos c176] at H
    (try (have c176b0 : (wrap64 (IntKind.i8.wrap (((rd_T48 l3 x49_2).f0) - 2))) = (1 : Int) := c176))
    clear c176
    obtain ⟨t188, A177, H⟩ := be_ H
    (try dsimp only at H)
    rcases (Decidable.em (t188 = true)).symm with c178 | c178
    ·
     as_aux_lemma =>
     replace c178 := Bool.eq_false_iff.mpr c178
     subst c178
     replace H := gf_ H
     simp only [Option.some.injEq, Prod.mk.injEq] at H
     obtain ⟨rfl, rfl⟩ := H
     try go_wp2
     replace HO_10 := Aside0.mk (Kd.R_drew HO_10.out)
     replace HO_11 := Aside0.mk (Kd.R_drew HO_11.out)
     replace BK171 := Aside0.mk (blk_drew BK171.out)
     replace BK173 := Aside0.mk (blk_drew BK173.out)
     replace HB := Aside0.mk (below_drew1 HB.out)
     have p178 : 0 ≤ ((ji134) : Int) := od_
     have q178 : (ji134) < (x11_2.length : Int) := od_
     obtain ⟨ad178, e178, hx178_0⟩ := Kd.at_bool (Kd.R_reads' HO_11.out).2.2 (ji134) p178 q178
     (try rw [← Nbq36.out] at hx178_0)
     (try rw [← Nbq137.out] at hx178_0)
     (try rw [← Nbq144.out] at hx178_0)
     obtain rfl : (⟨go20, 0, none⟩ : Addr) = ad178 := (by injection e178)
     (first | simp only [add_plain] at hx178_0 | simp only [add_at] at hx178_0 | simp only [Addr.add, Nat.zero_add] at hx178_0 | skip)
     replace p178 := eq_true p178
     replace q178 := eq_true q178
     have p179 : 0 ≤ ((ji141) : Int) := od_
     have q179 : (ji141) < (x11_2.length : Int) := od_
     obtain ⟨ad179, e179, hx179_0⟩ := Kd.at_bool (Kd.R_reads' HO_11.out).2.2 (ji141) p179 q179
     (try rw [← Nbq36.out] at hx179_0)
     (try rw [← Nbq137.out] at hx179_0)
     (try rw [← Nbq144.out] at hx179_0)
     obtain rfl : (⟨go20, 0, none⟩ : Addr) = ad179 := (by injection e179)
     (first | simp only [add_plain] at hx179_0 | simp only [add_at] at hx179_0 | simp only [Addr.add, Nat.zero_add] at hx179_0 | skip)
     replace p179 := eq_true p179
     replace q179 := eq_true q179
     refine start_ (n := 48) (S := fun w' => w'.cell? ⟨gb171, 0, none⟩ = some (.int .i8 ((rd_T48 l3 x49_2).f0)) ∧ w'.cell? ⟨gb171, 1, none⟩ = some (.int .i8 ((rd_T48 l3 x49_2).f1)) ∧ w'.cell? ⟨gb171, 2, none⟩ = some (.int .i8 ((rd_T48 l3 x49_2).f2)) ∧ w'.cell? ⟨gb171, 3, none⟩ = some (.int .i8 ((rd_T48 l3 x49_2).f3)) ∧ w'.cell? ⟨gb173, 0, none⟩ = some (.int .i64 ((rd_T49 x10_2 x49_2).f0)) ∧ w'.cell? ⟨gb173, 1, none⟩ = some (.int .i64 ((rd_T49 x10_2 x49_2).f1)) ∧ w'.cell? ⟨go20, ((ji134)).toNat, none⟩ = some (.bool false) ∧ w'.cell? ⟨go20, ((ji141)).toNat, none⟩ = some (.bool false)) (ds := []) #[false, false, false, false, false, false, false, false, false, false, false, false, false, false, false, false, false, false, false, false, false, false, false, false, false, false, false, false, false, false, false, false, false, false, false, false, false, false, false, false, false, false, false, false, false, false, false, false] (by kernel_rfl) rfl rfl ⟨(blk_cell BK171.out 0).trans rfl, (blk_cell BK171.out 1).trans rfl, (blk_cell BK171.out 2).trans rfl, (blk_cell BK171.out 3).trans rfl, (blk_cell BK173.out 0).trans rfl, (blk_cell BK173.out 1).trans rfl, hx178_0, hx179_0⟩ (fun hHeld => ?_); refine with_tabW impl_sizes.tab23 impl_sizes.bits23 (fun HT_ HW_ => ?_)
     generalize w120.drew = w203 at HO_10 HO_11 BK171 BK173 HB hx178_0 hx179_0 hHeld ⊢
     refine pu_ 0 126 (lA 48 1) ?_ ?_ HT_ ?_
     refine pu_ 1 127 (lA 48 3) ?_ ?_ HT_ ?_
     refine pu_ 2 128 (lA 48 7) ?_ ?_ HT_ ?_
     refine pu_ 3 129 (lA 48 15) ?_ ?_ HT_ ?_
     refine pu_ 4 130 (lA 48 31) ?_ ?_ HT_ ?_
     refine pu_ 5 131 (lA 48 63) ?_ ?_ HT_ ?_
     refine pu_ 6 132 (lA 48 127) ?_ ?_ HT_ ?_
     refine pu_ 7 133 (lA 48 255) ?_ ?_ HT_ ?_
     refine pu_ 8 134 (lA 48 511) ?_ ?_ HT_ ?_
     refine pu_ 9 135 (lA 48 1023) ?_ ?_ HT_ ?_
     refine pu_ 10 136 (lA 48 2047) ?_ ?_ HT_ ?_
     refine pu_ 11 137 (lA 48 4095) ?_ ?_ HT_ ?_
     refine pu_ 12 138 (lA 48 8191) ?_ ?_ HT_ ?_
     refine pu_ 13 139 (lA 48 16383) ?_ ?_ HT_ ?_
     refine pu_ 14 140 (lA 48 32767) ?_ ?_ HT_ ?_
     refine pu_ 15 141 (lA 48 65535) ?_ ?_ HT_ ?_
     refine pu_ 16 142 (lA 48 131071) ?_ ?_ HT_ ?_
     refine pu_ 17 143 (lA 48 262143) ?_ ?_ HT_ ?_
     refine pu_ 18 144 (lA 48 524287) ?_ ?_ HT_ ?_
     refine pu_ 19 145 (lA 48 1048575) ?_ ?_ HT_ ?_
     refine pu_ 20 146 (lA 48 2097151) ?_ ?_ HT_ ?_
     refine pu_ 21 147 (lA 48 4194303) ?_ ?_ HT_ ?_
     refine pu_ 22 148 (lA 48 8388607) ?_ ?_ HT_ ?_
     refine pu_ 23 149 (lA 48 16777215) ?_ ?_ HT_ ?_
     refine pu_ 24 150 (lA 48 33554431) ?_ ?_ HT_ ?_
     refine pu_ 25 151 (lA 48 67108863) ?_ ?_ HT_ ?_
     refine pu_ 26 152 (lA 48 134217727) ?_ ?_ HT_ ?_
     refine pu_ 27 153 (lA 48 268435455) ?_ ?_ HT_ ?_
     refine pu_ 28 154 (lA 48 536870911) ?_ ?_ HT_ ?_
     refine tk_ 29 155 (lA 48 1073741823) ?_ ?_ HT_ HW_ hHeld ?_
     refine pu_ 30 156 (lA 48 2147483647) ?_ ?_ HT_ ?_
     refine pu_ 31 157 (lA 48 4294967295) ?_ ?_ HT_ ?_
     refine pu_ 32 158 (lA 48 8589934591) ?_ ?_ HT_ ?_
     refine pu_ 33 159 (lA 48 17179869183) ?_ ?_ HT_ ?_
     refine pu_ 34 160 (lA 48 34359738367) ?_ ?_ HT_ ?_
     refine tk_ 35 161 (lA 48 68719476735) ?_ ?_ HT_ HW_ hHeld ?_
     refine pu_ 36 162 (lA 48 137438953471) ?_ ?_ HT_ ?_
     refine pu_ 37 163 (lA 48 274877906943) ?_ ?_ HT_ ?_
     refine pu_ 38 164 (lA 48 549755813887) ?_ ?_ HT_ ?_
     refine pu_ 41 167 (lA 48 2748779069439) ?_ ?_ HT_ ?_
     refine pu_ 42 168 (lA 48 7146825580543) ?_ ?_ HT_ ?_
     refine tk_ 39 165 (lA 48 7696581394431) ?_ ?_ HT_ HW_ hHeld ?_
     refine pu_ 40 166 (lA 48 8796093022207) ?_ ?_ HT_ ?_
     refine tk_ 43 169 (lA 48 17592186044415) ?_ ?_ HT_ HW_ hHeld ?_
     refine pu_ 44 170 (lA 48 35184372088831) ?_ ?_ HT_ ?_
     refine one_ (i := 45) (N := some 171) (lA 48 70368744177663) rfl rfl (one_of HT_.out (by kernel_rfl)) (by decide) (fun K hK => ?_)
     refine goes_ Try.func32 (by kernel_rfl) rfl #[.int .i64 (wrap64 (((rd_T48 l3 x49_2).f1))), .int .i64 1, .int .i64 (wrap64 (((rd_T49 x10_2 x49_2).f1) - 1))] (by rfl) rfl rfl (by (try simp only [List.map_toArray, List.map_cons, List.map_nil]); first | done | rfl | (simp only [List.length_drop, List.length_take]; rfl)) ?_
     with_reducible refine (impl_within.calls (wrap64 (((rd_T48 l3 x49_2).f1))) 1 (wrap64 (((rd_T49 x10_2 x49_2).f1) - 1)) false _ A177.out).mono ?_
     rintro e w' ⟨rfl, ⟨nd, rfl⟩⟩
     refine ⟨_, rfl, ?_⟩
     refine hK.out _ _ ⟨(blk_cell BK171.out 0).trans rfl, (blk_cell BK171.out 1).trans rfl, (blk_cell BK171.out 2).trans rfl, (blk_cell BK171.out 3).trans rfl, (blk_cell BK173.out 0).trans rfl, (blk_cell BK173.out 1).trans rfl, hHeld.2.2.2.2.2.2.1, hHeld.2.2.2.2.2.2.2⟩ (fun hHeld => ?_)
     clear hK K
     refine norm_ (a' := ?_) ?_ ?_
     rotate_left
     ·
      show Act.put _ (some 171) _ = _
      simp only [Act.put, List.setIfInBounds_toArray, List.set_cons_zero, List.set_cons_succ, i64_w, i32_w]
      rfl
     refine pu_ 46 172 (lA 48 140737488355327) ?_ ?_ HT_ ?_
     refine pu_ 47 173 (lA 48 281474976710655) ?_ ?_ HT_ ?_
     refine done_ (done_of HT_.out (by kernel_rfl)) ?_
     try go_wp2
     go_ret2
     exact ⟨_, by first | rfl | (simp [errW_none, errW_some] <;> rfl) | (simp only [← hji134, ← hji141]; first | rfl | (simp [errW_none, errW_some] <;> rfl)) | (simp [*, errW_none, errW_some] <;> rfl), by first | exact Kd.R_nil _ _ _ _ _ | exact Kd.N_nil _ _ _ _ _ | exact Kd.V_nil _ _ _ _ _ | exact Kd.Q_nil _ _ _ _ _ | exact Kd.S_nil _ _ _ _ _, kS_ HB GE171 GE173⟩
    subst c178
    replace H := gt_ H
    obtain ⟨y189, hy189⟩ : ∃ y_ : List Bool, y_ = (x11_2.set ((ji134) : Int).toNat true) := ⟨_, rfl⟩
    replace H : (if (ji134) < (x10_2.length : Int) then (if (ji141) < (x10_2.length : Int) then ((some ((x10_2.set ((ji134) : Int).toNat (⟨((rd_T49 x10_2 x49_2).f0), ((rd_T49 x10_2 x49_2).f1)⟩ : S49)).set ((ji141) : Int).toNat (⟨((rd_T49 x10_2 x49_2).f0), ((rd_T49 x10_2 x49_2).f1)⟩ : S49) : List (S49))).bind fun y192 => ((some (y192.set ((ji134) : Int).toNat (⟨(rd_T49 y192 (ji134)).f0, wrap64 (((rd_T48 l3 x49_2).f1))⟩ : S49) : List (S49))).bind fun y193 => (impl_sizes.l0 kj109 l2 l3 (y193.set ((ji141) : Int).toNat (⟨(rd_T49 y193 (ji141)).f0, wrap64 (((rd_T49 y193 (ji141)).f1) - (wrap64 (((rd_T48 l3 x49_2).f1))))⟩ : S49)) (y189.set ((ji141) : Int).toNat true) l3 (l3.length : Int) (wrap64 (x49_2 + 1))))) else (none)) else (none)) = some (r1, r2) := by first | (rw [hy189]; with_reducible exact H) | (have H2_ := (Option.bind_some _ _).symm.trans H; rw [hy189]; with_reducible exact H2_) | (have H2_ := (Option.bind_some _ _).symm.trans H; with_reducible exact H2_) | with_reducible exact H | (rw [hy189]; exact H) | exact H
    have Ny189 := Aside0.mk hy189
    clear hy189
    obtain ⟨y190, hy190⟩ : ∃ y_ : List Bool, y_ = (y189.set ((ji141) : Int).toNat true) := ⟨_, rfl⟩
    replace H : (if (ji134) < (x10_2.length : Int) then (if (ji141) < (x10_2.length : Int) then ((some ((x10_2.set ((ji134) : Int).toNat (⟨((rd_T49 x10_2 x49_2).f0), ((rd_T49 x10_2 x49_2).f1)⟩ : S49)).set ((ji141) : Int).toNat (⟨((rd_T49 x10_2 x49_2).f0), ((rd_T49 x10_2 x49_2).f1)⟩ : S49) : List (S49))).bind fun y192 => ((some (y192.set ((ji134) : Int).toNat (⟨(rd_T49 y192 (ji134)).f0, wrap64 (((rd_T48 l3 x49_2).f1))⟩ : S49) : List (S49))).bind fun y193 => (impl_sizes.l0 kj109 l2 l3 (y193.set ((ji141) : Int).toNat (⟨(rd_T49 y193 (ji141)).f0, wrap64 (((rd_T49 y193 (ji141)).f1) - (wrap64 (((rd_T48 l3 x49_2).f1))))⟩ : S49)) y190 l3 (l3.length : Int) (wrap64 (x49_2 + 1))))) else (none)) else (none)) = some (r1, r2) := by first | (rw [hy190]; with_reducible exact H) | (have H2_ := (Option.bind_some _ _).symm.trans H; rw [hy190]; with_reducible exact H2_) | (have H2_ := (Option.bind_some _ _).symm.trans H; with_reducible exact H2_) | with_reducible exact H | (rw [hy190]; exact H) | exact H
    have Ny190 := Aside0.mk hy190
    clear hy190
    by_cases c181 : (ji134) < (x10_2.length : Int)
    rotate_left
    ·
     rw [if_neg c181] at H
     exact absurd H (by simp)
    rw [if_pos c181] at H
    have c181b0 : decide ((ji134) < (x10_2.length : Int)) = true := decide_eq_true c181
    clear c181
    obtain ⟨y191, hy191⟩ : ∃ y_ : List (S49), y_ = (x10_2.set ((ji134) : Int).toNat (⟨((rd_T49 x10_2 x49_2).f0), ((rd_T49 x10_2 x49_2).f1)⟩ : S49)) := ⟨_, rfl⟩
    replace H : (if (ji141) < (x10_2.length : Int) then ((some (y191.set ((ji141) : Int).toNat (⟨((rd_T49 x10_2 x49_2).f0), ((rd_T49 x10_2 x49_2).f1)⟩ : S49) : List (S49))).bind fun y192 => ((some (y192.set ((ji134) : Int).toNat (⟨(rd_T49 y192 (ji134)).f0, wrap64 (((rd_T48 l3 x49_2).f1))⟩ : S49) : List (S49))).bind fun y193 => (impl_sizes.l0 kj109 l2 l3 (y193.set ((ji141) : Int).toNat (⟨(rd_T49 y193 (ji141)).f0, wrap64 (((rd_T49 y193 (ji141)).f1) - (wrap64 (((rd_T48 l3 x49_2).f1))))⟩ : S49)) y190 l3 (l3.length : Int) (wrap64 (x49_2 + 1))))) else (none)) = some (r1, r2) := by first | (rw [hy191]; with_reducible exact H) | (have H2_ := (Option.bind_some _ _).symm.trans H; rw [hy191]; with_reducible exact H2_) | (have H2_ := (Option.bind_some _ _).symm.trans H; with_reducible exact H2_) | with_reducible exact H | (rw [hy191]; exact H) | exact H
    have Ny191 := Aside0.mk hy191
    clear hy191
    by_cases c183 : (ji141) < (x10_2.length : Int)
    rotate_left
    ·
     rw [if_neg c183] at H
     exact absurd H (by simp)
    rw [if_pos c183] at H
    have c183b0 : decide ((ji141) < (x10_2.length : Int)) = true := decide_eq_true c183
    clear c183
    obtain ⟨y192, hy192⟩ : ∃ y_ : List (S49), y_ = (y191.set ((ji141) : Int).toNat (⟨((rd_T49 x10_2 x49_2).f0), ((rd_T49 x10_2 x49_2).f1)⟩ : S49)) := ⟨_, rfl⟩
    replace H : ((some (y192.set ((ji134) : Int).toNat (⟨(rd_T49 y192 (ji134)).f0, wrap64 (((rd_T48 l3 x49_2).f1))⟩ : S49) : List (S49))).bind fun y193 => (impl_sizes.l0 kj109 l2 l3 (y193.set ((ji141) : Int).toNat (⟨(rd_T49 y193 (ji141)).f0, wrap64 (((rd_T49 y193 (ji141)).f1) - (wrap64 (((rd_T48 l3 x49_2).f1))))⟩ : S49)) y190 l3 (l3.length : Int) (wrap64 (x49_2 + 1)))) = some (r1, r2) := by first | (rw [hy192]; with_reducible exact H) | (have H2_ := (Option.bind_some _ _).symm.trans H; rw [hy192]; with_reducible exact H2_) | (have H2_ := (Option.bind_some _ _).symm.trans H; with_reducible exact H2_) | with_reducible exact H | (rw [hy192]; exact H) | exact H
    have Ny192 := Aside0.mk hy192
    clear hy192
    obtain ⟨y193, hy193⟩ : ∃ y_ : List (S49), y_ = (y192.set ((ji134) : Int).toNat (⟨(rd_T49 y192 (ji134)).f0, wrap64 (((rd_T48 l3 x49_2).f1))⟩ : S49)) := ⟨_, rfl⟩
    replace H : (impl_sizes.l0 kj109 l2 l3 (y193.set ((ji141) : Int).toNat (⟨(rd_T49 y193 (ji141)).f0, wrap64 (((rd_T49 y193 (ji141)).f1) - (wrap64 (((rd_T48 l3 x49_2).f1))))⟩ : S49)) y190 l3 (l3.length : Int) (wrap64 (x49_2 + 1))) = some (r1, r2) := by first | (rw [hy193]; with_reducible exact H) | (have H2_ := (Option.bind_some _ _).symm.trans H; rw [hy193]; with_reducible exact H2_) | (have H2_ := (Option.bind_some _ _).symm.trans H; with_reducible exact H2_) | with_reducible exact H | (rw [hy193]; exact H) | exact H
    have Ny193 := Aside0.mk hy193
    clear hy193
    obtain ⟨y195, hy195⟩ : ∃ y_ : List (S49), y_ = (y193.set ((ji141) : Int).toNat (⟨(rd_T49 y193 (ji141)).f0, wrap64 (((rd_T49 y193 (ji141)).f1) - (wrap64 (((rd_T48 l3 x49_2).f1))))⟩ : S49)) := ⟨_, rfl⟩
    replace H : (impl_sizes.l0 kj109 l2 l3 y195 y190 l3 (l3.length : Int) (wrap64 (x49_2 + 1))) = some (r1, r2) := by first | (rw [hy195]; with_reducible exact H) | (have H2_ := (Option.bind_some _ _).symm.trans H; rw [hy195]; with_reducible exact H2_) | (have H2_ := (Option.bind_some _ _).symm.trans H; with_reducible exact H2_) | with_reducible exact H | (rw [hy195]; exact H) | exact H
    have Ny195 := Aside0.mk hy195
    clear hy195
    have H' := Aside0.mk H
    clear H
    try go_wp2
    replace HO_10 := Aside0.mk (Kd.R_drew HO_10.out)
    replace HO_11 := Aside0.mk (Kd.R_drew HO_11.out)
    replace BK171 := Aside0.mk (blk_drew BK171.out)
    replace BK173 := Aside0.mk (blk_drew BK173.out)
    replace HB := Aside0.mk (below_drew1 HB.out)
    have p178 : 0 ≤ ((ji134) : Int) := od_
    have q178 : (ji134) < (x11_2.length : Int) := od_
    obtain ⟨ad178, e178, hx178_0⟩ := Kd.at_bool (Kd.R_reads' HO_11.out).2.2 (ji134) p178 q178
    (try rw [← Nbq36.out] at hx178_0)
    (try rw [← Nbq137.out] at hx178_0)
    (try rw [← Nbq144.out] at hx178_0)
    obtain rfl : (⟨go20, 0, none⟩ : Addr) = ad178 := (by injection e178)
    (first | simp only [add_plain] at hx178_0 | simp only [add_at] at hx178_0 | simp only [Addr.add, Nat.zero_add] at hx178_0 | skip)
    replace p178 := eq_true p178
    replace q178 := eq_true q178
    have p179 : 0 ≤ ((ji141) : Int) := od_
    have q179 : (ji141) < (x11_2.length : Int) := od_
    obtain ⟨ad179, e179, hx179_0⟩ := Kd.at_bool (Kd.R_reads' HO_11.out).2.2 (ji141) p179 q179
    (try rw [← Nbq36.out] at hx179_0)
    (try rw [← Nbq137.out] at hx179_0)
    (try rw [← Nbq144.out] at hx179_0)
    obtain rfl : (⟨go20, 0, none⟩ : Addr) = ad179 := (by injection e179)
    (first | simp only [add_plain] at hx179_0 | simp only [add_at] at hx179_0 | simp only [Addr.add, Nat.zero_add] at hx179_0 | skip)
    replace p179 := eq_true p179
    replace q179 := eq_true q179
    refine start_ (n := 48) (S := fun w' => w'.cell? ⟨gb171, 0, none⟩ = some (.int .i8 ((rd_T48 l3 x49_2).f0)) ∧ w'.cell? ⟨gb171, 1, none⟩ = some (.int .i8 ((rd_T48 l3 x49_2).f1)) ∧ w'.cell? ⟨gb171, 2, none⟩ = some (.int .i8 ((rd_T48 l3 x49_2).f2)) ∧ w'.cell? ⟨gb171, 3, none⟩ = some (.int .i8 ((rd_T48 l3 x49_2).f3)) ∧ w'.cell? ⟨gb173, 0, none⟩ = some (.int .i64 ((rd_T49 x10_2 x49_2).f0)) ∧ w'.cell? ⟨gb173, 1, none⟩ = some (.int .i64 ((rd_T49 x10_2 x49_2).f1)) ∧ w'.cell? ⟨go20, ((ji134)).toNat, none⟩ = some (.bool false) ∧ w'.cell? ⟨go20, ((ji141)).toNat, none⟩ = some (.bool false)) (ds := []) #[false, false, false, false, false, false, false, false, false, false, false, false, false, false, false, false, false, false, false, false, false, false, false, false, false, false, false, false, false, false, false, false, false, false, false, false, false, false, false, false, false, false, false, false, false, false, false, false] (by kernel_rfl) rfl rfl ⟨(blk_cell BK171.out 0).trans rfl, (blk_cell BK171.out 1).trans rfl, (blk_cell BK171.out 2).trans rfl, (blk_cell BK171.out 3).trans rfl, (blk_cell BK173.out 0).trans rfl, (blk_cell BK173.out 1).trans rfl, hx178_0, hx179_0⟩ (fun hHeld => ?_); refine with_tabW impl_sizes.tab23 impl_sizes.bits23 (fun HT_ HW_ => ?_)
    generalize w120.drew = w188 at HO_10 HO_11 BK171 BK173 HB hx178_0 hx179_0 hHeld ⊢
    refine pu_ 0 126 (lA 48 1) ?_ ?_ HT_ ?_
    refine pu_ 1 127 (lA 48 3) ?_ ?_ HT_ ?_
    refine pu_ 2 128 (lA 48 7) ?_ ?_ HT_ ?_
    refine pu_ 3 129 (lA 48 15) ?_ ?_ HT_ ?_
    refine pu_ 4 130 (lA 48 31) ?_ ?_ HT_ ?_
    refine pu_ 5 131 (lA 48 63) ?_ ?_ HT_ ?_
    refine pu_ 6 132 (lA 48 127) ?_ ?_ HT_ ?_
    refine pu_ 7 133 (lA 48 255) ?_ ?_ HT_ ?_
    refine pu_ 8 134 (lA 48 511) ?_ ?_ HT_ ?_
    refine pu_ 9 135 (lA 48 1023) ?_ ?_ HT_ ?_
    refine pu_ 10 136 (lA 48 2047) ?_ ?_ HT_ ?_
    refine pu_ 11 137 (lA 48 4095) ?_ ?_ HT_ ?_
    refine pu_ 12 138 (lA 48 8191) ?_ ?_ HT_ ?_
    refine pu_ 13 139 (lA 48 16383) ?_ ?_ HT_ ?_
    refine pu_ 14 140 (lA 48 32767) ?_ ?_ HT_ ?_
    refine pu_ 15 141 (lA 48 65535) ?_ ?_ HT_ ?_
    refine pu_ 16 142 (lA 48 131071) ?_ ?_ HT_ ?_
    refine pu_ 17 143 (lA 48 262143) ?_ ?_ HT_ ?_
    refine pu_ 18 144 (lA 48 524287) ?_ ?_ HT_ ?_
    refine pu_ 19 145 (lA 48 1048575) ?_ ?_ HT_ ?_
    refine pu_ 20 146 (lA 48 2097151) ?_ ?_ HT_ ?_
    refine pu_ 21 147 (lA 48 4194303) ?_ ?_ HT_ ?_
    refine pu_ 22 148 (lA 48 8388607) ?_ ?_ HT_ ?_
    refine pu_ 23 149 (lA 48 16777215) ?_ ?_ HT_ ?_
    refine pu_ 24 150 (lA 48 33554431) ?_ ?_ HT_ ?_
    refine pu_ 25 151 (lA 48 67108863) ?_ ?_ HT_ ?_
    refine pu_ 26 152 (lA 48 134217727) ?_ ?_ HT_ ?_
    refine pu_ 27 153 (lA 48 268435455) ?_ ?_ HT_ ?_
    refine pu_ 28 154 (lA 48 536870911) ?_ ?_ HT_ ?_
    refine tk_ 29 155 (lA 48 1073741823) ?_ ?_ HT_ HW_ hHeld ?_
    refine pu_ 30 156 (lA 48 2147483647) ?_ ?_ HT_ ?_
    refine pu_ 31 157 (lA 48 4294967295) ?_ ?_ HT_ ?_
    refine pu_ 32 158 (lA 48 8589934591) ?_ ?_ HT_ ?_
    refine pu_ 33 159 (lA 48 17179869183) ?_ ?_ HT_ ?_
    refine pu_ 34 160 (lA 48 34359738367) ?_ ?_ HT_ ?_
    refine tk_ 35 161 (lA 48 68719476735) ?_ ?_ HT_ HW_ hHeld ?_
    refine pu_ 36 162 (lA 48 137438953471) ?_ ?_ HT_ ?_
    refine pu_ 37 163 (lA 48 274877906943) ?_ ?_ HT_ ?_
    refine pu_ 38 164 (lA 48 549755813887) ?_ ?_ HT_ ?_
    refine pu_ 41 167 (lA 48 2748779069439) ?_ ?_ HT_ ?_
    refine pu_ 42 168 (lA 48 7146825580543) ?_ ?_ HT_ ?_
    refine tk_ 39 165 (lA 48 7696581394431) ?_ ?_ HT_ HW_ hHeld ?_
    refine pu_ 40 166 (lA 48 8796093022207) ?_ ?_ HT_ ?_
    refine tk_ 43 169 (lA 48 17592186044415) ?_ ?_ HT_ HW_ hHeld ?_
    refine pu_ 44 170 (lA 48 35184372088831) ?_ ?_ HT_ ?_
    refine one_ (i := 45) (N := some 171) (lA 48 70368744177663) rfl rfl (one_of HT_.out (by kernel_rfl)) (by decide) (fun K hK => ?_)
    refine goes_ Try.func32 (by kernel_rfl) rfl #[.int .i64 (wrap64 (((rd_T48 l3 x49_2).f1))), .int .i64 1, .int .i64 (wrap64 (((rd_T49 x10_2 x49_2).f1) - 1))] (by rfl) rfl rfl (by (try simp only [List.map_toArray, List.map_cons, List.map_nil]); first | done | rfl | (simp only [List.length_drop, List.length_take]; rfl)) ?_
    with_reducible refine (impl_within.calls (wrap64 (((rd_T48 l3 x49_2).f1))) 1 (wrap64 (((rd_T49 x10_2 x49_2).f1) - 1)) true _ A177.out).mono ?_
    rintro e w' ⟨rfl, ⟨nd, rfl⟩⟩
    refine ⟨_, rfl, ?_⟩
    refine hK.out _ _ ⟨(blk_cell BK171.out 0).trans rfl, (blk_cell BK171.out 1).trans rfl, (blk_cell BK171.out 2).trans rfl, (blk_cell BK171.out 3).trans rfl, (blk_cell BK173.out 0).trans rfl, (blk_cell BK173.out 1).trans rfl, hHeld.2.2.2.2.2.2.1, hHeld.2.2.2.2.2.2.2⟩ (fun hHeld => ?_)
    clear hK K
    refine norm_ (a' := ?_) ?_ ?_
    rotate_left
    ·
     show Act.put _ (some 171) _ = _
     simp only [Act.put, List.setIfInBounds_toArray, List.set_cons_zero, List.set_cons_succ, i64_w, i32_w]
     rfl
    refine pu_ 46 172 (lA 48 140737488355327) ?_ ?_ HT_ ?_
    refine pu_ 47 173 (lA 48 281474976710655) ?_ ?_ HT_ ?_
    refine done_ (done_of HT_.out (by kernel_rfl)) ?_
    (try (rw [drewN_self w188]; generalize hq_ : World.drewN w188 _ = w188; have n0_ : Aside0 (Kd.R k49 49 w188 w.heap.size (fun k_ => k_ ≠ gb173) (.slice (some ⟨go18, 0, none⟩) x10_2.length co18) x10_2) := ⟨by rw [← hq_]; exact (kp_ HO_10)⟩; have n1_ : Aside0 (Kd.R Kd.bool 4 w188 w.heap.size (fun _ => True) (.slice (some ⟨go20, 0, none⟩) x11_2.length co20) x11_2) := ⟨by rw [← hq_]; exact (kp_ HO_11)⟩; have n2_ : Aside0 (w188.heap[gb171]? = some (.cells #[.int .i8 ((rd_T48 l3 x49_2).f0), .int .i8 ((rd_T48 l3 x49_2).f1), .int .i8 ((rd_T48 l3 x49_2).f2), .int .i8 ((rd_T48 l3 x49_2).f3)] 48 (0, 0))) := ⟨by rw [← hq_]; exact (kb_ BK171)⟩; have n3_ : Aside0 (w188.heap[gb173]? = some (.cells #[.int .i64 ((rd_T49 x10_2 x49_2).f0), .int .i64 ((rd_T49 x10_2 x49_2).f1)] 49 (0, 0))) := ⟨by rw [← hq_]; exact (kb_ BK173)⟩; have n4_ : Aside0 (Below w.heap.size w w188) := ⟨by rw [← hq_]; exact (kS_ HB GE171 GE173)⟩; clear HO_10 HO_11 BK171 BK173 HB hq_; have HO_10 := n0_; have HO_11 := n1_; have BK171 := n2_; have BK173 := n3_; have HB := n4_; clear n0_ n1_ n2_ n3_ n4_))
    have p179 : 0 ≤ ((ji134) : Int) := od_
    have q179 : ((ji134) : Int) < ((x11_2.length : Int) : Int) := od_
    obtain ⟨hx179_0, hf179_0⟩ := Kd.R_celln false HO_11.out ((ji134) : Int) p179 q179
    replace p179 := eq_true p179
    replace q179 := eq_true q179
    obtain ⟨hy189_, hz189_⟩ := Kd.R_celln false HO_11.out ((ji134) : Int) od_ od_
    have HP189 := Kd.R_putg HO_11.out ((ji134) : Int) true
    try go_wp2_with (first | ((with_reducible refine gate_store (t := 4) (p := 178) rfl ?_); refine store_event (t := 4) (p := 178) (v := ?vo_w190) (w1 := (w188.setCell ⟨go20, ((ji134) : Int).toNat, none⟩ (.bool true))) ?hg ?ho ?hn ?hr ?_; (case ho => rfl); (case hg => rfl); (case hn => rfl); (case hr => first | (go_simp; done) | (go_simp; rfl)); intro w190 hw; have hg : w188.grownBy w190 (some go20) := (by rw [hw]; exact HP189.2); have hp_ : Kd.R Kd.bool 4 w190 w.heap.size (fun _ => True) (.slice (some ⟨go20, 0, none⟩) x11_2.length co20) y189 := (by rw [hw, Ny189.out]; exact HP189.1); clear HP189; replace HO_10 := Aside0.mk (Kd.R_over' (v := (.slice (some ⟨go20, 0, none⟩) x11_2.length co20)) (kp_ HO_10) (Kd.R_typed HO_11.out) (by decide) hg); replace BK171 := Aside0.mk (blk_grown (g := gb171) (o := .cells #[.int .i8 ((rd_T48 l3 x49_2).f0), .int .i8 ((rd_T48 l3 x49_2).f1), .int .i8 ((rd_T48 l3 x49_2).f2), .int .i8 ((rd_T48 l3 x49_2).f3)] 48 (0, 0)) (kb_ BK171) hg (Kd.R_ne HO_11.out BK171.out (by decide))); replace BK173 := Aside0.mk (blk_grown (g := gb173) (o := .cells #[.int .i64 ((rd_T49 x10_2 x49_2).f0), .int .i64 ((rd_T49 x10_2 x49_2).f1)] 49 (0, 0)) (kb_ BK173) hg (Kd.R_ne HO_11.out BK173.out (by decide))); replace HO_11 := Aside0.mk (hp_); replace HB := Aside0.mk ((by rw [hw]; exact below_set (HB.out) GB20.out : Below w.heap.size w w190)); clear hg hw hp_; have p180 : 0 ≤ ((ji141) : Int) := od_; have q180 : ((ji141) : Int) < ((x11_2.length : Int) : Int) := od_; obtain ⟨hx180_0, hf180_0⟩ := Kd.R_celln false HO_11.out ((ji141) : Int) p180 q180; replace p180 := eq_true p180; replace q180 := eq_true q180; obtain ⟨hy191_, hz191_⟩ := Kd.R_celln false HO_11.out ((ji141) : Int) od_ od_; have HP191 := Kd.R_putg HO_11.out ((ji141) : Int) true) | ((with_reducible refine gate_store (t := 4) (p := 179) rfl ?_); refine store_event (t := 4) (p := 179) (v := ?vo_w192) (w1 := (w190.setCell ⟨go20, ((ji141) : Int).toNat, none⟩ (.bool true))) ?hg ?ho ?hn ?hr ?_; (case ho => rfl); (case hg => rfl); (case hn => rfl); (case hr => first | (go_simp; done) | (go_simp; rfl)); intro w192 hw; have hg : w190.grownBy w192 (some go20) := (by rw [hw]; exact HP191.2); have hp_ : Kd.R Kd.bool 4 w192 w.heap.size (fun _ => True) (.slice (some ⟨go20, 0, none⟩) x11_2.length co20) y190 := (by rw [hw, Ny190.out]; exact HP191.1); clear HP191; replace HO_10 := Aside0.mk (Kd.R_over' (v := (.slice (some ⟨go20, 0, none⟩) x11_2.length co20)) (kp_ HO_10) (Kd.R_typed HO_11.out) (by decide) hg); replace BK171 := Aside0.mk (blk_grown (g := gb171) (o := .cells #[.int .i8 ((rd_T48 l3 x49_2).f0), .int .i8 ((rd_T48 l3 x49_2).f1), .int .i8 ((rd_T48 l3 x49_2).f2), .int .i8 ((rd_T48 l3 x49_2).f3)] 48 (0, 0)) (kb_ BK171) hg (Kd.R_ne HO_11.out BK171.out (by decide))); replace BK173 := Aside0.mk (blk_grown (g := gb173) (o := .cells #[.int .i64 ((rd_T49 x10_2 x49_2).f0), .int .i64 ((rd_T49 x10_2 x49_2).f1)] 49 (0, 0)) (kb_ BK173) hg (Kd.R_ne HO_11.out BK173.out (by decide))); replace HO_11 := Aside0.mk (hp_); replace HB := Aside0.mk ((by rw [hw]; exact below_set (HB.out) GB20.out : Below w.heap.size w w192)); clear hg hw hp_))
    replace HO_10 := Aside0.mk (Kd.R_drew HO_10.out)
    replace HO_11 := Aside0.mk (Kd.R_drew HO_11.out)
    replace BK171 := Aside0.mk (blk_drew BK171.out)
    replace BK173 := Aside0.mk (blk_drew BK173.out)
    replace HB := Aside0.mk (below_drew1 HB.out)
    have p182 : 0 ≤ ((ji134) : Int) := od_
    have q182 : ((ji134) : Int) < ((x10_2.length : Int) : Int) := od_
    obtain ⟨ce182, hcl182, hM182, hcc182, hfr182⟩ := Kd.R_elem HO_10.out z49 ((ji134) : Int) p182 q182
    obtain rfl := k49_openM hM182
    have hx182_0 : World.cell? _ ⟨go18, ((ji134) : Int).toNat * 2, none⟩ = some (.int .i64 ((rd_T49 x10_2 (ji134)).f0)) := hcc182 0 _ rfl
    have hx182_1 : World.cell? _ ⟨go18, ((ji134) : Int).toNat * 2 + 1, none⟩ = some (.int .i64 ((rd_T49 x10_2 (ji134)).f1)) := hcc182 1 _ rfl
    have hf182_0 : World.frozen? _ ⟨go18, ((ji134) : Int).toNat * 2, none⟩ = false := hfr182 0
    have hf182_1 : World.frozen? _ ⟨go18, ((ji134) : Int).toNat * 2 + 1, none⟩ = false := hfr182 1
    clear hcl182 hcc182 hfr182; (try clear hM182)
    replace p182 := eq_true p182
    replace q182 := eq_true q182
    obtain ⟨ce194, hcl194, hM194, hcc194, hfr194⟩ := Kd.R_elem HO_10.out z49 ((ji134) : Int) od_ (by have h_ : ((ji134) : Int) < ((x10_2.length : Int) : Int) := od_; first | exact h_ | (have e_ := (Kd.R_reads' HO_10.out).1; omega) | simpa using h_)
    obtain rfl := k49_openM hM194
    have HP194 := (Kd.R_seg HO_10.out ((ji134) : Int) od_ (by have h_ : ((ji134) : Int) < ((x10_2.length : Int) : Int) := od_; first | exact h_ | (have e_ := (Kd.R_reads' HO_10.out).1; omega) | simpa using h_) (seg := [.int .i64 ((rd_T49 x10_2 x49_2).f0), .int .i64 ((rd_T49 x10_2 x49_2).f1)]) (j := 0) hcl194 hcc194 (show 2 ≤ 2 from by decide) (x' := (⟨((rd_T49 x10_2 x49_2).f0), ((rd_T49 x10_2 x49_2).f1)⟩ : S49)) (k49_mkM _ _ _ (⟨((rd_T49 x10_2 x49_2).f0), ((rd_T49 x10_2 x49_2).f1)⟩ : S49) ) (fun _ hk => hk)).1
    rw [← Ny191.out] at HP194
    have HQ194 := Aside0.mk HP194
    clear hcl194 hcc194 hfr194; (try clear hM194); clear HP194
    have p184 : 0 ≤ ((ji141) : Int) := od_
    have q184 : ((ji141) : Int) < ((x10_2.length : Int) : Int) := od_
    obtain ⟨ce184, hcl184, hM184, hcc184, hfr184⟩ := Kd.R_elem HQ194.out z49 ((ji141) : Int) p184 q184
    obtain rfl := k49_openM hM184
    have hx184_0 : World.cell? _ ⟨go18, ((ji141) : Int).toNat * 2, none⟩ = some (.int .i64 ((rd_T49 y191 (ji141)).f0)) := hcc184 0 _ rfl
    have hx184_1 : World.cell? _ ⟨go18, ((ji141) : Int).toNat * 2 + 1, none⟩ = some (.int .i64 ((rd_T49 y191 (ji141)).f1)) := hcc184 1 _ rfl
    have hf184_0 : World.frozen? _ ⟨go18, ((ji141) : Int).toNat * 2, none⟩ = false := hfr184 0
    have hf184_1 : World.frozen? _ ⟨go18, ((ji141) : Int).toNat * 2 + 1, none⟩ = false := hfr184 1
    clear hcl184 hcc184 hfr184; (try clear hM184)
    replace p184 := eq_true p184
    replace q184 := eq_true q184
    obtain ⟨ce195, hcl195, hM195, hcc195, hfr195⟩ := Kd.R_elem HQ194.out z49 ((ji141) : Int) od_ (by have h_ : ((ji141) : Int) < ((x10_2.length : Int) : Int) := od_; first | exact h_ | (have e_ := (Kd.R_reads' HO_10.out).1; omega) | simpa using h_)
    obtain rfl := k49_openM hM195
    have HP195 := (Kd.R_seg HQ194.out ((ji141) : Int) od_ (by have h_ : ((ji141) : Int) < ((x10_2.length : Int) : Int) := od_; first | exact h_ | (have e_ := (Kd.R_reads' HO_10.out).1; omega) | simpa using h_) (seg := [.int .i64 ((rd_T49 x10_2 x49_2).f0), .int .i64 ((rd_T49 x10_2 x49_2).f1)]) (j := 0) hcl195 hcc195 (show 2 ≤ 2 from by decide) (x' := (⟨((rd_T49 x10_2 x49_2).f0), ((rd_T49 x10_2 x49_2).f1)⟩ : S49)) (k49_mkM _ _ _ (⟨((rd_T49 x10_2 x49_2).f0), ((rd_T49 x10_2 x49_2).f1)⟩ : S49) ) (fun _ hk => hk)).1
    rw [← Ny192.out] at HP195
    have HQ195 := Aside0.mk HP195
    clear hcl195 hcc195 hfr195; (try clear hM195); clear HP195
    refine start_ (n := 10) (S := fun w' => w'.cell? ⟨gb173, 0, none⟩ = some (.int .i64 ((rd_T49 x10_2 x49_2).f0)) ∧ w'.cell? ⟨gb173, 1, none⟩ = some (.int .i64 ((rd_T49 x10_2 x49_2).f1))) (ds := [9]) #[false, false, false, false, false, false, false, false, false, false] (by kernel_rfl) rfl rfl ⟨(blk_cell BK173.out 0).trans rfl, (blk_cell BK173.out 1).trans rfl⟩ (fun hHeld => ?_); refine with_tabW impl_sizes.tab26 impl_sizes.bits26 (fun HT_ HW_ => ?_)
    generalize w192.drew = w193 at HO_10 HO_11 BK171 BK173 HB HQ194 HQ195 hf182_0 hf182_1 hf184_0 hf184_1 hx182_0 hx182_1 hx184_0 hx184_1 hHeld ⊢
    (try (have shf182_0 := hf182_0; simp [World.setCells, show (k49).sz = 2 from rfl, go_sem] at shf182_0))
    (try (have shf182_1 := hf182_1; simp [World.setCells, show (k49).sz = 2 from rfl, go_sem] at shf182_1))
    (try (have shf184_0 := hf184_0; simp [World.setCells, show (k49).sz = 2 from rfl, go_sem] at shf184_0))
    (try (have shf184_1 := hf184_1; simp [World.setCells, show (k49).sz = 2 from rfl, go_sem] at shf184_1))
    (try (have shx182_0 := hx182_0; simp [World.setCells, show (k49).sz = 2 from rfl, go_sem] at shx182_0))
    (try (have shx182_1 := hx182_1; simp [World.setCells, show (k49).sz = 2 from rfl, go_sem] at shx182_1))
    (try (have shx184_0 := hx184_0; simp [World.setCells, show (k49).sz = 2 from rfl, go_sem] at shx184_0))
    (try (have shx184_1 := hx184_1; simp [World.setCells, show (k49).sz = 2 from rfl, go_sem] at shx184_1))
    refine pu_ 0 180 (lA 10 1) ?_ ?_ HT_ ?_
    refine pu_ 1 181 (lA 10 3) ?_ ?_ HT_ ?_
    refine pu_ 2 182 (lA 10 7) ?_ ?_ HT_ ?_
    refine pu_ 3 183 (lA 10 15) ?_ ?_ HT_ ?_
    refine tk_ 4 184 (lA 10 31) ?_ ?_ HT_ HW_ hHeld ?_
    refine pu_ 6 186 (lA 10 95) ?_ ?_ HT_ ?_
    refine tk_ 5 185 (lA 10 127) ?_ ?_ HT_ HW_ hHeld ?_
    refine one_ (i := 7) (N := none) (lA 10 255) rfl rfl (one_of HT_.out (by kernel_rfl)) (by decide) (fun K hK => ?_)
    refine skip_ (w1 := ?_) (by rfl) rfl ?_ ?_
    rotate_left
    ·
     go_simp
     rfl
    refine hK.out _ _ ⟨((cell_far (p := ⟨go18, _, none⟩) (show gb173 ≠ go18 from (by have h_ := Kd.R_away HO_10.out (fun _ hk => hk); intro e_; exact h_ (by rw [e_]; rfl))) _).trans (((cell_far (p := ⟨go18, _, none⟩) (show gb173 ≠ go18 from (by have h_ := Kd.R_away HO_10.out (fun _ hk => hk); intro e_; exact h_ (by rw [e_]; rfl))) _).trans (hHeld.1)))), ((cell_far (p := ⟨go18, _, none⟩) (show gb173 ≠ go18 from (by have h_ := Kd.R_away HO_10.out (fun _ hk => hk); intro e_; exact h_ (by rw [e_]; rfl))) _).trans (((cell_far (p := ⟨go18, _, none⟩) (show gb173 ≠ go18 from (by have h_ := Kd.R_away HO_10.out (fun _ hk => hk); intro e_; exact h_ (by rw [e_]; rfl))) _).trans (hHeld.2))))⟩ (fun hHeld => ?_)
    clear hK K
    refine pu_ 8 187 (lA 10 511) ?_ ?_ HT_ ?_
    refine last_ (i := 9) (N := none) (lA 10 1023) rfl rfl (one_of HT_.out (by kernel_rfl)) (by decide) (fun K hK => ?_)
    refine skip_ (w1 := ?_) (by rfl) rfl ?_ ?_
    rotate_left
    ·
     go_simp
     rfl
    refine hK.out _ _ ?_
    clear hK K
    refine done_ (done_of HT_.out (by kernel_rfl)) ?_
    try go_wp2
    have n0_ : Aside0 (Kd.R k49 49 ((((w193.setCell ⟨go18, ((ji134) : Int).toNat * 2, none⟩ (.int .i64 ((rd_T49 x10_2 x49_2).f0))).setCell ⟨go18, ((ji134) : Int).toNat * 2 + 1, none⟩ (.int .i64 ((rd_T49 x10_2 x49_2).f1))).setCell ⟨go18, ((ji141) : Int).toNat * 2, none⟩ (.int .i64 ((rd_T49 x10_2 x49_2).f0))).setCell ⟨go18, ((ji141) : Int).toNat * 2 + 1, none⟩ (.int .i64 ((rd_T49 x10_2 x49_2).f1))) w.heap.size (fun k_ => k_ ≠ gb173) (.slice (some ⟨go18, 0, none⟩) x10_2.length co18) y192) := ⟨kp_ HQ195⟩
    have n1_ : Aside0 (Kd.R Kd.bool 4 ((((w193.setCell ⟨go18, ((ji134) : Int).toNat * 2, none⟩ (.int .i64 ((rd_T49 x10_2 x49_2).f0))).setCell ⟨go18, ((ji134) : Int).toNat * 2 + 1, none⟩ (.int .i64 ((rd_T49 x10_2 x49_2).f1))).setCell ⟨go18, ((ji141) : Int).toNat * 2, none⟩ (.int .i64 ((rd_T49 x10_2 x49_2).f0))).setCell ⟨go18, ((ji141) : Int).toNat * 2 + 1, none⟩ (.int .i64 ((rd_T49 x10_2 x49_2).f1))) w.heap.size (fun _ => True) (.slice (some ⟨go20, 0, none⟩) x11_2.length co20) y190) := ⟨by (with_reducible repeat (first | apply Kd.R_alloc | apply Kd.R_drewN | apply Kd.R_drew)); exact Kd.R_mono (Kd.R_far (p := ⟨go18, ((ji141) : Int).toNat * 2 + 1, none⟩) (Kd.R_far (p := ⟨go18, ((ji141) : Int).toNat * 2, none⟩) (Kd.R_far (p := ⟨go18, ((ji134) : Int).toNat * 2 + 1, none⟩) (Kd.R_far (p := ⟨go18, ((ji134) : Int).toNat * 2, none⟩) (Kd.R_types HO_11.out (Kd.R_typed HO_10.out go18 rfl).choose_spec (by decide)) (fun _ hk => hk.2) (.int .i64 ((rd_T49 x10_2 x49_2).f0))) (fun _ hk => hk.2) (.int .i64 ((rd_T49 x10_2 x49_2).f1))) (fun _ hk => hk.2) (.int .i64 ((rd_T49 x10_2 x49_2).f0))) (fun _ hk => hk.2) (.int .i64 ((rd_T49 x10_2 x49_2).f1))) (fun _ hk => trivial)⟩
    have n2_ : Aside0 (((((w193.setCell ⟨go18, ((ji134) : Int).toNat * 2, none⟩ (.int .i64 ((rd_T49 x10_2 x49_2).f0))).setCell ⟨go18, ((ji134) : Int).toNat * 2 + 1, none⟩ (.int .i64 ((rd_T49 x10_2 x49_2).f1))).setCell ⟨go18, ((ji141) : Int).toNat * 2, none⟩ (.int .i64 ((rd_T49 x10_2 x49_2).f0))).setCell ⟨go18, ((ji141) : Int).toNat * 2 + 1, none⟩ (.int .i64 ((rd_T49 x10_2 x49_2).f1))).heap[gb171]? = some (.cells #[.int .i8 ((rd_T48 l3 x49_2).f0), .int .i8 ((rd_T48 l3 x49_2).f1), .int .i8 ((rd_T48 l3 x49_2).f2), .int .i8 ((rd_T48 l3 x49_2).f3)] 48 (0, 0))) := ⟨by (with_reducible repeat (first | refine blk_drewN ?_ _ | refine blk_drew ?_ | refine blk_alloc ?_ _)); refine blk_far ?_ (by have h_ := Kd.R_ne HO_10.out BK171.out (by decide); intro e_; exact h_ (by rw [e_]; rfl)) _; (with_reducible repeat (first | refine blk_drewN ?_ _ | refine blk_drew ?_ | refine blk_alloc ?_ _)); refine blk_far ?_ (by have h_ := Kd.R_ne HO_10.out BK171.out (by decide); intro e_; exact h_ (by rw [e_]; rfl)) _; (with_reducible repeat (first | refine blk_drewN ?_ _ | refine blk_drew ?_ | refine blk_alloc ?_ _)); refine blk_far ?_ (by have h_ := Kd.R_ne HO_10.out BK171.out (by decide); intro e_; exact h_ (by rw [e_]; rfl)) _; (with_reducible repeat (first | refine blk_drewN ?_ _ | refine blk_drew ?_ | refine blk_alloc ?_ _)); refine blk_far ?_ (by have h_ := Kd.R_ne HO_10.out BK171.out (by decide); intro e_; exact h_ (by rw [e_]; rfl)) _; (with_reducible repeat (first | refine blk_drewN ?_ _ | refine blk_drew ?_ | refine blk_alloc ?_ _)); exact BK171.out⟩
    have n3_ : Aside0 (((((w193.setCell ⟨go18, ((ji134) : Int).toNat * 2, none⟩ (.int .i64 ((rd_T49 x10_2 x49_2).f0))).setCell ⟨go18, ((ji134) : Int).toNat * 2 + 1, none⟩ (.int .i64 ((rd_T49 x10_2 x49_2).f1))).setCell ⟨go18, ((ji141) : Int).toNat * 2, none⟩ (.int .i64 ((rd_T49 x10_2 x49_2).f0))).setCell ⟨go18, ((ji141) : Int).toNat * 2 + 1, none⟩ (.int .i64 ((rd_T49 x10_2 x49_2).f1))).heap[gb173]? = some (.cells #[.int .i64 ((rd_T49 x10_2 x49_2).f0), .int .i64 ((rd_T49 x10_2 x49_2).f1)] 49 (0, 0))) := ⟨by (with_reducible repeat (first | refine blk_drewN ?_ _ | refine blk_drew ?_ | refine blk_alloc ?_ _)); refine blk_far ?_ (by have h_ := Kd.R_away HO_10.out (fun _ hk => hk); intro e_; exact h_ (by rw [e_]; rfl)) _; (with_reducible repeat (first | refine blk_drewN ?_ _ | refine blk_drew ?_ | refine blk_alloc ?_ _)); refine blk_far ?_ (by have h_ := Kd.R_away HO_10.out (fun _ hk => hk); intro e_; exact h_ (by rw [e_]; rfl)) _; (with_reducible repeat (first | refine blk_drewN ?_ _ | refine blk_drew ?_ | refine blk_alloc ?_ _)); refine blk_far ?_ (by have h_ := Kd.R_away HO_10.out (fun _ hk => hk); intro e_; exact h_ (by rw [e_]; rfl)) _; (with_reducible repeat (first | refine blk_drewN ?_ _ | refine blk_drew ?_ | refine blk_alloc ?_ _)); refine blk_far ?_ (by have h_ := Kd.R_away HO_10.out (fun _ hk => hk); intro e_; exact h_ (by rw [e_]; rfl)) _; (with_reducible repeat (first | refine blk_drewN ?_ _ | refine blk_drew ?_ | refine blk_alloc ?_ _)); exact BK173.out⟩
    have n4_ : Aside0 (Below w.heap.size w ((((w193.setCell ⟨go18, ((ji134) : Int).toNat * 2, none⟩ (.int .i64 ((rd_T49 x10_2 x49_2).f0))).setCell ⟨go18, ((ji134) : Int).toNat * 2 + 1, none⟩ (.int .i64 ((rd_T49 x10_2 x49_2).f1))).setCell ⟨go18, ((ji141) : Int).toNat * 2, none⟩ (.int .i64 ((rd_T49 x10_2 x49_2).f0))).setCell ⟨go18, ((ji141) : Int).toNat * 2 + 1, none⟩ (.int .i64 ((rd_T49 x10_2 x49_2).f1)))) := ⟨by repeat (first | (with_reducible first | exact HB.out | apply below_alloc | apply pw_below_drewN | apply below_drew1 | refine below_set ?_ GB18.out | refine below_set ?_ GB18.out | refine below_set ?_ GB18.out | refine below_set ?_ GB18.out | refine below_set ?_ GE171.out | refine below_set ?_ GE173.out) | exact HB.out)⟩
    generalize ((((w193.setCell ⟨go18, ((ji134) : Int).toNat * 2, none⟩ (.int .i64 ((rd_T49 x10_2 x49_2).f0))).setCell ⟨go18, ((ji134) : Int).toNat * 2 + 1, none⟩ (.int .i64 ((rd_T49 x10_2 x49_2).f1))).setCell ⟨go18, ((ji141) : Int).toNat * 2, none⟩ (.int .i64 ((rd_T49 x10_2 x49_2).f0))).setCell ⟨go18, ((ji141) : Int).toNat * 2 + 1, none⟩ (.int .i64 ((rd_T49 x10_2 x49_2).f1))) = w196 at n0_ n1_ n2_ n3_ n4_ ⊢
    have HO_10 := n0_
    have HO_11 := n1_
    have BK171 := n2_
    have BK173 := n3_
    have HB := n4_
    clear n0_ n1_ n2_ n3_ n4_
    replace HO_10 := Aside0.mk (Kd.R_drew HO_10.out)
    replace HO_11 := Aside0.mk (Kd.R_drew HO_11.out)
    replace BK171 := Aside0.mk (blk_drew BK171.out)
    replace BK173 := Aside0.mk (blk_drew BK173.out)
    replace HB := Aside0.mk (below_drew1 HB.out)
    have p185 : 0 ≤ ((ji134) : Int) := od_
    have q185 : ((ji134) : Int) < ((x10_2.length : Int) : Int) := od_
    obtain ⟨ce185, hcl185, hM185, hcc185, hfr185⟩ := Kd.R_elem HO_10.out z49 ((ji134) : Int) p185 q185
    obtain rfl := k49_openM hM185
    have hx185_0 : World.cell? _ ⟨go18, ((ji134) : Int).toNat * 2, none⟩ = some (.int .i64 ((rd_T49 y192 (ji134)).f0)) := hcc185 0 _ rfl
    have hx185_1 : World.cell? _ ⟨go18, ((ji134) : Int).toNat * 2 + 1, none⟩ = some (.int .i64 ((rd_T49 y192 (ji134)).f1)) := hcc185 1 _ rfl
    have hf185_0 : World.frozen? _ ⟨go18, ((ji134) : Int).toNat * 2, none⟩ = false := hfr185 0
    have hf185_1 : World.frozen? _ ⟨go18, ((ji134) : Int).toNat * 2 + 1, none⟩ = false := hfr185 1
    clear hcl185 hcc185 hfr185; (try clear hM185)
    replace p185 := eq_true p185
    replace q185 := eq_true q185
    obtain ⟨ce198, hcl198, hM198, hcc198, hfr198⟩ := Kd.R_elem HO_10.out z49 ((ji134) : Int) od_ (by have h_ : ((ji134) : Int) < ((x10_2.length : Int) : Int) := od_; first | exact h_ | (have e_ := (Kd.R_reads' HO_10.out).1; omega) | simpa using h_)
    obtain rfl := k49_openM hM198
    have HP198 := (Kd.R_seg HO_10.out ((ji134) : Int) od_ (by have h_ : ((ji134) : Int) < ((x10_2.length : Int) : Int) := od_; first | exact h_ | (have e_ := (Kd.R_reads' HO_10.out).1; omega) | simpa using h_) (seg := [.int .i64 (wrap64 (((rd_T48 l3 x49_2).f1)))]) (j := 1) hcl198 hcc198 (show 2 ≤ 2 from by decide) (x' := (⟨(rd_T49 y192 (ji134)).f0, wrap64 (((rd_T48 l3 x49_2).f1))⟩ : S49)) (k49_mkM _ _ _ (⟨(rd_T49 y192 (ji134)).f0, wrap64 (((rd_T48 l3 x49_2).f1))⟩ : S49) ) (fun _ hk => hk)).1
    rw [← Ny193.out] at HP198
    have HQ198 := Aside0.mk HP198
    clear hcl198 hcc198 hfr198; (try clear hM198); clear HP198
    refine start_ (n := 9) (S := fun w' => w'.cell? ⟨gb171, 0, none⟩ = some (.int .i8 ((rd_T48 l3 x49_2).f0)) ∧ w'.cell? ⟨gb171, 1, none⟩ = some (.int .i8 ((rd_T48 l3 x49_2).f1)) ∧ w'.cell? ⟨gb171, 2, none⟩ = some (.int .i8 ((rd_T48 l3 x49_2).f2)) ∧ w'.cell? ⟨gb171, 3, none⟩ = some (.int .i8 ((rd_T48 l3 x49_2).f3))) (ds := [8]) #[false, false, false, false, false, false, false, false, false] (by kernel_rfl) rfl rfl ⟨(blk_cell BK171.out 0).trans rfl, (blk_cell BK171.out 1).trans rfl, (blk_cell BK171.out 2).trans rfl, (blk_cell BK171.out 3).trans rfl⟩ (fun hHeld => ?_); refine with_tabW impl_sizes.tab27 impl_sizes.bits27 (fun HT_ HW_ => ?_)
    generalize w196.drew = w197 at HO_10 HO_11 BK171 BK173 HB HQ195 HQ198 hf185_0 hf185_1 hx185_0 hx185_1 hHeld ⊢
    (try (have shf185_0 := hf185_0; simp [World.setCells, show (k49).sz = 2 from rfl, go_sem] at shf185_0))
    (try (have shf185_1 := hf185_1; simp [World.setCells, show (k49).sz = 2 from rfl, go_sem] at shf185_1))
    (try (have shx185_0 := hx185_0; simp [World.setCells, show (k49).sz = 2 from rfl, go_sem] at shx185_0))
    (try (have shx185_1 := hx185_1; simp [World.setCells, show (k49).sz = 2 from rfl, go_sem] at shx185_1))
    refine pu_ 0 188 (lA 9 1) ?_ ?_ HT_ ?_
    refine pu_ 1 189 (lA 9 3) ?_ ?_ HT_ ?_
    refine pu_ 2 190 (lA 9 7) ?_ ?_ HT_ ?_
    refine pu_ 3 191 (lA 9 15) ?_ ?_ HT_ ?_
    refine pu_ 6 194 (lA 9 79) ?_ ?_ HT_ ?_
    refine tk_ 4 192 (lA 9 95) ?_ ?_ HT_ HW_ hHeld ?_
    refine pu_ 5 193 (lA 9 127) ?_ ?_ HT_ ?_
    refine pu_ 7 195 (lA 9 255) ?_ ?_ HT_ ?_
    refine last_ (i := 8) (N := none) (lA 9 511) rfl rfl (one_of HT_.out (by kernel_rfl)) (by decide) (fun K hK => ?_)
    refine skip_ (w1 := ?_) (by rfl) rfl ?_ ?_
    rotate_left
    ·
     go_simp
     rfl
    refine hK.out _ _ ?_
    clear hK K
    refine done_ (done_of HT_.out (by kernel_rfl)) ?_
    try go_wp2
    have n0_ : Aside0 (Kd.R k49 49 (w197.setCell ⟨go18, ((ji134) : Int).toNat * 2 + 1, none⟩ (.int .i64 (wrap64 (((rd_T48 l3 x49_2).f1))))) w.heap.size (fun k_ => k_ ≠ gb173) (.slice (some ⟨go18, 0, none⟩) x10_2.length co18) y193) := ⟨kp_ HQ198⟩
    have n1_ : Aside0 (Kd.R Kd.bool 4 (w197.setCell ⟨go18, ((ji134) : Int).toNat * 2 + 1, none⟩ (.int .i64 (wrap64 (((rd_T48 l3 x49_2).f1))))) w.heap.size (fun _ => True) (.slice (some ⟨go20, 0, none⟩) x11_2.length co20) y190) := ⟨by (with_reducible repeat (first | apply Kd.R_alloc | apply Kd.R_drewN | apply Kd.R_drew)); exact Kd.R_mono (Kd.R_far (p := ⟨go18, ((ji134) : Int).toNat * 2 + 1, none⟩) (Kd.R_types HO_11.out (Kd.R_typed HO_10.out go18 rfl).choose_spec (by decide)) (fun _ hk => hk.2) (.int .i64 (wrap64 (((rd_T48 l3 x49_2).f1))))) (fun _ hk => trivial)⟩
    have n2_ : Aside0 ((w197.setCell ⟨go18, ((ji134) : Int).toNat * 2 + 1, none⟩ (.int .i64 (wrap64 (((rd_T48 l3 x49_2).f1))))).heap[gb171]? = some (.cells #[.int .i8 ((rd_T48 l3 x49_2).f0), .int .i8 ((rd_T48 l3 x49_2).f1), .int .i8 ((rd_T48 l3 x49_2).f2), .int .i8 ((rd_T48 l3 x49_2).f3)] 48 (0, 0))) := ⟨by (with_reducible repeat (first | refine blk_drewN ?_ _ | refine blk_drew ?_ | refine blk_alloc ?_ _)); refine blk_far ?_ (by have h_ := Kd.R_ne HO_10.out BK171.out (by decide); intro e_; exact h_ (by rw [e_]; rfl)) _; (with_reducible repeat (first | refine blk_drewN ?_ _ | refine blk_drew ?_ | refine blk_alloc ?_ _)); exact BK171.out⟩
    have n3_ : Aside0 ((w197.setCell ⟨go18, ((ji134) : Int).toNat * 2 + 1, none⟩ (.int .i64 (wrap64 (((rd_T48 l3 x49_2).f1))))).heap[gb173]? = some (.cells #[.int .i64 ((rd_T49 x10_2 x49_2).f0), .int .i64 ((rd_T49 x10_2 x49_2).f1)] 49 (0, 0))) := ⟨by (with_reducible repeat (first | refine blk_drewN ?_ _ | refine blk_drew ?_ | refine blk_alloc ?_ _)); refine blk_far ?_ (by have h_ := Kd.R_away HO_10.out (fun _ hk => hk); intro e_; exact h_ (by rw [e_]; rfl)) _; (with_reducible repeat (first | refine blk_drewN ?_ _ | refine blk_drew ?_ | refine blk_alloc ?_ _)); exact BK173.out⟩
    have n4_ : Aside0 (Below w.heap.size w (w197.setCell ⟨go18, ((ji134) : Int).toNat * 2 + 1, none⟩ (.int .i64 (wrap64 (((rd_T48 l3 x49_2).f1)))))) := ⟨by repeat (first | (with_reducible first | exact HB.out | apply below_alloc | apply pw_below_drewN | apply below_drew1 | refine below_set ?_ GB18.out | refine below_set ?_ GE171.out | refine below_set ?_ GE173.out) | exact HB.out)⟩
    generalize (w197.setCell ⟨go18, ((ji134) : Int).toNat * 2 + 1, none⟩ (.int .i64 (wrap64 (((rd_T48 l3 x49_2).f1))))) = w199 at n0_ n1_ n2_ n3_ n4_ ⊢
    have HO_10 := n0_
    have HO_11 := n1_
    have BK171 := n2_
    have BK173 := n3_
    have HB := n4_
    clear n0_ n1_ n2_ n3_ n4_
    replace HO_10 := Aside0.mk (Kd.R_drew HO_10.out)
    replace HO_11 := Aside0.mk (Kd.R_drew HO_11.out)
    replace BK171 := Aside0.mk (blk_drew BK171.out)
    replace BK173 := Aside0.mk (blk_drew BK173.out)
    replace HB := Aside0.mk (below_drew1 HB.out)
    have p194 : 0 ≤ ((ji141) : Int) := od_
    have q194 : (ji141) < (y193.length : Int) := (by have h_ : ((ji141) : Int) < ((x10_2.length : Int) : Int) := od_; first | (have e_ := (Kd.R_reads' HO_10.out).1; omega) | simpa only [Ny191.out, Ny192.out, Ny193.out, List.length_set] using h_)
    have ql194 : (((ji141) : Int) < ((x10_2.length : Int) : Int)) = True := eq_true od_
    obtain ⟨ad194, e194, hx194_0, hx194_1⟩ := at_T49 (Kd.R_reads' HO_10.out).2.2 (ji141) p194 q194
    obtain rfl : (⟨go18, 0, none⟩ : Addr) = ad194 := (by injection e194)
    (first | simp only [add_plain] at hx194_0 | simp only [add_at] at hx194_0 | simp only [Addr.add, Nat.zero_add] at hx194_0 | skip)
    (first | simp only [add_plain] at hx194_1 | simp only [add_at] at hx194_1 | simp only [Addr.add, Nat.zero_add] at hx194_1 | skip)
    replace p194 := eq_true p194
    replace q194 := eq_true q194
    have p186 : 0 ≤ ((ji141) : Int) := od_
    have q186 : ((ji141) : Int) < ((x10_2.length : Int) : Int) := od_
    obtain ⟨ce186, hcl186, hM186, hcc186, hfr186⟩ := Kd.R_elem HO_10.out z49 ((ji141) : Int) p186 q186
    obtain rfl := k49_openM hM186
    have hx186_0 : World.cell? _ ⟨go18, ((ji141) : Int).toNat * 2, none⟩ = some (.int .i64 ((rd_T49 y193 (ji141)).f0)) := hcc186 0 _ rfl
    have hx186_1 : World.cell? _ ⟨go18, ((ji141) : Int).toNat * 2 + 1, none⟩ = some (.int .i64 ((rd_T49 y193 (ji141)).f1)) := hcc186 1 _ rfl
    have hf186_0 : World.frozen? _ ⟨go18, ((ji141) : Int).toNat * 2, none⟩ = false := hfr186 0
    have hf186_1 : World.frozen? _ ⟨go18, ((ji141) : Int).toNat * 2 + 1, none⟩ = false := hfr186 1
    clear hcl186 hcc186 hfr186; (try clear hM186)
    replace p186 := eq_true p186
    replace q186 := eq_true q186
    obtain ⟨ce201, hcl201, hM201, hcc201, hfr201⟩ := Kd.R_elem HO_10.out z49 ((ji141) : Int) od_ (by have h_ : ((ji141) : Int) < ((x10_2.length : Int) : Int) := od_; first | exact h_ | (have e_ := (Kd.R_reads' HO_10.out).1; omega) | simpa using h_)
    obtain rfl := k49_openM hM201
    have HP201 := (Kd.R_seg HO_10.out ((ji141) : Int) od_ (by have h_ : ((ji141) : Int) < ((x10_2.length : Int) : Int) := od_; first | exact h_ | (have e_ := (Kd.R_reads' HO_10.out).1; omega) | simpa using h_) (seg := [.int .i64 (wrap64 (((rd_T49 y193 (ji141)).f1) - (wrap64 (((rd_T48 l3 x49_2).f1)))))]) (j := 1) hcl201 hcc201 (show 2 ≤ 2 from by decide) (x' := (⟨(rd_T49 y193 (ji141)).f0, wrap64 (((rd_T49 y193 (ji141)).f1) - (wrap64 (((rd_T48 l3 x49_2).f1))))⟩ : S49)) (k49_mkM _ _ _ (⟨(rd_T49 y193 (ji141)).f0, wrap64 (((rd_T49 y193 (ji141)).f1) - (wrap64 (((rd_T48 l3 x49_2).f1))))⟩ : S49) ) (fun _ hk => hk)).1
    rw [← Ny195.out] at HP201
    have HQ201 := Aside0.mk HP201
    clear hcl201 hcc201 hfr201; (try clear hM201); clear HP201
    refine start_ (n := 13) (S := fun w' => w'.cell? ⟨gb171, 0, none⟩ = some (.int .i8 ((rd_T48 l3 x49_2).f0)) ∧ w'.cell? ⟨gb171, 1, none⟩ = some (.int .i8 ((rd_T48 l3 x49_2).f1)) ∧ w'.cell? ⟨gb171, 2, none⟩ = some (.int .i8 ((rd_T48 l3 x49_2).f2)) ∧ w'.cell? ⟨gb171, 3, none⟩ = some (.int .i8 ((rd_T48 l3 x49_2).f3)) ∧ w'.cell? ⟨go18, ((ji141)).toNat * 2, none⟩ = some (.int .i64 ((rd_T49 y193 (ji141)).f0)) ∧ w'.cell? ⟨go18, ((ji141)).toNat * 2 + 1, none⟩ = some (.int .i64 ((rd_T49 y193 (ji141)).f1))) (ds := [12]) #[false, false, false, false, false, false, false, false, false, false, false, false, false] (by kernel_rfl) rfl rfl ⟨(blk_cell BK171.out 0).trans rfl, (blk_cell BK171.out 1).trans rfl, (blk_cell BK171.out 2).trans rfl, (blk_cell BK171.out 3).trans rfl, hx194_0, hx194_1⟩ (fun hHeld => ?_); refine with_tabW impl_sizes.tab28 impl_sizes.bits28 (fun HT_ HW_ => ?_)
    generalize w199.drew = w200 at HO_10 HO_11 BK171 BK173 HB HQ198 HQ201 hf186_0 hf186_1 hx186_0 hx186_1 hx194_0 hx194_1 hHeld ⊢
    (try (have shf186_0 := hf186_0; simp [World.setCells, show (k49).sz = 2 from rfl, go_sem] at shf186_0))
    (try (have shf186_1 := hf186_1; simp [World.setCells, show (k49).sz = 2 from rfl, go_sem] at shf186_1))
    (try (have shx186_0 := hx186_0; simp [World.setCells, show (k49).sz = 2 from rfl, go_sem] at shx186_0))
    (try (have shx186_1 := hx186_1; simp [World.setCells, show (k49).sz = 2 from rfl, go_sem] at shx186_1))
    (try (have shx194_0 := hx194_0; simp [World.setCells, show (k49).sz = 2 from rfl, go_sem] at shx194_0))
    (try (have shx194_1 := hx194_1; simp [World.setCells, show (k49).sz = 2 from rfl, go_sem] at shx194_1))
    refine pu_ 0 196 (lA 13 1) ?_ ?_ HT_ ?_
    refine pu_ 1 197 (lA 13 3) ?_ ?_ HT_ ?_
    refine pu_ 2 198 (lA 13 7) ?_ ?_ HT_ ?_
    refine pu_ 3 199 (lA 13 15) ?_ ?_ HT_ ?_
    refine pu_ 4 200 (lA 13 31) ?_ ?_ HT_ ?_
    refine pu_ 6 202 (lA 13 95) ?_ ?_ HT_ ?_
    refine pu_ 10 206 (lA 13 1119) ?_ ?_ HT_ ?_
    refine tk_ 5 201 (lA 13 1151) ?_ ?_ HT_ HW_ hHeld ?_
    refine tk_ 7 203 (lA 13 1279) ?_ ?_ HT_ HW_ hHeld ?_
    refine pu_ 8 204 (lA 13 1535) ?_ ?_ HT_ ?_
    refine pu_ 9 205 (lA 13 2047) ?_ ?_ HT_ ?_
    refine pu_ 11 207 (lA 13 4095) ?_ ?_ HT_ ?_
    refine last_ (i := 12) (N := none) (lA 13 8191) rfl rfl (one_of HT_.out (by kernel_rfl)) (by decide) (fun K hK => ?_)
    refine skip_ (w1 := ?_) (by rfl) rfl ?_ ?_
    rotate_left
    ·
     go_simp
     rfl
    refine hK.out _ _ ?_
    clear hK K
    refine done_ (done_of HT_.out (by kernel_rfl)) ?_
    try go_wp2
    (try simp only [← hl10_2, ← hl11_2])
    go_roundg kj109
    case measure => have := HJ4.out; have := HK2.out; have := HJ109.out; omega
    case rel => exact ⟨(y195), (y190), (wrap64 (x49_2 + 1)), (by first | rfl | (simp; done) | (simp [*]; done)), H', ⟨by have := HJ4.out; have := HK2.out; have := HJ109.out; omega⟩, ⟨by (try simp only [hl10_2]); (try simp only [hl11_2]); (with_reducible repeat (first | apply Kd.R_alloc | apply Kd.R_drewN | apply Kd.R_drew)); exact Kd.R_mono HQ201.out (fun _ hk => trivial)⟩, ⟨by (try simp only [hl10_2]); (try simp only [hl11_2]); (with_reducible repeat (first | apply Kd.R_alloc | apply Kd.R_drewN | apply Kd.R_drew)); exact Kd.R_mono (Kd.R_far (p := ⟨go18, ((ji141) : Int).toNat * 2 + 1, none⟩) (Kd.R_types HO_11.out (Kd.R_typed HO_10.out go18 rfl).choose_spec (by decide)) (fun _ hk => hk.2) (.int .i64 (wrap64 (((rd_T49 y193 (ji141)).f1) - (wrap64 (((rd_T48 l3 x49_2).f1))))))) (fun _ hk => trivial)⟩, ⟨by repeat (first | (with_reducible first | exact HB.out | apply below_alloc | apply pw_below_drewN | apply below_drew1 | refine below_set ?_ GB18.out | refine below_set ?_ GE171.out | refine below_set ?_ GE173.out) | exact HB.out)⟩⟩
end Go.Proofs.Ytnkihjabmbeicaa.PA
