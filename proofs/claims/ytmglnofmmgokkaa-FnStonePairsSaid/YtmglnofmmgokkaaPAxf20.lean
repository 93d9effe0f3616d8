/- Pure functions, and that Go's functions come to them. -/
import Derived.Test.YtmglnofmmgokkaaPAx0
import Derived.Test.YtmglnofmmgokkaaPAxm21
import Derived.Test.YtmglnofmmgokkaaPAxf47
import Derived.Test.YtmglnofmmgokkaaPAxgSpec
namespace Go.Proofs.Ytmglnofmmgokkaa.PA
open Go.RowKit Go.Proofs.YtmglnofmmgokkaaW.PrintWords Go.Proofs.YtmglnofmmgokkaaW.PrintLast Go.Proofs.YtmglnofmmgokkaaW.PrintMore
set_option linter.unusedVariables false
set_option linter.unusedSimpArgs false

attribute [local go_sem high] eqA34
/-! ### spec_JoinStones: function 20 -/
mutual
def spec_JoinStones.j0 : Nat → List (S34) → List (S34) → Bool → Option ((List (S34)) × Int)
 | 0, _, _, _ => none
 | k + 1, x0, x1, x20 => if x20 = true then (some ((([] : List (S34))), 1)) else (spec_JoinStones.l0 k x0 x1 0)
def spec_JoinStones.l0 : Nat → List (S34) → List (S34) → Int → Option ((List (S34)) × Int)
 | 0, _, _, _ => none
 | k + 1, x0, x1, x6 => if x6 < (x0.length : Int) then (spec_JoinStones.l1 k x0 x1 x6 0) else (some ((([] : List (S34))), 6))
def spec_JoinStones.l1 : Nat → List (S34) → List (S34) → Int → Int → Option ((List (S34)) × Int)
 | 0, _, _, _, _ => none
 | k + 1, x0, x1, x6, x7 => if x7 < (x1.length : Int) then ((spec_l03Next.f x0 x6).bind fun t532 => (if 0 ≤ x6 then (if x6 < (x0.length : Int) then ((spec_l03Next.f x1 x7).bind fun t534 => (if 0 ≤ t534 then (if t534 < (x1.length : Int) then (if (!(((rd_T34 x0 x6).f0) == ((rd_T34 x1 t534).f0)) || (!(((rd_T34 x0 x6).f1) == ((rd_T34 x1 t534).f1)))) = true then (spec_JoinStones.j3 k x0 x1 x6 x7 x6 t532 true) else (if 0 ≤ t532 then (if t532 < (x0.length : Int) then (if 0 ≤ x7 then (spec_JoinStones.j3 k x0 x1 x6 x7 x6 t532 (!(((rd_T34 x0 t532).f0) == ((rd_T34 x1 x7).f0)) || (!(((rd_T34 x0 t532).f1) == ((rd_T34 x1 x7).f1))))) else (none)) else (none)) else (none))) else (none)) else (none))) else (none)) else (none))) else (spec_JoinStones.l0 k x0 x1 (wrap64 (x6 + 1)))
def spec_JoinStones.j3 : Nat → List (S34) → List (S34) → Int → Int → Int → Int → Bool → Option ((List (S34)) × Int)
 | 0, _, _, _, _, _, _, _ => none
 | k + 1, x0, x1, x6, x7, x8, x9, x59 => if x59 = true then (spec_JoinStones.l1 k x0 x1 x6 (wrap64 (x7 + 1))) else ((spec_l03Part.f k x0 x9 x8).bind fun t538 => ((spec_l03Next.f x1 x7).bind fun t541 => ((spec_l03Next.f x1 t541).bind fun t542 => (if (x1.length : Int) = 0 then (none) else ((spec_l03Part.f k x1 t542 (Int.tmod (wrap64 ((wrap64 (x7 + (x1.length : Int))) - 1)) (x1.length : Int))).bind fun t543 => (if t538.length + t543.length < 35184372088832 then ((spec_l03Joined.f k (t538 ++ t543)).bind fun bt549 => (some (bt549.1, bt549.2))) else (none)))))))
end
def spec_JoinStones.f (k : Nat) (l0 : List (S34)) (l1 : List (S34)) : Option ((List (S34)) × Int) := (spec_l03Ok.f k l0).bind fun t524 => (if t524 = true then ((spec_l03Ok.f k l1).bind fun t525 => (spec_JoinStones.j0 k l0 l1 (!t525))) else (spec_JoinStones.j0 k l0 l1 true))
theorem spec_JoinStones.mono_l : ∀ k, (∀ y0 y1 y2, LeO (spec_JoinStones.j0 k y0 y1 y2) (spec_JoinStones.j0 (k + 1) y0 y1 y2)) ∧ (∀ y0 y1 y2, LeO (spec_JoinStones.l0 k y0 y1 y2) (spec_JoinStones.l0 (k + 1) y0 y1 y2)) ∧ (∀ y0 y1 y2 y3, LeO (spec_JoinStones.l1 k y0 y1 y2 y3) (spec_JoinStones.l1 (k + 1) y0 y1 y2 y3)) ∧ (∀ y0 y1 y2 y3 y4 y5 y6, LeO (spec_JoinStones.j3 k y0 y1 y2 y3 y4 y5 y6) (spec_JoinStones.j3 (k + 1) y0 y1 y2 y3 y4 y5 y6))
 | 0 => ⟨fun _ _ _ r h => by simp [spec_JoinStones.j0] at h, fun _ _ _ r h => by simp [spec_JoinStones.l0] at h, fun _ _ _ _ r h => by simp [spec_JoinStones.l1] at h, fun _ _ _ _ _ _ _ r h => by simp [spec_JoinStones.j3] at h⟩
 | k + 1 => by
  obtain ⟨ih0, ih1, ih2, ih3⟩ := spec_JoinStones.mono_l k
  refine ⟨?_, ?_, ?_, ?_⟩ <;> intros
  all_goals first | unfold spec_JoinStones.j0 | unfold spec_JoinStones.l0 | unfold spec_JoinStones.l1 | unfold spec_JoinStones.j3
  all_goals repeat' first | (with_reducible first | exact ih0 _ _ _ | exact ih1 _ _ _ | exact ih2 _ _ _ _ | exact ih3 _ _ _ _ _ _ _ | exact spec_l03Joined.mono _ _ | exact spec_l03Ok.mono _ _ | exact spec_l03Part.mono _ _ _ _ | exact LeO.refl _ | exact LeO.none _ | refine LeO.ite ?_ ?_ | refine LeO.bind ?_ (fun _ => ?_))
theorem spec_JoinStones.mono : ∀ a0 a1 k, LeO (spec_JoinStones.f k a0 a1) (spec_JoinStones.f (k + 1) a0 a1) := by
 intro a0 a1 k
 obtain ⟨ih0, ih1, ih2, ih3⟩ := spec_JoinStones.mono_l k
 unfold spec_JoinStones.f
 repeat' first | (with_reducible first | exact ih0 _ _ _ | exact ih1 _ _ _ | exact ih2 _ _ _ _ | exact ih3 _ _ _ _ _ _ _ | exact spec_l03Joined.mono _ _ | exact spec_l03Ok.mono _ _ | exact spec_l03Part.mono _ _ _ _ | exact LeO.refl _ | exact LeO.none _ | refine LeO.ite ?_ ?_ | refine LeO.bind ?_ (fun _ => ?_))
set_option maxHeartbeats 8000000 in
set_option maxRecDepth 100000 in
theorem spec_JoinStones.calls (k : Nat) (A0 : Option Addr) (c0 : Nat) (l0 : List (S34)) (A1 : Option Addr) (c1 : Nat) (l1 : List (S34)) (r1 : List (S34)) (r2 : Int) (w : World) (hr0 : Kd.C k34 w A0 l0.length l0) (hc0 : l0.length ≤ c0) (hr1 : Kd.C k34 w A1 l1.length l1) (hc1 : l1.length ≤ c1) (h : spec_JoinStones.f k l0 l1 = some (r1, r2)) :
  Calls Try.prog 20 #[.slice A0 l0.length c0, .slice A1 l1.length c1] w fun e w' => ∃ v0_ : Value, e = .returned (.tuple #[v0_, .int .i64 r2]) ∧ Kd.V k34 34 w' w.heap.size (fun k_ => (w.heap.size ≤ k_)) v0_ r1 ∧ Below w.heap.size w w' := by
 have hu34 := Try.underlying34
 have HR0 := Aside0.mk hr0
 have HC0 := Aside0.mk hc0
 clear hr0 hc0
 have HR1 := Aside0.mk hr1
 have HC1 := Aside0.mk hc1
 clear hr1 hc1
 have HB := Aside0.mk (Below.refl w.heap.size w)
 have H : ((spec_l03Ok.f k l0).bind fun t524 => (if t524 = true then ((spec_l03Ok.f k l1).bind fun t525 => (spec_JoinStones.j0 k l0 l1 (!t525))) else (spec_JoinStones.j0 k l0 l1 true))) = some (r1, r2) := h
 clear h
 have HC3 := Aside0.mk H
 clear H
 go_enter Try.func20, Try.ntmps20
 go_upto_region 1 with (fail)
 repeat (go_quiet (fail); go_upto_region 1 with (fail))
 go_cut [20] (fun v20 wc => ∃ (kq : Nat) (x20_2 : Bool), v20 = .bool x20_2 ∧ Aside0 (spec_JoinStones.j0 kq l0 l1 x20_2 = some (r1, r2)) ∧ Aside0 (kq ≤ k) ∧ Aside0 (Below w.heap.size w wc))
 case first =>
  have H := HC3.out
  clear HC3
  obtain ⟨t524, A4, H⟩ := be_ H
  (try dsimp only at H)
  rcases (Decidable.em (t524 = true)).symm with c5 | c5
  ·
   replace c5 := Bool.eq_false_iff.mpr c5
   subst c5
   replace H := gf_ H
   have H' := Aside0.mk H
   clear H
   go_wp2_with (first | (go_at_call 27; (with_reducible refine (spec_l03Ok.calls k _ _ l0 false _ ?side1 ?side2 A4.out).mono ?_); (case side1 => exact kc_ (Kd.C_below HR0.out HB.out)); (case side2 => exact HC0.out); rintro e w9 ⟨rfl, hb⟩; replace HB := bs_ HB hb; clear hb))
   repeat (go_quiet (fail); try go_wp2)
   go_meet
   case rel => exact ⟨_, (true), (by first | rfl | (simp; done) | (simp [*]; done)), H', ⟨by first | omega | exact Nat.le_refl _⟩, ⟨bl_ HB⟩⟩
  subst c5
  replace H := gt_ H
  obtain ⟨t525, A6, H⟩ := be_ H
  (try dsimp only at H)
  have H' := Aside0.mk H
  clear H
  go_wp2_with (first | (go_at_call 27; (with_reducible refine (spec_l03Ok.calls k _ _ l0 true _ ?side1 ?side2 A4.out).mono ?_); (case side1 => exact kc_ (Kd.C_below HR0.out HB.out)); (case side2 => exact HC0.out); rintro e w7 ⟨rfl, hb⟩; replace HB := bs_ HB hb; clear hb) | (go_at_call 27; (with_reducible refine (spec_l03Ok.calls k _ _ l1 t525 _ ?side1 ?side2 A6.out).mono ?_); (case side1 => exact kc_ (Kd.C_below HR1.out HB.out)); (case side2 => exact HC1.out); rintro e w8 ⟨rfl, hb⟩; replace HB := bs_ HB hb; clear hb))
  repeat (go_quiet (fail); try go_wp2)
  go_meet
  case rel => exact ⟨_, (!t525), (by first | rfl | (simp; done) | (simp [*]; done)), H', ⟨by first | omega | exact Nat.le_refl _⟩, ⟨bl_ HB⟩⟩
 case rest =>
  clear HC3
  obtain ⟨kq, x20_2, rfl, HA, HJ2, HB⟩ := hcut
  rcases kq with _ | kj2
  · exact absurd HA.out (by simp [spec_JoinStones.j0])
  have H := HA.out
  clear HA
  simp only [spec_JoinStones.j0] at H
  by_cases c10 : x20_2 = true
  ·
   subst c10
   replace H := gt_ H
   obtain ⟨y526, hy526⟩ : ∃ y_ : List (S34), y_ = (([] : List (S34))) := ⟨_, rfl⟩
   replace H : (some (y526, 1)) = some (r1, r2) := by first | (rw [hy526]; with_reducible exact H) | (have H2_ := (Option.bind_some _ _).symm.trans H; rw [hy526]; with_reducible exact H2_) | (have H2_ := (Option.bind_some _ _).symm.trans H; with_reducible exact H2_) | with_reducible exact H | (rw [hy526]; exact H) | exact H
   have Ny526 := Aside0.mk hy526
   clear hy526
   simp only [Option.some.injEq, Prod.mk.injEq] at H
   obtain ⟨rfl, rfl⟩ := H
   go_wp2_with (first | ((with_reducible refine gate_dst (N := 21) rfl ?_); refine Kd.R_lit k34 _ 34 ?hg (N := 21) ?hd (xs := ([] : List (S34))) (inner := []) (ok := fun _ => True) (okp := fun _ => True) ?hr ?hp (fun _ hk => hk) trivial (Below.refl _ _) (Nat.le_refl _) (by simp) ?_; (case hd => rfl); (case hg => rfl); (case hr => first | (go_simp; done) | (go_simp; rfl)); (case hp => exact (Reps.none _ _)); intro v527 w11 ho12 hb hg_ hnew_; clear hg_ hnew_; (first | rw [← Ny526.out] at ho12 | (simp only [Int.reduceToNat] at ho12; rw [← Ny526.out] at ho12)); have HO528 := Aside0.mk (Kd.R_lower (Kd.R_newM (M := fun k_ => (w.heap.size ≤ k_)) ho12 (below_size (kB_ HB)) (fun k_ h_ => h_)) (below_size (kB_ HB))); replace HB := bs_ HB hb; clear hb ho12))
   repeat (go_quiet (fail); try go_wp2)
   go_ret2
   exact ⟨_, by first | rfl | (simp [errW_none, errW_some] <;> rfl) | (simp [*, errW_none, errW_some] <;> rfl), Kd.R_V (by (with_reducible repeat (first | apply Kd.R_alloc | apply Kd.R_drewN | apply Kd.R_drew)); exact Kd.R_mono HO528.out (fun _ hk => hk.1)), bl_ HB⟩
  replace c10 := Bool.eq_false_iff.mpr c10
  subst c10
  replace H := gf_ H
  have H' := Aside0.mk H
  clear H
  go_wp2
  repeat (go_quiet (fail); try go_wp2)
  go_loopg [6] kj2 (fun kq v6 w' => ∃ (x6_2 : Int), v6 = .int .i64 x6_2 ∧ Aside0 (spec_JoinStones.l0 kq l0 l1 x6_2 = some (r1, r2)) ∧ Aside0 (kq ≤ kj2) ∧ Aside0 (Below w.heap.size w w'))
  case atStart => exact ⟨(0), (by first | rfl | (simp; done) | (simp [*]; done)), H', ⟨Nat.le_refl _⟩, ⟨bl_ HB⟩⟩
  case round =>
   clear H'
   obtain ⟨x6_2, rfl, HA, HK2, HB⟩ := hrel
   rcases gk with _ | k2
   · exact absurd HA.out (by simp [spec_JoinStones.l0])
   have H := HA.out
   clear HA
   simp only [spec_JoinStones.l0] at H
   rcases (Decidable.em (x6_2 < (l0.length : Int))).symm with c13 | c13
   ·
    rw [if_neg c13] at H
    have c13b0 : decide (x6_2 < (l0.length : Int)) = false := decide_eq_false c13
    clear c13
    obtain ⟨y529, hy529⟩ : ∃ y_ : List (S34), y_ = (([] : List (S34))) := ⟨_, rfl⟩
    replace H : (some (y529, 6)) = some (r1, r2) := by first | (rw [hy529]; with_reducible exact H) | (have H2_ := (Option.bind_some _ _).symm.trans H; rw [hy529]; with_reducible exact H2_) | (have H2_ := (Option.bind_some _ _).symm.trans H; with_reducible exact H2_) | with_reducible exact H | (rw [hy529]; exact H) | exact H
    have Ny529 := Aside0.mk hy529
    clear hy529
    simp only [Option.some.injEq, Prod.mk.injEq] at H
    obtain ⟨rfl, rfl⟩ := H
    go_wp2_with (first | ((with_reducible refine gate_dst (N := 87) rfl ?_); refine Kd.R_lit k34 _ 34 ?hg (N := 87) ?hd (xs := ([] : List (S34))) (inner := []) (ok := fun _ => True) (okp := fun _ => True) ?hr ?hp (fun _ hk => hk) trivial (Below.refl _ _) (Nat.le_refl _) (by simp) ?_; (case hd => rfl); (case hg => rfl); (case hr => first | (go_simp; done) | (go_simp; rfl)); (case hp => exact (Reps.none _ _)); intro v530 w40 ho41 hb hg_ hnew_; clear hg_ hnew_; (first | rw [← Ny529.out] at ho41 | (simp only [Int.reduceToNat] at ho41; rw [← Ny529.out] at ho41)); have HO531 := Aside0.mk (Kd.R_lower (Kd.R_newM (M := fun k_ => (w.heap.size ≤ k_)) ho41 (below_size (kB_ HB)) (fun k_ h_ => h_)) (below_size (kB_ HB))); replace HB := bs_ HB hb; clear hb ho41))
    repeat (go_quiet (fail); try go_wp2)
    go_ret2
    exact ⟨_, by first | rfl | (simp [errW_none, errW_some] <;> rfl) | (simp [*, errW_none, errW_some] <;> rfl), Kd.R_V (by (with_reducible repeat (first | apply Kd.R_alloc | apply Kd.R_drewN | apply Kd.R_drew)); exact Kd.R_mono HO531.out (fun _ hk => hk.1)), bl_ HB⟩

   rw [if_pos c13] at H
   have c13b0 : decide (x6_2 < (l0.length : Int)) = true := decide_eq_true c13
   clear c13
   have H' := Aside0.mk H
   clear H
   go_wp2
   repeat (go_quiet (fail); try go_wp2)
   go_loopg [7] k2 (fun kq v7 w' => ∃ (x7_3 : Int), v7 = .int .i64 x7_3 ∧ Aside0 (spec_JoinStones.l1 kq l0 l1 x6_2 x7_3 = some (r1, r2)) ∧ Aside0 (kq ≤ k2) ∧ Aside0 (Below w.heap.size w w'))
   case atStart => exact ⟨(0), (by first | rfl | (simp; done) | (simp [*]; done)), H', ⟨Nat.le_refl _⟩, ⟨bl_ HB⟩⟩
   case round =>
    clear H'
    obtain ⟨x7_3, rfl, HA, HK3, HB⟩ := hrel
    rcases gk with _ | k3
    · exact absurd HA.out (by simp [spec_JoinStones.l1])
    have H := HA.out
    clear HA
    simp only [spec_JoinStones.l1] at H
    rcases (Decidable.em (x7_3 < (l1.length : Int))).symm with c14 | c14
    ·
     rw [if_neg c14] at H
     have c14b0 : decide (x7_3 < (l1.length : Int)) = false := decide_eq_false c14
     clear c14
     have H' := Aside0.mk H
     clear H
     go_wp2
     repeat (go_quiet (fail); try go_wp2)
     go_roundg k3
     case measure => have := HJ2.out; have := HK2.out; have := HK3.out; omega
     case rel => exact ⟨(wrap64 (x6_2 + 1)), (by first | rfl | (simp; done) | (simp [*]; done)), H', ⟨by have := HJ2.out; have := HK2.out; have := HK3.out; omega⟩, ⟨bl_ HB⟩⟩
    rw [if_pos c14] at H
    have c14b0 : decide (x7_3 < (l1.length : Int)) = true := decide_eq_true c14
    clear c14
    obtain ⟨t532, A15, H⟩ := be_ H
    (try dsimp only at H)
    have HC16 := Aside0.mk H
    clear H
    go_upto_region 11 with (first | (go_at_call 46; (with_reducible refine (spec_l03Next.calls _ _ l0 x6_2 t532 _ ?side1 ?side2 A15.out).mono ?_); (case side1 => exact kc_ (Kd.C_below HR0.out HB.out)); (case side2 => exact HC0.out); rintro e w' ⟨rfl, ⟨nd, rfl⟩⟩; (try first | exact ⟨rfl, _, World.drewN_drewN _ _ _⟩ | exact ⟨rfl, _, Eq.trans (World.drewN_drewN _ _ _) (congrArg (World.drewN _) (Nat.add_assoc _ _ _))⟩)))
    repeat (go_quiet (fail); try go_wp2)
    (try simp only [Act.put, List.setIfInBounds_toArray, List.set_cons_zero, List.set_cons_succ])
    go_cut [59] (fun v59 wc => ∃ (kq : Nat) (x59_15 : Bool), v59 = .bool x59_15 ∧ Aside0 (spec_JoinStones.j3 kq l0 l1 x6_2 x7_3 x6_2 t532 x59_15 = some (r1, r2)) ∧ Aside0 (kq ≤ k3) ∧ Aside0 (Below w.heap.size w wc))
    case first =>
     have H := HC16.out
     clear HC16
     obtain ⟨c17b0, H⟩ := gx_ H
     (first | rw [c17b0] | (simp only [i64_w, i32_w]; rw [c17b0]) | skip)
     obtain ⟨c18b0, H⟩ := gx_ H
     obtain ⟨t534, A19, H⟩ := be_ H
     (try dsimp only at H)
     obtain ⟨c20b0, H⟩ := gx_ H
     obtain ⟨c21b0, H⟩ := gx_ H
     by_cases c22 : (!(((rd_T34 l0 x6_2).f0) == ((rd_T34 l1 t534).f0)) || (!(((rd_T34 l0 x6_2).f1) == ((rd_T34 l1 t534).f1)))) = true
     ·
      rw [if_pos c22] at H
      have c22b0 : (!(((rd_T34 l0 x6_2).f0) == ((rd_T34 l1 t534).f0)) || (!(((rd_T34 l0 x6_2).f1) == ((rd_T34 l1 t534).f1)))) = true := c22
      clear c22
      have H' := Aside0.mk H
      clear H
      have p533 : 0 ≤ (x6_2 : Int) := od_
      have q533 : x6_2 < (l0.length : Int) := od_
      obtain ⟨ad533, e533, hx533_0, hx533_1⟩ := af_ HB (at_T34 HR0.out x6_2 p533 q533)
      cases e533
      replace p533 := eq_true p533
      replace q533 := eq_true q533
      go_wp2_with (first | (go_at_call 46; (with_reducible refine (spec_l03Next.calls _ _ l1 x7_3 t534 _ ?side1 ?side2 A19.out).mono ?_); (case side1 => exact kc_ (Kd.C_below HR1.out HB.out)); (case side2 => exact HC1.out); rintro e w' ⟨rfl, ⟨nd, rfl⟩⟩; (try first | exact ⟨rfl, _, World.drewN_drewN _ _ _⟩ | exact ⟨rfl, _, Eq.trans (World.drewN_drewN _ _ _) (congrArg (World.drewN _) (Nat.add_assoc _ _ _))⟩); have p535 : 0 ≤ (t534 : Int) := od_; have q535 : t534 < (l1.length : Int) := od_; obtain ⟨ad535, e535, hx535_0, hx535_1⟩ := af_ HB (at_T34 HR1.out t534 p535 q535); cases e535; replace p535 := eq_true p535; replace q535 := eq_true q535))
      have p535 : 0 ≤ (t534 : Int) := od_; have q535 : t534 < (l1.length : Int) := od_; obtain ⟨ad535, e535, hx535_0, hx535_1⟩ := af_ HB (at_T34 HR1.out t534 p535 q535); cases e535; replace p535 := eq_true p535; replace q535 := eq_true q535
      repeat (go_quiet (first | (go_at_call 46; (with_reducible refine (spec_l03Next.calls _ _ l1 x7_3 t534 _ ?side1 ?side2 A19.out).mono ?_); (case side1 => exact kc_ (Kd.C_below HR1.out HB.out)); (case side2 => exact HC1.out); rintro e w' ⟨rfl, ⟨nd, rfl⟩⟩; (try first | exact ⟨rfl, _, World.drewN_drewN _ _ _⟩ | exact ⟨rfl, _, Eq.trans (World.drewN_drewN _ _ _) (congrArg (World.drewN _) (Nat.add_assoc _ _ _))⟩))); try go_wp2_with (first | (go_at_call 46; (with_reducible refine (spec_l03Next.calls _ _ l1 x7_3 t534 _ ?side1 ?side2 A19.out).mono ?_); (case side1 => exact kc_ (Kd.C_below HR1.out HB.out)); (case side2 => exact HC1.out); rintro e w' ⟨rfl, ⟨nd, rfl⟩⟩; (try first | exact ⟨rfl, _, World.drewN_drewN _ _ _⟩ | exact ⟨rfl, _, Eq.trans (World.drewN_drewN _ _ _) (congrArg (World.drewN _) (Nat.add_assoc _ _ _))⟩))))
      go_meet
      case rel => exact ⟨_, (true), (by first | rfl | (simp; done) | (simp [*]; done)), H', ⟨by have := HJ2.out; have := HK2.out; have := HK3.out; first | omega | exact Nat.le_refl _⟩, ⟨bl_ HB⟩⟩
     rw [if_neg c22] at H
     have c22b0 : (!(((rd_T34 l0 x6_2).f0) == ((rd_T34 l1 t534).f0)) || (!(((rd_T34 l0 x6_2).f1) == ((rd_T34 l1 t534).f1)))) = false := by simpa using c22
     clear c22
     obtain ⟨c23b0, H⟩ := gx_ H
     obtain ⟨c24b0, H⟩ := gx_ H
     obtain ⟨c25b0, H⟩ := gx_ H
     have H' := Aside0.mk H
     clear H
     have p533 : 0 ≤ (x6_2 : Int) := od_
     have q533 : x6_2 < (l0.length : Int) := od_
     obtain ⟨ad533, e533, hx533_0, hx533_1⟩ := af_ HB (at_T34 HR0.out x6_2 p533 q533)
     cases e533
     replace p533 := eq_true p533
     replace q533 := eq_true q533
     go_wp2_with (first | (go_at_call 46; (with_reducible refine (spec_l03Next.calls _ _ l1 x7_3 t534 _ ?side1 ?side2 A19.out).mono ?_); (case side1 => exact kc_ (Kd.C_below HR1.out HB.out)); (case side2 => exact HC1.out); rintro e w' ⟨rfl, ⟨nd, rfl⟩⟩; (try first | exact ⟨rfl, _, World.drewN_drewN _ _ _⟩ | exact ⟨rfl, _, Eq.trans (World.drewN_drewN _ _ _) (congrArg (World.drewN _) (Nat.add_assoc _ _ _))⟩); have p535 : 0 ≤ (t534 : Int) := od_; have q535 : t534 < (l1.length : Int) := od_; obtain ⟨ad535, e535, hx535_0, hx535_1⟩ := af_ HB (at_T34 HR1.out t534 p535 q535); cases e535; replace p535 := eq_true p535; replace q535 := eq_true q535; have p536 : 0 ≤ (t532 : Int) := od_; have q536 : t532 < (l0.length : Int) := od_; obtain ⟨ad536, e536, hx536_0, hx536_1⟩ := af_ HB (at_T34 HR0.out t532 p536 q536); obtain rfl : ad533 = ad536 := (by injection e536); replace p536 := eq_true p536; replace q536 := eq_true q536; have p537 : 0 ≤ (x7_3 : Int) := od_; have q537 : x7_3 < (l1.length : Int) := od_; obtain ⟨ad537, e537, hx537_0, hx537_1⟩ := af_ HB (at_T34 HR1.out x7_3 p537 q537); obtain rfl : ad535 = ad537 := (by injection e537); replace p537 := eq_true p537; replace q537 := eq_true q537))
     have p535 : 0 ≤ (t534 : Int) := od_; have q535 : t534 < (l1.length : Int) := od_; obtain ⟨ad535, e535, hx535_0, hx535_1⟩ := af_ HB (at_T34 HR1.out t534 p535 q535); cases e535; replace p535 := eq_true p535; replace q535 := eq_true q535; have p536 : 0 ≤ (t532 : Int) := od_; have q536 : t532 < (l0.length : Int) := od_; obtain ⟨ad536, e536, hx536_0, hx536_1⟩ := af_ HB (at_T34 HR0.out t532 p536 q536); obtain rfl : ad533 = ad536 := (by injection e536); replace p536 := eq_true p536; replace q536 := eq_true q536; have p537 : 0 ≤ (x7_3 : Int) := od_; have q537 : x7_3 < (l1.length : Int) := od_; obtain ⟨ad537, e537, hx537_0, hx537_1⟩ := af_ HB (at_T34 HR1.out x7_3 p537 q537); obtain rfl : ad535 = ad537 := (by injection e537); replace p537 := eq_true p537; replace q537 := eq_true q537
     repeat (go_quiet (first | (go_at_call 46; (with_reducible refine (spec_l03Next.calls _ _ l1 x7_3 t534 _ ?side1 ?side2 A19.out).mono ?_); (case side1 => exact kc_ (Kd.C_below HR1.out HB.out)); (case side2 => exact HC1.out); rintro e w' ⟨rfl, ⟨nd, rfl⟩⟩; (try first | exact ⟨rfl, _, World.drewN_drewN _ _ _⟩ | exact ⟨rfl, _, Eq.trans (World.drewN_drewN _ _ _) (congrArg (World.drewN _) (Nat.add_assoc _ _ _))⟩))); try go_wp2_with (first | (go_at_call 46; (with_reducible refine (spec_l03Next.calls _ _ l1 x7_3 t534 _ ?side1 ?side2 A19.out).mono ?_); (case side1 => exact kc_ (Kd.C_below HR1.out HB.out)); (case side2 => exact HC1.out); rintro e w' ⟨rfl, ⟨nd, rfl⟩⟩; (try first | exact ⟨rfl, _, World.drewN_drewN _ _ _⟩ | exact ⟨rfl, _, Eq.trans (World.drewN_drewN _ _ _) (congrArg (World.drewN _) (Nat.add_assoc _ _ _))⟩))))
     go_meet
     case rel => exact ⟨_, ((!(((rd_T34 l0 t532).f0) == ((rd_T34 l1 x7_3).f0)) || (!(((rd_T34 l0 t532).f1) == ((rd_T34 l1 x7_3).f1))))), (by first | rfl | (simp; done) | (simp [*]; done)), H', ⟨by have := HJ2.out; have := HK2.out; have := HK3.out; first | omega | exact Nat.le_refl _⟩, ⟨bl_ HB⟩⟩
    case rest =>
     clear HC16
     obtain ⟨kq, x59_15, rfl, HA, HJ15, HB⟩ := hcut
     rcases kq with _ | kj15
     · exact absurd HA.out (by simp [spec_JoinStones.j3])
     have H := HA.out
     clear HA
     simp only [spec_JoinStones.j3] at H
     by_cases c26 : x59_15 = true
     ·
      subst c26
      replace H := gt_ H
      have H' := Aside0.mk H
      clear H
      go_wp2
      repeat (go_quiet (fail); try go_wp2)
      go_roundg kj15
      case measure => have := HJ2.out; have := HK2.out; have := HK3.out; have := HJ15.out; omega
      case rel => exact ⟨(wrap64 (x7_3 + 1)), (by first | rfl | (simp; done) | (simp [*]; done)), H', ⟨by have := HJ2.out; have := HK2.out; have := HK3.out; have := HJ15.out; omega⟩, ⟨bl_ HB⟩⟩
     replace c26 := Bool.eq_false_iff.mpr c26
     subst c26
     replace H := gf_ H
     obtain ⟨t538, A27, H⟩ := be_ H
     (try dsimp only at H)
     obtain ⟨t541, A28, H⟩ := be_ H
     (try dsimp only at H)
     obtain ⟨t542, A29, H⟩ := be_ H
     (try dsimp only at H)
     by_cases c30 : (l1.length : Int) = 0
     ·
      rw [if_pos c30] at H
      exact absurd H (by simp)
     rw [if_neg c30] at H
     have c30b0 : ((l1.length : Int) == 0) = false := beq_eq_false_iff_ne.mpr c30
     have c30b1 : ((l1.length : Int) != 0) = true := bne_iff_ne.mpr c30
     have c30b2 : ¬ (l1 = []) := fun h_ => c30 (by rw [h_]; rfl)
     obtain ⟨t543, A31, H⟩ := be_ H
     (try dsimp only at H)
     obtain ⟨(c32 : t538.length + t543.length < 35184372088832), H⟩ := gd_ H
     have LMc32 := Aside0.mk c32
     clear c32
     obtain ⟨y546, hy546⟩ : ∃ y_ : List (S34), y_ = (t538 ++ t543) := ⟨_, rfl⟩
     replace H : ((spec_l03Joined.f kj15 y546).bind fun bt549 => (some (bt549.1, bt549.2))) = some (r1, r2) := by first | (rw [hy546]; with_reducible exact H) | (have H2_ := (Option.bind_some _ _).symm.trans H; rw [hy546]; with_reducible exact H2_) | (have H2_ := (Option.bind_some _ _).symm.trans H; with_reducible exact H2_) | with_reducible exact H | (rw [hy546]; exact H) | exact H
     have Ny546 := Aside0.mk hy546
     clear hy546
     obtain ⟨⟨t549, t552⟩, A33, H⟩ := be_ H
     (try dsimp only at H)
     simp only [Option.some.injEq, Prod.mk.injEq] at H
     obtain ⟨rfl, rfl⟩ := H
     go_wp2_with (first | (go_at_call 38; (with_reducible refine (spec_l03Part.calls kj15 _ _ l0 t532 x6_2 t538 _ ?side1 ?side2 A27.out).mono ?_); (case side1 => exact kc_ (Kd.C_below HR0.out HB.out)); (case side2 => exact HC0.out); rintro e w34 ⟨v539, rfl, ho0, hb⟩; have HO540 := Aside0.mk (Kd.R_lower (Kd.R_newM (M := fun k_ => (w.heap.size ≤ k_)) ho0 (below_size (kB_ HB)) (fun k_ h_ => h_)) (below_size (kB_ HB))); replace HB := bs_ HB hb; clear hb; (try clear ho0)) | (go_at_call 46; (with_reducible refine (spec_l03Next.calls _ _ l1 x7_3 t541 _ ?side1 ?side2 A28.out).mono ?_); (case side1 => exact kc_ (Kd.C_below HR1.out HB.out)); (case side2 => exact HC1.out); rintro e w' ⟨rfl, ⟨nd, rfl⟩⟩; (try first | exact ⟨rfl, _, World.drewN_drewN _ _ _⟩ | exact ⟨rfl, _, Eq.trans (World.drewN_drewN _ _ _) (congrArg (World.drewN _) (Nat.add_assoc _ _ _))⟩)) | (go_at_call 46; (with_reducible refine (spec_l03Next.calls _ _ l1 t541 t542 _ ?side1 ?side2 A29.out).mono ?_); (case side1 => repeat (first | exact (Kd.C_below HR1.out (kB_ HB)) | (with_reducible refine Kd.C_alloc ?_ _) | (with_reducible refine Kd.C_drewN ?_ _) | (with_reducible refine Kd.C_drew ?_))); (case side2 => exact HC1.out); rintro e w' ⟨rfl, ⟨nd, rfl⟩⟩; (try first | exact ⟨rfl, _, World.drewN_drewN _ _ _⟩ | exact ⟨rfl, _, Eq.trans (World.drewN_drewN _ _ _) (congrArg (World.drewN _) (Nat.add_assoc _ _ _))⟩)) | (go_at_call 38; (with_reducible refine (spec_l03Part.calls kj15 _ _ l1 t542 (Int.tmod (wrap64 ((wrap64 (x7_3 + (l1.length : Int))) - 1)) (l1.length : Int)) t543 _ ?side1 ?side2 A31.out).mono ?_); (case side1 => repeat (first | exact (Kd.C_below HR1.out (kB_ HB)) | (with_reducible refine Kd.C_alloc ?_ _) | (with_reducible refine Kd.C_drewN ?_ _) | (with_reducible refine Kd.C_drew ?_))); (case side2 => exact HC1.out); rintro e w35 ⟨v544, rfl, ho0, hb⟩; have HO545 := Aside0.mk (Kd.R_lower (Kd.R_new' (Kd.R_newM (M := fun k_ => (w.heap.size ≤ k_)) ho0 (below_size (kB_ HB)) (fun k_ h_ => h_)) (Kd.R_lt (kp_ HO540))) (below_size (kB_ HB))); replace HO540 := Aside0.mk (Kd.R_elder' (kp_ HO540) (Kd.R_base ho0) hb); replace HB := bs_ HB hb; clear hb; (try clear ho0); obtain ⟨Ao37, co37, eo37⟩ := Kd.R_slice HO545.out; subst eo37) | ((with_reducible refine gate_builtin (b := .append) (xs := #[.tmp 77, .tmp 81]) rfl ?_); at_builtin; refine Kd.R_append_rows k34 (w0 := w) w.heap.size rfl (.tmp 77) (.tmp 81) 25 34 (.agg #[(.int .i16 0), (.int .i16 0)]) 4 rfl Try.underlying25 info34 rfl (by decide) (by omega) v539 t538 t543 _ _ _ (fun k_ => (w.heap.size ≤ k_) ∧ some k_ ≠ (.slice Ao37 t543.length co37 : Value).ownBlock) (fun _ => False) rfl rfl ?aO ?aR (fun _ _ h => h) (fun _ h => h.elim) ?aF ?aB ?aS ?aL ?_; (case aR => exact kc_ ((Kd.R_reads' HO545.out).2.2)); (case aB => exact (kB_ HB)); (case aF => exact (fun k_ hk => ⟨(Nat.le_trans (below_size (kB_ HB)) hk), Kd.fresh' (Kd.R_lt (kp_ HO545)) k_ hk⟩)); (case aO => exact (by (with_reducible repeat (first | apply Kd.R_alloc | apply Kd.R_drewN | apply Kd.R_drew)); exact Kd.R_mono HO540.out (fun _ hk => ⟨hk.1.1, hk.2⟩))); (case aS => exact (below_size (kB_ HB))); (case aL => have := LMc32.out; omega); intro v547 w36 ho hb hg hat; rw [← Ny546.out] at ho; have n0_ := Aside0.mk (Kd.R_after (ok := (fun k_ => (w.heap.size ≤ k_))) (by (with_reducible repeat (first | apply Kd.R_alloc | apply Kd.R_drewN | apply Kd.R_drew)); exact Kd.R_mono HO545.out (fun _ hk => ⟨hk.1.1, hk.2⟩)) hg hat); have n1_ := Aside0.mk (hb); have n2_ := Aside0.mk (ho); clear HO545; clear HB; clear HO540; have HO545 := n0_; have HB := n1_; have HO548 := n2_; clear n0_ n1_ n2_; clear ho hb hg hat; obtain ⟨Ao38, co38, eo38⟩ := Kd.R_slice HO548.out; subst eo38) | (go_at_call 47; (with_reducible refine (spec_l03Joined.calls kj15 (fun k_ => some k_ = (.slice Ao38 y546.length co38 : Value).ownBlock) _ _ y546 t549 t552 _ ?side1 A33.out).mono ?_); (case side1 => exact Kd.R_V (Kd.R_tight rfl (HO548.out))); rintro e w39 ⟨v550, rfl, ho0, hb⟩; have HO551 := Aside0.mk (Kd.V_lower (Kd.V_mono (ok' := fun k_ => (w.heap.size ≤ k_) ∧ some k_ ≠ (.slice Ao37 t543.length co37 : Value).ownBlock) ho0 (fun k_ hk_ => ⟨Or.elim hk_ (fun hs_ => ((HO548.out).1 k_ hs_.symm).1) (fun hn_ => (Nat.le_trans (below_size (kB_ HB)) hn_)), Or.elim hk_ (fun hs_ => ((HO548.out).1 k_ hs_.symm).2) (fun hn_ => (Kd.fresh' (Kd.R_lt (kp_ HO545)) k_ hn_))⟩)) (below_size (kB_ HB))); replace HO545 := Aside0.mk (Kd.R_below (kp_ HO545) hb); replace HO548 := Aside0.mk (Kd.R_below (kp_ HO548) hb); replace HB := bs_ HB hb; clear hb; (try clear ho0)))
     repeat (go_quiet (fail); try go_wp2)
     go_ret2
     exact ⟨_, by first | rfl | (simp [errW_none, errW_some] <;> rfl) | (simp [*, errW_none, errW_some] <;> rfl), by (with_reducible repeat (first | apply Kd.V_alloc | apply Kd.V_drewN | apply Kd.V_drew)); exact Kd.V_mono HO551.out (fun _ hk => hk.1), bl_ HB⟩
end Go.Proofs.Ytmglnofmmgokkaa.PA
