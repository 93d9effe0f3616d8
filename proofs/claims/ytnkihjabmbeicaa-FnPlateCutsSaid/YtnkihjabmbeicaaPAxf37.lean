/- Pure functions, and that Go's functions come to them. -/
import Derived.Test.YtnkihjabmbeicaaPAx0
import Derived.Test.YtnkihjabmbeicaaPAxm8
import Derived.Test.YtnkihjabmbeicaaPAxm10
import Derived.Test.YtnkihjabmbeicaaPAxgPlate
import Derived.Test.YtnkihjabmbeicaaPAxm6
import Derived.Test.YtnkihjabmbeicaaPAxf37d
namespace Go.Proofs.Ytnkihjabmbeicaa.PA
open Go.RowKit Go.Proofs.YtnkihjabmbeicaaW.PrintWords Go.Proofs.YtnkihjabmbeicaaW.PrintLast Go.Proofs.YtnkihjabmbeicaaW.PrintMore
set_option linter.unusedVariables false
set_option linter.unusedSimpArgs false

attribute [local go_sem high] eqA48 eqA49
set_option maxHeartbeats 40000000 in
set_option maxRecDepth 100000 in
theorem spec_l04Sizes.calls (k : Nat) (a0 : Int) (a1 : Int) (A2 : Option Addr) (c2 : Nat) (l2 : List (S46)) (A3 : Option Addr) (c3 : Nat) (l3 : List (S48)) (r1 : List (S49)) (r2 : Bool) (w : World) (hr2 : Kd.C k46 w A2 l2.length l2) (hc2 : l2.length ≤ c2) (hr3 : Kd.C k48 w A3 l3.length l3) (hc3 : l3.length ≤ c3) (h : spec_l04Sizes.f k a0 a1 l2 l3 = some (r1, r2)) :
  Calls Try.prog 37 #[.int .i64 a0, .int .i64 a1, .slice A2 l2.length c2, .slice A3 l3.length c3] w fun e w' => ∃ v0_ : Value, e = .returned (.tuple #[v0_, .bool r2]) ∧ Kd.R k49 49 w' w.heap.size (fun _ => True) v0_ r1 ∧ Below w.heap.size w w' := by
 have hu49 := Try.underlying49
 have hu48 := Try.underlying48
 have HR2 := Aside0.mk hr2
 have HC2 := Aside0.mk hc2
 clear hr2 hc2
 have HR3 := Aside0.mk hr3
 have HC3 := Aside0.mk hc3
 clear hr3 hc3
 have HB := Aside0.mk (Below.refl w.heap.size w)
 have H : ((spec_l04Plate.f a0).bind fun t221 => (if t221 = true then ((spec_l04Plate.f a1).bind fun t222 => (if t222 = true then ((spec_l04Kinds.f k l2).bind fun t223 => (if t223 = true then ((spec_l00In.f (l3.length : Int) 1 60).bind fun t224 => (spec_l04Sizes.j0 k a0 a1 l2 l3 (!t224))) else (spec_l04Sizes.j0 k a0 a1 l2 l3 true))) else (spec_l04Sizes.j0 k a0 a1 l2 l3 true))) else (spec_l04Sizes.j0 k a0 a1 l2 l3 true))) = some (r1, r2) := h
 clear h
 have HC5 := Aside0.mk H
 clear H
 go_enter Try.func37, Try.ntmps37
 go_upto_region 1 with (fail)
 go_cut [33] (fun v33 wc => ∃ (kq : Nat) (x33_4 : Bool), v33 = .bool x33_4 ∧ Aside0 (spec_l04Sizes.j0 kq a0 a1 l2 l3 x33_4 = some (r1, r2)) ∧ Aside0 (kq ≤ k) ∧ Aside0 (Below w.heap.size w wc))
 case first =>
  have H := HC5.out
  clear HC5
  obtain ⟨t221, A6, H⟩ := be_ H
  (try dsimp only at H)
  by_cases c7 : t221 = true
  rotate_left
  ·
   replace c7 := Bool.eq_false_iff.mpr c7
   subst c7
   replace H := gf_ H
   have H' := Aside0.mk H
   clear H
   go_wp2_with (first | ((with_reducible refine gate_callee (f := 43) rfl ?_); refine goM_ (some 16) Try.func43 #[.int .i64 a0] ?_; (with_reducible refine (spec_l04Plate.calls a0 false _ A6.out).mono ?_); rintro e w' ⟨rfl, ⟨nd, rfl⟩⟩; refine ⟨_, rfl, ?_⟩))
   go_meet
   case rel => exact ⟨_, (true), (by first | rfl | (simp; done) | (simp [*]; done)), H', ⟨by first | omega | exact Nat.le_refl _⟩, ⟨kB_ HB⟩⟩
  subst c7
  replace H := gt_ H
  obtain ⟨t222, A8, H⟩ := be_ H
  (try dsimp only at H)
  rcases (Decidable.em (t222 = true)).symm with c9 | c9
  ·
   replace c9 := Bool.eq_false_iff.mpr c9
   subst c9
   replace H := gf_ H
   have H' := Aside0.mk H
   clear H
   go_wp2_with (first | ((with_reducible refine gate_callee (f := 43) rfl ?_); refine goM_ (some 16) Try.func43 #[.int .i64 a0] ?_; (with_reducible refine (spec_l04Plate.calls a0 true _ A6.out).mono ?_); rintro e w' ⟨rfl, ⟨nd, rfl⟩⟩; refine ⟨_, rfl, ?_⟩) | (go_at_call 43; (with_reducible refine (spec_l04Plate.calls a1 false _ A8.out).mono ?_); rintro e w' ⟨rfl, ⟨nd, rfl⟩⟩))
   go_meet
   case rel => exact ⟨_, (true), (by first | rfl | (simp; done) | (simp [*]; done)), H', ⟨by first | omega | exact Nat.le_refl _⟩, ⟨kB_ HB⟩⟩
  subst c9
  replace H := gt_ H
  obtain ⟨t223, A10, H⟩ := be_ H
  (try dsimp only at H)
  rcases (Decidable.em (t223 = true)).symm with c11 | c11
  ·
   replace c11 := Bool.eq_false_iff.mpr c11
   subst c11
   replace H := gf_ H
   have H' := Aside0.mk H
   clear H
   go_wp2_with (first | ((with_reducible refine gate_callee (f := 43) rfl ?_); refine goM_ (some 16) Try.func43 #[.int .i64 a0] ?_; (with_reducible refine (spec_l04Plate.calls a0 true _ A6.out).mono ?_); rintro e w' ⟨rfl, ⟨nd, rfl⟩⟩; refine ⟨_, rfl, ?_⟩) | (go_at_call 43; (with_reducible refine (spec_l04Plate.calls a1 true _ A8.out).mono ?_); rintro e w' ⟨rfl, ⟨nd, rfl⟩⟩) | (go_at_call 42; (with_reducible refine (spec_l04Kinds.calls k _ _ l2 false _ ?side1 ?side2 A10.out).mono ?_); (case side1 => repeat (first | exact (Kd.C_below HR2.out (kB_ HB)) | (with_reducible refine Kd.C_alloc ?_ _) | (with_reducible refine Kd.C_drewN ?_ _) | (with_reducible refine Kd.C_drew ?_))); (case side2 => exact HC2.out); rintro e w' ⟨rfl, ⟨nd, rfl⟩⟩))
   go_meet
   case rel => exact ⟨_, (true), (by first | rfl | (simp; done) | (simp [*]; done)), H', ⟨by first | omega | exact Nat.le_refl _⟩, ⟨kB_ HB⟩⟩
  subst c11
  replace H := gt_ H
  obtain ⟨t224, A12, H⟩ := be_ H
  (try dsimp only at H)
  have H' := Aside0.mk H
  clear H
  go_wp2_with (first | ((with_reducible refine gate_callee (f := 43) rfl ?_); refine goM_ (some 16) Try.func43 #[.int .i64 a0] ?_; (with_reducible refine (spec_l04Plate.calls a0 true _ A6.out).mono ?_); rintro e w' ⟨rfl, ⟨nd, rfl⟩⟩; refine ⟨_, rfl, ?_⟩) | (go_at_call 43; (with_reducible refine (spec_l04Plate.calls a1 true _ A8.out).mono ?_); rintro e w' ⟨rfl, ⟨nd, rfl⟩⟩) | (go_at_call 42; (with_reducible refine (spec_l04Kinds.calls k _ _ l2 true _ ?side1 ?side2 A10.out).mono ?_); (case side1 => repeat (first | exact (Kd.C_below HR2.out (kB_ HB)) | (with_reducible refine Kd.C_alloc ?_ _) | (with_reducible refine Kd.C_drewN ?_ _) | (with_reducible refine Kd.C_drew ?_))); (case side2 => exact HC2.out); rintro e w' ⟨rfl, ⟨nd, rfl⟩⟩) | (go_at_call 46; (with_reducible refine (spec_l00In.calls (l3.length : Int) 1 60 t224 _ A12.out).mono ?_); rintro e w' ⟨rfl, ⟨nd, rfl⟩⟩))
  go_meet
  case rel => exact ⟨_, (!t224), (by first | rfl | (simp; done) | (simp [*]; done)), H', ⟨by first | omega | exact Nat.le_refl _⟩, ⟨kB_ HB⟩⟩
 case rest =>
  clear HC5
  obtain ⟨kq, x33_4, rfl, HA, HJ4, HB⟩ := hcut
  rcases kq with _ | kj4
  · exact absurd HA.out (by simp [spec_l04Sizes.j0])
  have H := HA.out
  clear HA
  simp only [spec_l04Sizes.j0] at H
  by_cases c13 : x33_4 = true
  ·
   subst c13
   replace H := gt_ H
   obtain ⟨y225, hy225⟩ : ∃ y_ : List (S49), y_ = (([] : List (S49))) := ⟨_, rfl⟩
   replace H : (some (y225, false)) = some (r1, r2) := by first | (rw [hy225]; with_reducible exact H) | (have H2_ := (Option.bind_some _ _).symm.trans H; rw [hy225]; with_reducible exact H2_) | (have H2_ := (Option.bind_some _ _).symm.trans H; with_reducible exact H2_) | with_reducible exact H | (rw [hy225]; exact H) | exact H
   have Ny225 := Aside0.mk hy225
   clear hy225
   simp only [Option.some.injEq, Prod.mk.injEq] at H
   obtain ⟨rfl, rfl⟩ := H
   go_wp2_with (first | ((with_reducible refine gate_dst (N := 34) rfl ?_); (try (refine gate_guard (by rfl) ?_; dsimp only)); refine Kd.R_lit k49 _ 49 ?hg (N := 34) ?hd (xs := ([] : List (S49))) (inner := []) (ok := fun _ => True) (okp := fun _ => True) ?hr ?hp (fun _ hk => hk) trivial (Below.refl _ _) (Nat.le_refl _) (by simp) ?_; (case hd => rfl); (case hg => rfl); (case hr => first | (go_simp; done) | (go_simp; rfl)); (case hp => exact (Reps.none _ _)); intro v226 w14 ho15 hb hg_ hnew_; clear hg_ hnew_; (first | rw [← Ny225.out] at ho15 | (simp only [Int.reduceToNat] at ho15; rw [← Ny225.out] at ho15)); have HO227 := Aside0.mk (Kd.R_lower ho15 (below_size (kB_ HB))); replace HB := Aside0.mk (below_step (kB_ HB) hb); clear hb ho15))
   go_ret2
   exact ⟨_, by first | rfl | (simp [errW_none, errW_some] <;> rfl) | (simp [*, errW_none, errW_some] <;> rfl), by (with_reducible repeat (first | apply Kd.R_alloc | apply Kd.R_drewN | apply Kd.R_drew)); exact HO227.out, kB_ HB⟩
  replace c13 := Bool.eq_false_iff.mpr c13
  subst c13
  replace H := gf_ H
  by_cases c16 : 0 ≤ (l3.length : Int)
  rotate_left
  ·
   rw [if_neg c16] at H
   exact absurd H (by simp)

  rw [if_pos c16] at H
  have c16b0 := eq_true c16
  have c16b1 : decide (0 ≤ (l3.length : Int)) = true := decide_eq_true c16
  clear c16
  by_cases c17 : ((l3.length : Int) : Int).toNat ≤ 17592186044416
  rotate_left
  ·
   rw [if_neg c17] at H
   exact absurd H (by simp)
  rw [if_pos c17] at H
  have c17b0 := eq_true c17
  have c17b1 : decide (((l3.length : Int) : Int).toNat ≤ 17592186044416) = true := decide_eq_true c17
  clear c17
  obtain ⟨y228, hy228⟩ : ∃ y_ : List (S49), y_ = (List.replicate ((l3.length : Int) : Int).toNat z49) := ⟨_, rfl⟩
  replace H : (if 0 < (y228.length : Int) then (spec_l04Sizes.l0 kj4 l2 l3 (y228.set (0 : Int).toNat (⟨a0, a1⟩ : S49)) 0) else (none)) = some (r1, r2) := by first | (rw [hy228]; with_reducible exact H) | (have H2_ := (Option.bind_some _ _).symm.trans H; rw [hy228]; with_reducible exact H2_) | (have H2_ := (Option.bind_some _ _).symm.trans H; with_reducible exact H2_) | with_reducible exact H | (rw [hy228]; exact H) | exact H
  have Ny228 := Aside0.mk hy228
  clear hy228
  by_cases c18 : 0 < (y228.length : Int)
  rotate_left
  ·
   rw [if_neg c18] at H
   exact absurd H (by simp)
  rw [if_pos c18] at H
  have c18b0 : decide (0 < (y228.length : Int)) = true := decide_eq_true c18
  have c18b1 : decide (0 < y228.length) = true := decide_eq_true (by omega)
  clear c18
  obtain ⟨y231, hy231⟩ : ∃ y_ : List (S49), y_ = (y228.set (0 : Int).toNat (⟨a0, a1⟩ : S49)) := ⟨_, rfl⟩
  replace H : (spec_l04Sizes.l0 kj4 l2 l3 y231 0) = some (r1, r2) := by first | (rw [hy231]; with_reducible exact H) | (have H2_ := (Option.bind_some _ _).symm.trans H; rw [hy231]; with_reducible exact H2_) | (have H2_ := (Option.bind_some _ _).symm.trans H; with_reducible exact H2_) | with_reducible exact H | (rw [hy231]; exact H) | exact H
  have Ny231 := Aside0.mk hy231
  clear hy231
  have H' := Aside0.mk H
  clear H
  go_wp2_with (first | ((with_reducible refine gate_dst (N := 37) rfl ?_); (try (refine gate_guard (by rfl) ?_; dsimp only)); refine Kd.R_make k49 _ 49 rfl (N := 37) rfl 38 _ _ rfl (l3.length : Int) rfl rfl Try.underlying38 (.agg #[(.int .i64 0), (.int .i64 0)]) 16 info49 rfl (by decide) (by omega) z49 (ok := fun _ => True) (okp := fun _ => True) (k49_mkM _ _ _ z49 ) (fun _ hk => hk) trivial od_ (Nat.le_trans (Nat.mul_le_mul_right _ (od_ : (l3.length : Int).toNat ≤ 17592186044416)) (by omega)) (Below.refl _ _) (Nat.le_refl _) ?_; intro v229 w20 ho21 hb hg_ hnew_; clear hg_ hnew_; (first | rw [← Ny228.out] at ho21 | (simp only [Int.reduceToNat] at ho21; rw [← Ny228.out] at ho21)); have HO230 := Aside0.mk (Kd.R_lower ho21 (below_size (kB_ HB))); replace HB := Aside0.mk (below_step (kB_ HB) hb); clear hb ho21; have p19 : 0 ≤ (0 : Int) := (by omega); have q19 : (0 : Int) < ((y228.length : Int) : Int) := od_; have qi19 : (0 < y228.length) = True := eq_true (by omega); obtain ⟨go19, co19, eo19, gb19, gl19, cl19, HG19⟩ := Kd.R_form HO230.out (by omega); (first | cases eo19 | (injection eo19 with ea_ en_ ec_; (first | subst ea_ | (injection ea_ with ea_; subst ea_)); subst ec_; clear en_)); have GB19 := Aside0.mk gb19; have GG19 := Aside0.mk HG19; clear gb19 gl19 HG19; obtain ⟨ce19, hcl19, hM19, hcc19, hfr19⟩ := Kd.R_elem HO230.out z49 (0 : Int) p19 q19; obtain rfl := k49_openM hM19; have hx19_0 : w20.cell? ⟨go19, (0 : Int).toNat * 2, none⟩ = some (.int .i64 ((rd_T49 y228 0).f0)) := hcc19 0 _ rfl; have hx19_1 : w20.cell? ⟨go19, (0 : Int).toNat * 2 + 1, none⟩ = some (.int .i64 ((rd_T49 y228 0).f1)) := hcc19 1 _ rfl; have hf19_0 : w20.frozen? ⟨go19, (0 : Int).toNat * 2, none⟩ = false := hfr19 0; have hf19_1 : w20.frozen? ⟨go19, (0 : Int).toNat * 2 + 1, none⟩ = false := hfr19 1; clear hcl19 hcc19 hfr19; (try clear hM19); (try rw [show ((0 : Int)).toNat = 0 from rfl] at hx19_0); (try simp only [Nat.reduceMul, Nat.zero_mul, Nat.zero_add, Nat.reduceAdd] at hx19_0); (try rw [show ((0 : Int)).toNat = 0 from rfl] at hf19_0); (try simp only [Nat.reduceMul, Nat.zero_mul, Nat.zero_add, Nat.reduceAdd] at hf19_0); (try rw [show ((0 : Int)).toNat = 0 from rfl] at hx19_1); (try simp only [Nat.reduceMul, Nat.zero_mul, Nat.zero_add, Nat.reduceAdd] at hx19_1); (try rw [show ((0 : Int)).toNat = 0 from rfl] at hf19_1); (try simp only [Nat.reduceMul, Nat.zero_mul, Nat.zero_add, Nat.reduceAdd] at hf19_1); replace p19 := eq_true p19; replace q19 := eq_true q19; have HX22 := Aside0.mk (show Kd.R k49 49 w20 w.heap.size (fun _ => True) (.slice (some ⟨go19, 0, none⟩) y228.length co19) y228 from (kp_ HO230)); obtain ⟨ce22, hcl22, hM22, hcc22, hfr22⟩ := Kd.R_elem HX22.out z49 (0 : Int) (by omega) (by have h_ : (0 : Int) < ((y228.length : Int) : Int) := od_; first | exact h_ | (have e_ := (Kd.R_reads' HO230.out).1; omega) | simpa using h_); obtain rfl := k49_openM hM22; have HP22 := Kd.R_seg HX22.out (0 : Int) (by omega) (by have h_ : (0 : Int) < ((y228.length : Int) : Int) := od_; first | exact h_ | (have e_ := (Kd.R_reads' HO230.out).1; omega) | simpa using h_) (seg := [.int .i64 a0, .int .i64 a1]) (j := 0) hcl22 hcc22 (show 2 ≤ 2 from by decide) (x' := (⟨a0, a1⟩ : S49)) (k49_mkM _ _ _ (⟨a0, a1⟩ : S49) ) (fun _ hk => hk); have hx22_0 := hcc22 0 _ rfl; (try simp only [show (k49).sz = 2 from rfl, Nat.mul_one, Nat.add_zero] at hx22_0); (try rw [show ((0 : Int)).toNat = 0 from rfl] at hx22_0); (try simp only [Nat.reduceMul, Nat.zero_mul, Nat.zero_add, Nat.reduceAdd] at hx22_0); have hf22_0 := hfr22 0; (try simp only [show (k49).sz = 2 from rfl, Nat.mul_one, Nat.add_zero] at hf22_0); (try rw [show ((0 : Int)).toNat = 0 from rfl] at hf22_0); (try simp only [Nat.reduceMul, Nat.zero_mul, Nat.zero_add, Nat.reduceAdd] at hf22_0); have hx22_1 := hcc22 1 _ rfl; (try simp only [show (k49).sz = 2 from rfl, Nat.mul_one, Nat.add_zero] at hx22_1); (try rw [show ((0 : Int)).toNat = 0 from rfl] at hx22_1); (try simp only [Nat.reduceMul, Nat.zero_mul, Nat.zero_add, Nat.reduceAdd] at hx22_1); have hf22_1 := hfr22 1; (try simp only [show (k49).sz = 2 from rfl, Nat.mul_one, Nat.add_zero] at hf22_1); (try rw [show ((0 : Int)).toNat = 0 from rfl] at hf22_1); (try simp only [Nat.reduceMul, Nat.zero_mul, Nat.zero_add, Nat.reduceAdd] at hf22_1); clear hcl22 hcc22 hfr22; (try clear hM22)) | ((with_reducible refine gate_store (t := 49) (p := 42) rfl ?_); refine store_event (t := 49) (p := 42) (v := ?vo_w23) (w1 := ((w20.setCell ⟨go19, 0, none⟩ (.int .i64 a0)).setCell ⟨go19, 1, none⟩ (.int .i64 a1))) ?hg ?ho ?hn ?hr ?_; (case ho => rfl); (case hg => rfl); (case hn => rfl); (case hr => first | (go_simp; done) | (go_simp; rfl)); intro w23 hw; have hg : w20.grownBy w23 (some go19) := (by rw [hw]; exact HP22.2); have hp_ : Kd.R k49 49 w23 w.heap.size (fun _ => True) (.slice (some ⟨go19, 0, none⟩) y228.length co19) y231 := (by rw [hw, Ny231.out]; exact HP22.1); clear HP22; replace HO230 := Aside0.mk (hp_); replace HB := Aside0.mk ((by rw [hw]; exact below_set (below_set (HB.out) GB19.out) GB19.out : Below w.heap.size w w23)); clear hg hw hp_))
  go_loopg [11] kj4 (fun kq v11 w' => ∃ (x10_2 : List (S49)) (x11_2 : Int), v11 = .int .i64 x11_2 ∧ Aside0 (spec_l04Sizes.l0 kq l2 l3 x10_2 x11_2 = some (r1, r2)) ∧ Aside0 (kq ≤ kj4) ∧ Aside0 (Kd.R k49 49 w' w.heap.size (fun _ => True) (.slice (some ⟨go19, 0, none⟩) y228.length co19) x10_2) ∧ Aside0 (Below w.heap.size w w'))
  case atStart => exact ⟨(y231), (0), (by first | rfl | (simp; done) | (simp [*]; done)), H', ⟨Nat.le_refl _⟩, ⟨kp_ HO230⟩, ⟨kB_ HB⟩⟩
  case round =>
   clear H'
   obtain ⟨x10_2, x11_2, rfl, HA, HK2, HO_10, HB⟩ := hrel
   have hl10_2 := (Kd.R_reads' HO_10.out).1
   rw [hl10_2] at HO_10
   (try simp only [hl10_2])
   rcases gk with _ | k2
   · exact absurd HA.out (by simp [spec_l04Sizes.l0])
   have H := HA.out
   clear HA
   simp only [spec_l04Sizes.l0] at H
   by_cases c24 : x11_2 < (l3.length : Int)
   rotate_left
   ·
    rw [if_neg c24] at H
    have c24b0 : decide (x11_2 < (l3.length : Int)) = false := decide_eq_false c24
    clear c24
    simp only [Option.some.injEq, Prod.mk.injEq] at H
    obtain ⟨rfl, rfl⟩ := H
    go_wp2
    go_ret2
    exact ⟨_, by first | rfl | (simp [errW_none, errW_some] <;> rfl) | (simp [*, errW_none, errW_some] <;> rfl), by (with_reducible repeat (first | apply Kd.R_alloc | apply Kd.R_drewN | apply Kd.R_drew)); exact HO_10.out, kB_ HB⟩
   rw [if_pos c24] at H
   have c24b0 : decide (x11_2 < (l3.length : Int)) = true := decide_eq_true c24
   clear c24
   by_cases c25 : 0 ≤ x11_2
   rotate_left
   ·
    rw [if_neg c25] at H
    exact absurd H (by simp)
   rw [if_pos c25] at H
   have c25b0 : decide (0 ≤ x11_2) = true := decide_eq_true c25
   clear c25
   by_cases c26 : x11_2 < (x10_2.length : Int)
   rotate_left
   ·
    rw [if_neg c26] at H
    exact absurd H (by simp)
   rw [if_pos c26] at H
   have c26b0 : decide (x11_2 < (x10_2.length : Int)) = true := decide_eq_true c26
   clear c26
   by_cases c27 : ((rd_T49 x10_2 x11_2).f0) = 0
   ·
    rw [if_pos c27] at H
    have c27b0 : (((rd_T49 x10_2 x11_2).f0) == 0) = true := beq_iff_eq.mpr c27
    have c27b1 : (((rd_T49 x10_2 x11_2).f0) != 0) = false := bne_eq_false_iff_eq.mpr c27
    clear c27
    obtain ⟨y236, hy236⟩ : ∃ y_ : List (S49), y_ = (([] : List (S49))) := ⟨_, rfl⟩
    replace H : (some (y236, false)) = some (r1, r2) := by first | (rw [hy236]; with_reducible exact H) | (have H2_ := (Option.bind_some _ _).symm.trans H; rw [hy236]; with_reducible exact H2_) | (have H2_ := (Option.bind_some _ _).symm.trans H; with_reducible exact H2_) | with_reducible exact H | (rw [hy236]; exact H) | exact H
    have Ny236 := Aside0.mk hy236
    clear hy236
    simp only [Option.some.injEq, Prod.mk.injEq] at H
    obtain ⟨rfl, rfl⟩ := H
    have p232 : 0 ≤ (x11_2 : Int) := od_
    have q232 : x11_2 < (l3.length : Int) := od_
    obtain ⟨ad232, e232, hx232_0, hx232_1, hx232_2, hx232_3⟩ := at_T48 HR3.out x11_2 p232 q232
    cases e232
    replace hx232_0 := (hw_ HB hx232_0 :)
    replace hx232_1 := (hw_ HB hx232_1 :)
    replace hx232_2 := (hw_ HB hx232_2 :)
    replace hx232_3 := (hw_ HB hx232_3 :)
    replace p232 := eq_true p232
    replace q232 := eq_true q232
    go_wp2_with (first | ((with_reducible refine gate_dst (N := 12) rfl ?_); (try (refine gate_guard (by rfl) ?_; dsimp only)); refine boxM_ 12 #[.int .i8 0, .int .i8 0, .int .i8 0, .int .i8 0] 48 ?_; intro gb233 hg w28 hbox hb; replace HO_10 := Aside0.mk (Kd.R_below (kp_ HO_10) hb); have BK233 := Aside0.mk (hbox); have GW233 := Aside0.mk ((by rw [hg]; exact (below_size (kB_ HB)) : w.heap.size ≤ gb233)); have GE233 := Aside0.mk ((by rw [hg]; exact (below_size (kB_ HB)) : w.heap.size ≤ gb233)); replace HB := Aside0.mk (below_step (kB_ HB) hb); clear hb hbox hg; have hcz29_0 : w28.cell? ⟨gb233, 0, none⟩ = some (.int .i8 0) := (blk_cell BK233.out 0).trans rfl; have hcz29_1 : w28.cell? ⟨gb233, 1, none⟩ = some (.int .i8 0) := (blk_cell BK233.out 1).trans rfl; have hcz29_2 : w28.cell? ⟨gb233, 2, none⟩ = some (.int .i8 0) := (blk_cell BK233.out 2).trans rfl; have hcz29_3 : w28.cell? ⟨gb233, 3, none⟩ = some (.int .i8 0) := (blk_cell BK233.out 3).trans rfl; have hfz29_0 := blk_frozen BK233.out 0; have hfz29_1 := blk_frozen BK233.out 1; have hfz29_2 := blk_frozen BK233.out 2; have hfz29_3 := blk_frozen BK233.out 3; have p234 : 0 ≤ (x11_2 : Int) := od_; have q234 : x11_2 < (x10_2.length : Int) := od_; obtain ⟨ad234, e234, hx234_0, hx234_1⟩ := at_T49 (Kd.R_reads' HO_10.out).2.2 x11_2 p234 q234; obtain rfl : (⟨go19, 0, none⟩ : Addr) = ad234 := (by injection e234); (first | simp only [add_plain] at hx234_0 | simp only [add_at] at hx234_0 | simp only [Addr.add, Nat.zero_add] at hx234_0 | skip); (first | simp only [add_plain] at hx234_1 | simp only [add_at] at hx234_1 | simp only [Addr.add, Nat.zero_add] at hx234_1 | skip); have hn234_0 : (⟨go19, 0, none⟩ : Addr).block ≠ gb233 := Kd.own_blk (Kd.R_ne HO_10.out BK233.out (by decide)); have hn234_1 : (⟨go19, 0, none⟩ : Addr).block ≠ gb233 := Kd.own_blk (Kd.R_ne HO_10.out BK233.out (by decide)); have hn234_2 : (⟨go19, 0, none⟩ : Addr).block ≠ gb233 := Kd.own_blk (Kd.R_ne HO_10.out BK233.out (by decide)); have hn234_3 : (⟨go19, 0, none⟩ : Addr).block ≠ gb233 := Kd.own_blk (Kd.R_ne HO_10.out BK233.out (by decide)); replace hx234_0 := (cell_far (p := ⟨gb233, 0, none⟩) (by first | (rw [add_block]; exact hn234_0) | (show (Addr.add _ _).block ≠ _; rw [add_block]; exact hn234_0) | exact hn234_0) (.int .i8 ((rd_T48 l3 x11_2).f0))).trans hx234_0; replace hx234_1 := (cell_far (p := ⟨gb233, 0, none⟩) (by first | (rw [add_block]; exact hn234_0) | (show (Addr.add _ _).block ≠ _; rw [add_block]; exact hn234_0) | exact hn234_0) (.int .i8 ((rd_T48 l3 x11_2).f0))).trans hx234_1; replace hx234_0 := (cell_far (p := ⟨gb233, 1, none⟩) (by first | (rw [add_block]; exact hn234_1) | (show (Addr.add _ _).block ≠ _; rw [add_block]; exact hn234_1) | exact hn234_1) (.int .i8 ((rd_T48 l3 x11_2).f1))).trans hx234_0; replace hx234_1 := (cell_far (p := ⟨gb233, 1, none⟩) (by first | (rw [add_block]; exact hn234_1) | (show (Addr.add _ _).block ≠ _; rw [add_block]; exact hn234_1) | exact hn234_1) (.int .i8 ((rd_T48 l3 x11_2).f1))).trans hx234_1; replace hx234_0 := (cell_far (p := ⟨gb233, 2, none⟩) (by first | (rw [add_block]; exact hn234_2) | (show (Addr.add _ _).block ≠ _; rw [add_block]; exact hn234_2) | exact hn234_2) (.int .i8 ((rd_T48 l3 x11_2).f2))).trans hx234_0; replace hx234_1 := (cell_far (p := ⟨gb233, 2, none⟩) (by first | (rw [add_block]; exact hn234_2) | (show (Addr.add _ _).block ≠ _; rw [add_block]; exact hn234_2) | exact hn234_2) (.int .i8 ((rd_T48 l3 x11_2).f2))).trans hx234_1; replace hx234_0 := (cell_far (p := ⟨gb233, 3, none⟩) (by first | (rw [add_block]; exact hn234_3) | (show (Addr.add _ _).block ≠ _; rw [add_block]; exact hn234_3) | exact hn234_3) (.int .i8 ((rd_T48 l3 x11_2).f3))).trans hx234_0; replace hx234_1 := (cell_far (p := ⟨gb233, 3, none⟩) (by first | (rw [add_block]; exact hn234_3) | (show (Addr.add _ _).block ≠ _; rw [add_block]; exact hn234_3) | exact hn234_3) (.int .i8 ((rd_T48 l3 x11_2).f3))).trans hx234_1; clear hn234_0; clear hn234_1; clear hn234_2; clear hn234_3; replace p234 := eq_true p234; replace q234 := eq_true q234) | ((with_reducible refine gate_dst (N := 13) rfl ?_); (try (refine gate_guard (by rfl) ?_; dsimp only)); refine boxM_ 13 #[.int .i64 0, .int .i64 0] 49 ?_; intro gb235 hg w30 hbox hb; replace HO_10 := Aside0.mk (Kd.R_below (Kd.R_elderB (by (with_reducible repeat (first | apply Kd.R_alloc | apply Kd.R_drewN | apply Kd.R_drew)); exact (Kd.R_mono (Kd.R_far (p := ⟨gb233, 3, none⟩) (Kd.R_far (p := ⟨gb233, 2, none⟩) (Kd.R_far (p := ⟨gb233, 1, none⟩) (Kd.R_far (p := ⟨gb233, 0, none⟩) (Kd.R_types HO_10.out BK233.out (by decide)) (fun _ hk => hk.2) (.int .i8 ((rd_T48 l3 x11_2).f0))) (fun _ hk => hk.2) (.int .i8 ((rd_T48 l3 x11_2).f1))) (fun _ hk => hk.2) (.int .i8 ((rd_T48 l3 x11_2).f2))) (fun _ hk => hk.2) (.int .i8 ((rd_T48 l3 x11_2).f3))) (fun _ h_ => h_.1))) gb235 (Nat.le_of_eq hg.symm)) hb); have BK235 := Aside0.mk (hbox); have GW235 := Aside0.mk ((by rw [hg]; exact (below_size (k1_ HB GE233)) : w.heap.size ≤ gb235)); have GE235 := Aside0.mk ((by rw [hg]; exact (below_size (k1_ HB GE233)) : w.heap.size ≤ gb235)); replace HB := Aside0.mk (below_step (k1_ HB GE233) hb); have NB233_235 := Aside0.mk ((by rw [hg]; exact Nat.ne_of_lt (blk_lt (g := gb233) (o := .cells #[.int .i8 ((rd_T48 l3 x11_2).f0), .int .i8 ((rd_T48 l3 x11_2).f1), .int .i8 ((rd_T48 l3 x11_2).f2), .int .i8 ((rd_T48 l3 x11_2).f3)] 48 (0, 0)) (by (with_reducible repeat (first | refine blk_drewN ?_ _ | refine blk_drew ?_ | refine blk_alloc ?_ _)); refine blk_put (cs := #[.int .i8 ((rd_T48 l3 x11_2).f0), .int .i8 ((rd_T48 l3 x11_2).f1), .int .i8 ((rd_T48 l3 x11_2).f2), .int .i8 0]) ?_ 3 _ rfl; (with_reducible repeat (first | refine blk_drewN ?_ _ | refine blk_drew ?_ | refine blk_alloc ?_ _)); refine blk_put (cs := #[.int .i8 ((rd_T48 l3 x11_2).f0), .int .i8 ((rd_T48 l3 x11_2).f1), .int .i8 0, .int .i8 0]) ?_ 2 _ rfl; (with_reducible repeat (first | refine blk_drewN ?_ _ | refine blk_drew ?_ | refine blk_alloc ?_ _)); refine blk_put (cs := #[.int .i8 ((rd_T48 l3 x11_2).f0), .int .i8 0, .int .i8 0, .int .i8 0]) ?_ 1 _ rfl; (with_reducible repeat (first | refine blk_drewN ?_ _ | refine blk_drew ?_ | refine blk_alloc ?_ _)); refine blk_put (cs := #[.int .i8 0, .int .i8 0, .int .i8 0, .int .i8 0]) ?_ 0 _ rfl; (with_reducible repeat (first | refine blk_drewN ?_ _ | refine blk_drew ?_ | refine blk_alloc ?_ _)); exact BK233.out)) : gb233 ≠ gb235)); have NB235_233 := Aside0.mk ((by rw [hg]; exact Nat.ne_of_gt (blk_lt (g := gb233) (o := .cells #[.int .i8 ((rd_T48 l3 x11_2).f0), .int .i8 ((rd_T48 l3 x11_2).f1), .int .i8 ((rd_T48 l3 x11_2).f2), .int .i8 ((rd_T48 l3 x11_2).f3)] 48 (0, 0)) (by (with_reducible repeat (first | refine blk_drewN ?_ _ | refine blk_drew ?_ | refine blk_alloc ?_ _)); refine blk_put (cs := #[.int .i8 ((rd_T48 l3 x11_2).f0), .int .i8 ((rd_T48 l3 x11_2).f1), .int .i8 ((rd_T48 l3 x11_2).f2), .int .i8 0]) ?_ 3 _ rfl; (with_reducible repeat (first | refine blk_drewN ?_ _ | refine blk_drew ?_ | refine blk_alloc ?_ _)); refine blk_put (cs := #[.int .i8 ((rd_T48 l3 x11_2).f0), .int .i8 ((rd_T48 l3 x11_2).f1), .int .i8 0, .int .i8 0]) ?_ 2 _ rfl; (with_reducible repeat (first | refine blk_drewN ?_ _ | refine blk_drew ?_ | refine blk_alloc ?_ _)); refine blk_put (cs := #[.int .i8 ((rd_T48 l3 x11_2).f0), .int .i8 0, .int .i8 0, .int .i8 0]) ?_ 1 _ rfl; (with_reducible repeat (first | refine blk_drewN ?_ _ | refine blk_drew ?_ | refine blk_alloc ?_ _)); refine blk_put (cs := #[.int .i8 0, .int .i8 0, .int .i8 0, .int .i8 0]) ?_ 0 _ rfl; (with_reducible repeat (first | refine blk_drewN ?_ _ | refine blk_drew ?_ | refine blk_alloc ?_ _)); exact BK233.out)) : gb235 ≠ gb233)); replace BK233 := Aside0.mk (blk_below (g := gb233) (o := .cells #[.int .i8 ((rd_T48 l3 x11_2).f0), .int .i8 ((rd_T48 l3 x11_2).f1), .int .i8 ((rd_T48 l3 x11_2).f2), .int .i8 ((rd_T48 l3 x11_2).f3)] 48 (0, 0)) (by (with_reducible repeat (first | refine blk_drewN ?_ _ | refine blk_drew ?_ | refine blk_alloc ?_ _)); refine blk_put (cs := #[.int .i8 ((rd_T48 l3 x11_2).f0), .int .i8 ((rd_T48 l3 x11_2).f1), .int .i8 ((rd_T48 l3 x11_2).f2), .int .i8 0]) ?_ 3 _ rfl; (with_reducible repeat (first | refine blk_drewN ?_ _ | refine blk_drew ?_ | refine blk_alloc ?_ _)); refine blk_put (cs := #[.int .i8 ((rd_T48 l3 x11_2).f0), .int .i8 ((rd_T48 l3 x11_2).f1), .int .i8 0, .int .i8 0]) ?_ 2 _ rfl; (with_reducible repeat (first | refine blk_drewN ?_ _ | refine blk_drew ?_ | refine blk_alloc ?_ _)); refine blk_put (cs := #[.int .i8 ((rd_T48 l3 x11_2).f0), .int .i8 0, .int .i8 0, .int .i8 0]) ?_ 1 _ rfl; (with_reducible repeat (first | refine blk_drewN ?_ _ | refine blk_drew ?_ | refine blk_alloc ?_ _)); refine blk_put (cs := #[.int .i8 0, .int .i8 0, .int .i8 0, .int .i8 0]) ?_ 0 _ rfl; (with_reducible repeat (first | refine blk_drewN ?_ _ | refine blk_drew ?_ | refine blk_alloc ?_ _)); exact BK233.out) hb); clear hb hbox hg; have hnb31 := NB235_233.out; have hnc31 := NB233_235.out; obtain ⟨⟨hcz32_0, hcz32_1⟩, hfz32_0, hfz32_1⟩ := bq_ BK235) | ((with_reducible refine gate_dst (N := 60) rfl ?_); (try (refine gate_guard (by rfl) ?_; dsimp only)); refine Kd.R_lit k49 _ 49 ?hg (N := 60) ?hd (xs := ([] : List (S49))) (inner := []) (ok := fun _ => True) (okp := fun _ => True) ?hr ?hp (fun _ hk => hk) trivial (Below.refl _ _) (Nat.le_refl _) (by simp) ?_; (case hd => rfl); (case hg => rfl); (case hr => first | (go_simp; done) | (go_simp; rfl)); (case hp => exact (Reps.none _ _)); intro v237 w33 ho34 hb hg_ hnew_; clear hg_ hnew_; (first | rw [← Ny236.out] at ho34 | (simp only [Int.reduceToNat] at ho34; rw [← Ny236.out] at ho34)); have HO238 := Aside0.mk (Kd.R_lower (Kd.R_newB (Kd.R_new' ho34 (Kd.R_lt (by (with_reducible repeat (first | apply Kd.R_alloc | apply Kd.R_drewN | apply Kd.R_drew)); exact (Kd.R_mono (Kd.R_far (p := ⟨gb235, 1, none⟩) (Kd.R_far (p := ⟨gb235, 0, none⟩) (Kd.R_mono HO_10.out (fun k_ hk => (⟨hk, hk.2⟩ : _ ∧ k_ ≠ gb235))) (fun _ hk => hk.2) (.int .i64 ((rd_T49 x10_2 x11_2).f0))) (fun _ hk => hk.2) (.int .i64 ((rd_T49 x10_2 x11_2).f1))) (fun _ h_ => h_.1))))) (g := gb235) (o := .cells #[.int .i64 ((rd_T49 x10_2 x11_2).f0), .int .i64 ((rd_T49 x10_2 x11_2).f1)] 49 (0, 0)) (by (with_reducible repeat (first | refine blk_drewN ?_ _ | refine blk_drew ?_ | refine blk_alloc ?_ _)); refine blk_put (cs := #[.int .i64 ((rd_T49 x10_2 x11_2).f0), .int .i64 0]) ?_ 1 _ rfl; (with_reducible repeat (first | refine blk_drewN ?_ _ | refine blk_drew ?_ | refine blk_alloc ?_ _)); refine blk_put (cs := #[.int .i64 0, .int .i64 0]) ?_ 0 _ rfl; (with_reducible repeat (first | refine blk_drewN ?_ _ | refine blk_drew ?_ | refine blk_alloc ?_ _)); exact BK235.out)) (below_size (kS_ HB GE233 GE235))); replace HO_10 := Aside0.mk (Kd.R_elder' (by (with_reducible repeat (first | apply Kd.R_alloc | apply Kd.R_drewN | apply Kd.R_drew)); exact (Kd.R_mono (Kd.R_far (p := ⟨gb235, 1, none⟩) (Kd.R_far (p := ⟨gb235, 0, none⟩) (Kd.R_mono HO_10.out (fun k_ hk => (⟨hk, hk.2⟩ : _ ∧ k_ ≠ gb235))) (fun _ hk => hk.2) (.int .i64 ((rd_T49 x10_2 x11_2).f0))) (fun _ hk => hk.2) (.int .i64 ((rd_T49 x10_2 x11_2).f1))) (fun _ h_ => h_.1))) (Kd.R_base ho34) hb); replace BK233 := Aside0.mk (blk_below (g := gb233) (o := .cells #[.int .i8 ((rd_T48 l3 x11_2).f0), .int .i8 ((rd_T48 l3 x11_2).f1), .int .i8 ((rd_T48 l3 x11_2).f2), .int .i8 ((rd_T48 l3 x11_2).f3)] 48 (0, 0)) (by (with_reducible repeat (first | refine blk_drewN ?_ _ | refine blk_drew ?_ | refine blk_alloc ?_ _)); refine blk_far ?_ NB233_235.out _; (with_reducible repeat (first | refine blk_drewN ?_ _ | refine blk_drew ?_ | refine blk_alloc ?_ _)); refine blk_far ?_ NB233_235.out _; (with_reducible repeat (first | refine blk_drewN ?_ _ | refine blk_drew ?_ | refine blk_alloc ?_ _)); exact BK233.out) hb); replace BK235 := Aside0.mk (blk_below (g := gb235) (o := .cells #[.int .i64 ((rd_T49 x10_2 x11_2).f0), .int .i64 ((rd_T49 x10_2 x11_2).f1)] 49 (0, 0)) (by (with_reducible repeat (first | refine blk_drewN ?_ _ | refine blk_drew ?_ | refine blk_alloc ?_ _)); refine blk_put (cs := #[.int .i64 ((rd_T49 x10_2 x11_2).f0), .int .i64 0]) ?_ 1 _ rfl; (with_reducible repeat (first | refine blk_drewN ?_ _ | refine blk_drew ?_ | refine blk_alloc ?_ _)); refine blk_put (cs := #[.int .i64 0, .int .i64 0]) ?_ 0 _ rfl; (with_reducible repeat (first | refine blk_drewN ?_ _ | refine blk_drew ?_ | refine blk_alloc ?_ _)); exact BK235.out) hb); replace HB := Aside0.mk (below_step (kS_ HB GE233 GE235) hb); clear hb ho34))
    go_ret2
    exact ⟨_, by first | rfl | (simp [errW_none, errW_some] <;> rfl) | (simp [*, errW_none, errW_some] <;> rfl), by (with_reducible repeat (first | apply Kd.R_alloc | apply Kd.R_drewN | apply Kd.R_drew)); exact Kd.R_mono HO238.out (fun _ hk => trivial), kS_ HB GE233 GE235⟩
   rw [if_neg c27] at H
   have c27b0 : (((rd_T49 x10_2 x11_2).f0) == 0) = false := beq_eq_false_iff_ne.mpr c27
   have c27b1 : (((rd_T49 x10_2 x11_2).f0) != 0) = true := bne_iff_ne.mpr c27
   have p232 : 0 ≤ (x11_2 : Int) := od_
   have q232 : x11_2 < (l3.length : Int) := od_
   obtain ⟨ad232, e232, hx232_0, hx232_1, hx232_2, hx232_3⟩ := at_T48 HR3.out x11_2 p232 q232
   cases e232
   replace hx232_0 := (hw_ HB hx232_0 :)
   replace hx232_1 := (hw_ HB hx232_1 :)
   replace hx232_2 := (hw_ HB hx232_2 :)
   replace hx232_3 := (hw_ HB hx232_3 :)
   replace p232 := eq_true p232
   replace q232 := eq_true q232
   go_upto_region 14 with (first | ((with_reducible refine gate_dst (N := 12) rfl ?_); (try (refine gate_guard (by rfl) ?_; dsimp only)); refine boxM_ 12 #[.int .i8 0, .int .i8 0, .int .i8 0, .int .i8 0] 48 ?_; intro gb233 hg w37 hbox hb; replace HO_10 := Aside0.mk (Kd.R_below (kp_ HO_10) hb); have BK233 := Aside0.mk (hbox); have GW233 := Aside0.mk ((by rw [hg]; exact (below_size (kB_ HB)) : w.heap.size ≤ gb233)); have GE233 := Aside0.mk ((by rw [hg]; exact (below_size (kB_ HB)) : w.heap.size ≤ gb233)); replace HB := Aside0.mk (below_step (kB_ HB) hb); clear hb hbox hg; have hcz38_0 : w37.cell? ⟨gb233, 0, none⟩ = some (.int .i8 0) := (blk_cell BK233.out 0).trans rfl; have hcz38_1 : w37.cell? ⟨gb233, 1, none⟩ = some (.int .i8 0) := (blk_cell BK233.out 1).trans rfl; have hcz38_2 : w37.cell? ⟨gb233, 2, none⟩ = some (.int .i8 0) := (blk_cell BK233.out 2).trans rfl; have hcz38_3 : w37.cell? ⟨gb233, 3, none⟩ = some (.int .i8 0) := (blk_cell BK233.out 3).trans rfl; have hfz38_0 := blk_frozen BK233.out 0; have hfz38_1 := blk_frozen BK233.out 1; have hfz38_2 := blk_frozen BK233.out 2; have hfz38_3 := blk_frozen BK233.out 3; have p234 : 0 ≤ (x11_2 : Int) := od_; have q234 : x11_2 < (x10_2.length : Int) := od_; obtain ⟨ad234, e234, hx234_0, hx234_1⟩ := at_T49 (Kd.R_reads' HO_10.out).2.2 x11_2 p234 q234; obtain rfl : (⟨go19, 0, none⟩ : Addr) = ad234 := (by injection e234); (first | simp only [add_plain] at hx234_0 | simp only [add_at] at hx234_0 | simp only [Addr.add, Nat.zero_add] at hx234_0 | skip); (first | simp only [add_plain] at hx234_1 | simp only [add_at] at hx234_1 | simp only [Addr.add, Nat.zero_add] at hx234_1 | skip); have hn234_0 : (⟨go19, 0, none⟩ : Addr).block ≠ gb233 := Kd.own_blk (Kd.R_ne HO_10.out BK233.out (by decide)); have hn234_1 : (⟨go19, 0, none⟩ : Addr).block ≠ gb233 := Kd.own_blk (Kd.R_ne HO_10.out BK233.out (by decide)); have hn234_2 : (⟨go19, 0, none⟩ : Addr).block ≠ gb233 := Kd.own_blk (Kd.R_ne HO_10.out BK233.out (by decide)); have hn234_3 : (⟨go19, 0, none⟩ : Addr).block ≠ gb233 := Kd.own_blk (Kd.R_ne HO_10.out BK233.out (by decide)); replace hx234_0 := (cell_far (p := ⟨gb233, 0, none⟩) (by first | (rw [add_block]; exact hn234_0) | (show (Addr.add _ _).block ≠ _; rw [add_block]; exact hn234_0) | exact hn234_0) (.int .i8 ((rd_T48 l3 x11_2).f0))).trans hx234_0; replace hx234_1 := (cell_far (p := ⟨gb233, 0, none⟩) (by first | (rw [add_block]; exact hn234_0) | (show (Addr.add _ _).block ≠ _; rw [add_block]; exact hn234_0) | exact hn234_0) (.int .i8 ((rd_T48 l3 x11_2).f0))).trans hx234_1; replace hx234_0 := (cell_far (p := ⟨gb233, 1, none⟩) (by first | (rw [add_block]; exact hn234_1) | (show (Addr.add _ _).block ≠ _; rw [add_block]; exact hn234_1) | exact hn234_1) (.int .i8 ((rd_T48 l3 x11_2).f1))).trans hx234_0; replace hx234_1 := (cell_far (p := ⟨gb233, 1, none⟩) (by first | (rw [add_block]; exact hn234_1) | (show (Addr.add _ _).block ≠ _; rw [add_block]; exact hn234_1) | exact hn234_1) (.int .i8 ((rd_T48 l3 x11_2).f1))).trans hx234_1; replace hx234_0 := (cell_far (p := ⟨gb233, 2, none⟩) (by first | (rw [add_block]; exact hn234_2) | (show (Addr.add _ _).block ≠ _; rw [add_block]; exact hn234_2) | exact hn234_2) (.int .i8 ((rd_T48 l3 x11_2).f2))).trans hx234_0; replace hx234_1 := (cell_far (p := ⟨gb233, 2, none⟩) (by first | (rw [add_block]; exact hn234_2) | (show (Addr.add _ _).block ≠ _; rw [add_block]; exact hn234_2) | exact hn234_2) (.int .i8 ((rd_T48 l3 x11_2).f2))).trans hx234_1; replace hx234_0 := (cell_far (p := ⟨gb233, 3, none⟩) (by first | (rw [add_block]; exact hn234_3) | (show (Addr.add _ _).block ≠ _; rw [add_block]; exact hn234_3) | exact hn234_3) (.int .i8 ((rd_T48 l3 x11_2).f3))).trans hx234_0; replace hx234_1 := (cell_far (p := ⟨gb233, 3, none⟩) (by first | (rw [add_block]; exact hn234_3) | (show (Addr.add _ _).block ≠ _; rw [add_block]; exact hn234_3) | exact hn234_3) (.int .i8 ((rd_T48 l3 x11_2).f3))).trans hx234_1; clear hn234_0; clear hn234_1; clear hn234_2; clear hn234_3; replace p234 := eq_true p234; replace q234 := eq_true q234) | ((with_reducible refine gate_dst (N := 13) rfl ?_); (try (refine gate_guard (by rfl) ?_; dsimp only)); refine boxM_ 13 #[.int .i64 0, .int .i64 0] 49 ?_; intro gb235 hg w39 hbox hb; replace HO_10 := Aside0.mk (Kd.R_below (Kd.R_elderB (by (with_reducible repeat (first | apply Kd.R_alloc | apply Kd.R_drewN | apply Kd.R_drew)); exact (Kd.R_mono (Kd.R_far (p := ⟨gb233, 3, none⟩) (Kd.R_far (p := ⟨gb233, 2, none⟩) (Kd.R_far (p := ⟨gb233, 1, none⟩) (Kd.R_far (p := ⟨gb233, 0, none⟩) (Kd.R_types HO_10.out BK233.out (by decide)) (fun _ hk => hk.2) (.int .i8 ((rd_T48 l3 x11_2).f0))) (fun _ hk => hk.2) (.int .i8 ((rd_T48 l3 x11_2).f1))) (fun _ hk => hk.2) (.int .i8 ((rd_T48 l3 x11_2).f2))) (fun _ hk => hk.2) (.int .i8 ((rd_T48 l3 x11_2).f3))) (fun _ h_ => h_.1))) gb235 (Nat.le_of_eq hg.symm)) hb); have BK235 := Aside0.mk (hbox); have GW235 := Aside0.mk ((by rw [hg]; exact (below_size (k1_ HB GE233)) : w.heap.size ≤ gb235)); have GE235 := Aside0.mk ((by rw [hg]; exact (below_size (k1_ HB GE233)) : w.heap.size ≤ gb235)); replace HB := Aside0.mk (below_step (k1_ HB GE233) hb); have NB233_235 := Aside0.mk ((by rw [hg]; exact Nat.ne_of_lt (blk_lt (g := gb233) (o := .cells #[.int .i8 ((rd_T48 l3 x11_2).f0), .int .i8 ((rd_T48 l3 x11_2).f1), .int .i8 ((rd_T48 l3 x11_2).f2), .int .i8 ((rd_T48 l3 x11_2).f3)] 48 (0, 0)) (by (with_reducible repeat (first | refine blk_drewN ?_ _ | refine blk_drew ?_ | refine blk_alloc ?_ _)); refine blk_put (cs := #[.int .i8 ((rd_T48 l3 x11_2).f0), .int .i8 ((rd_T48 l3 x11_2).f1), .int .i8 ((rd_T48 l3 x11_2).f2), .int .i8 0]) ?_ 3 _ rfl; (with_reducible repeat (first | refine blk_drewN ?_ _ | refine blk_drew ?_ | refine blk_alloc ?_ _)); refine blk_put (cs := #[.int .i8 ((rd_T48 l3 x11_2).f0), .int .i8 ((rd_T48 l3 x11_2).f1), .int .i8 0, .int .i8 0]) ?_ 2 _ rfl; (with_reducible repeat (first | refine blk_drewN ?_ _ | refine blk_drew ?_ | refine blk_alloc ?_ _)); refine blk_put (cs := #[.int .i8 ((rd_T48 l3 x11_2).f0), .int .i8 0, .int .i8 0, .int .i8 0]) ?_ 1 _ rfl; (with_reducible repeat (first | refine blk_drewN ?_ _ | refine blk_drew ?_ | refine blk_alloc ?_ _)); refine blk_put (cs := #[.int .i8 0, .int .i8 0, .int .i8 0, .int .i8 0]) ?_ 0 _ rfl; (with_reducible repeat (first | refine blk_drewN ?_ _ | refine blk_drew ?_ | refine blk_alloc ?_ _)); exact BK233.out)) : gb233 ≠ gb235)); have NB235_233 := Aside0.mk ((by rw [hg]; exact Nat.ne_of_gt (blk_lt (g := gb233) (o := .cells #[.int .i8 ((rd_T48 l3 x11_2).f0), .int .i8 ((rd_T48 l3 x11_2).f1), .int .i8 ((rd_T48 l3 x11_2).f2), .int .i8 ((rd_T48 l3 x11_2).f3)] 48 (0, 0)) (by (with_reducible repeat (first | refine blk_drewN ?_ _ | refine blk_drew ?_ | refine blk_alloc ?_ _)); refine blk_put (cs := #[.int .i8 ((rd_T48 l3 x11_2).f0), .int .i8 ((rd_T48 l3 x11_2).f1), .int .i8 ((rd_T48 l3 x11_2).f2), .int .i8 0]) ?_ 3 _ rfl; (with_reducible repeat (first | refine blk_drewN ?_ _ | refine blk_drew ?_ | refine blk_alloc ?_ _)); refine blk_put (cs := #[.int .i8 ((rd_T48 l3 x11_2).f0), .int .i8 ((rd_T48 l3 x11_2).f1), .int .i8 0, .int .i8 0]) ?_ 2 _ rfl; (with_reducible repeat (first | refine blk_drewN ?_ _ | refine blk_drew ?_ | refine blk_alloc ?_ _)); refine blk_put (cs := #[.int .i8 ((rd_T48 l3 x11_2).f0), .int .i8 0, .int .i8 0, .int .i8 0]) ?_ 1 _ rfl; (with_reducible repeat (first | refine blk_drewN ?_ _ | refine blk_drew ?_ | refine blk_alloc ?_ _)); refine blk_put (cs := #[.int .i8 0, .int .i8 0, .int .i8 0, .int .i8 0]) ?_ 0 _ rfl; (with_reducible repeat (first | refine blk_drewN ?_ _ | refine blk_drew ?_ | refine blk_alloc ?_ _)); exact BK233.out)) : gb235 ≠ gb233)); replace BK233 := Aside0.mk (blk_below (g := gb233) (o := .cells #[.int .i8 ((rd_T48 l3 x11_2).f0), .int .i8 ((rd_T48 l3 x11_2).f1), .int .i8 ((rd_T48 l3 x11_2).f2), .int .i8 ((rd_T48 l3 x11_2).f3)] 48 (0, 0)) (by (with_reducible repeat (first | refine blk_drewN ?_ _ | refine blk_drew ?_ | refine blk_alloc ?_ _)); refine blk_put (cs := #[.int .i8 ((rd_T48 l3 x11_2).f0), .int .i8 ((rd_T48 l3 x11_2).f1), .int .i8 ((rd_T48 l3 x11_2).f2), .int .i8 0]) ?_ 3 _ rfl; (with_reducible repeat (first | refine blk_drewN ?_ _ | refine blk_drew ?_ | refine blk_alloc ?_ _)); refine blk_put (cs := #[.int .i8 ((rd_T48 l3 x11_2).f0), .int .i8 ((rd_T48 l3 x11_2).f1), .int .i8 0, .int .i8 0]) ?_ 2 _ rfl; (with_reducible repeat (first | refine blk_drewN ?_ _ | refine blk_drew ?_ | refine blk_alloc ?_ _)); refine blk_put (cs := #[.int .i8 ((rd_T48 l3 x11_2).f0), .int .i8 0, .int .i8 0, .int .i8 0]) ?_ 1 _ rfl; (with_reducible repeat (first | refine blk_drewN ?_ _ | refine blk_drew ?_ | refine blk_alloc ?_ _)); refine blk_put (cs := #[.int .i8 0, .int .i8 0, .int .i8 0, .int .i8 0]) ?_ 0 _ rfl; (with_reducible repeat (first | refine blk_drewN ?_ _ | refine blk_drew ?_ | refine blk_alloc ?_ _)); exact BK233.out) hb); clear hb hbox hg; have hnb40 := NB235_233.out; have hnc40 := NB233_235.out; obtain ⟨⟨hcz41_0, hcz41_1⟩, hfz41_0, hfz41_1⟩ := bq_ BK235; have hcz42_0 : w39.cell? ⟨gb233, 0, none⟩ = some (.int .i8 ((rd_T48 l3 x11_2).f0)) := (blk_cell BK233.out 0).trans rfl; have hcz42_1 : w39.cell? ⟨gb233, 1, none⟩ = some (.int .i8 ((rd_T48 l3 x11_2).f1)) := (blk_cell BK233.out 1).trans rfl; have hcz42_2 : w39.cell? ⟨gb233, 2, none⟩ = some (.int .i8 ((rd_T48 l3 x11_2).f2)) := (blk_cell BK233.out 2).trans rfl; have hcz42_3 : w39.cell? ⟨gb233, 3, none⟩ = some (.int .i8 ((rd_T48 l3 x11_2).f3)) := (blk_cell BK233.out 3).trans rfl; have hfz42_0 := blk_frozen BK233.out 0; have hfz42_1 := blk_frozen BK233.out 1; have hfz42_2 := blk_frozen BK233.out 2; have hfz42_3 := blk_frozen BK233.out 3))
   as_aux_lemma =>
   by_cases c35 : ((rd_T48 l3 x11_2).f0) = 0
   ·
    rw [if_pos c35] at H
    have c35b0 : (((rd_T48 l3 x11_2).f0) == 0) = true := beq_iff_eq.mpr c35
    have c35b1 : (((rd_T48 l3 x11_2).f0) != 0) = false := bne_eq_false_iff_eq.mpr c35
    clear c35
    rcases (Decidable.em ((!(((rd_T48 l3 x11_2).f0) == 0) || (!(((rd_T48 l3 x11_2).f1) == 0) || (!(((rd_T48 l3 x11_2).f2) == 0) || (!(((rd_T48 l3 x11_2).f3) == 0))))) = true)).symm with c36 | c36
    ·
     rw [if_neg c36] at H
     have c36b0 : (!(((rd_T48 l3 x11_2).f0) == 0) || (!(((rd_T48 l3 x11_2).f1) == 0) || (!(((rd_T48 l3 x11_2).f2) == 0) || (!(((rd_T48 l3 x11_2).f3) == 0))))) = false := by simpa using c36
     have c36c0 := c36b0; simp only [c35b0, Bool.not_true, Bool.false_or] at c36c0
     clear c36
     have H' := Aside0.mk H
     clear H
     go_wp2
     (try simp only [← hl10_2])
     go_roundg k2
     case measure => have := HJ4.out; have := HK2.out; omega
     case rel => exact ⟨(x10_2), (wrap64 (x11_2 + 1)), (by first | rfl | (simp; done) | (simp [*]; done)), H', ⟨by have := HJ4.out; have := HK2.out; omega⟩, ⟨by (try simp only [hl10_2]); (with_reducible repeat (first | apply Kd.R_alloc | apply Kd.R_drewN | apply Kd.R_drew)); exact Kd.R_mono (Kd.R_far (p := ⟨gb235, 1, none⟩) (Kd.R_far (p := ⟨gb235, 0, none⟩) (Kd.R_mono HO_10.out (fun k_ hk => (⟨hk, hk.2⟩ : _ ∧ k_ ≠ gb235))) (fun _ hk => hk.2) (.int .i64 ((rd_T49 x10_2 x11_2).f0))) (fun _ hk => hk.2) (.int .i64 ((rd_T49 x10_2 x11_2).f1))) (fun _ hk => trivial)⟩, ⟨kS_ HB GE233 GE235⟩⟩
    rw [if_pos c36] at H
    have c36b0 : (!(((rd_T48 l3 x11_2).f0) == 0) || (!(((rd_T48 l3 x11_2).f1) == 0) || (!(((rd_T48 l3 x11_2).f2) == 0) || (!(((rd_T48 l3 x11_2).f3) == 0))))) = true := c36
    have c36c0 := c36b0; simp only [c35b0, Bool.not_true, Bool.false_or] at c36c0
    clear c36
    obtain ⟨y239, hy239⟩ : ∃ y_ : List (S49), y_ = (([] : List (S49))) := ⟨_, rfl⟩
    replace H : (some (y239, false)) = some (r1, r2) := by first | (rw [hy239]; with_reducible exact H) | (have H2_ := (Option.bind_some _ _).symm.trans H; rw [hy239]; with_reducible exact H2_) | (have H2_ := (Option.bind_some _ _).symm.trans H; with_reducible exact H2_) | with_reducible exact H | (rw [hy239]; exact H) | exact H
    have Ny239 := Aside0.mk hy239
    clear hy239
    simp only [Option.some.injEq, Prod.mk.injEq] at H
    obtain ⟨rfl, rfl⟩ := H
    go_wp2_with (first | ((with_reducible refine gate_dst (N := 69) rfl ?_); (try (refine gate_guard (by rfl) ?_; dsimp only)); refine Kd.R_lit k49 _ 49 ?hg (N := 69) ?hd (xs := ([] : List (S49))) (inner := []) (ok := fun _ => True) (okp := fun _ => True) ?hr ?hp (fun _ hk => hk) trivial (Below.refl _ _) (Nat.le_refl _) (by simp) ?_; (case hd => rfl); (case hg => rfl); (case hr => first | (go_simp; done) | (go_simp; rfl)); (case hp => exact (Reps.none _ _)); intro v240 w43 ho44 hb hg_ hnew_; clear hg_ hnew_; (first | rw [← Ny239.out] at ho44 | (simp only [Int.reduceToNat] at ho44; rw [← Ny239.out] at ho44)); have HO241 := Aside0.mk (Kd.R_lower (Kd.R_newB (Kd.R_new' ho44 (Kd.R_lt (by (with_reducible repeat (first | apply Kd.R_alloc | apply Kd.R_drewN | apply Kd.R_drew)); exact (Kd.R_mono (Kd.R_far (p := ⟨gb235, 1, none⟩) (Kd.R_far (p := ⟨gb235, 0, none⟩) (Kd.R_mono HO_10.out (fun k_ hk => (⟨hk, hk.2⟩ : _ ∧ k_ ≠ gb235))) (fun _ hk => hk.2) (.int .i64 ((rd_T49 x10_2 x11_2).f0))) (fun _ hk => hk.2) (.int .i64 ((rd_T49 x10_2 x11_2).f1))) (fun _ h_ => h_.1))))) (g := gb235) (o := .cells #[.int .i64 ((rd_T49 x10_2 x11_2).f0), .int .i64 ((rd_T49 x10_2 x11_2).f1)] 49 (0, 0)) (by (with_reducible repeat (first | refine blk_drewN ?_ _ | refine blk_drew ?_ | refine blk_alloc ?_ _)); refine blk_put (cs := #[.int .i64 ((rd_T49 x10_2 x11_2).f0), .int .i64 0]) ?_ 1 _ rfl; (with_reducible repeat (first | refine blk_drewN ?_ _ | refine blk_drew ?_ | refine blk_alloc ?_ _)); refine blk_put (cs := #[.int .i64 0, .int .i64 0]) ?_ 0 _ rfl; (with_reducible repeat (first | refine blk_drewN ?_ _ | refine blk_drew ?_ | refine blk_alloc ?_ _)); exact BK235.out)) (below_size (kS_ HB GE233 GE235))); replace HO_10 := Aside0.mk (Kd.R_elder' (by (with_reducible repeat (first | apply Kd.R_alloc | apply Kd.R_drewN | apply Kd.R_drew)); exact (Kd.R_mono (Kd.R_far (p := ⟨gb235, 1, none⟩) (Kd.R_far (p := ⟨gb235, 0, none⟩) (Kd.R_mono HO_10.out (fun k_ hk => (⟨hk, hk.2⟩ : _ ∧ k_ ≠ gb235))) (fun _ hk => hk.2) (.int .i64 ((rd_T49 x10_2 x11_2).f0))) (fun _ hk => hk.2) (.int .i64 ((rd_T49 x10_2 x11_2).f1))) (fun _ h_ => h_.1))) (Kd.R_base ho44) hb); replace BK233 := Aside0.mk (blk_below (g := gb233) (o := .cells #[.int .i8 ((rd_T48 l3 x11_2).f0), .int .i8 ((rd_T48 l3 x11_2).f1), .int .i8 ((rd_T48 l3 x11_2).f2), .int .i8 ((rd_T48 l3 x11_2).f3)] 48 (0, 0)) (by (with_reducible repeat (first | refine blk_drewN ?_ _ | refine blk_drew ?_ | refine blk_alloc ?_ _)); refine blk_far ?_ NB233_235.out _; (with_reducible repeat (first | refine blk_drewN ?_ _ | refine blk_drew ?_ | refine blk_alloc ?_ _)); refine blk_far ?_ NB233_235.out _; (with_reducible repeat (first | refine blk_drewN ?_ _ | refine blk_drew ?_ | refine blk_alloc ?_ _)); exact BK233.out) hb); replace BK235 := Aside0.mk (blk_below (g := gb235) (o := .cells #[.int .i64 ((rd_T49 x10_2 x11_2).f0), .int .i64 ((rd_T49 x10_2 x11_2).f1)] 49 (0, 0)) (by (with_reducible repeat (first | refine blk_drewN ?_ _ | refine blk_drew ?_ | refine blk_alloc ?_ _)); refine blk_put (cs := #[.int .i64 ((rd_T49 x10_2 x11_2).f0), .int .i64 0]) ?_ 1 _ rfl; (with_reducible repeat (first | refine blk_drewN ?_ _ | refine blk_drew ?_ | refine blk_alloc ?_ _)); refine blk_put (cs := #[.int .i64 0, .int .i64 0]) ?_ 0 _ rfl; (with_reducible repeat (first | refine blk_drewN ?_ _ | refine blk_drew ?_ | refine blk_alloc ?_ _)); exact BK235.out) hb); replace HB := Aside0.mk (below_step (kS_ HB GE233 GE235) hb); clear hb ho44))
    go_ret2
    exact ⟨_, by first | rfl | (simp [errW_none, errW_some] <;> rfl) | (simp [*, errW_none, errW_some] <;> rfl), by (with_reducible repeat (first | apply Kd.R_alloc | apply Kd.R_drewN | apply Kd.R_drew)); exact Kd.R_mono HO241.out (fun _ hk => trivial), kS_ HB GE233 GE235⟩
   rw [if_neg c35] at H
   have c35b0 : (((rd_T48 l3 x11_2).f0) == 0) = false := beq_eq_false_iff_ne.mpr c35
   have c35b1 : (((rd_T48 l3 x11_2).f0) != 0) = true := bne_iff_ne.mpr c35
   by_cases c51 : ((rd_T48 l3 x11_2).f0) = 1
   ·
    rw [if_pos c51] at H
    have c51b0 : (((rd_T48 l3 x11_2).f0) == 1) = true := beq_iff_eq.mpr c51
    have c51b1 : (((rd_T48 l3 x11_2).f0) != 1) = false := bne_eq_false_iff_eq.mpr c51
    clear c51
    have HC52 := Aside0.mk H
    clear H
    go_upto_region 18 with fail
    (try simp only [Act.put, List.setIfInBounds_toArray, List.set_cons_zero, List.set_cons_succ])
    go_cut [89] (fun v89 wc => ∃ (kq : Nat) (x89_51 : Bool), v89 = .bool x89_51 ∧ Aside0 (spec_l04Sizes.j2 kq l2 l3 x10_2 x11_2 x89_51 ((rd_T48 l3 x11_2).f0) ((rd_T48 l3 x11_2).f1) ((rd_T48 l3 x11_2).f2) ((rd_T48 l3 x11_2).f3) ((rd_T49 x10_2 x11_2).f0) ((rd_T49 x10_2 x11_2).f1) = some (r1, r2)) ∧ Aside0 (kq ≤ k2) ∧ Aside0 (Kd.R k49 49 wc w.heap.size (fun k_ => k_ ≠ gb235) (.slice (some ⟨go19, 0, none⟩) x10_2.length co19) x10_2) ∧ Aside0 (wc.heap[gb233]? = some (.cells #[.int .i8 ((rd_T48 l3 x11_2).f0), .int .i8 ((rd_T48 l3 x11_2).f1), .int .i8 ((rd_T48 l3 x11_2).f2), .int .i8 ((rd_T48 l3 x11_2).f3)] 48 (0, 0))) ∧ Aside0 (wc.heap[gb235]? = some (.cells #[.int .i64 ((rd_T49 x10_2 x11_2).f0), .int .i64 ((rd_T49 x10_2 x11_2).f1)] 49 (0, 0))) ∧ Aside0 (Below w.heap.size w wc))
    case first =>
     have H := HC52.out
     clear HC52
     by_cases c59 : ((rd_T48 l3 x11_2).f1) = 0
     rotate_left
     ·
      rw [if_neg c59] at H
      have c59b0 : (((rd_T48 l3 x11_2).f1) == 0) = false := beq_eq_false_iff_ne.mpr c59
      have c59b1 : (((rd_T48 l3 x11_2).f1) != 0) = true := bne_iff_ne.mpr c59
      (first | rw [c59b0] | (simp only [i64_w, i32_w]; rw [c59b0]) | skip)
      have H' := Aside0.mk H
      clear H
      have hnb66 := NB233_235.out
      have hnc66 := NB235_233.out
      have hcz67_0 : w39.cell? ⟨gb233, 0, none⟩ = some (.int .i8 ((rd_T48 l3 x11_2).f0)) := (blk_cell BK233.out 0).trans rfl
      have hcz67_1 : w39.cell? ⟨gb233, 1, none⟩ = some (.int .i8 ((rd_T48 l3 x11_2).f1)) := (blk_cell BK233.out 1).trans rfl
      have hcz67_2 : w39.cell? ⟨gb233, 2, none⟩ = some (.int .i8 ((rd_T48 l3 x11_2).f2)) := (blk_cell BK233.out 2).trans rfl
      have hcz67_3 : w39.cell? ⟨gb233, 3, none⟩ = some (.int .i8 ((rd_T48 l3 x11_2).f3)) := (blk_cell BK233.out 3).trans rfl
      have hfz67_0 := blk_frozen BK233.out 0
      have hfz67_1 := blk_frozen BK233.out 1
      have hfz67_2 := blk_frozen BK233.out 2
      have hfz67_3 := blk_frozen BK233.out 3
      go_wp2
      go_meet
      case rel => exact ⟨_, (true), (by first | rfl | (simp; done) | (simp [*]; done)), H', ⟨by have := HJ4.out; have := HK2.out; first | omega | exact Nat.le_refl _⟩, ⟨by (try simp only [hl10_2]); (with_reducible repeat (first | apply Kd.R_alloc | apply Kd.R_drewN | apply Kd.R_drew)); exact Kd.R_mono (Kd.R_far (p := ⟨gb235, 1, none⟩) (Kd.R_far (p := ⟨gb235, 0, none⟩) (Kd.R_mono HO_10.out (fun k_ hk => (⟨hk, hk.2⟩ : _ ∧ k_ ≠ gb235))) (fun _ hk => hk.2) (.int .i64 ((rd_T49 x10_2 x11_2).f0))) (fun _ hk => hk.2) (.int .i64 ((rd_T49 x10_2 x11_2).f1))) (fun _ hk => hk.1.2)⟩, ⟨by (try simp only [hl10_2]); (with_reducible repeat (first | refine blk_drewN ?_ _ | refine blk_drew ?_ | refine blk_alloc ?_ _)); refine blk_far ?_ NB233_235.out _; (with_reducible repeat (first | refine blk_drewN ?_ _ | refine blk_drew ?_ | refine blk_alloc ?_ _)); refine blk_far ?_ NB233_235.out _; (with_reducible repeat (first | refine blk_drewN ?_ _ | refine blk_drew ?_ | refine blk_alloc ?_ _)); exact BK233.out⟩, ⟨by (try simp only [hl10_2]); (with_reducible repeat (first | refine blk_drewN ?_ _ | refine blk_drew ?_ | refine blk_alloc ?_ _)); refine blk_put (cs := #[.int .i64 ((rd_T49 x10_2 x11_2).f0), .int .i64 0]) ?_ 1 _ rfl; (with_reducible repeat (first | refine blk_drewN ?_ _ | refine blk_drew ?_ | refine blk_alloc ?_ _)); refine blk_put (cs := #[.int .i64 0, .int .i64 0]) ?_ 0 _ rfl; (with_reducible repeat (first | refine blk_drewN ?_ _ | refine blk_drew ?_ | refine blk_alloc ?_ _)); exact BK235.out⟩, ⟨kS_ HB GE233 GE235⟩⟩
     rw [if_pos c59] at H
     have c59b0 : (((rd_T48 l3 x11_2).f1) == 0) = true := beq_iff_eq.mpr c59
     have c59b1 : (((rd_T48 l3 x11_2).f1) != 0) = false := bne_eq_false_iff_eq.mpr c59
     clear c59
     (first | rw [c59b0] | (simp only [i64_w, i32_w]; rw [c59b0]) | skip)
     rcases (Decidable.em (((rd_T48 l3 x11_2).f3) = 0)).symm with c60 | c60
     ·
      rw [if_neg c60] at H
      have c60b0 : (((rd_T48 l3 x11_2).f3) == 0) = false := beq_eq_false_iff_ne.mpr c60
      have c60b1 : (((rd_T48 l3 x11_2).f3) != 0) = true := bne_iff_ne.mpr c60
      have H' := Aside0.mk H
      clear H
      have hnb64 := NB233_235.out
      have hnc64 := NB235_233.out
      have hcz65_0 : w39.cell? ⟨gb233, 0, none⟩ = some (.int .i8 ((rd_T48 l3 x11_2).f0)) := (blk_cell BK233.out 0).trans rfl
      have hcz65_1 : w39.cell? ⟨gb233, 1, none⟩ = some (.int .i8 ((rd_T48 l3 x11_2).f1)) := (blk_cell BK233.out 1).trans rfl
      have hcz65_2 : w39.cell? ⟨gb233, 2, none⟩ = some (.int .i8 ((rd_T48 l3 x11_2).f2)) := (blk_cell BK233.out 2).trans rfl
      have hcz65_3 : w39.cell? ⟨gb233, 3, none⟩ = some (.int .i8 ((rd_T48 l3 x11_2).f3)) := (blk_cell BK233.out 3).trans rfl
      have hfz65_0 := blk_frozen BK233.out 0
      have hfz65_1 := blk_frozen BK233.out 1
      have hfz65_2 := blk_frozen BK233.out 2
      have hfz65_3 := blk_frozen BK233.out 3
      go_wp2
      go_meet
      case rel => exact ⟨_, (true), (by first | rfl | (simp; done) | (simp [*]; done)), H', ⟨by have := HJ4.out; have := HK2.out; first | omega | exact Nat.le_refl _⟩, ⟨by (try simp only [hl10_2]); (with_reducible repeat (first | apply Kd.R_alloc | apply Kd.R_drewN | apply Kd.R_drew)); exact Kd.R_mono (Kd.R_far (p := ⟨gb235, 1, none⟩) (Kd.R_far (p := ⟨gb235, 0, none⟩) (Kd.R_mono HO_10.out (fun k_ hk => (⟨hk, hk.2⟩ : _ ∧ k_ ≠ gb235))) (fun _ hk => hk.2) (.int .i64 ((rd_T49 x10_2 x11_2).f0))) (fun _ hk => hk.2) (.int .i64 ((rd_T49 x10_2 x11_2).f1))) (fun _ hk => hk.1.2)⟩, ⟨by (try simp only [hl10_2]); (with_reducible repeat (first | refine blk_drewN ?_ _ | refine blk_drew ?_ | refine blk_alloc ?_ _)); refine blk_far ?_ NB233_235.out _; (with_reducible repeat (first | refine blk_drewN ?_ _ | refine blk_drew ?_ | refine blk_alloc ?_ _)); refine blk_far ?_ NB233_235.out _; (with_reducible repeat (first | refine blk_drewN ?_ _ | refine blk_drew ?_ | refine blk_alloc ?_ _)); exact BK233.out⟩, ⟨by (try simp only [hl10_2]); (with_reducible repeat (first | refine blk_drewN ?_ _ | refine blk_drew ?_ | refine blk_alloc ?_ _)); refine blk_put (cs := #[.int .i64 ((rd_T49 x10_2 x11_2).f0), .int .i64 0]) ?_ 1 _ rfl; (with_reducible repeat (first | refine blk_drewN ?_ _ | refine blk_drew ?_ | refine blk_alloc ?_ _)); refine blk_put (cs := #[.int .i64 0, .int .i64 0]) ?_ 0 _ rfl; (with_reducible repeat (first | refine blk_drewN ?_ _ | refine blk_drew ?_ | refine blk_alloc ?_ _)); exact BK235.out⟩, ⟨kS_ HB GE233 GE235⟩⟩
     rw [if_pos c60] at H
     have c60b0 : (((rd_T48 l3 x11_2).f3) == 0) = true := beq_iff_eq.mpr c60
     have c60b1 : (((rd_T48 l3 x11_2).f3) != 0) = false := bne_eq_false_iff_eq.mpr c60
     clear c60
     obtain ⟨t242, A61, H⟩ := be_ H
     (try dsimp only at H)
     have H' := Aside0.mk H
     clear H
     have hnb62 := NB233_235.out
     have hnc62 := NB235_233.out
     have hcz63_0 : w39.cell? ⟨gb233, 0, none⟩ = some (.int .i8 ((rd_T48 l3 x11_2).f0)) := (blk_cell BK233.out 0).trans rfl
     have hcz63_1 : w39.cell? ⟨gb233, 1, none⟩ = some (.int .i8 ((rd_T48 l3 x11_2).f1)) := (blk_cell BK233.out 1).trans rfl
     have hcz63_2 : w39.cell? ⟨gb233, 2, none⟩ = some (.int .i8 ((rd_T48 l3 x11_2).f2)) := (blk_cell BK233.out 2).trans rfl
     have hcz63_3 : w39.cell? ⟨gb233, 3, none⟩ = some (.int .i8 ((rd_T48 l3 x11_2).f3)) := (blk_cell BK233.out 3).trans rfl
     have hfz63_0 := blk_frozen BK233.out 0
     have hfz63_1 := blk_frozen BK233.out 1
     have hfz63_2 := blk_frozen BK233.out 2
     have hfz63_3 := blk_frozen BK233.out 3
     go_wp2_with (first | (go_at_call 46; (with_reducible refine (spec_l00In.calls (wrap64 ((rd_T48 l3 x11_2).f2)) 0 (wrap64 ((l2.length : Int) - 1)) t242 _ A61.out).mono ?_); rintro e w' ⟨rfl, ⟨nd, rfl⟩⟩))
     go_meet
     case rel => exact ⟨_, (!t242), (by first | rfl | (simp; done) | (simp [*]; done)), H', ⟨by have := HJ4.out; have := HK2.out; first | omega | exact Nat.le_refl _⟩, ⟨by (try simp only [hl10_2]); (with_reducible repeat (first | apply Kd.R_alloc | apply Kd.R_drewN | apply Kd.R_drew)); exact Kd.R_mono (Kd.R_far (p := ⟨gb235, 1, none⟩) (Kd.R_far (p := ⟨gb235, 0, none⟩) (Kd.R_mono HO_10.out (fun k_ hk => (⟨hk, hk.2⟩ : _ ∧ k_ ≠ gb235))) (fun _ hk => hk.2) (.int .i64 ((rd_T49 x10_2 x11_2).f0))) (fun _ hk => hk.2) (.int .i64 ((rd_T49 x10_2 x11_2).f1))) (fun _ hk => hk.1.2)⟩, ⟨by (try simp only [hl10_2]); (with_reducible repeat (first | refine blk_drewN ?_ _ | refine blk_drew ?_ | refine blk_alloc ?_ _)); refine blk_far ?_ NB233_235.out _; (with_reducible repeat (first | refine blk_drewN ?_ _ | refine blk_drew ?_ | refine blk_alloc ?_ _)); refine blk_far ?_ NB233_235.out _; (with_reducible repeat (first | refine blk_drewN ?_ _ | refine blk_drew ?_ | refine blk_alloc ?_ _)); exact BK233.out⟩, ⟨by (try simp only [hl10_2]); (with_reducible repeat (first | refine blk_drewN ?_ _ | refine blk_drew ?_ | refine blk_alloc ?_ _)); refine blk_put (cs := #[.int .i64 ((rd_T49 x10_2 x11_2).f0), .int .i64 0]) ?_ 1 _ rfl; (with_reducible repeat (first | refine blk_drewN ?_ _ | refine blk_drew ?_ | refine blk_alloc ?_ _)); refine blk_put (cs := #[.int .i64 0, .int .i64 0]) ?_ 0 _ rfl; (with_reducible repeat (first | refine blk_drewN ?_ _ | refine blk_drew ?_ | refine blk_alloc ?_ _)); exact BK235.out⟩, ⟨kS_ HB GE233 GE235⟩⟩
    case rest =>
     clear HC52
     obtain ⟨kq, x89_51, rfl, HA, HJ51, HO_10, BK233, BK235, HB⟩ := hcut
     rcases kq with _ | kj51
     · exact absurd HA.out (by simp [spec_l04Sizes.j2])
     have H := HA.out
     clear HA
     simp only [spec_l04Sizes.j2] at H
     by_cases c68 : x89_51 = true
     ·
      subst c68
      replace H := gt_ H
      obtain ⟨y243, hy243⟩ : ∃ y_ : List (S49), y_ = (([] : List (S49))) := ⟨_, rfl⟩
      replace H : (some (y243, false)) = some (r1, r2) := by first | (rw [hy243]; with_reducible exact H) | (have H2_ := (Option.bind_some _ _).symm.trans H; rw [hy243]; with_reducible exact H2_) | (have H2_ := (Option.bind_some _ _).symm.trans H; with_reducible exact H2_) | with_reducible exact H | (rw [hy243]; exact H) | exact H
      have Ny243 := Aside0.mk hy243
      clear hy243
      simp only [Option.some.injEq, Prod.mk.injEq] at H
      obtain ⟨rfl, rfl⟩ := H
      go_wp2_with (first | ((with_reducible refine gate_dst (N := 90) rfl ?_); (try (refine gate_guard (by rfl) ?_; dsimp only)); refine Kd.R_lit k49 _ 49 ?hg (N := 90) ?hd (xs := ([] : List (S49))) (inner := []) (ok := fun _ => True) (okp := fun _ => True) ?hr ?hp (fun _ hk => hk) trivial (Below.refl _ _) (Nat.le_refl _) (by simp) ?_; (case hd => rfl); (case hg => rfl); (case hr => first | (go_simp; done) | (go_simp; rfl)); (case hp => exact (Reps.none _ _)); intro v244 w69 ho70 hb hg_ hnew_; clear hg_ hnew_; (first | rw [← Ny243.out] at ho70 | (simp only [Int.reduceToNat] at ho70; rw [← Ny243.out] at ho70)); have HO245 := Aside0.mk (Kd.R_lower (Kd.R_newB (Kd.R_new' ho70 (Kd.R_lt (kp_ HO_10))) (g := gb235) (o := .cells #[.int .i64 ((rd_T49 x10_2 x11_2).f0), .int .i64 ((rd_T49 x10_2 x11_2).f1)] 49 (0, 0)) (kb_ BK235)) (below_size (kS_ HB GE233 GE235))); replace HO_10 := Aside0.mk (Kd.R_elder' (kp_ HO_10) (Kd.R_base ho70) hb); replace BK233 := Aside0.mk (blk_below (g := gb233) (o := .cells #[.int .i8 ((rd_T48 l3 x11_2).f0), .int .i8 ((rd_T48 l3 x11_2).f1), .int .i8 ((rd_T48 l3 x11_2).f2), .int .i8 ((rd_T48 l3 x11_2).f3)] 48 (0, 0)) (kb_ BK233) hb); replace BK235 := Aside0.mk (blk_below (g := gb235) (o := .cells #[.int .i64 ((rd_T49 x10_2 x11_2).f0), .int .i64 ((rd_T49 x10_2 x11_2).f1)] 49 (0, 0)) (kb_ BK235) hb); replace HB := Aside0.mk (below_step (kS_ HB GE233 GE235) hb); clear hb ho70))
      go_ret2
      exact ⟨_, by first | rfl | (simp [errW_none, errW_some] <;> rfl) | (simp [*, errW_none, errW_some] <;> rfl), by (with_reducible repeat (first | apply Kd.R_alloc | apply Kd.R_drewN | apply Kd.R_drew)); exact Kd.R_mono HO245.out (fun _ hk => trivial), kS_ HB GE233 GE235⟩
     replace c68 := Bool.eq_false_iff.mpr c68
     subst c68
     replace H := gf_ H
     by_cases c71 : 0 ≤ ((rd_T48 l3 x11_2).f2)
     rotate_left
     ·
      rw [if_neg c71] at H
      exact absurd H (by simp)
     rw [if_pos c71] at H
     have c71b0 : decide (0 ≤ ((rd_T48 l3 x11_2).f2)) = true := decide_eq_true c71
     clear c71
     by_cases c72 : ((rd_T48 l3 x11_2).f2) < (l2.length : Int)
     rotate_left
     ·
      rw [if_neg c72] at H
      exact absurd H (by simp)
     rw [if_pos c72] at H
     have c72b0 : decide (((rd_T48 l3 x11_2).f2) < (l2.length : Int)) = true := decide_eq_true c72
     clear c72
     rcases (Decidable.em ((!(((rd_T49 x10_2 x11_2).f0) == (wrap64 ((rd_T46 l2 ((rd_T48 l3 x11_2).f2)).f0))) || (!(((rd_T49 x10_2 x11_2).f1) == (wrap64 ((rd_T46 l2 ((rd_T48 l3 x11_2).f2)).f1))))) = true)).symm with c73 | c73
     ·
      as_aux_lemma =>
      rw [if_neg c73] at H
      have c73b0 : (!(((rd_T49 x10_2 x11_2).f0) == (wrap64 ((rd_T46 l2 ((rd_T48 l3 x11_2).f2)).f0))) || (!(((rd_T49 x10_2 x11_2).f1) == (wrap64 ((rd_T46 l2 ((rd_T48 l3 x11_2).f2)).f1))))) = false := by simpa using c73
      clear c73
      have H' := Aside0.mk H
      clear H
      try go_wp2
      replace HO_10 := Aside0.mk (Kd.R_drew HO_10.out)
      replace BK233 := Aside0.mk (blk_drew BK233.out)
      replace BK235 := Aside0.mk (blk_drew BK235.out)
      replace HB := Aside0.mk (below_drew1 HB.out)
      have p246 : 0 ≤ (((rd_T48 l3 x11_2).f2) : Int) := od_
      have q246 : ((rd_T48 l3 x11_2).f2) < (l2.length : Int) := od_
      obtain ⟨ad246, e246, hx246_0, hx246_1, hx246_2⟩ := at_T46 HR2.out ((rd_T48 l3 x11_2).f2) p246 q246
      have hw246_2 := hx246_2
      have hw246_1 := hx246_1
      have hw246_0 := hx246_0
      cases e246
      replace hx246_0 := (hw_ HB hx246_0 :)
      replace hx246_1 := (hw_ HB hx246_1 :)
      replace hx246_2 := (hw_ HB hx246_2 :)
      replace p246 := eq_true p246
      replace q246 := eq_true q246
      have p247 : 0 ≤ (((rd_T48 l3 x11_2).f2) : Int) := od_
      have q247 : ((rd_T48 l3 x11_2).f2) < (l2.length : Int) := od_
      obtain ⟨ad247, e247, hx247_0, hx247_1, hx247_2⟩ := at_T46 HR2.out ((rd_T48 l3 x11_2).f2) p247 q247
      have hw247_2 := hx247_2
      have hw247_1 := hx247_1
      have hw247_0 := hx247_0
      obtain rfl : ad246 = ad247 := (by injection e247)
      replace hx247_0 := (hw_ HB hx247_0 :)
      replace hx247_1 := (hw_ HB hx247_1 :)
      replace hx247_2 := (hw_ HB hx247_2 :)
      replace p247 := eq_true p247
      replace q247 := eq_true q247
      refine start_ (n := 17) (S := fun w' => w'.cell? ⟨gb235, 0, none⟩ = some (.int .i64 ((rd_T49 x10_2 x11_2).f0)) ∧ w'.cell? ⟨gb235, 1, none⟩ = some (.int .i64 ((rd_T49 x10_2 x11_2).f1)) ∧ w'.cell? ⟨gb233, 0, none⟩ = some (.int .i8 ((rd_T48 l3 x11_2).f0)) ∧ w'.cell? ⟨gb233, 1, none⟩ = some (.int .i8 ((rd_T48 l3 x11_2).f1)) ∧ w'.cell? ⟨gb233, 2, none⟩ = some (.int .i8 ((rd_T48 l3 x11_2).f2)) ∧ w'.cell? ⟨gb233, 3, none⟩ = some (.int .i8 ((rd_T48 l3 x11_2).f3)) ∧ w'.cell? (ad246.add ((((rd_T48 l3 x11_2).f2)).toNat * 3)) = some (.int .i8 ((rd_T46 l2 ((rd_T48 l3 x11_2).f2)).f0)) ∧ w'.cell? ⟨(ad246.add ((((rd_T48 l3 x11_2).f2)).toNat * 3)).block, (ad246.add ((((rd_T48 l3 x11_2).f2)).toNat * 3)).off + 1, none⟩ = some (.int .i8 ((rd_T46 l2 ((rd_T48 l3 x11_2).f2)).f1)) ∧ w'.cell? ⟨(ad246.add ((((rd_T48 l3 x11_2).f2)).toNat * 3)).block, (ad246.add ((((rd_T48 l3 x11_2).f2)).toNat * 3)).off + 2, none⟩ = some (.int .i16 ((rd_T46 l2 ((rd_T48 l3 x11_2).f2)).f2)) ∧ w'.cell? (ad246.add ((((rd_T48 l3 x11_2).f2)).toNat * 3)) = some (.int .i8 ((rd_T46 l2 ((rd_T48 l3 x11_2).f2)).f0)) ∧ w'.cell? ⟨(ad246.add ((((rd_T48 l3 x11_2).f2)).toNat * 3)).block, (ad246.add ((((rd_T48 l3 x11_2).f2)).toNat * 3)).off + 1, none⟩ = some (.int .i8 ((rd_T46 l2 ((rd_T48 l3 x11_2).f2)).f1)) ∧ w'.cell? ⟨(ad246.add ((((rd_T48 l3 x11_2).f2)).toNat * 3)).block, (ad246.add ((((rd_T48 l3 x11_2).f2)).toNat * 3)).off + 2, none⟩ = some (.int .i16 ((rd_T46 l2 ((rd_T48 l3 x11_2).f2)).f2))) (ds := []) #[false, false, false, false, false, false, false, false, false, false, false, false, false, false, false, false, false] (by kernel_rfl) rfl rfl ⟨(blk_cell BK235.out 0).trans rfl, (blk_cell BK235.out 1).trans rfl, (blk_cell BK233.out 0).trans rfl, (blk_cell BK233.out 1).trans rfl, (blk_cell BK233.out 2).trans rfl, (blk_cell BK233.out 3).trans rfl, ((hw_ HB hw246_0 :)), ((hw_ HB hw246_1 :)), ((hw_ HB hw246_2 :)), ((hw_ HB hw247_0 :)), ((hw_ HB hw247_1 :)), ((hw_ HB hw247_2 :))⟩ (fun hHeld => ?_); refine with_tabW spec_l04Sizes.tab20 spec_l04Sizes.bits20 (fun HT_ HW_ => ?_)
      generalize wc.drew = w77 at HO_10 BK233 BK235 HB hx246_0 hx246_1 hx246_2 hx247_0 hx247_1 hx247_2 hHeld ⊢
      refine pu_ 1 92 (lA 17 2) ?_ ?_ HT_ ?_
      refine pu_ 2 93 (lA 17 6) ?_ ?_ HT_ ?_
      refine pu_ 8 99 (lA 17 262) ?_ ?_ HT_ ?_
      refine pu_ 9 100 (lA 17 774) ?_ ?_ HT_ ?_
      refine tk_ 0 91 (lA 17 775) ?_ ?_ HT_ HW_ hHeld ?_
      refine tk_ 3 94 (lA 17 783) ?_ ?_ HT_ HW_ hHeld ?_
      refine pu_ 4 95 (lA 17 799) ?_ ?_ HT_ ?_
      refine pu_ 5 96 (lA 17 831) ?_ ?_ HT_ ?_
      refine tk_ 6 97 (lA 17 895) ?_ ?_ HT_ HW_ hHeld ?_
      refine pu_ 7 98 (lA 17 1023) ?_ ?_ HT_ ?_
      refine tk_ 10 101 (lA 17 2047) ?_ ?_ HT_ HW_ hHeld ?_
      refine pu_ 11 102 (lA 17 4095) ?_ ?_ HT_ ?_
      refine pu_ 12 103 (lA 17 8191) ?_ ?_ HT_ ?_
      refine tk_ 13 104 (lA 17 16383) ?_ ?_ HT_ HW_ hHeld ?_
      refine pu_ 14 105 (lA 17 32767) ?_ ?_ HT_ ?_
      refine pu_ 15 106 (lA 17 65535) ?_ ?_ HT_ ?_
      refine pu_ 16 107 (lA 17 131071) ?_ ?_ HT_ ?_
      refine done_ (done_of HT_.out (by kernel_rfl)) ?_
      try go_wp2
      (try simp only [← hl10_2])
      go_roundg kj51
      case measure => have := HJ4.out; have := HK2.out; have := HJ51.out; omega
      case rel => exact ⟨(x10_2), (wrap64 (x11_2 + 1)), (by first | rfl | (simp; done) | (simp [*]; done)), H', ⟨by have := HJ4.out; have := HK2.out; have := HJ51.out; omega⟩, ⟨by (try simp only [hl10_2]); (with_reducible repeat (first | apply Kd.R_alloc | apply Kd.R_drewN | apply Kd.R_drew)); exact Kd.R_mono HO_10.out (fun _ hk => trivial)⟩, ⟨kS_ HB GE233 GE235⟩⟩
     as_aux_lemma =>
     rw [if_pos c73] at H
     have c73b0 : (!(((rd_T49 x10_2 x11_2).f0) == (wrap64 ((rd_T46 l2 ((rd_T48 l3 x11_2).f2)).f0))) || (!(((rd_T49 x10_2 x11_2).f1) == (wrap64 ((rd_T46 l2 ((rd_T48 l3 x11_2).f2)).f1))))) = true := c73
     clear c73
     obtain ⟨y248, hy248⟩ : ∃ y_ : List (S49), y_ = (([] : List (S49))) := ⟨_, rfl⟩
     replace H : (some (y248, false)) = some (r1, r2) := by first | (rw [hy248]; with_reducible exact H) | (have H2_ := (Option.bind_some _ _).symm.trans H; rw [hy248]; with_reducible exact H2_) | (have H2_ := (Option.bind_some _ _).symm.trans H; with_reducible exact H2_) | with_reducible exact H | (rw [hy248]; exact H) | exact H
     have Ny248 := Aside0.mk hy248
     clear hy248
     simp only [Option.some.injEq, Prod.mk.injEq] at H
     obtain ⟨rfl, rfl⟩ := H
     try go_wp2
     replace HO_10 := Aside0.mk (Kd.R_drew HO_10.out)
     replace BK233 := Aside0.mk (blk_drew BK233.out)
     replace BK235 := Aside0.mk (blk_drew BK235.out)
     replace HB := Aside0.mk (below_drew1 HB.out)
     have p246 : 0 ≤ (((rd_T48 l3 x11_2).f2) : Int) := od_
     have q246 : ((rd_T48 l3 x11_2).f2) < (l2.length : Int) := od_
     obtain ⟨ad246, e246, hx246_0, hx246_1, hx246_2⟩ := at_T46 HR2.out ((rd_T48 l3 x11_2).f2) p246 q246
     have hw246_2 := hx246_2
     have hw246_1 := hx246_1
     have hw246_0 := hx246_0
     cases e246
     replace hx246_0 := (hw_ HB hx246_0 :)
     replace hx246_1 := (hw_ HB hx246_1 :)
     replace hx246_2 := (hw_ HB hx246_2 :)
     replace p246 := eq_true p246
     replace q246 := eq_true q246
     have p247 : 0 ≤ (((rd_T48 l3 x11_2).f2) : Int) := od_
     have q247 : ((rd_T48 l3 x11_2).f2) < (l2.length : Int) := od_
     obtain ⟨ad247, e247, hx247_0, hx247_1, hx247_2⟩ := at_T46 HR2.out ((rd_T48 l3 x11_2).f2) p247 q247
     have hw247_2 := hx247_2
     have hw247_1 := hx247_1
     have hw247_0 := hx247_0
     obtain rfl : ad246 = ad247 := (by injection e247)
     replace hx247_0 := (hw_ HB hx247_0 :)
     replace hx247_1 := (hw_ HB hx247_1 :)
     replace hx247_2 := (hw_ HB hx247_2 :)
     replace p247 := eq_true p247
     replace q247 := eq_true q247
     refine start_ (n := 17) (S := fun w' => w'.cell? ⟨gb235, 0, none⟩ = some (.int .i64 ((rd_T49 x10_2 x11_2).f0)) ∧ w'.cell? ⟨gb235, 1, none⟩ = some (.int .i64 ((rd_T49 x10_2 x11_2).f1)) ∧ w'.cell? ⟨gb233, 0, none⟩ = some (.int .i8 ((rd_T48 l3 x11_2).f0)) ∧ w'.cell? ⟨gb233, 1, none⟩ = some (.int .i8 ((rd_T48 l3 x11_2).f1)) ∧ w'.cell? ⟨gb233, 2, none⟩ = some (.int .i8 ((rd_T48 l3 x11_2).f2)) ∧ w'.cell? ⟨gb233, 3, none⟩ = some (.int .i8 ((rd_T48 l3 x11_2).f3)) ∧ w'.cell? (ad246.add ((((rd_T48 l3 x11_2).f2)).toNat * 3)) = some (.int .i8 ((rd_T46 l2 ((rd_T48 l3 x11_2).f2)).f0)) ∧ w'.cell? ⟨(ad246.add ((((rd_T48 l3 x11_2).f2)).toNat * 3)).block, (ad246.add ((((rd_T48 l3 x11_2).f2)).toNat * 3)).off + 1, none⟩ = some (.int .i8 ((rd_T46 l2 ((rd_T48 l3 x11_2).f2)).f1)) ∧ w'.cell? ⟨(ad246.add ((((rd_T48 l3 x11_2).f2)).toNat * 3)).block, (ad246.add ((((rd_T48 l3 x11_2).f2)).toNat * 3)).off + 2, none⟩ = some (.int .i16 ((rd_T46 l2 ((rd_T48 l3 x11_2).f2)).f2)) ∧ w'.cell? (ad246.add ((((rd_T48 l3 x11_2).f2)).toNat * 3)) = some (.int .i8 ((rd_T46 l2 ((rd_T48 l3 x11_2).f2)).f0)) ∧ w'.cell? ⟨(ad246.add ((((rd_T48 l3 x11_2).f2)).toNat * 3)).block, (ad246.add ((((rd_T48 l3 x11_2).f2)).toNat * 3)).off + 1, none⟩ = some (.int .i8 ((rd_T46 l2 ((rd_T48 l3 x11_2).f2)).f1)) ∧ w'.cell? ⟨(ad246.add ((((rd_T48 l3 x11_2).f2)).toNat * 3)).block, (ad246.add ((((rd_T48 l3 x11_2).f2)).toNat * 3)).off + 2, none⟩ = some (.int .i16 ((rd_T46 l2 ((rd_T48 l3 x11_2).f2)).f2))) (ds := []) #[false, false, false, false, false, false, false, false, false, false, false, false, false, false, false, false, false] (by kernel_rfl) rfl rfl ⟨(blk_cell BK235.out 0).trans rfl, (blk_cell BK235.out 1).trans rfl, (blk_cell BK233.out 0).trans rfl, (blk_cell BK233.out 1).trans rfl, (blk_cell BK233.out 2).trans rfl, (blk_cell BK233.out 3).trans rfl, ((hw_ HB hw246_0 :)), ((hw_ HB hw246_1 :)), ((hw_ HB hw246_2 :)), ((hw_ HB hw247_0 :)), ((hw_ HB hw247_1 :)), ((hw_ HB hw247_2 :))⟩ (fun hHeld => ?_); refine with_tabW spec_l04Sizes.tab20 spec_l04Sizes.bits20 (fun HT_ HW_ => ?_)
     generalize wc.drew = w74 at HO_10 BK233 BK235 HB hx246_0 hx246_1 hx246_2 hx247_0 hx247_1 hx247_2 hHeld ⊢
     refine pu_ 1 92 (lA 17 2) ?_ ?_ HT_ ?_
     refine pu_ 2 93 (lA 17 6) ?_ ?_ HT_ ?_
     refine pu_ 8 99 (lA 17 262) ?_ ?_ HT_ ?_
     refine pu_ 9 100 (lA 17 774) ?_ ?_ HT_ ?_
     refine tk_ 0 91 (lA 17 775) ?_ ?_ HT_ HW_ hHeld ?_
     refine tk_ 3 94 (lA 17 783) ?_ ?_ HT_ HW_ hHeld ?_
     refine pu_ 4 95 (lA 17 799) ?_ ?_ HT_ ?_
     refine pu_ 5 96 (lA 17 831) ?_ ?_ HT_ ?_
     refine tk_ 6 97 (lA 17 895) ?_ ?_ HT_ HW_ hHeld ?_
     refine pu_ 7 98 (lA 17 1023) ?_ ?_ HT_ ?_
     refine tk_ 10 101 (lA 17 2047) ?_ ?_ HT_ HW_ hHeld ?_
     refine pu_ 11 102 (lA 17 4095) ?_ ?_ HT_ ?_
     refine pu_ 12 103 (lA 17 8191) ?_ ?_ HT_ ?_
     refine tk_ 13 104 (lA 17 16383) ?_ ?_ HT_ HW_ hHeld ?_
     refine pu_ 14 105 (lA 17 32767) ?_ ?_ HT_ ?_
     refine pu_ 15 106 (lA 17 65535) ?_ ?_ HT_ ?_
     refine pu_ 16 107 (lA 17 131071) ?_ ?_ HT_ ?_
     refine done_ (done_of HT_.out (by kernel_rfl)) ?_
     try go_wp2_with (first | ((with_reducible refine gate_dst (N := 108) rfl ?_); (try (refine gate_guard (by rfl) ?_; dsimp only)); refine Kd.R_lit k49 _ 49 ?hg (N := 108) ?hd (xs := ([] : List (S49))) (inner := []) (ok := fun _ => True) (okp := fun _ => True) ?hr ?hp (fun _ hk => hk) trivial (Below.refl _ _) (Nat.le_refl _) (by simp) ?_; (case hd => rfl); (case hg => rfl); (case hr => first | (go_simp; done) | (go_simp; rfl)); (case hp => exact (Reps.none _ _)); intro v249 w75 ho76 hb hg_ hnew_; clear hg_ hnew_; (first | rw [← Ny248.out] at ho76 | (simp only [Int.reduceToNat] at ho76; rw [← Ny248.out] at ho76)); have HO250 := Aside0.mk (Kd.R_lower (Kd.R_newB (Kd.R_new' ho76 (Kd.R_lt (kp_ HO_10))) (g := gb235) (o := .cells #[.int .i64 ((rd_T49 x10_2 x11_2).f0), .int .i64 ((rd_T49 x10_2 x11_2).f1)] 49 (0, 0)) (kb_ BK235)) (below_size (kS_ HB GE233 GE235))); replace HO_10 := Aside0.mk (Kd.R_elder' (kp_ HO_10) (Kd.R_base ho76) hb); replace BK233 := Aside0.mk (blk_below (g := gb233) (o := .cells #[.int .i8 ((rd_T48 l3 x11_2).f0), .int .i8 ((rd_T48 l3 x11_2).f1), .int .i8 ((rd_T48 l3 x11_2).f2), .int .i8 ((rd_T48 l3 x11_2).f3)] 48 (0, 0)) (kb_ BK233) hb); replace BK235 := Aside0.mk (blk_below (g := gb235) (o := .cells #[.int .i64 ((rd_T49 x10_2 x11_2).f0), .int .i64 ((rd_T49 x10_2 x11_2).f1)] 49 (0, 0)) (kb_ BK235) hb); replace HB := Aside0.mk (below_step (kS_ HB GE233 GE235) hb); clear hb ho76))
     go_ret2
     exact ⟨_, by first | rfl | (simp [errW_none, errW_some] <;> rfl) | (simp [*, errW_none, errW_some] <;> rfl), by (with_reducible repeat (first | apply Kd.R_alloc | apply Kd.R_drewN | apply Kd.R_drew)); exact Kd.R_mono HO250.out (fun _ hk => trivial), kS_ HB GE233 GE235⟩
   rw [if_neg c51] at H
   have c51b0 : (((rd_T48 l3 x11_2).f0) == 1) = false := beq_eq_false_iff_ne.mpr c51
   have c51b1 : (((rd_T48 l3 x11_2).f0) != 1) = true := bne_iff_ne.mpr c51
   have HC78 := Aside0.mk H
   clear H
   go_upto_if 109 with fail
   (try simp only [Act.put, List.setIfInBounds_toArray, List.set_cons_zero, List.set_cons_succ])
   go_cut [109] (fun v109 wc => ∃ (kq : Nat) (x109_77 : Bool), v109 = .bool x109_77 ∧ Aside0 (spec_l04Sizes.j3 kq l2 l3 x10_2 x11_2 x109_77 ((rd_T48 l3 x11_2).f0) ((rd_T48 l3 x11_2).f1) ((rd_T48 l3 x11_2).f2) ((rd_T48 l3 x11_2).f3) ((rd_T49 x10_2 x11_2).f0) ((rd_T49 x10_2 x11_2).f1) = some (r1, r2)) ∧ Aside0 (kq ≤ k2) ∧ Aside0 (Kd.R k49 49 wc w.heap.size (fun k_ => k_ ≠ gb235) (.slice (some ⟨go19, 0, none⟩) x10_2.length co19) x10_2) ∧ Aside0 (wc.heap[gb233]? = some (.cells #[.int .i8 ((rd_T48 l3 x11_2).f0), .int .i8 ((rd_T48 l3 x11_2).f1), .int .i8 ((rd_T48 l3 x11_2).f2), .int .i8 ((rd_T48 l3 x11_2).f3)] 48 (0, 0))) ∧ Aside0 (wc.heap[gb235]? = some (.cells #[.int .i64 ((rd_T49 x10_2 x11_2).f0), .int .i64 ((rd_T49 x10_2 x11_2).f1)] 49 (0, 0))) ∧ Aside0 (Below w.heap.size w wc))
   case first =>
    have H := HC78.out
    clear HC78
    by_cases c85 : ((rd_T48 l3 x11_2).f0) = 2
    ·
     rw [if_pos c85] at H
     have c85b0 : (((rd_T48 l3 x11_2).f0) == 2) = true := beq_iff_eq.mpr c85
     have c85b1 : (((rd_T48 l3 x11_2).f0) != 2) = false := bne_eq_false_iff_eq.mpr c85
     clear c85
     (first | rw [c85b0] | (simp only [i64_w, i32_w]; rw [c85b0]) | skip)
     have H' := Aside0.mk H
     clear H
     go_wp2
     go_meet
     case rel => exact ⟨_, ((((rd_T48 l3 x11_2).f0) == 2)), (by first | rfl | (simp; done) | (simp [*]; done)), H', ⟨by have := HJ4.out; have := HK2.out; first | omega | exact Nat.le_refl _⟩, ⟨by (try simp only [hl10_2]); (with_reducible repeat (first | apply Kd.R_alloc | apply Kd.R_drewN | apply Kd.R_drew)); exact Kd.R_mono (Kd.R_far (p := ⟨gb235, 1, none⟩) (Kd.R_far (p := ⟨gb235, 0, none⟩) (Kd.R_mono HO_10.out (fun k_ hk => (⟨hk, hk.2⟩ : _ ∧ k_ ≠ gb235))) (fun _ hk => hk.2) (.int .i64 ((rd_T49 x10_2 x11_2).f0))) (fun _ hk => hk.2) (.int .i64 ((rd_T49 x10_2 x11_2).f1))) (fun _ hk => hk.1.2)⟩, ⟨by (try simp only [hl10_2]); (with_reducible repeat (first | refine blk_drewN ?_ _ | refine blk_drew ?_ | refine blk_alloc ?_ _)); refine blk_far ?_ NB233_235.out _; (with_reducible repeat (first | refine blk_drewN ?_ _ | refine blk_drew ?_ | refine blk_alloc ?_ _)); refine blk_far ?_ NB233_235.out _; (with_reducible repeat (first | refine blk_drewN ?_ _ | refine blk_drew ?_ | refine blk_alloc ?_ _)); exact BK233.out⟩, ⟨by (try simp only [hl10_2]); (with_reducible repeat (first | refine blk_drewN ?_ _ | refine blk_drew ?_ | refine blk_alloc ?_ _)); refine blk_put (cs := #[.int .i64 ((rd_T49 x10_2 x11_2).f0), .int .i64 0]) ?_ 1 _ rfl; (with_reducible repeat (first | refine blk_drewN ?_ _ | refine blk_drew ?_ | refine blk_alloc ?_ _)); refine blk_put (cs := #[.int .i64 0, .int .i64 0]) ?_ 0 _ rfl; (with_reducible repeat (first | refine blk_drewN ?_ _ | refine blk_drew ?_ | refine blk_alloc ?_ _)); exact BK235.out⟩, ⟨kS_ HB GE233 GE235⟩⟩
    ·
     rw [if_neg c85] at H
     have c85b0 : (((rd_T48 l3 x11_2).f0) == 2) = false := beq_eq_false_iff_ne.mpr c85
     have c85b1 : (((rd_T48 l3 x11_2).f0) != 2) = true := bne_iff_ne.mpr c85
     (first | rw [c85b0] | (simp only [i64_w, i32_w]; rw [c85b0]) | skip)
     have H' := Aside0.mk H
     clear H
     go_wp2
     go_meet
     case rel => exact ⟨_, ((((rd_T48 l3 x11_2).f0) == 3)), (by first | rfl | (simp; done) | (simp [*]; done)), H', ⟨by have := HJ4.out; have := HK2.out; first | omega | exact Nat.le_refl _⟩, ⟨by (try simp only [hl10_2]); (with_reducible repeat (first | apply Kd.R_alloc | apply Kd.R_drewN | apply Kd.R_drew)); exact Kd.R_mono (Kd.R_far (p := ⟨gb235, 1, none⟩) (Kd.R_far (p := ⟨gb235, 0, none⟩) (Kd.R_mono HO_10.out (fun k_ hk => (⟨hk, hk.2⟩ : _ ∧ k_ ≠ gb235))) (fun _ hk => hk.2) (.int .i64 ((rd_T49 x10_2 x11_2).f0))) (fun _ hk => hk.2) (.int .i64 ((rd_T49 x10_2 x11_2).f1))) (fun _ hk => hk.1.2)⟩, ⟨by (try simp only [hl10_2]); (with_reducible repeat (first | refine blk_drewN ?_ _ | refine blk_drew ?_ | refine blk_alloc ?_ _)); refine blk_far ?_ NB233_235.out _; (with_reducible repeat (first | refine blk_drewN ?_ _ | refine blk_drew ?_ | refine blk_alloc ?_ _)); refine blk_far ?_ NB233_235.out _; (with_reducible repeat (first | refine blk_drewN ?_ _ | refine blk_drew ?_ | refine blk_alloc ?_ _)); exact BK233.out⟩, ⟨by (try simp only [hl10_2]); (with_reducible repeat (first | refine blk_drewN ?_ _ | refine blk_drew ?_ | refine blk_alloc ?_ _)); refine blk_put (cs := #[.int .i64 ((rd_T49 x10_2 x11_2).f0), .int .i64 0]) ?_ 1 _ rfl; (with_reducible repeat (first | refine blk_drewN ?_ _ | refine blk_drew ?_ | refine blk_alloc ?_ _)); refine blk_put (cs := #[.int .i64 0, .int .i64 0]) ?_ 0 _ rfl; (with_reducible repeat (first | refine blk_drewN ?_ _ | refine blk_drew ?_ | refine blk_alloc ?_ _)); exact BK235.out⟩, ⟨kS_ HB GE233 GE235⟩⟩
   case rest =>
    clear HC78
    obtain ⟨kq, x109_77, rfl, HA, HJ77, HO_10, BK233, BK235, HB⟩ := hcut
    rcases kq with _ | kj77
    · exact absurd HA.out (by simp [spec_l04Sizes.j3])
    have H := HA.out
    clear HA
    simp only [spec_l04Sizes.j3] at H
    by_cases c86 : x109_77 = true
    rotate_left
    ·
     replace c86 := Bool.eq_false_iff.mpr c86
     subst c86
     replace H := gf_ H
     obtain ⟨y271, hy271⟩ : ∃ y_ : List (S49), y_ = (([] : List (S49))) := ⟨_, rfl⟩
     replace H : (some (y271, false)) = some (r1, r2) := by first | (rw [hy271]; with_reducible exact H) | (have H2_ := (Option.bind_some _ _).symm.trans H; rw [hy271]; with_reducible exact H2_) | (have H2_ := (Option.bind_some _ _).symm.trans H; with_reducible exact H2_) | with_reducible exact H | (rw [hy271]; exact H) | exact H
     have Ny271 := Aside0.mk hy271
     clear hy271
     simp only [Option.some.injEq, Prod.mk.injEq] at H
     obtain ⟨rfl, rfl⟩ := H
     go_wp2_with (first | ((with_reducible refine gate_dst (N := 63) rfl ?_); (try (refine gate_guard (by rfl) ?_; dsimp only)); refine Kd.R_lit k49 _ 49 ?hg (N := 63) ?hd (xs := ([] : List (S49))) (inner := []) (ok := fun _ => True) (okp := fun _ => True) ?hr ?hp (fun _ hk => hk) trivial (Below.refl _ _) (Nat.le_refl _) (by simp) ?_; (case hd => rfl); (case hg => rfl); (case hr => first | (go_simp; done) | (go_simp; rfl)); (case hp => exact (Reps.none _ _)); intro v272 w166 ho167 hb hg_ hnew_; clear hg_ hnew_; (first | rw [← Ny271.out] at ho167 | (simp only [Int.reduceToNat] at ho167; rw [← Ny271.out] at ho167)); have HO273 := Aside0.mk (Kd.R_lower (Kd.R_newB (Kd.R_new' ho167 (Kd.R_lt (kp_ HO_10))) (g := gb235) (o := .cells #[.int .i64 ((rd_T49 x10_2 x11_2).f0), .int .i64 ((rd_T49 x10_2 x11_2).f1)] 49 (0, 0)) (kb_ BK235)) (below_size (kS_ HB GE233 GE235))); replace HO_10 := Aside0.mk (Kd.R_elder' (kp_ HO_10) (Kd.R_base ho167) hb); replace BK233 := Aside0.mk (blk_below (g := gb233) (o := .cells #[.int .i8 ((rd_T48 l3 x11_2).f0), .int .i8 ((rd_T48 l3 x11_2).f1), .int .i8 ((rd_T48 l3 x11_2).f2), .int .i8 ((rd_T48 l3 x11_2).f3)] 48 (0, 0)) (kb_ BK233) hb); replace BK235 := Aside0.mk (blk_below (g := gb235) (o := .cells #[.int .i64 ((rd_T49 x10_2 x11_2).f0), .int .i64 ((rd_T49 x10_2 x11_2).f1)] 49 (0, 0)) (kb_ BK235) hb); replace HB := Aside0.mk (below_step (kS_ HB GE233 GE235) hb); clear hb ho167))
     go_ret2
     exact ⟨_, by first | rfl | (simp [errW_none, errW_some] <;> rfl) | (simp [*, errW_none, errW_some] <;> rfl), by (with_reducible repeat (first | apply Kd.R_alloc | apply Kd.R_drewN | apply Kd.R_drew)); exact Kd.R_mono HO273.out (fun _ hk => trivial), kS_ HB GE233 GE235⟩
    subst c86
    replace H := gt_ H
    obtain ⟨t251, A87, H⟩ := be_ H
    (try dsimp only at H)
    by_cases c88 : t251 = true
    rotate_left
    ·
     replace c88 := Bool.eq_false_iff.mpr c88
     subst c88
     replace H := gf_ H
     obtain ⟨y268, hy268⟩ : ∃ y_ : List (S49), y_ = (([] : List (S49))) := ⟨_, rfl⟩
     replace H : (some (y268, false)) = some (r1, r2) := by first | (rw [hy268]; with_reducible exact H) | (have H2_ := (Option.bind_some _ _).symm.trans H; rw [hy268]; with_reducible exact H2_) | (have H2_ := (Option.bind_some _ _).symm.trans H; with_reducible exact H2_) | with_reducible exact H | (rw [hy268]; exact H) | exact H
     have Ny268 := Aside0.mk hy268
     clear hy268
     simp only [Option.some.injEq, Prod.mk.injEq] at H
     obtain ⟨rfl, rfl⟩ := H
     have hnb161 := NB233_235.out
     have hnc161 := NB235_233.out
     have hcz162_0 : wc.cell? ⟨gb233, 0, none⟩ = some (.int .i8 ((rd_T48 l3 x11_2).f0)) := (blk_cell BK233.out 0).trans rfl
     have hcz162_1 : wc.cell? ⟨gb233, 1, none⟩ = some (.int .i8 ((rd_T48 l3 x11_2).f1)) := (blk_cell BK233.out 1).trans rfl
     have hcz162_2 : wc.cell? ⟨gb233, 2, none⟩ = some (.int .i8 ((rd_T48 l3 x11_2).f2)) := (blk_cell BK233.out 2).trans rfl
     have hcz162_3 : wc.cell? ⟨gb233, 3, none⟩ = some (.int .i8 ((rd_T48 l3 x11_2).f3)) := (blk_cell BK233.out 3).trans rfl
     have hfz162_0 := blk_frozen BK233.out 0
     have hfz162_1 := blk_frozen BK233.out 1
     have hfz162_2 := blk_frozen BK233.out 2
     have hfz162_3 := blk_frozen BK233.out 3
     go_wp2_with (first | ((with_reducible refine gate_callee (f := 47) rfl ?_); refine goM_ (some 115) Try.func47 #[.slice (some ⟨go19, 0, none⟩) x10_2.length co19, .int .i64 x11_2, .agg #[.int .i8 ((rd_T48 l3 x11_2).f0), .int .i8 ((rd_T48 l3 x11_2).f1), .int .i8 ((rd_T48 l3 x11_2).f2), .int .i8 ((rd_T48 l3 x11_2).f3)]] ?_; (with_reducible refine (spec_l04Given.calls _ _ x10_2 x11_2 ((rd_T48 l3 x11_2).f0) ((rd_T48 l3 x11_2).f1) ((rd_T48 l3 x11_2).f2) ((rd_T48 l3 x11_2).f3) false _ ?side1 ?side2 A87.out).mono ?_); (case side1 => exact kc_ ((Kd.R_reads' HO_10.out).2.2)); (case side2 => exact (Kd.R_reads' HO_10.out).2.1); rintro e w163 ⟨rfl, hb⟩; refine ⟨_, rfl, ?_⟩; replace HO_10 := Aside0.mk (Kd.R_below (kp_ HO_10) hb); replace BK233 := Aside0.mk (blk_below (g := gb233) (o := .cells #[.int .i8 ((rd_T48 l3 x11_2).f0), .int .i8 ((rd_T48 l3 x11_2).f1), .int .i8 ((rd_T48 l3 x11_2).f2), .int .i8 ((rd_T48 l3 x11_2).f3)] 48 (0, 0)) (kb_ BK233) hb); replace BK235 := Aside0.mk (blk_below (g := gb235) (o := .cells #[.int .i64 ((rd_T49 x10_2 x11_2).f0), .int .i64 ((rd_T49 x10_2 x11_2).f1)] 49 (0, 0)) (kb_ BK235) hb); replace HB := Aside0.mk (below_step (kS_ HB GE233 GE235) hb); clear hb) | ((with_reducible refine gate_dst (N := 117) rfl ?_); (try (refine gate_guard (by rfl) ?_; dsimp only)); refine Kd.R_lit k49 _ 49 ?hg (N := 117) ?hd (xs := ([] : List (S49))) (inner := []) (ok := fun _ => True) (okp := fun _ => True) ?hr ?hp (fun _ hk => hk) trivial (Below.refl _ _) (Nat.le_refl _) (by simp) ?_; (case hd => rfl); (case hg => rfl); (case hr => first | (go_simp; done) | (go_simp; rfl)); (case hp => exact (Reps.none _ _)); intro v269 w164 ho165 hb hg_ hnew_; clear hg_ hnew_; (first | rw [← Ny268.out] at ho165 | (simp only [Int.reduceToNat] at ho165; rw [← Ny268.out] at ho165)); have HO270 := Aside0.mk (Kd.R_lower (Kd.R_newB (Kd.R_new' ho165 (Kd.R_lt (kp_ HO_10))) (g := gb235) (o := .cells #[.int .i64 ((rd_T49 x10_2 x11_2).f0), .int .i64 ((rd_T49 x10_2 x11_2).f1)] 49 (0, 0)) (kb_ BK235)) (below_size (kS_ HB GE233 GE235))); replace HO_10 := Aside0.mk (Kd.R_elder' (kp_ HO_10) (Kd.R_base ho165) hb); replace BK233 := Aside0.mk (blk_below (g := gb233) (o := .cells #[.int .i8 ((rd_T48 l3 x11_2).f0), .int .i8 ((rd_T48 l3 x11_2).f1), .int .i8 ((rd_T48 l3 x11_2).f2), .int .i8 ((rd_T48 l3 x11_2).f3)] 48 (0, 0)) (kb_ BK233) hb); replace BK235 := Aside0.mk (blk_below (g := gb235) (o := .cells #[.int .i64 ((rd_T49 x10_2 x11_2).f0), .int .i64 ((rd_T49 x10_2 x11_2).f1)] 49 (0, 0)) (kb_ BK235) hb); replace HB := Aside0.mk (below_step (kS_ HB GE233 GE235) hb); clear hb ho165))
     go_ret2
     exact ⟨_, by first | rfl | (simp [errW_none, errW_some] <;> rfl) | (simp [*, errW_none, errW_some] <;> rfl), by (with_reducible repeat (first | apply Kd.R_alloc | apply Kd.R_drewN | apply Kd.R_drew)); exact Kd.R_mono HO270.out (fun _ hk => trivial), kS_ HB GE233 GE235⟩
    subst c88
    replace H := gt_ H
    by_cases c89 : (wrap64 ((wrap64 (((rd_T48 l3 x11_2).f0))) - 2)) = (0 : Int)
    ·
     as_aux_lemma =>
     rw [if_pos c89] at H
     (try (have c89b0 : (wrap64 ((wrap64 (((rd_T48 l3 x11_2).f0))) - 2)) = (0 : Int) := c89))
     clear c89
     obtain ⟨t252, A90, H⟩ := be_ H
     (try dsimp only at H)
     rcases (Decidable.em (t252 = true)).symm with c91 | c91
     ·
      replace c91 := Bool.eq_false_iff.mpr c91
      subst c91
      replace H := gf_ H
      obtain ⟨y257, hy257⟩ : ∃ y_ : List (S49), y_ = (([] : List (S49))) := ⟨_, rfl⟩
      replace H : (some (y257, false)) = some (r1, r2) := by first | (rw [hy257]; with_reducible exact H) | (have H2_ := (Option.bind_some _ _).symm.trans H; rw [hy257]; with_reducible exact H2_) | (have H2_ := (Option.bind_some _ _).symm.trans H; with_reducible exact H2_) | with_reducible exact H | (rw [hy257]; exact H) | exact H
      have Ny257 := Aside0.mk hy257
      clear hy257
      simp only [Option.some.injEq, Prod.mk.injEq] at H
      obtain ⟨rfl, rfl⟩ := H
      have hnb118 := NB233_235.out
      have hnc118 := NB235_233.out
      have hcz119_0 : wc.cell? ⟨gb233, 0, none⟩ = some (.int .i8 ((rd_T48 l3 x11_2).f0)) := (blk_cell BK233.out 0).trans rfl
      have hcz119_1 : wc.cell? ⟨gb233, 1, none⟩ = some (.int .i8 ((rd_T48 l3 x11_2).f1)) := (blk_cell BK233.out 1).trans rfl
      have hcz119_2 : wc.cell? ⟨gb233, 2, none⟩ = some (.int .i8 ((rd_T48 l3 x11_2).f2)) := (blk_cell BK233.out 2).trans rfl
      have hcz119_3 : wc.cell? ⟨gb233, 3, none⟩ = some (.int .i8 ((rd_T48 l3 x11_2).f3)) := (blk_cell BK233.out 3).trans rfl
      have hfz119_0 := blk_frozen BK233.out 0
      have hfz119_1 := blk_frozen BK233.out 1
      have hfz119_2 := blk_frozen BK233.out 2
      have hfz119_3 := blk_frozen BK233.out 3
      try go_wp2_with (first | ((with_reducible refine gate_callee (f := 47) rfl ?_); refine goM_ (some 115) Try.func47 #[.slice (some ⟨go19, 0, none⟩) x10_2.length co19, .int .i64 x11_2, .agg #[.int .i8 ((rd_T48 l3 x11_2).f0), .int .i8 ((rd_T48 l3 x11_2).f1), .int .i8 ((rd_T48 l3 x11_2).f2), .int .i8 ((rd_T48 l3 x11_2).f3)]] ?_; (with_reducible refine (spec_l04Given.calls _ _ x10_2 x11_2 ((rd_T48 l3 x11_2).f0) ((rd_T48 l3 x11_2).f1) ((rd_T48 l3 x11_2).f2) ((rd_T48 l3 x11_2).f3) true _ ?side1 ?side2 A87.out).mono ?_); (case side1 => exact kc_ ((Kd.R_reads' HO_10.out).2.2)); (case side2 => exact (Kd.R_reads' HO_10.out).2.1); rintro e w120 ⟨rfl, hb⟩; refine ⟨_, rfl, ?_⟩; replace HO_10 := Aside0.mk (Kd.R_below (kp_ HO_10) hb); replace BK233 := Aside0.mk (blk_below (g := gb233) (o := .cells #[.int .i8 ((rd_T48 l3 x11_2).f0), .int .i8 ((rd_T48 l3 x11_2).f1), .int .i8 ((rd_T48 l3 x11_2).f2), .int .i8 ((rd_T48 l3 x11_2).f3)] 48 (0, 0)) (kb_ BK233) hb); replace BK235 := Aside0.mk (blk_below (g := gb235) (o := .cells #[.int .i64 ((rd_T49 x10_2 x11_2).f0), .int .i64 ((rd_T49 x10_2 x11_2).f1)] 49 (0, 0)) (kb_ BK235) hb); replace HB := Aside0.mk (below_step (kS_ HB GE233 GE235) hb); clear hb; have hcz121_0 : w120.cell? ⟨gb233, 0, none⟩ = some (.int .i8 ((rd_T48 l3 x11_2).f0)) := (blk_cell BK233.out 0).trans rfl; have hcz121_1 : w120.cell? ⟨gb233, 1, none⟩ = some (.int .i8 ((rd_T48 l3 x11_2).f1)) := (blk_cell BK233.out 1).trans rfl; have hcz121_2 : w120.cell? ⟨gb233, 2, none⟩ = some (.int .i8 ((rd_T48 l3 x11_2).f2)) := (blk_cell BK233.out 2).trans rfl; have hcz121_3 : w120.cell? ⟨gb233, 3, none⟩ = some (.int .i8 ((rd_T48 l3 x11_2).f3)) := (blk_cell BK233.out 3).trans rfl; have hfz121_0 := blk_frozen BK233.out 0; have hfz121_1 := blk_frozen BK233.out 1; have hfz121_2 := blk_frozen BK233.out 2; have hfz121_3 := blk_frozen BK233.out 3))
      replace HO_10 := Aside0.mk (Kd.R_drew HO_10.out)
      replace BK233 := Aside0.mk (blk_drew BK233.out)
      replace BK235 := Aside0.mk (blk_drew BK235.out)
      replace HB := Aside0.mk (below_drew1 HB.out)
      refine start_ (n := 9) (S := fun w' => w'.cell? ⟨gb233, 0, none⟩ = some (.int .i8 ((rd_T48 l3 x11_2).f0)) ∧ w'.cell? ⟨gb233, 1, none⟩ = some (.int .i8 ((rd_T48 l3 x11_2).f1)) ∧ w'.cell? ⟨gb233, 2, none⟩ = some (.int .i8 ((rd_T48 l3 x11_2).f2)) ∧ w'.cell? ⟨gb233, 3, none⟩ = some (.int .i8 ((rd_T48 l3 x11_2).f3)) ∧ w'.cell? ⟨gb235, 0, none⟩ = some (.int .i64 ((rd_T49 x10_2 x11_2).f0)) ∧ w'.cell? ⟨gb235, 1, none⟩ = some (.int .i64 ((rd_T49 x10_2 x11_2).f1))) (ds := []) #[false, false, false, false, false, false, false, false, false] (by kernel_rfl) rfl rfl ⟨(blk_cell BK233.out 0).trans rfl, (blk_cell BK233.out 1).trans rfl, (blk_cell BK233.out 2).trans rfl, (blk_cell BK233.out 3).trans rfl, (blk_cell BK235.out 0).trans rfl, (blk_cell BK235.out 1).trans rfl⟩ (fun hHeld => ?_); refine with_tabW spec_l04Sizes.tab27 spec_l04Sizes.bits27 (fun HT_ HW_ => ?_)
      generalize w120.drew = w122 at HO_10 BK233 BK235 HB hHeld ⊢
      refine pu_ 0 122 (lA 9 1) ?_ ?_ HT_ ?_
      refine pu_ 3 125 (lA 9 9) ?_ ?_ HT_ ?_
      refine pu_ 4 126 (lA 9 25) ?_ ?_ HT_ ?_
      refine tk_ 1 123 (lA 9 27) ?_ ?_ HT_ HW_ hHeld ?_
      refine pu_ 2 124 (lA 9 31) ?_ ?_ HT_ ?_
      refine tk_ 5 127 (lA 9 63) ?_ ?_ HT_ HW_ hHeld ?_
      refine pu_ 6 128 (lA 9 127) ?_ ?_ HT_ ?_
      refine one_ (i := 7) (N := some 129) (lA 9 255) rfl rfl (one_of HT_.out (by kernel_rfl)) (by decide) (fun K hK => ?_)
      refine goes_ Try.func46 (by kernel_rfl) rfl #[.int .i64 (wrap64 (((rd_T48 l3 x11_2).f1))), .int .i64 1, .int .i64 (wrap64 (((rd_T49 x10_2 x11_2).f0) - 1))] (by rfl) rfl rfl (by (try simp only [List.map_toArray, List.map_cons, List.map_nil]); first | done | rfl | (simp only [List.length_drop, List.length_take]; rfl)) ?_
      with_reducible refine (spec_l00In.calls (wrap64 (((rd_T48 l3 x11_2).f1))) 1 (wrap64 (((rd_T49 x10_2 x11_2).f0) - 1)) false _ A90.out).mono ?_
      rintro e w' ⟨rfl, ⟨nd, rfl⟩⟩
      refine ⟨_, rfl, ?_⟩
      refine hK.out _ _ ⟨(blk_cell BK233.out 0).trans rfl, (blk_cell BK233.out 1).trans rfl, (blk_cell BK233.out 2).trans rfl, (blk_cell BK233.out 3).trans rfl, (blk_cell BK235.out 0).trans rfl, (blk_cell BK235.out 1).trans rfl⟩ (fun hHeld => ?_)
      clear hK K
      refine norm_ (a' := ?_) ?_ ?_
      rotate_left
      ·
       show Act.put _ (some 129) _ = _
       simp only [Act.put, List.setIfInBounds_toArray, List.set_cons_zero, List.set_cons_succ, i64_w, i32_w]
       rfl
      refine pu_ 8 130 (lA 9 511) ?_ ?_ HT_ ?_
      refine done_ (done_of HT_.out (by kernel_rfl)) ?_
      try go_wp2_with (first | ((with_reducible refine gate_dst (N := 131) rfl ?_); (try (refine gate_guard (by rfl) ?_; dsimp only)); refine Kd.R_lit k49 _ 49 ?hg (N := 131) ?hd (xs := ([] : List (S49))) (inner := []) (ok := fun _ => True) (okp := fun _ => True) ?hr ?hp (fun _ hk => hk) trivial (Below.refl _ _) (Nat.le_refl _) (by simp) ?_; (case hd => rfl); (case hg => rfl); (case hr => first | (go_simp; done) | (go_simp; rfl)); (case hp => exact (Reps.none _ _)); intro v258 w123 ho124 hb hg_ hnew_; clear hg_ hnew_; (first | rw [← Ny257.out] at ho124 | (simp only [Int.reduceToNat] at ho124; rw [← Ny257.out] at ho124)); have HO259 := Aside0.mk (Kd.R_lower (Kd.R_newB (Kd.R_new' ho124 (Kd.R_lt (kp_ HO_10))) (g := gb235) (o := .cells #[.int .i64 ((rd_T49 x10_2 x11_2).f0), .int .i64 ((rd_T49 x10_2 x11_2).f1)] 49 (0, 0)) (kb_ BK235)) (below_size (kS_ HB GE233 GE235))); replace HO_10 := Aside0.mk (Kd.R_elder' (kp_ HO_10) (Kd.R_base ho124) hb); replace BK233 := Aside0.mk (blk_below (g := gb233) (o := .cells #[.int .i8 ((rd_T48 l3 x11_2).f0), .int .i8 ((rd_T48 l3 x11_2).f1), .int .i8 ((rd_T48 l3 x11_2).f2), .int .i8 ((rd_T48 l3 x11_2).f3)] 48 (0, 0)) (kb_ BK233) hb); replace BK235 := Aside0.mk (blk_below (g := gb235) (o := .cells #[.int .i64 ((rd_T49 x10_2 x11_2).f0), .int .i64 ((rd_T49 x10_2 x11_2).f1)] 49 (0, 0)) (kb_ BK235) hb); replace HB := Aside0.mk (below_step (kS_ HB GE233 GE235) hb); clear hb ho124))
      go_ret2
      exact ⟨_, by first | rfl | (simp [errW_none, errW_some] <;> rfl) | (simp [*, errW_none, errW_some] <;> rfl), by (with_reducible repeat (first | apply Kd.R_alloc | apply Kd.R_drewN | apply Kd.R_drew)); exact Kd.R_mono HO259.out (fun _ hk => trivial), kS_ HB GE233 GE235⟩
     subst c91
     replace H := gt_ H
     by_cases c92 : 0 ≤ ((rd_T48 l3 x11_2).f2)
     rotate_left
     ·
      rw [if_neg c92] at H
      exact absurd H (by simp)
     rw [if_pos c92] at H
     have c92b0 : decide (0 ≤ ((rd_T48 l3 x11_2).f2)) = true := decide_eq_true c92
     clear c92
     by_cases c93 : ((rd_T48 l3 x11_2).f2) < (x10_2.length : Int)
     rotate_left
     ·
      rw [if_neg c93] at H
      exact absurd H (by simp)
     rw [if_pos c93] at H
     have c93b0 : decide (((rd_T48 l3 x11_2).f2) < (x10_2.length : Int)) = true := decide_eq_true c93
     clear c93
     obtain ⟨y253, hy253⟩ : ∃ y_ : List (S49), y_ = (x10_2.set (((rd_T48 l3 x11_2).f2) : Int).toNat (⟨((rd_T49 x10_2 x11_2).f0), ((rd_T49 x10_2 x11_2).f1)⟩ : S49)) := ⟨_, rfl⟩
     replace H : (if 0 ≤ ((rd_T48 l3 x11_2).f3) then (if ((rd_T48 l3 x11_2).f3) < (x10_2.length : Int) then ((some ((y253.set (((rd_T48 l3 x11_2).f2) : Int).toNat (⟨wrap64 (((rd_T48 l3 x11_2).f1)), (rd_T49 y253 ((rd_T48 l3 x11_2).f2)).f1⟩ : S49)).set (((rd_T48 l3 x11_2).f3) : Int).toNat (⟨((rd_T49 x10_2 x11_2).f0), ((rd_T49 x10_2 x11_2).f1)⟩ : S49) : List (S49))).bind fun y255 => (spec_l04Sizes.l0 kj77 l2 l3 (y255.set (((rd_T48 l3 x11_2).f3) : Int).toNat (⟨wrap64 (((rd_T49 x10_2 x11_2).f0) - (wrap64 (((rd_T48 l3 x11_2).f1)))), (rd_T49 y255 ((rd_T48 l3 x11_2).f3)).f1⟩ : S49)) (wrap64 (x11_2 + 1)))) else (none)) else (none)) = some (r1, r2) := by first | (rw [hy253]; with_reducible exact H) | (have H2_ := (Option.bind_some _ _).symm.trans H; rw [hy253]; with_reducible exact H2_) | (have H2_ := (Option.bind_some _ _).symm.trans H; with_reducible exact H2_) | with_reducible exact H | (rw [hy253]; exact H) | exact H
     have Ny253 := Aside0.mk hy253
     clear hy253
     obtain ⟨y254, hy254⟩ : ∃ y_ : List (S49), y_ = (y253.set (((rd_T48 l3 x11_2).f2) : Int).toNat (⟨wrap64 (((rd_T48 l3 x11_2).f1)), (rd_T49 y253 ((rd_T48 l3 x11_2).f2)).f1⟩ : S49)) := ⟨_, rfl⟩
     replace H : (if 0 ≤ ((rd_T48 l3 x11_2).f3) then (if ((rd_T48 l3 x11_2).f3) < (x10_2.length : Int) then ((some (y254.set (((rd_T48 l3 x11_2).f3) : Int).toNat (⟨((rd_T49 x10_2 x11_2).f0), ((rd_T49 x10_2 x11_2).f1)⟩ : S49) : List (S49))).bind fun y255 => (spec_l04Sizes.l0 kj77 l2 l3 (y255.set (((rd_T48 l3 x11_2).f3) : Int).toNat (⟨wrap64 (((rd_T49 x10_2 x11_2).f0) - (wrap64 (((rd_T48 l3 x11_2).f1)))), (rd_T49 y255 ((rd_T48 l3 x11_2).f3)).f1⟩ : S49)) (wrap64 (x11_2 + 1)))) else (none)) else (none)) = some (r1, r2) := by first | (rw [hy254]; with_reducible exact H) | (have H2_ := (Option.bind_some _ _).symm.trans H; rw [hy254]; with_reducible exact H2_) | (have H2_ := (Option.bind_some _ _).symm.trans H; with_reducible exact H2_) | with_reducible exact H | (rw [hy254]; exact H) | exact H
     have Ny254 := Aside0.mk hy254
     clear hy254
     by_cases c96 : 0 ≤ ((rd_T48 l3 x11_2).f3)
     rotate_left
     ·
      rw [if_neg c96] at H
      exact absurd H (by simp)
     rw [if_pos c96] at H
     have c96b0 : decide (0 ≤ ((rd_T48 l3 x11_2).f3)) = true := decide_eq_true c96
     clear c96
     by_cases c97 : ((rd_T48 l3 x11_2).f3) < (x10_2.length : Int)
     rotate_left
     ·
      rw [if_neg c97] at H
      exact absurd H (by simp)
     rw [if_pos c97] at H
     have c97b0 : decide (((rd_T48 l3 x11_2).f3) < (x10_2.length : Int)) = true := decide_eq_true c97
     clear c97
     obtain ⟨y255, hy255⟩ : ∃ y_ : List (S49), y_ = (y254.set (((rd_T48 l3 x11_2).f3) : Int).toNat (⟨((rd_T49 x10_2 x11_2).f0), ((rd_T49 x10_2 x11_2).f1)⟩ : S49)) := ⟨_, rfl⟩
     replace H : (spec_l04Sizes.l0 kj77 l2 l3 (y255.set (((rd_T48 l3 x11_2).f3) : Int).toNat (⟨wrap64 (((rd_T49 x10_2 x11_2).f0) - (wrap64 (((rd_T48 l3 x11_2).f1)))), (rd_T49 y255 ((rd_T48 l3 x11_2).f3)).f1⟩ : S49)) (wrap64 (x11_2 + 1))) = some (r1, r2) := by first | (rw [hy255]; with_reducible exact H) | (have H2_ := (Option.bind_some _ _).symm.trans H; rw [hy255]; with_reducible exact H2_) | (have H2_ := (Option.bind_some _ _).symm.trans H; with_reducible exact H2_) | with_reducible exact H | (rw [hy255]; exact H) | exact H
     have Ny255 := Aside0.mk hy255
     clear hy255
     obtain ⟨y256, hy256⟩ : ∃ y_ : List (S49), y_ = (y255.set (((rd_T48 l3 x11_2).f3) : Int).toNat (⟨wrap64 (((rd_T49 x10_2 x11_2).f0) - (wrap64 (((rd_T48 l3 x11_2).f1)))), (rd_T49 y255 ((rd_T48 l3 x11_2).f3)).f1⟩ : S49)) := ⟨_, rfl⟩
     replace H : (spec_l04Sizes.l0 kj77 l2 l3 y256 (wrap64 (x11_2 + 1))) = some (r1, r2) := by first | (rw [hy256]; with_reducible exact H) | (have H2_ := (Option.bind_some _ _).symm.trans H; rw [hy256]; with_reducible exact H2_) | (have H2_ := (Option.bind_some _ _).symm.trans H; with_reducible exact H2_) | with_reducible exact H | (rw [hy256]; exact H) | exact H
     have Ny256 := Aside0.mk hy256
     clear hy256
     have H' := Aside0.mk H
     clear H
     have hnb100 := NB233_235.out
     have hnc100 := NB235_233.out
     have hcz101_0 : wc.cell? ⟨gb233, 0, none⟩ = some (.int .i8 ((rd_T48 l3 x11_2).f0)) := (blk_cell BK233.out 0).trans rfl
     have hcz101_1 : wc.cell? ⟨gb233, 1, none⟩ = some (.int .i8 ((rd_T48 l3 x11_2).f1)) := (blk_cell BK233.out 1).trans rfl
     have hcz101_2 : wc.cell? ⟨gb233, 2, none⟩ = some (.int .i8 ((rd_T48 l3 x11_2).f2)) := (blk_cell BK233.out 2).trans rfl
     have hcz101_3 : wc.cell? ⟨gb233, 3, none⟩ = some (.int .i8 ((rd_T48 l3 x11_2).f3)) := (blk_cell BK233.out 3).trans rfl
     have hfz101_0 := blk_frozen BK233.out 0
     have hfz101_1 := blk_frozen BK233.out 1
     have hfz101_2 := blk_frozen BK233.out 2
     have hfz101_3 := blk_frozen BK233.out 3
     try go_wp2_with (first | ((with_reducible refine gate_callee (f := 47) rfl ?_); refine goM_ (some 115) Try.func47 #[.slice (some ⟨go19, 0, none⟩) x10_2.length co19, .int .i64 x11_2, .agg #[.int .i8 ((rd_T48 l3 x11_2).f0), .int .i8 ((rd_T48 l3 x11_2).f1), .int .i8 ((rd_T48 l3 x11_2).f2), .int .i8 ((rd_T48 l3 x11_2).f3)]] ?_; (with_reducible refine (spec_l04Given.calls _ _ x10_2 x11_2 ((rd_T48 l3 x11_2).f0) ((rd_T48 l3 x11_2).f1) ((rd_T48 l3 x11_2).f2) ((rd_T48 l3 x11_2).f3) true _ ?side1 ?side2 A87.out).mono ?_); (case side1 => exact kc_ ((Kd.R_reads' HO_10.out).2.2)); (case side2 => exact (Kd.R_reads' HO_10.out).2.1); rintro e w102 ⟨rfl, hb⟩; refine ⟨_, rfl, ?_⟩; replace HO_10 := Aside0.mk (Kd.R_below (kp_ HO_10) hb); replace BK233 := Aside0.mk (blk_below (g := gb233) (o := .cells #[.int .i8 ((rd_T48 l3 x11_2).f0), .int .i8 ((rd_T48 l3 x11_2).f1), .int .i8 ((rd_T48 l3 x11_2).f2), .int .i8 ((rd_T48 l3 x11_2).f3)] 48 (0, 0)) (kb_ BK233) hb); replace BK235 := Aside0.mk (blk_below (g := gb235) (o := .cells #[.int .i64 ((rd_T49 x10_2 x11_2).f0), .int .i64 ((rd_T49 x10_2 x11_2).f1)] 49 (0, 0)) (kb_ BK235) hb); replace HB := Aside0.mk (below_step (kS_ HB GE233 GE235) hb); clear hb; have hcz103_0 : w102.cell? ⟨gb233, 0, none⟩ = some (.int .i8 ((rd_T48 l3 x11_2).f0)) := (blk_cell BK233.out 0).trans rfl; have hcz103_1 : w102.cell? ⟨gb233, 1, none⟩ = some (.int .i8 ((rd_T48 l3 x11_2).f1)) := (blk_cell BK233.out 1).trans rfl; have hcz103_2 : w102.cell? ⟨gb233, 2, none⟩ = some (.int .i8 ((rd_T48 l3 x11_2).f2)) := (blk_cell BK233.out 2).trans rfl; have hcz103_3 : w102.cell? ⟨gb233, 3, none⟩ = some (.int .i8 ((rd_T48 l3 x11_2).f3)) := (blk_cell BK233.out 3).trans rfl; have hfz103_0 := blk_frozen BK233.out 0; have hfz103_1 := blk_frozen BK233.out 1; have hfz103_2 := blk_frozen BK233.out 2; have hfz103_3 := blk_frozen BK233.out 3))
     replace HO_10 := Aside0.mk (Kd.R_drew HO_10.out)
     replace BK233 := Aside0.mk (blk_drew BK233.out)
     replace BK235 := Aside0.mk (blk_drew BK235.out)
     replace HB := Aside0.mk (below_drew1 HB.out)
     refine start_ (n := 9) (S := fun w' => w'.cell? ⟨gb233, 0, none⟩ = some (.int .i8 ((rd_T48 l3 x11_2).f0)) ∧ w'.cell? ⟨gb233, 1, none⟩ = some (.int .i8 ((rd_T48 l3 x11_2).f1)) ∧ w'.cell? ⟨gb233, 2, none⟩ = some (.int .i8 ((rd_T48 l3 x11_2).f2)) ∧ w'.cell? ⟨gb233, 3, none⟩ = some (.int .i8 ((rd_T48 l3 x11_2).f3)) ∧ w'.cell? ⟨gb235, 0, none⟩ = some (.int .i64 ((rd_T49 x10_2 x11_2).f0)) ∧ w'.cell? ⟨gb235, 1, none⟩ = some (.int .i64 ((rd_T49 x10_2 x11_2).f1))) (ds := []) #[false, false, false, false, false, false, false, false, false] (by kernel_rfl) rfl rfl ⟨(blk_cell BK233.out 0).trans rfl, (blk_cell BK233.out 1).trans rfl, (blk_cell BK233.out 2).trans rfl, (blk_cell BK233.out 3).trans rfl, (blk_cell BK235.out 0).trans rfl, (blk_cell BK235.out 1).trans rfl⟩ (fun hHeld => ?_); refine with_tabW spec_l04Sizes.tab27 spec_l04Sizes.bits27 (fun HT_ HW_ => ?_)
     generalize w102.drew = w104 at HO_10 BK233 BK235 HB hHeld ⊢
     refine pu_ 0 122 (lA 9 1) ?_ ?_ HT_ ?_
     refine pu_ 3 125 (lA 9 9) ?_ ?_ HT_ ?_
     refine pu_ 4 126 (lA 9 25) ?_ ?_ HT_ ?_
     refine tk_ 1 123 (lA 9 27) ?_ ?_ HT_ HW_ hHeld ?_
     refine pu_ 2 124 (lA 9 31) ?_ ?_ HT_ ?_
     refine tk_ 5 127 (lA 9 63) ?_ ?_ HT_ HW_ hHeld ?_
     refine pu_ 6 128 (lA 9 127) ?_ ?_ HT_ ?_
     refine one_ (i := 7) (N := some 129) (lA 9 255) rfl rfl (one_of HT_.out (by kernel_rfl)) (by decide) (fun K hK => ?_)
     refine goes_ Try.func46 (by kernel_rfl) rfl #[.int .i64 (wrap64 (((rd_T48 l3 x11_2).f1))), .int .i64 1, .int .i64 (wrap64 (((rd_T49 x10_2 x11_2).f0) - 1))] (by rfl) rfl rfl (by (try simp only [List.map_toArray, List.map_cons, List.map_nil]); first | done | rfl | (simp only [List.length_drop, List.length_take]; rfl)) ?_
     with_reducible refine (spec_l00In.calls (wrap64 (((rd_T48 l3 x11_2).f1))) 1 (wrap64 (((rd_T49 x10_2 x11_2).f0) - 1)) true _ A90.out).mono ?_
     rintro e w' ⟨rfl, ⟨nd, rfl⟩⟩
     refine ⟨_, rfl, ?_⟩
     refine hK.out _ _ ⟨(blk_cell BK233.out 0).trans rfl, (blk_cell BK233.out 1).trans rfl, (blk_cell BK233.out 2).trans rfl, (blk_cell BK233.out 3).trans rfl, (blk_cell BK235.out 0).trans rfl, (blk_cell BK235.out 1).trans rfl⟩ (fun hHeld => ?_)
     clear hK K
     refine norm_ (a' := ?_) ?_ ?_
     rotate_left
     ·
      show Act.put _ (some 129) _ = _
      simp only [Act.put, List.setIfInBounds_toArray, List.set_cons_zero, List.set_cons_succ, i64_w, i32_w]
      rfl
     refine pu_ 8 130 (lA 9 511) ?_ ?_ HT_ ?_
     refine done_ (done_of HT_.out (by kernel_rfl)) ?_
     (try (rw [drewN_self w104]; generalize hq_ : World.drewN w104 _ = w104; have n0_ : Aside0 (Kd.R k49 49 w104 w.heap.size (fun k_ => k_ ≠ gb235) (.slice (some ⟨go19, 0, none⟩) x10_2.length co19) x10_2) := ⟨by rw [← hq_]; exact (kp_ HO_10)⟩; have n1_ : Aside0 (w104.heap[gb233]? = some (.cells #[.int .i8 ((rd_T48 l3 x11_2).f0), .int .i8 ((rd_T48 l3 x11_2).f1), .int .i8 ((rd_T48 l3 x11_2).f2), .int .i8 ((rd_T48 l3 x11_2).f3)] 48 (0, 0))) := ⟨by rw [← hq_]; exact (kb_ BK233)⟩; have n2_ : Aside0 (w104.heap[gb235]? = some (.cells #[.int .i64 ((rd_T49 x10_2 x11_2).f0), .int .i64 ((rd_T49 x10_2 x11_2).f1)] 49 (0, 0))) := ⟨by rw [← hq_]; exact (kb_ BK235)⟩; have n3_ : Aside0 (Below w.heap.size w w104) := ⟨by rw [← hq_]; exact (kS_ HB GE233 GE235)⟩; clear HO_10 BK233 BK235 HB hq_; have HO_10 := n0_; have BK233 := n1_; have BK235 := n2_; have HB := n3_; clear n0_ n1_ n2_ n3_))
     have hcz105_0 : w104.cell? ⟨gb233, 0, none⟩ = some (.int .i8 ((rd_T48 l3 x11_2).f0)) := (blk_cell BK233.out 0).trans rfl
     have hcz105_1 : w104.cell? ⟨gb233, 1, none⟩ = some (.int .i8 ((rd_T48 l3 x11_2).f1)) := (blk_cell BK233.out 1).trans rfl
     have hcz105_2 : w104.cell? ⟨gb233, 2, none⟩ = some (.int .i8 ((rd_T48 l3 x11_2).f2)) := (blk_cell BK233.out 2).trans rfl
     have hcz105_3 : w104.cell? ⟨gb233, 3, none⟩ = some (.int .i8 ((rd_T48 l3 x11_2).f3)) := (blk_cell BK233.out 3).trans rfl
     have hfz105_0 := blk_frozen BK233.out 0
     have hfz105_1 := blk_frozen BK233.out 1
     have hfz105_2 := blk_frozen BK233.out 2
     have hfz105_3 := blk_frozen BK233.out 3
     obtain ⟨⟨hcz106_0, hcz106_1⟩, hfz106_0, hfz106_1⟩ := bq_ BK235
     have p94 : 0 ≤ (((rd_T48 l3 x11_2).f2) : Int) := od_
     have q94 : (((rd_T48 l3 x11_2).f2) : Int) < ((x10_2.length : Int) : Int) := od_
     obtain ⟨ce94, hcl94, hM94, hcc94, hfr94⟩ := Kd.R_elem HO_10.out z49 (((rd_T48 l3 x11_2).f2) : Int) p94 q94
     obtain rfl := k49_openM hM94
     have hx94_0 : w104.cell? ⟨go19, (((rd_T48 l3 x11_2).f2) : Int).toNat * 2, none⟩ = some (.int .i64 ((rd_T49 x10_2 ((rd_T48 l3 x11_2).f2)).f0)) := hcc94 0 _ rfl
     have hx94_1 : w104.cell? ⟨go19, (((rd_T48 l3 x11_2).f2) : Int).toNat * 2 + 1, none⟩ = some (.int .i64 ((rd_T49 x10_2 ((rd_T48 l3 x11_2).f2)).f1)) := hcc94 1 _ rfl
     have hf94_0 : w104.frozen? ⟨go19, (((rd_T48 l3 x11_2).f2) : Int).toNat * 2, none⟩ = false := hfr94 0
     have hf94_1 : w104.frozen? ⟨go19, (((rd_T48 l3 x11_2).f2) : Int).toNat * 2 + 1, none⟩ = false := hfr94 1
     clear hcl94 hcc94 hfr94; (try clear hM94)
     replace p94 := eq_true p94
     replace q94 := eq_true q94
     have HX107 := Aside0.mk (show Kd.R k49 49 w104 w.heap.size (fun k_ => k_ ≠ gb235) (.slice (some ⟨go19, 0, none⟩) x10_2.length co19) x10_2 from (kp_ HO_10))
     obtain ⟨ce107, hcl107, hM107, hcc107, hfr107⟩ := Kd.R_elem HX107.out z49 (((rd_T48 l3 x11_2).f2) : Int) od_ (by have h_ : (((rd_T48 l3 x11_2).f2) : Int) < ((x10_2.length : Int) : Int) := od_; first | exact h_ | (have e_ := (Kd.R_reads' HO_10.out).1; omega) | simpa using h_)
     obtain rfl := k49_openM hM107
     have HP107 := Kd.R_seg HX107.out (((rd_T48 l3 x11_2).f2) : Int) od_ (by have h_ : (((rd_T48 l3 x11_2).f2) : Int) < ((x10_2.length : Int) : Int) := od_; first | exact h_ | (have e_ := (Kd.R_reads' HO_10.out).1; omega) | simpa using h_) (seg := [.int .i64 ((rd_T49 x10_2 x11_2).f0), .int .i64 ((rd_T49 x10_2 x11_2).f1)]) (j := 0) hcl107 hcc107 (show 2 ≤ 2 from by decide) (x' := (⟨((rd_T49 x10_2 x11_2).f0), ((rd_T49 x10_2 x11_2).f1)⟩ : S49)) (k49_mkM _ _ _ (⟨((rd_T49 x10_2 x11_2).f0), ((rd_T49 x10_2 x11_2).f1)⟩ : S49) ) (fun _ hk => hk)
     have hx107_0 := hcc107 0 _ rfl
     (try simp only [show (k49).sz = 2 from rfl, Nat.mul_one, Nat.add_zero] at hx107_0)
     have hf107_0 := hfr107 0
     (try simp only [show (k49).sz = 2 from rfl, Nat.mul_one, Nat.add_zero] at hf107_0)
     have hx107_1 := hcc107 1 _ rfl
     (try simp only [show (k49).sz = 2 from rfl, Nat.mul_one, Nat.add_zero] at hx107_1)
     have hf107_1 := hfr107 1
     (try simp only [show (k49).sz = 2 from rfl, Nat.mul_one, Nat.add_zero] at hf107_1)
     clear hcl107 hcc107 hfr107; (try clear hM107)
     try go_wp2_with (first | ((with_reducible refine gate_store (t := 49) (p := 136) rfl ?_); refine store_event (t := 49) (p := 136) (v := ?vo_w108) (w1 := ((w104.setCell ⟨go19, (((rd_T48 l3 x11_2).f2) : Int).toNat * 2, none⟩ (.int .i64 ((rd_T49 x10_2 x11_2).f0))).setCell ⟨go19, (((rd_T48 l3 x11_2).f2) : Int).toNat * 2 + 1, none⟩ (.int .i64 ((rd_T49 x10_2 x11_2).f1)))) ?hg ?ho ?hn ?hr ?_; (case ho => rfl); (case hg => rfl); (case hn => rfl); (case hr => first | (go_simp; done) | (go_simp; rfl)); intro w108 hw; have hg : w104.grownBy w108 (some go19) := (by rw [hw]; exact HP107.2); have hp_ : Kd.R k49 49 w108 w.heap.size (fun k_ => k_ ≠ gb235) (.slice (some ⟨go19, 0, none⟩) x10_2.length co19) y253 := (by rw [hw, Ny253.out]; exact HP107.1); clear HP107; replace BK233 := Aside0.mk (blk_grown (g := gb233) (o := .cells #[.int .i8 ((rd_T48 l3 x11_2).f0), .int .i8 ((rd_T48 l3 x11_2).f1), .int .i8 ((rd_T48 l3 x11_2).f2), .int .i8 ((rd_T48 l3 x11_2).f3)] 48 (0, 0)) (kb_ BK233) hg (Kd.R_ne HO_10.out BK233.out (by decide))); replace BK235 := Aside0.mk (blk_grown (g := gb235) (o := .cells #[.int .i64 ((rd_T49 x10_2 x11_2).f0), .int .i64 ((rd_T49 x10_2 x11_2).f1)] 49 (0, 0)) (kb_ BK235) hg (Kd.R_away HO_10.out (fun _ hk => hk))); replace HO_10 := Aside0.mk (hp_); replace HB := Aside0.mk ((by rw [hw]; exact below_set (below_set (HB.out) GB19.out) GB19.out : Below w.heap.size w w108)); clear hg hw hp_))
     replace HO_10 := Aside0.mk (Kd.R_drew HO_10.out)
     replace BK233 := Aside0.mk (blk_drew BK233.out)
     replace BK235 := Aside0.mk (blk_drew BK235.out)
     replace HB := Aside0.mk (below_drew1 HB.out)
     have p95 : 0 ≤ (((rd_T48 l3 x11_2).f2) : Int) := od_
     have q95 : (((rd_T48 l3 x11_2).f2) : Int) < ((x10_2.length : Int) : Int) := od_
     obtain ⟨ce95, hcl95, hM95, hcc95, hfr95⟩ := Kd.R_elem HO_10.out z49 (((rd_T48 l3 x11_2).f2) : Int) p95 q95
     obtain rfl := k49_openM hM95
     have hx95_0 : World.cell? _ ⟨go19, (((rd_T48 l3 x11_2).f2) : Int).toNat * 2, none⟩ = some (.int .i64 ((rd_T49 y253 ((rd_T48 l3 x11_2).f2)).f0)) := hcc95 0 _ rfl
     have hx95_1 : World.cell? _ ⟨go19, (((rd_T48 l3 x11_2).f2) : Int).toNat * 2 + 1, none⟩ = some (.int .i64 ((rd_T49 y253 ((rd_T48 l3 x11_2).f2)).f1)) := hcc95 1 _ rfl
     have hf95_0 : World.frozen? _ ⟨go19, (((rd_T48 l3 x11_2).f2) : Int).toNat * 2, none⟩ = false := hfr95 0
     have hf95_1 : World.frozen? _ ⟨go19, (((rd_T48 l3 x11_2).f2) : Int).toNat * 2 + 1, none⟩ = false := hfr95 1
     clear hcl95 hcc95 hfr95; (try clear hM95)
     replace p95 := eq_true p95
     replace q95 := eq_true q95
     obtain ⟨ce110, hcl110, hM110, hcc110, hfr110⟩ := Kd.R_elem HO_10.out z49 (((rd_T48 l3 x11_2).f2) : Int) od_ (by have h_ : (((rd_T48 l3 x11_2).f2) : Int) < ((x10_2.length : Int) : Int) := od_; first | exact h_ | (have e_ := (Kd.R_reads' HO_10.out).1; omega) | simpa using h_)
     obtain rfl := k49_openM hM110
     have HP110 := (Kd.R_seg HO_10.out (((rd_T48 l3 x11_2).f2) : Int) od_ (by have h_ : (((rd_T48 l3 x11_2).f2) : Int) < ((x10_2.length : Int) : Int) := od_; first | exact h_ | (have e_ := (Kd.R_reads' HO_10.out).1; omega) | simpa using h_) (seg := [.int .i64 (wrap64 (((rd_T48 l3 x11_2).f1)))]) (j := 0) hcl110 hcc110 (show 1 ≤ 2 from by decide) (x' := (⟨wrap64 (((rd_T48 l3 x11_2).f1)), (rd_T49 y253 ((rd_T48 l3 x11_2).f2)).f1⟩ : S49)) (k49_mkM _ _ _ (⟨wrap64 (((rd_T48 l3 x11_2).f1)), (rd_T49 y253 ((rd_T48 l3 x11_2).f2)).f1⟩ : S49) ) (fun _ hk => hk)).1
     rw [← Ny254.out] at HP110
     have HQ110 := Aside0.mk HP110
     clear hcl110 hcc110 hfr110; (try clear hM110); clear HP110
     refine start_ (n := 10) (S := fun w' => w'.cell? ⟨gb233, 0, none⟩ = some (.int .i8 ((rd_T48 l3 x11_2).f0)) ∧ w'.cell? ⟨gb233, 1, none⟩ = some (.int .i8 ((rd_T48 l3 x11_2).f1)) ∧ w'.cell? ⟨gb233, 2, none⟩ = some (.int .i8 ((rd_T48 l3 x11_2).f2)) ∧ w'.cell? ⟨gb233, 3, none⟩ = some (.int .i8 ((rd_T48 l3 x11_2).f3))) (ds := [9]) #[false, false, false, false, false, false, false, false, false, false] (by kernel_rfl) rfl rfl ⟨(blk_cell BK233.out 0).trans rfl, (blk_cell BK233.out 1).trans rfl, (blk_cell BK233.out 2).trans rfl, (blk_cell BK233.out 3).trans rfl⟩ (fun hHeld => ?_); refine with_tabW spec_l04Sizes.tab30 spec_l04Sizes.bits30 (fun HT_ HW_ => ?_)
     generalize w108.drew = w109 at HO_10 BK233 BK235 HB HQ110 hf95_0 hf95_1 hx95_0 hx95_1 hHeld ⊢
     refine pu_ 0 137 (lA 10 1) ?_ ?_ HT_ ?_
     refine pu_ 1 138 (lA 10 3) ?_ ?_ HT_ ?_
     refine pu_ 3 140 (lA 10 11) ?_ ?_ HT_ ?_
     refine pu_ 4 141 (lA 10 27) ?_ ?_ HT_ ?_
     refine tk_ 2 139 (lA 10 31) ?_ ?_ HT_ HW_ hHeld ?_
     refine pu_ 7 144 (lA 10 159) ?_ ?_ HT_ ?_
     refine tk_ 5 142 (lA 10 191) ?_ ?_ HT_ HW_ hHeld ?_
     refine pu_ 6 143 (lA 10 255) ?_ ?_ HT_ ?_
     refine pu_ 8 145 (lA 10 511) ?_ ?_ HT_ ?_
     refine last_ (i := 9) (N := none) (lA 10 1023) rfl rfl (one_of HT_.out (by kernel_rfl)) (by decide) (fun K hK => ?_)
     refine skip_ (w1 := ?_) (by rfl) rfl ?_ ?_
     rotate_left
     ·
      go_simp
      rfl
     refine hK.out _ _ ?_
     clear hK K
     refine done_ (done_of HT_.out (by kernel_rfl)) ?_
     have n0_ : Aside0 (Kd.R k49 49 (w109.setCell ⟨go19, (((rd_T48 l3 x11_2).f2) : Int).toNat * 2, none⟩ (.int .i64 (wrap64 (((rd_T48 l3 x11_2).f1))))) w.heap.size (fun k_ => k_ ≠ gb235) (.slice (some ⟨go19, 0, none⟩) x10_2.length co19) y254) := ⟨kp_ HQ110⟩
     have n1_ : Aside0 ((w109.setCell ⟨go19, (((rd_T48 l3 x11_2).f2) : Int).toNat * 2, none⟩ (.int .i64 (wrap64 (((rd_T48 l3 x11_2).f1))))).heap[gb233]? = some (.cells #[.int .i8 ((rd_T48 l3 x11_2).f0), .int .i8 ((rd_T48 l3 x11_2).f1), .int .i8 ((rd_T48 l3 x11_2).f2), .int .i8 ((rd_T48 l3 x11_2).f3)] 48 (0, 0))) := ⟨by (with_reducible repeat (first | refine blk_drewN ?_ _ | refine blk_drew ?_ | refine blk_alloc ?_ _)); refine blk_far ?_ (by have h_ := Kd.R_ne HO_10.out BK233.out (by decide); intro e_; exact h_ (by rw [e_]; rfl)) _; (with_reducible repeat (first | refine blk_drewN ?_ _ | refine blk_drew ?_ | refine blk_alloc ?_ _)); exact BK233.out⟩
     have n2_ : Aside0 ((w109.setCell ⟨go19, (((rd_T48 l3 x11_2).f2) : Int).toNat * 2, none⟩ (.int .i64 (wrap64 (((rd_T48 l3 x11_2).f1))))).heap[gb235]? = some (.cells #[.int .i64 ((rd_T49 x10_2 x11_2).f0), .int .i64 ((rd_T49 x10_2 x11_2).f1)] 49 (0, 0))) := ⟨by (with_reducible repeat (first | refine blk_drewN ?_ _ | refine blk_drew ?_ | refine blk_alloc ?_ _)); refine blk_far ?_ (by have h_ := Kd.R_away HO_10.out (fun _ hk => hk); intro e_; exact h_ (by rw [e_]; rfl)) _; (with_reducible repeat (first | refine blk_drewN ?_ _ | refine blk_drew ?_ | refine blk_alloc ?_ _)); exact BK235.out⟩
     have n3_ : Aside0 (Below w.heap.size w (w109.setCell ⟨go19, (((rd_T48 l3 x11_2).f2) : Int).toNat * 2, none⟩ (.int .i64 (wrap64 (((rd_T48 l3 x11_2).f1)))))) := ⟨by repeat (first | (with_reducible first | exact HB.out | apply below_alloc | apply pw_below_drewN | apply below_drew1 | refine below_set ?_ GB19.out | refine below_set ?_ GE233.out | refine below_set ?_ GE235.out) | exact HB.out)⟩
     generalize (w109.setCell ⟨go19, (((rd_T48 l3 x11_2).f2) : Int).toNat * 2, none⟩ (.int .i64 (wrap64 (((rd_T48 l3 x11_2).f1))))) = w111 at n0_ n1_ n2_ n3_ ⊢
     have HO_10 := n0_
     have BK233 := n1_
     have BK235 := n2_
     have HB := n3_
     clear n0_ n1_ n2_ n3_
     have hcz112_0 : w111.cell? ⟨gb233, 0, none⟩ = some (.int .i8 ((rd_T48 l3 x11_2).f0)) := (blk_cell BK233.out 0).trans rfl
     have hcz112_1 : w111.cell? ⟨gb233, 1, none⟩ = some (.int .i8 ((rd_T48 l3 x11_2).f1)) := (blk_cell BK233.out 1).trans rfl
     have hcz112_2 : w111.cell? ⟨gb233, 2, none⟩ = some (.int .i8 ((rd_T48 l3 x11_2).f2)) := (blk_cell BK233.out 2).trans rfl
     have hcz112_3 : w111.cell? ⟨gb233, 3, none⟩ = some (.int .i8 ((rd_T48 l3 x11_2).f3)) := (blk_cell BK233.out 3).trans rfl
     have hfz112_0 := blk_frozen BK233.out 0
     have hfz112_1 := blk_frozen BK233.out 1
     have hfz112_2 := blk_frozen BK233.out 2
     have hfz112_3 := blk_frozen BK233.out 3
     obtain ⟨⟨hcz113_0, hcz113_1⟩, hfz113_0, hfz113_1⟩ := bq_ BK235
     have p98 : 0 ≤ (((rd_T48 l3 x11_2).f3) : Int) := od_
     have q98 : (((rd_T48 l3 x11_2).f3) : Int) < ((x10_2.length : Int) : Int) := od_
     obtain ⟨ce98, hcl98, hM98, hcc98, hfr98⟩ := Kd.R_elem HO_10.out z49 (((rd_T48 l3 x11_2).f3) : Int) p98 q98
     obtain rfl := k49_openM hM98
     have hx98_0 : w111.cell? ⟨go19, (((rd_T48 l3 x11_2).f3) : Int).toNat * 2, none⟩ = some (.int .i64 ((rd_T49 y254 ((rd_T48 l3 x11_2).f3)).f0)) := hcc98 0 _ rfl
     have hx98_1 : w111.cell? ⟨go19, (((rd_T48 l3 x11_2).f3) : Int).toNat * 2 + 1, none⟩ = some (.int .i64 ((rd_T49 y254 ((rd_T48 l3 x11_2).f3)).f1)) := hcc98 1 _ rfl
     have hf98_0 : w111.frozen? ⟨go19, (((rd_T48 l3 x11_2).f3) : Int).toNat * 2, none⟩ = false := hfr98 0
     have hf98_1 : w111.frozen? ⟨go19, (((rd_T48 l3 x11_2).f3) : Int).toNat * 2 + 1, none⟩ = false := hfr98 1
     clear hcl98 hcc98 hfr98; (try clear hM98)
     replace p98 := eq_true p98
     replace q98 := eq_true q98
     have HX114 := Aside0.mk (show Kd.R k49 49 w111 w.heap.size (fun k_ => k_ ≠ gb235) (.slice (some ⟨go19, 0, none⟩) x10_2.length co19) y254 from (kp_ HO_10))
     obtain ⟨ce114, hcl114, hM114, hcc114, hfr114⟩ := Kd.R_elem HX114.out z49 (((rd_T48 l3 x11_2).f3) : Int) od_ (by have h_ : (((rd_T48 l3 x11_2).f3) : Int) < ((x10_2.length : Int) : Int) := od_; first | exact h_ | (have e_ := (Kd.R_reads' HO_10.out).1; omega) | simpa using h_)
     obtain rfl := k49_openM hM114
     have HP114 := Kd.R_seg HX114.out (((rd_T48 l3 x11_2).f3) : Int) od_ (by have h_ : (((rd_T48 l3 x11_2).f3) : Int) < ((x10_2.length : Int) : Int) := od_; first | exact h_ | (have e_ := (Kd.R_reads' HO_10.out).1; omega) | simpa using h_) (seg := [.int .i64 ((rd_T49 x10_2 x11_2).f0), .int .i64 ((rd_T49 x10_2 x11_2).f1)]) (j := 0) hcl114 hcc114 (show 2 ≤ 2 from by decide) (x' := (⟨((rd_T49 x10_2 x11_2).f0), ((rd_T49 x10_2 x11_2).f1)⟩ : S49)) (k49_mkM _ _ _ (⟨((rd_T49 x10_2 x11_2).f0), ((rd_T49 x10_2 x11_2).f1)⟩ : S49) ) (fun _ hk => hk)
     have hx114_0 := hcc114 0 _ rfl
     (try simp only [show (k49).sz = 2 from rfl, Nat.mul_one, Nat.add_zero] at hx114_0)
     have hf114_0 := hfr114 0
     (try simp only [show (k49).sz = 2 from rfl, Nat.mul_one, Nat.add_zero] at hf114_0)
     have hx114_1 := hcc114 1 _ rfl
     (try simp only [show (k49).sz = 2 from rfl, Nat.mul_one, Nat.add_zero] at hx114_1)
     have hf114_1 := hfr114 1
     (try simp only [show (k49).sz = 2 from rfl, Nat.mul_one, Nat.add_zero] at hf114_1)
     clear hcl114 hcc114 hfr114; (try clear hM114)
     try go_wp2_with (first | ((with_reducible refine gate_store (t := 49) (p := 150) rfl ?_); refine store_event (t := 49) (p := 150) (v := ?vo_w115) (w1 := ((w111.setCell ⟨go19, (((rd_T48 l3 x11_2).f3) : Int).toNat * 2, none⟩ (.int .i64 ((rd_T49 x10_2 x11_2).f0))).setCell ⟨go19, (((rd_T48 l3 x11_2).f3) : Int).toNat * 2 + 1, none⟩ (.int .i64 ((rd_T49 x10_2 x11_2).f1)))) ?hg ?ho ?hn ?hr ?_; (case ho => rfl); (case hg => rfl); (case hn => rfl); (case hr => first | (go_simp; done) | (go_simp; rfl)); intro w115 hw; have hg : w111.grownBy w115 (some go19) := (by rw [hw]; exact HP114.2); have hp_ : Kd.R k49 49 w115 w.heap.size (fun k_ => k_ ≠ gb235) (.slice (some ⟨go19, 0, none⟩) x10_2.length co19) y255 := (by rw [hw, Ny255.out]; exact HP114.1); clear HP114; replace BK233 := Aside0.mk (blk_grown (g := gb233) (o := .cells #[.int .i8 ((rd_T48 l3 x11_2).f0), .int .i8 ((rd_T48 l3 x11_2).f1), .int .i8 ((rd_T48 l3 x11_2).f2), .int .i8 ((rd_T48 l3 x11_2).f3)] 48 (0, 0)) (kb_ BK233) hg (Kd.R_ne HO_10.out BK233.out (by decide))); replace BK235 := Aside0.mk (blk_grown (g := gb235) (o := .cells #[.int .i64 ((rd_T49 x10_2 x11_2).f0), .int .i64 ((rd_T49 x10_2 x11_2).f1)] 49 (0, 0)) (kb_ BK235) hg (Kd.R_away HO_10.out (fun _ hk => hk))); replace HO_10 := Aside0.mk (hp_); replace HB := Aside0.mk ((by rw [hw]; exact below_set (below_set (HB.out) GB19.out) GB19.out : Below w.heap.size w w115)); clear hg hw hp_))
     replace HO_10 := Aside0.mk (Kd.R_drew HO_10.out)
     replace BK233 := Aside0.mk (blk_drew BK233.out)
     replace BK235 := Aside0.mk (blk_drew BK235.out)
     replace HB := Aside0.mk (below_drew1 HB.out)
     have p99 : 0 ≤ (((rd_T48 l3 x11_2).f3) : Int) := od_
     have q99 : (((rd_T48 l3 x11_2).f3) : Int) < ((x10_2.length : Int) : Int) := od_
     obtain ⟨ce99, hcl99, hM99, hcc99, hfr99⟩ := Kd.R_elem HO_10.out z49 (((rd_T48 l3 x11_2).f3) : Int) p99 q99
     obtain rfl := k49_openM hM99
     have hx99_0 : World.cell? _ ⟨go19, (((rd_T48 l3 x11_2).f3) : Int).toNat * 2, none⟩ = some (.int .i64 ((rd_T49 y255 ((rd_T48 l3 x11_2).f3)).f0)) := hcc99 0 _ rfl
     have hx99_1 : World.cell? _ ⟨go19, (((rd_T48 l3 x11_2).f3) : Int).toNat * 2 + 1, none⟩ = some (.int .i64 ((rd_T49 y255 ((rd_T48 l3 x11_2).f3)).f1)) := hcc99 1 _ rfl
     have hf99_0 : World.frozen? _ ⟨go19, (((rd_T48 l3 x11_2).f3) : Int).toNat * 2, none⟩ = false := hfr99 0
     have hf99_1 : World.frozen? _ ⟨go19, (((rd_T48 l3 x11_2).f3) : Int).toNat * 2 + 1, none⟩ = false := hfr99 1
     clear hcl99 hcc99 hfr99; (try clear hM99)
     replace p99 := eq_true p99
     replace q99 := eq_true q99
     obtain ⟨ce117, hcl117, hM117, hcc117, hfr117⟩ := Kd.R_elem HO_10.out z49 (((rd_T48 l3 x11_2).f3) : Int) od_ (by have h_ : (((rd_T48 l3 x11_2).f3) : Int) < ((x10_2.length : Int) : Int) := od_; first | exact h_ | (have e_ := (Kd.R_reads' HO_10.out).1; omega) | simpa using h_)
     obtain rfl := k49_openM hM117
     have HP117 := (Kd.R_seg HO_10.out (((rd_T48 l3 x11_2).f3) : Int) od_ (by have h_ : (((rd_T48 l3 x11_2).f3) : Int) < ((x10_2.length : Int) : Int) := od_; first | exact h_ | (have e_ := (Kd.R_reads' HO_10.out).1; omega) | simpa using h_) (seg := [.int .i64 (wrap64 (((rd_T49 x10_2 x11_2).f0) - (wrap64 (((rd_T48 l3 x11_2).f1)))))]) (j := 0) hcl117 hcc117 (show 1 ≤ 2 from by decide) (x' := (⟨wrap64 (((rd_T49 x10_2 x11_2).f0) - (wrap64 (((rd_T48 l3 x11_2).f1)))), (rd_T49 y255 ((rd_T48 l3 x11_2).f3)).f1⟩ : S49)) (k49_mkM _ _ _ (⟨wrap64 (((rd_T49 x10_2 x11_2).f0) - (wrap64 (((rd_T48 l3 x11_2).f1)))), (rd_T49 y255 ((rd_T48 l3 x11_2).f3)).f1⟩ : S49) ) (fun _ hk => hk)).1
     rw [← Ny256.out] at HP117
     have HQ117 := Aside0.mk HP117
     clear hcl117 hcc117 hfr117; (try clear hM117); clear HP117
     refine start_ (n := 14) (S := fun w' => w'.cell? ⟨gb233, 0, none⟩ = some (.int .i8 ((rd_T48 l3 x11_2).f0)) ∧ w'.cell? ⟨gb233, 1, none⟩ = some (.int .i8 ((rd_T48 l3 x11_2).f1)) ∧ w'.cell? ⟨gb233, 2, none⟩ = some (.int .i8 ((rd_T48 l3 x11_2).f2)) ∧ w'.cell? ⟨gb233, 3, none⟩ = some (.int .i8 ((rd_T48 l3 x11_2).f3)) ∧ w'.cell? ⟨gb235, 0, none⟩ = some (.int .i64 ((rd_T49 x10_2 x11_2).f0)) ∧ w'.cell? ⟨gb235, 1, none⟩ = some (.int .i64 ((rd_T49 x10_2 x11_2).f1))) (ds := [13]) #[false, false, false, false, false, false, false, false, false, false, false, false, false, false] (by kernel_rfl) rfl rfl ⟨(blk_cell BK233.out 0).trans rfl, (blk_cell BK233.out 1).trans rfl, (blk_cell BK233.out 2).trans rfl, (blk_cell BK233.out 3).trans rfl, (blk_cell BK235.out 0).trans rfl, (blk_cell BK235.out 1).trans rfl⟩ (fun hHeld => ?_); refine with_tabW spec_l04Sizes.tab32 spec_l04Sizes.bits32 (fun HT_ HW_ => ?_)
     generalize w115.drew = w116 at HO_10 BK233 BK235 HB HQ117 hf99_0 hf99_1 hx99_0 hx99_1 hHeld ⊢
     refine pu_ 0 151 (lA 14 1) ?_ ?_ HT_ ?_
     refine pu_ 1 152 (lA 14 3) ?_ ?_ HT_ ?_
     refine pu_ 3 154 (lA 14 11) ?_ ?_ HT_ ?_
     refine pu_ 4 155 (lA 14 27) ?_ ?_ HT_ ?_
     refine pu_ 5 156 (lA 14 59) ?_ ?_ HT_ ?_
     refine pu_ 7 158 (lA 14 187) ?_ ?_ HT_ ?_
     refine tk_ 2 153 (lA 14 191) ?_ ?_ HT_ HW_ hHeld ?_
     refine pu_ 11 162 (lA 14 2239) ?_ ?_ HT_ ?_
     refine tk_ 6 157 (lA 14 2303) ?_ ?_ HT_ HW_ hHeld ?_
     refine tk_ 8 159 (lA 14 2559) ?_ ?_ HT_ HW_ hHeld ?_
     refine pu_ 9 160 (lA 14 3071) ?_ ?_ HT_ ?_
     refine pu_ 10 161 (lA 14 4095) ?_ ?_ HT_ ?_
     refine pu_ 12 163 (lA 14 8191) ?_ ?_ HT_ ?_
     refine last_ (i := 13) (N := none) (lA 14 16383) rfl rfl (one_of HT_.out (by kernel_rfl)) (by decide) (fun K hK => ?_)
     refine skip_ (w1 := ?_) (by rfl) rfl ?_ ?_
     rotate_left
     ·
      go_simp
      rfl
     refine hK.out _ _ ?_
     clear hK K
     refine done_ (done_of HT_.out (by kernel_rfl)) ?_
     try go_wp2
     (try simp only [← hl10_2])
     go_roundg kj77
     case measure => have := HJ4.out; have := HK2.out; have := HJ77.out; omega
     case rel => exact ⟨(y256), (wrap64 (x11_2 + 1)), (by first | rfl | (simp; done) | (simp [*]; done)), H', ⟨by have := HJ4.out; have := HK2.out; have := HJ77.out; omega⟩, ⟨by (try simp only [hl10_2]); (with_reducible repeat (first | apply Kd.R_alloc | apply Kd.R_drewN | apply Kd.R_drew)); exact Kd.R_mono HQ117.out (fun _ hk => trivial)⟩, ⟨by repeat (first | (with_reducible first | exact HB.out | apply below_alloc | apply pw_below_drewN | apply below_drew1 | refine below_set ?_ GB19.out | refine below_set ?_ GE233.out | refine below_set ?_ GE235.out) | exact HB.out)⟩⟩
    as_aux_lemma =>
    rw [if_neg c89] at H
    have c89b0 : ((wrap64 ((wrap64 (((rd_T48 l3 x11_2).f0))) - 2)) == (0 : Int)) = false := beq_eq_false_iff_ne.mpr c89
    have c89b1 : ((wrap64 ((wrap64 (((rd_T48 l3 x11_2).f0))) - 2)) != (0 : Int)) = true := bne_iff_ne.mpr c89
    by_cases c125 : (wrap64 ((wrap64 (((rd_T48 l3 x11_2).f0))) - 2)) = (1 : Int)
    rotate_left
    ·
     rw [if_neg c125] at H
     exact absurd H (by simp)
    rw [if_pos c125] at H
    (try (have c125b0 : (wrap64 ((wrap64 (((rd_T48 l3 x11_2).f0))) - 2)) = (1 : Int) := c125))
    clear c125
    obtain ⟨t260, A126, H⟩ := be_ H
    (try dsimp only at H)
    rcases (Decidable.em (t260 = true)).symm with c127 | c127
    ·
     replace c127 := Bool.eq_false_iff.mpr c127
     subst c127
     replace H := gf_ H
     obtain ⟨y265, hy265⟩ : ∃ y_ : List (S49), y_ = (([] : List (S49))) := ⟨_, rfl⟩
     replace H : (some (y265, false)) = some (r1, r2) := by first | (rw [hy265]; with_reducible exact H) | (have H2_ := (Option.bind_some _ _).symm.trans H; rw [hy265]; with_reducible exact H2_) | (have H2_ := (Option.bind_some _ _).symm.trans H; with_reducible exact H2_) | with_reducible exact H | (rw [hy265]; exact H) | exact H
     have Ny265 := Aside0.mk hy265
     clear hy265
     simp only [Option.some.injEq, Prod.mk.injEq] at H
     obtain ⟨rfl, rfl⟩ := H
     have hnb154 := NB233_235.out
     have hnc154 := NB235_233.out
     have hcz155_0 : wc.cell? ⟨gb233, 0, none⟩ = some (.int .i8 ((rd_T48 l3 x11_2).f0)) := (blk_cell BK233.out 0).trans rfl
     have hcz155_1 : wc.cell? ⟨gb233, 1, none⟩ = some (.int .i8 ((rd_T48 l3 x11_2).f1)) := (blk_cell BK233.out 1).trans rfl
     have hcz155_2 : wc.cell? ⟨gb233, 2, none⟩ = some (.int .i8 ((rd_T48 l3 x11_2).f2)) := (blk_cell BK233.out 2).trans rfl
     have hcz155_3 : wc.cell? ⟨gb233, 3, none⟩ = some (.int .i8 ((rd_T48 l3 x11_2).f3)) := (blk_cell BK233.out 3).trans rfl
     have hfz155_0 := blk_frozen BK233.out 0
     have hfz155_1 := blk_frozen BK233.out 1
     have hfz155_2 := blk_frozen BK233.out 2
     have hfz155_3 := blk_frozen BK233.out 3
     try go_wp2_with (first | ((with_reducible refine gate_callee (f := 47) rfl ?_); refine goM_ (some 115) Try.func47 #[.slice (some ⟨go19, 0, none⟩) x10_2.length co19, .int .i64 x11_2, .agg #[.int .i8 ((rd_T48 l3 x11_2).f0), .int .i8 ((rd_T48 l3 x11_2).f1), .int .i8 ((rd_T48 l3 x11_2).f2), .int .i8 ((rd_T48 l3 x11_2).f3)]] ?_; (with_reducible refine (spec_l04Given.calls _ _ x10_2 x11_2 ((rd_T48 l3 x11_2).f0) ((rd_T48 l3 x11_2).f1) ((rd_T48 l3 x11_2).f2) ((rd_T48 l3 x11_2).f3) true _ ?side1 ?side2 A87.out).mono ?_); (case side1 => exact kc_ ((Kd.R_reads' HO_10.out).2.2)); (case side2 => exact (Kd.R_reads' HO_10.out).2.1); rintro e w156 ⟨rfl, hb⟩; refine ⟨_, rfl, ?_⟩; replace HO_10 := Aside0.mk (Kd.R_below (kp_ HO_10) hb); replace BK233 := Aside0.mk (blk_below (g := gb233) (o := .cells #[.int .i8 ((rd_T48 l3 x11_2).f0), .int .i8 ((rd_T48 l3 x11_2).f1), .int .i8 ((rd_T48 l3 x11_2).f2), .int .i8 ((rd_T48 l3 x11_2).f3)] 48 (0, 0)) (kb_ BK233) hb); replace BK235 := Aside0.mk (blk_below (g := gb235) (o := .cells #[.int .i64 ((rd_T49 x10_2 x11_2).f0), .int .i64 ((rd_T49 x10_2 x11_2).f1)] 49 (0, 0)) (kb_ BK235) hb); replace HB := Aside0.mk (below_step (kS_ HB GE233 GE235) hb); clear hb; have hcz157_0 : w156.cell? ⟨gb233, 0, none⟩ = some (.int .i8 ((rd_T48 l3 x11_2).f0)) := (blk_cell BK233.out 0).trans rfl; have hcz157_1 : w156.cell? ⟨gb233, 1, none⟩ = some (.int .i8 ((rd_T48 l3 x11_2).f1)) := (blk_cell BK233.out 1).trans rfl; have hcz157_2 : w156.cell? ⟨gb233, 2, none⟩ = some (.int .i8 ((rd_T48 l3 x11_2).f2)) := (blk_cell BK233.out 2).trans rfl; have hcz157_3 : w156.cell? ⟨gb233, 3, none⟩ = some (.int .i8 ((rd_T48 l3 x11_2).f3)) := (blk_cell BK233.out 3).trans rfl; have hfz157_0 := blk_frozen BK233.out 0; have hfz157_1 := blk_frozen BK233.out 1; have hfz157_2 := blk_frozen BK233.out 2; have hfz157_3 := blk_frozen BK233.out 3))
     replace HO_10 := Aside0.mk (Kd.R_drew HO_10.out)
     replace BK233 := Aside0.mk (blk_drew BK233.out)
     replace BK235 := Aside0.mk (blk_drew BK235.out)
     replace HB := Aside0.mk (below_drew1 HB.out)
     refine start_ (n := 9) (S := fun w' => w'.cell? ⟨gb233, 0, none⟩ = some (.int .i8 ((rd_T48 l3 x11_2).f0)) ∧ w'.cell? ⟨gb233, 1, none⟩ = some (.int .i8 ((rd_T48 l3 x11_2).f1)) ∧ w'.cell? ⟨gb233, 2, none⟩ = some (.int .i8 ((rd_T48 l3 x11_2).f2)) ∧ w'.cell? ⟨gb233, 3, none⟩ = some (.int .i8 ((rd_T48 l3 x11_2).f3)) ∧ w'.cell? ⟨gb235, 0, none⟩ = some (.int .i64 ((rd_T49 x10_2 x11_2).f0)) ∧ w'.cell? ⟨gb235, 1, none⟩ = some (.int .i64 ((rd_T49 x10_2 x11_2).f1))) (ds := []) #[false, false, false, false, false, false, false, false, false] (by kernel_rfl) rfl rfl ⟨(blk_cell BK233.out 0).trans rfl, (blk_cell BK233.out 1).trans rfl, (blk_cell BK233.out 2).trans rfl, (blk_cell BK233.out 3).trans rfl, (blk_cell BK235.out 0).trans rfl, (blk_cell BK235.out 1).trans rfl⟩ (fun hHeld => ?_); refine with_tabW spec_l04Sizes.tab27 spec_l04Sizes.bits27 (fun HT_ HW_ => ?_)
     generalize w156.drew = w158 at HO_10 BK233 BK235 HB hHeld ⊢
     refine pu_ 0 122 (lA 9 1) ?_ ?_ HT_ ?_
     refine pu_ 3 125 (lA 9 9) ?_ ?_ HT_ ?_
     refine pu_ 4 126 (lA 9 25) ?_ ?_ HT_ ?_
     refine tk_ 1 123 (lA 9 27) ?_ ?_ HT_ HW_ hHeld ?_
     refine pu_ 2 124 (lA 9 31) ?_ ?_ HT_ ?_
     refine tk_ 5 127 (lA 9 63) ?_ ?_ HT_ HW_ hHeld ?_
     refine pu_ 6 128 (lA 9 127) ?_ ?_ HT_ ?_
     refine one_ (i := 7) (N := some 129) (lA 9 255) rfl rfl (one_of HT_.out (by kernel_rfl)) (by decide) (fun K hK => ?_)
     refine goes_ Try.func46 (by kernel_rfl) rfl #[.int .i64 (wrap64 (((rd_T48 l3 x11_2).f1))), .int .i64 1, .int .i64 (wrap64 (((rd_T49 x10_2 x11_2).f1) - 1))] (by rfl) rfl rfl (by (try simp only [List.map_toArray, List.map_cons, List.map_nil]); first | done | rfl | (simp only [List.length_drop, List.length_take]; rfl)) ?_
     with_reducible refine (spec_l00In.calls (wrap64 (((rd_T48 l3 x11_2).f1))) 1 (wrap64 (((rd_T49 x10_2 x11_2).f1) - 1)) false _ A126.out).mono ?_
     rintro e w' ⟨rfl, ⟨nd, rfl⟩⟩
     refine ⟨_, rfl, ?_⟩
     refine hK.out _ _ ⟨(blk_cell BK233.out 0).trans rfl, (blk_cell BK233.out 1).trans rfl, (blk_cell BK233.out 2).trans rfl, (blk_cell BK233.out 3).trans rfl, (blk_cell BK235.out 0).trans rfl, (blk_cell BK235.out 1).trans rfl⟩ (fun hHeld => ?_)
     clear hK K
     refine norm_ (a' := ?_) ?_ ?_
     rotate_left
     ·
      show Act.put _ (some 129) _ = _
      simp only [Act.put, List.setIfInBounds_toArray, List.set_cons_zero, List.set_cons_succ, i64_w, i32_w]
      rfl
     refine pu_ 8 130 (lA 9 511) ?_ ?_ HT_ ?_
     refine done_ (done_of HT_.out (by kernel_rfl)) ?_
     try go_wp2_with (first | ((with_reducible refine gate_dst (N := 131) rfl ?_); (try (refine gate_guard (by rfl) ?_; dsimp only)); refine Kd.R_lit k49 _ 49 ?hg (N := 131) ?hd (xs := ([] : List (S49))) (inner := []) (ok := fun _ => True) (okp := fun _ => True) ?hr ?hp (fun _ hk => hk) trivial (Below.refl _ _) (Nat.le_refl _) (by simp) ?_; (case hd => rfl); (case hg => rfl); (case hr => first | (go_simp; done) | (go_simp; rfl)); (case hp => exact (Reps.none _ _)); intro v266 w159 ho160 hb hg_ hnew_; clear hg_ hnew_; (first | rw [← Ny265.out] at ho160 | (simp only [Int.reduceToNat] at ho160; rw [← Ny265.out] at ho160)); have HO267 := Aside0.mk (Kd.R_lower (Kd.R_newB (Kd.R_new' ho160 (Kd.R_lt (kp_ HO_10))) (g := gb235) (o := .cells #[.int .i64 ((rd_T49 x10_2 x11_2).f0), .int .i64 ((rd_T49 x10_2 x11_2).f1)] 49 (0, 0)) (kb_ BK235)) (below_size (kS_ HB GE233 GE235))); replace HO_10 := Aside0.mk (Kd.R_elder' (kp_ HO_10) (Kd.R_base ho160) hb); replace BK233 := Aside0.mk (blk_below (g := gb233) (o := .cells #[.int .i8 ((rd_T48 l3 x11_2).f0), .int .i8 ((rd_T48 l3 x11_2).f1), .int .i8 ((rd_T48 l3 x11_2).f2), .int .i8 ((rd_T48 l3 x11_2).f3)] 48 (0, 0)) (kb_ BK233) hb); replace BK235 := Aside0.mk (blk_below (g := gb235) (o := .cells #[.int .i64 ((rd_T49 x10_2 x11_2).f0), .int .i64 ((rd_T49 x10_2 x11_2).f1)] 49 (0, 0)) (kb_ BK235) hb); replace HB := Aside0.mk (below_step (kS_ HB GE233 GE235) hb); clear hb ho160))
     go_ret2
     exact ⟨_, by first | rfl | (simp [errW_none, errW_some] <;> rfl) | (simp [*, errW_none, errW_some] <;> rfl), by (with_reducible repeat (first | apply Kd.R_alloc | apply Kd.R_drewN | apply Kd.R_drew)); exact Kd.R_mono HO267.out (fun _ hk => trivial), kS_ HB GE233 GE235⟩
    subst c127
    replace H := gt_ H
    by_cases c128 : 0 ≤ ((rd_T48 l3 x11_2).f2)
    rotate_left
    ·
     rw [if_neg c128] at H
     exact absurd H (by simp)
    rw [if_pos c128] at H
    have c128b0 : decide (0 ≤ ((rd_T48 l3 x11_2).f2)) = true := decide_eq_true c128
    clear c128
    by_cases c129 : ((rd_T48 l3 x11_2).f2) < (x10_2.length : Int)
    rotate_left
    ·
     rw [if_neg c129] at H
     exact absurd H (by simp)
    rw [if_pos c129] at H
    have c129b0 : decide (((rd_T48 l3 x11_2).f2) < (x10_2.length : Int)) = true := decide_eq_true c129
    clear c129
    obtain ⟨y261, hy261⟩ : ∃ y_ : List (S49), y_ = (x10_2.set (((rd_T48 l3 x11_2).f2) : Int).toNat (⟨((rd_T49 x10_2 x11_2).f0), ((rd_T49 x10_2 x11_2).f1)⟩ : S49)) := ⟨_, rfl⟩
    replace H : (if 0 ≤ ((rd_T48 l3 x11_2).f3) then (if ((rd_T48 l3 x11_2).f3) < (x10_2.length : Int) then ((some ((y261.set (((rd_T48 l3 x11_2).f2) : Int).toNat (⟨(rd_T49 y261 ((rd_T48 l3 x11_2).f2)).f0, wrap64 (((rd_T48 l3 x11_2).f1))⟩ : S49)).set (((rd_T48 l3 x11_2).f3) : Int).toNat (⟨((rd_T49 x10_2 x11_2).f0), ((rd_T49 x10_2 x11_2).f1)⟩ : S49) : List (S49))).bind fun y263 => (spec_l04Sizes.l0 kj77 l2 l3 (y263.set (((rd_T48 l3 x11_2).f3) : Int).toNat (⟨(rd_T49 y263 ((rd_T48 l3 x11_2).f3)).f0, wrap64 (((rd_T49 x10_2 x11_2).f1) - (wrap64 (((rd_T48 l3 x11_2).f1))))⟩ : S49)) (wrap64 (x11_2 + 1)))) else (none)) else (none)) = some (r1, r2) := by first | (rw [hy261]; with_reducible exact H) | (have H2_ := (Option.bind_some _ _).symm.trans H; rw [hy261]; with_reducible exact H2_) | (have H2_ := (Option.bind_some _ _).symm.trans H; with_reducible exact H2_) | with_reducible exact H | (rw [hy261]; exact H) | exact H
    have Ny261 := Aside0.mk hy261
    clear hy261
    obtain ⟨y262, hy262⟩ : ∃ y_ : List (S49), y_ = (y261.set (((rd_T48 l3 x11_2).f2) : Int).toNat (⟨(rd_T49 y261 ((rd_T48 l3 x11_2).f2)).f0, wrap64 (((rd_T48 l3 x11_2).f1))⟩ : S49)) := ⟨_, rfl⟩
    replace H : (if 0 ≤ ((rd_T48 l3 x11_2).f3) then (if ((rd_T48 l3 x11_2).f3) < (x10_2.length : Int) then ((some (y262.set (((rd_T48 l3 x11_2).f3) : Int).toNat (⟨((rd_T49 x10_2 x11_2).f0), ((rd_T49 x10_2 x11_2).f1)⟩ : S49) : List (S49))).bind fun y263 => (spec_l04Sizes.l0 kj77 l2 l3 (y263.set (((rd_T48 l3 x11_2).f3) : Int).toNat (⟨(rd_T49 y263 ((rd_T48 l3 x11_2).f3)).f0, wrap64 (((rd_T49 x10_2 x11_2).f1) - (wrap64 (((rd_T48 l3 x11_2).f1))))⟩ : S49)) (wrap64 (x11_2 + 1)))) else (none)) else (none)) = some (r1, r2) := by first | (rw [hy262]; with_reducible exact H) | (have H2_ := (Option.bind_some _ _).symm.trans H; rw [hy262]; with_reducible exact H2_) | (have H2_ := (Option.bind_some _ _).symm.trans H; with_reducible exact H2_) | with_reducible exact H | (rw [hy262]; exact H) | exact H
    have Ny262 := Aside0.mk hy262
    clear hy262
    by_cases c132 : 0 ≤ ((rd_T48 l3 x11_2).f3)
    rotate_left
    ·
     rw [if_neg c132] at H
     exact absurd H (by simp)
    rw [if_pos c132] at H
    have c132b0 : decide (0 ≤ ((rd_T48 l3 x11_2).f3)) = true := decide_eq_true c132
    clear c132
    by_cases c133 : ((rd_T48 l3 x11_2).f3) < (x10_2.length : Int)
    rotate_left
    ·
     rw [if_neg c133] at H
     exact absurd H (by simp)
    rw [if_pos c133] at H
    have c133b0 : decide (((rd_T48 l3 x11_2).f3) < (x10_2.length : Int)) = true := decide_eq_true c133
    clear c133
    obtain ⟨y263, hy263⟩ : ∃ y_ : List (S49), y_ = (y262.set (((rd_T48 l3 x11_2).f3) : Int).toNat (⟨((rd_T49 x10_2 x11_2).f0), ((rd_T49 x10_2 x11_2).f1)⟩ : S49)) := ⟨_, rfl⟩
    replace H : (spec_l04Sizes.l0 kj77 l2 l3 (y263.set (((rd_T48 l3 x11_2).f3) : Int).toNat (⟨(rd_T49 y263 ((rd_T48 l3 x11_2).f3)).f0, wrap64 (((rd_T49 x10_2 x11_2).f1) - (wrap64 (((rd_T48 l3 x11_2).f1))))⟩ : S49)) (wrap64 (x11_2 + 1))) = some (r1, r2) := by first | (rw [hy263]; with_reducible exact H) | (have H2_ := (Option.bind_some _ _).symm.trans H; rw [hy263]; with_reducible exact H2_) | (have H2_ := (Option.bind_some _ _).symm.trans H; with_reducible exact H2_) | with_reducible exact H | (rw [hy263]; exact H) | exact H
    have Ny263 := Aside0.mk hy263
    clear hy263
    obtain ⟨y264, hy264⟩ : ∃ y_ : List (S49), y_ = (y263.set (((rd_T48 l3 x11_2).f3) : Int).toNat (⟨(rd_T49 y263 ((rd_T48 l3 x11_2).f3)).f0, wrap64 (((rd_T49 x10_2 x11_2).f1) - (wrap64 (((rd_T48 l3 x11_2).f1))))⟩ : S49)) := ⟨_, rfl⟩
    replace H : (spec_l04Sizes.l0 kj77 l2 l3 y264 (wrap64 (x11_2 + 1))) = some (r1, r2) := by first | (rw [hy264]; with_reducible exact H) | (have H2_ := (Option.bind_some _ _).symm.trans H; rw [hy264]; with_reducible exact H2_) | (have H2_ := (Option.bind_some _ _).symm.trans H; with_reducible exact H2_) | with_reducible exact H | (rw [hy264]; exact H) | exact H
    have Ny264 := Aside0.mk hy264
    clear hy264
    have H' := Aside0.mk H
    clear H
    have hnb136 := NB233_235.out
    have hnc136 := NB235_233.out
    have hcz137_0 : wc.cell? ⟨gb233, 0, none⟩ = some (.int .i8 ((rd_T48 l3 x11_2).f0)) := (blk_cell BK233.out 0).trans rfl
    have hcz137_1 : wc.cell? ⟨gb233, 1, none⟩ = some (.int .i8 ((rd_T48 l3 x11_2).f1)) := (blk_cell BK233.out 1).trans rfl
    have hcz137_2 : wc.cell? ⟨gb233, 2, none⟩ = some (.int .i8 ((rd_T48 l3 x11_2).f2)) := (blk_cell BK233.out 2).trans rfl
    have hcz137_3 : wc.cell? ⟨gb233, 3, none⟩ = some (.int .i8 ((rd_T48 l3 x11_2).f3)) := (blk_cell BK233.out 3).trans rfl
    have hfz137_0 := blk_frozen BK233.out 0
    have hfz137_1 := blk_frozen BK233.out 1
    have hfz137_2 := blk_frozen BK233.out 2
    have hfz137_3 := blk_frozen BK233.out 3
    try go_wp2_with (first | ((with_reducible refine gate_callee (f := 47) rfl ?_); refine goM_ (some 115) Try.func47 #[.slice (some ⟨go19, 0, none⟩) x10_2.length co19, .int .i64 x11_2, .agg #[.int .i8 ((rd_T48 l3 x11_2).f0), .int .i8 ((rd_T48 l3 x11_2).f1), .int .i8 ((rd_T48 l3 x11_2).f2), .int .i8 ((rd_T48 l3 x11_2).f3)]] ?_; (with_reducible refine (spec_l04Given.calls _ _ x10_2 x11_2 ((rd_T48 l3 x11_2).f0) ((rd_T48 l3 x11_2).f1) ((rd_T48 l3 x11_2).f2) ((rd_T48 l3 x11_2).f3) true _ ?side1 ?side2 A87.out).mono ?_); (case side1 => exact kc_ ((Kd.R_reads' HO_10.out).2.2)); (case side2 => exact (Kd.R_reads' HO_10.out).2.1); rintro e w138 ⟨rfl, hb⟩; refine ⟨_, rfl, ?_⟩; replace HO_10 := Aside0.mk (Kd.R_below (kp_ HO_10) hb); replace BK233 := Aside0.mk (blk_below (g := gb233) (o := .cells #[.int .i8 ((rd_T48 l3 x11_2).f0), .int .i8 ((rd_T48 l3 x11_2).f1), .int .i8 ((rd_T48 l3 x11_2).f2), .int .i8 ((rd_T48 l3 x11_2).f3)] 48 (0, 0)) (kb_ BK233) hb); replace BK235 := Aside0.mk (blk_below (g := gb235) (o := .cells #[.int .i64 ((rd_T49 x10_2 x11_2).f0), .int .i64 ((rd_T49 x10_2 x11_2).f1)] 49 (0, 0)) (kb_ BK235) hb); replace HB := Aside0.mk (below_step (kS_ HB GE233 GE235) hb); clear hb; have hcz139_0 : w138.cell? ⟨gb233, 0, none⟩ = some (.int .i8 ((rd_T48 l3 x11_2).f0)) := (blk_cell BK233.out 0).trans rfl; have hcz139_1 : w138.cell? ⟨gb233, 1, none⟩ = some (.int .i8 ((rd_T48 l3 x11_2).f1)) := (blk_cell BK233.out 1).trans rfl; have hcz139_2 : w138.cell? ⟨gb233, 2, none⟩ = some (.int .i8 ((rd_T48 l3 x11_2).f2)) := (blk_cell BK233.out 2).trans rfl; have hcz139_3 : w138.cell? ⟨gb233, 3, none⟩ = some (.int .i8 ((rd_T48 l3 x11_2).f3)) := (blk_cell BK233.out 3).trans rfl; have hfz139_0 := blk_frozen BK233.out 0; have hfz139_1 := blk_frozen BK233.out 1; have hfz139_2 := blk_frozen BK233.out 2; have hfz139_3 := blk_frozen BK233.out 3))
    replace HO_10 := Aside0.mk (Kd.R_drew HO_10.out)
    replace BK233 := Aside0.mk (blk_drew BK233.out)
    replace BK235 := Aside0.mk (blk_drew BK235.out)
    replace HB := Aside0.mk (below_drew1 HB.out)
    refine start_ (n := 9) (S := fun w' => w'.cell? ⟨gb233, 0, none⟩ = some (.int .i8 ((rd_T48 l3 x11_2).f0)) ∧ w'.cell? ⟨gb233, 1, none⟩ = some (.int .i8 ((rd_T48 l3 x11_2).f1)) ∧ w'.cell? ⟨gb233, 2, none⟩ = some (.int .i8 ((rd_T48 l3 x11_2).f2)) ∧ w'.cell? ⟨gb233, 3, none⟩ = some (.int .i8 ((rd_T48 l3 x11_2).f3)) ∧ w'.cell? ⟨gb235, 0, none⟩ = some (.int .i64 ((rd_T49 x10_2 x11_2).f0)) ∧ w'.cell? ⟨gb235, 1, none⟩ = some (.int .i64 ((rd_T49 x10_2 x11_2).f1))) (ds := []) #[false, false, false, false, false, false, false, false, false] (by kernel_rfl) rfl rfl ⟨(blk_cell BK233.out 0).trans rfl, (blk_cell BK233.out 1).trans rfl, (blk_cell BK233.out 2).trans rfl, (blk_cell BK233.out 3).trans rfl, (blk_cell BK235.out 0).trans rfl, (blk_cell BK235.out 1).trans rfl⟩ (fun hHeld => ?_); refine with_tabW spec_l04Sizes.tab27 spec_l04Sizes.bits27 (fun HT_ HW_ => ?_)
    generalize w138.drew = w140 at HO_10 BK233 BK235 HB hHeld ⊢
    refine pu_ 0 122 (lA 9 1) ?_ ?_ HT_ ?_
    refine pu_ 3 125 (lA 9 9) ?_ ?_ HT_ ?_
    refine pu_ 4 126 (lA 9 25) ?_ ?_ HT_ ?_
    refine tk_ 1 123 (lA 9 27) ?_ ?_ HT_ HW_ hHeld ?_
    refine pu_ 2 124 (lA 9 31) ?_ ?_ HT_ ?_
    refine tk_ 5 127 (lA 9 63) ?_ ?_ HT_ HW_ hHeld ?_
    refine pu_ 6 128 (lA 9 127) ?_ ?_ HT_ ?_
    refine one_ (i := 7) (N := some 129) (lA 9 255) rfl rfl (one_of HT_.out (by kernel_rfl)) (by decide) (fun K hK => ?_)
    refine goes_ Try.func46 (by kernel_rfl) rfl #[.int .i64 (wrap64 (((rd_T48 l3 x11_2).f1))), .int .i64 1, .int .i64 (wrap64 (((rd_T49 x10_2 x11_2).f1) - 1))] (by rfl) rfl rfl (by (try simp only [List.map_toArray, List.map_cons, List.map_nil]); first | done | rfl | (simp only [List.length_drop, List.length_take]; rfl)) ?_
    with_reducible refine (spec_l00In.calls (wrap64 (((rd_T48 l3 x11_2).f1))) 1 (wrap64 (((rd_T49 x10_2 x11_2).f1) - 1)) true _ A126.out).mono ?_
    rintro e w' ⟨rfl, ⟨nd, rfl⟩⟩
    refine ⟨_, rfl, ?_⟩
    refine hK.out _ _ ⟨(blk_cell BK233.out 0).trans rfl, (blk_cell BK233.out 1).trans rfl, (blk_cell BK233.out 2).trans rfl, (blk_cell BK233.out 3).trans rfl, (blk_cell BK235.out 0).trans rfl, (blk_cell BK235.out 1).trans rfl⟩ (fun hHeld => ?_)
    clear hK K
    refine norm_ (a' := ?_) ?_ ?_
    rotate_left
    ·
     show Act.put _ (some 129) _ = _
     simp only [Act.put, List.setIfInBounds_toArray, List.set_cons_zero, List.set_cons_succ, i64_w, i32_w]
     rfl
    refine pu_ 8 130 (lA 9 511) ?_ ?_ HT_ ?_
    refine done_ (done_of HT_.out (by kernel_rfl)) ?_
    (try (rw [drewN_self w140]; generalize hq_ : World.drewN w140 _ = w140; have n0_ : Aside0 (Kd.R k49 49 w140 w.heap.size (fun k_ => k_ ≠ gb235) (.slice (some ⟨go19, 0, none⟩) x10_2.length co19) x10_2) := ⟨by rw [← hq_]; exact (kp_ HO_10)⟩; have n1_ : Aside0 (w140.heap[gb233]? = some (.cells #[.int .i8 ((rd_T48 l3 x11_2).f0), .int .i8 ((rd_T48 l3 x11_2).f1), .int .i8 ((rd_T48 l3 x11_2).f2), .int .i8 ((rd_T48 l3 x11_2).f3)] 48 (0, 0))) := ⟨by rw [← hq_]; exact (kb_ BK233)⟩; have n2_ : Aside0 (w140.heap[gb235]? = some (.cells #[.int .i64 ((rd_T49 x10_2 x11_2).f0), .int .i64 ((rd_T49 x10_2 x11_2).f1)] 49 (0, 0))) := ⟨by rw [← hq_]; exact (kb_ BK235)⟩; have n3_ : Aside0 (Below w.heap.size w w140) := ⟨by rw [← hq_]; exact (kS_ HB GE233 GE235)⟩; clear HO_10 BK233 BK235 HB hq_; have HO_10 := n0_; have BK233 := n1_; have BK235 := n2_; have HB := n3_; clear n0_ n1_ n2_ n3_))
    have hcz141_0 : w140.cell? ⟨gb233, 0, none⟩ = some (.int .i8 ((rd_T48 l3 x11_2).f0)) := (blk_cell BK233.out 0).trans rfl
    have hcz141_1 : w140.cell? ⟨gb233, 1, none⟩ = some (.int .i8 ((rd_T48 l3 x11_2).f1)) := (blk_cell BK233.out 1).trans rfl
    have hcz141_2 : w140.cell? ⟨gb233, 2, none⟩ = some (.int .i8 ((rd_T48 l3 x11_2).f2)) := (blk_cell BK233.out 2).trans rfl
    have hcz141_3 : w140.cell? ⟨gb233, 3, none⟩ = some (.int .i8 ((rd_T48 l3 x11_2).f3)) := (blk_cell BK233.out 3).trans rfl
    have hfz141_0 := blk_frozen BK233.out 0
    have hfz141_1 := blk_frozen BK233.out 1
    have hfz141_2 := blk_frozen BK233.out 2
    have hfz141_3 := blk_frozen BK233.out 3
    obtain ⟨⟨hcz142_0, hcz142_1⟩, hfz142_0, hfz142_1⟩ := bq_ BK235
    have p130 : 0 ≤ (((rd_T48 l3 x11_2).f2) : Int) := od_
    have q130 : (((rd_T48 l3 x11_2).f2) : Int) < ((x10_2.length : Int) : Int) := od_
    obtain ⟨ce130, hcl130, hM130, hcc130, hfr130⟩ := Kd.R_elem HO_10.out z49 (((rd_T48 l3 x11_2).f2) : Int) p130 q130
    obtain rfl := k49_openM hM130
    have hx130_0 : w140.cell? ⟨go19, (((rd_T48 l3 x11_2).f2) : Int).toNat * 2, none⟩ = some (.int .i64 ((rd_T49 x10_2 ((rd_T48 l3 x11_2).f2)).f0)) := hcc130 0 _ rfl
    have hx130_1 : w140.cell? ⟨go19, (((rd_T48 l3 x11_2).f2) : Int).toNat * 2 + 1, none⟩ = some (.int .i64 ((rd_T49 x10_2 ((rd_T48 l3 x11_2).f2)).f1)) := hcc130 1 _ rfl
    have hf130_0 : w140.frozen? ⟨go19, (((rd_T48 l3 x11_2).f2) : Int).toNat * 2, none⟩ = false := hfr130 0
    have hf130_1 : w140.frozen? ⟨go19, (((rd_T48 l3 x11_2).f2) : Int).toNat * 2 + 1, none⟩ = false := hfr130 1
    clear hcl130 hcc130 hfr130; (try clear hM130)
    replace p130 := eq_true p130
    replace q130 := eq_true q130
    have HX143 := Aside0.mk (show Kd.R k49 49 w140 w.heap.size (fun k_ => k_ ≠ gb235) (.slice (some ⟨go19, 0, none⟩) x10_2.length co19) x10_2 from (kp_ HO_10))
    obtain ⟨ce143, hcl143, hM143, hcc143, hfr143⟩ := Kd.R_elem HX143.out z49 (((rd_T48 l3 x11_2).f2) : Int) od_ (by have h_ : (((rd_T48 l3 x11_2).f2) : Int) < ((x10_2.length : Int) : Int) := od_; first | exact h_ | (have e_ := (Kd.R_reads' HO_10.out).1; omega) | simpa using h_)
    obtain rfl := k49_openM hM143
    have HP143 := Kd.R_seg HX143.out (((rd_T48 l3 x11_2).f2) : Int) od_ (by have h_ : (((rd_T48 l3 x11_2).f2) : Int) < ((x10_2.length : Int) : Int) := od_; first | exact h_ | (have e_ := (Kd.R_reads' HO_10.out).1; omega) | simpa using h_) (seg := [.int .i64 ((rd_T49 x10_2 x11_2).f0), .int .i64 ((rd_T49 x10_2 x11_2).f1)]) (j := 0) hcl143 hcc143 (show 2 ≤ 2 from by decide) (x' := (⟨((rd_T49 x10_2 x11_2).f0), ((rd_T49 x10_2 x11_2).f1)⟩ : S49)) (k49_mkM _ _ _ (⟨((rd_T49 x10_2 x11_2).f0), ((rd_T49 x10_2 x11_2).f1)⟩ : S49) ) (fun _ hk => hk)
    have hx143_0 := hcc143 0 _ rfl
    (try simp only [show (k49).sz = 2 from rfl, Nat.mul_one, Nat.add_zero] at hx143_0)
    have hf143_0 := hfr143 0
    (try simp only [show (k49).sz = 2 from rfl, Nat.mul_one, Nat.add_zero] at hf143_0)
    have hx143_1 := hcc143 1 _ rfl
    (try simp only [show (k49).sz = 2 from rfl, Nat.mul_one, Nat.add_zero] at hx143_1)
    have hf143_1 := hfr143 1
    (try simp only [show (k49).sz = 2 from rfl, Nat.mul_one, Nat.add_zero] at hf143_1)
    clear hcl143 hcc143 hfr143; (try clear hM143)
    try go_wp2_with (first | ((with_reducible refine gate_store (t := 49) (p := 136) rfl ?_); refine store_event (t := 49) (p := 136) (v := ?vo_w144) (w1 := ((w140.setCell ⟨go19, (((rd_T48 l3 x11_2).f2) : Int).toNat * 2, none⟩ (.int .i64 ((rd_T49 x10_2 x11_2).f0))).setCell ⟨go19, (((rd_T48 l3 x11_2).f2) : Int).toNat * 2 + 1, none⟩ (.int .i64 ((rd_T49 x10_2 x11_2).f1)))) ?hg ?ho ?hn ?hr ?_; (case ho => rfl); (case hg => rfl); (case hn => rfl); (case hr => first | (go_simp; done) | (go_simp; rfl)); intro w144 hw; have hg : w140.grownBy w144 (some go19) := (by rw [hw]; exact HP143.2); have hp_ : Kd.R k49 49 w144 w.heap.size (fun k_ => k_ ≠ gb235) (.slice (some ⟨go19, 0, none⟩) x10_2.length co19) y261 := (by rw [hw, Ny261.out]; exact HP143.1); clear HP143; replace BK233 := Aside0.mk (blk_grown (g := gb233) (o := .cells #[.int .i8 ((rd_T48 l3 x11_2).f0), .int .i8 ((rd_T48 l3 x11_2).f1), .int .i8 ((rd_T48 l3 x11_2).f2), .int .i8 ((rd_T48 l3 x11_2).f3)] 48 (0, 0)) (kb_ BK233) hg (Kd.R_ne HO_10.out BK233.out (by decide))); replace BK235 := Aside0.mk (blk_grown (g := gb235) (o := .cells #[.int .i64 ((rd_T49 x10_2 x11_2).f0), .int .i64 ((rd_T49 x10_2 x11_2).f1)] 49 (0, 0)) (kb_ BK235) hg (Kd.R_away HO_10.out (fun _ hk => hk))); replace HO_10 := Aside0.mk (hp_); replace HB := Aside0.mk ((by rw [hw]; exact below_set (below_set (HB.out) GB19.out) GB19.out : Below w.heap.size w w144)); clear hg hw hp_))
    replace HO_10 := Aside0.mk (Kd.R_drew HO_10.out)
    replace BK233 := Aside0.mk (blk_drew BK233.out)
    replace BK235 := Aside0.mk (blk_drew BK235.out)
    replace HB := Aside0.mk (below_drew1 HB.out)
    have p131 : 0 ≤ (((rd_T48 l3 x11_2).f2) : Int) := od_
    have q131 : (((rd_T48 l3 x11_2).f2) : Int) < ((x10_2.length : Int) : Int) := od_
    obtain ⟨ce131, hcl131, hM131, hcc131, hfr131⟩ := Kd.R_elem HO_10.out z49 (((rd_T48 l3 x11_2).f2) : Int) p131 q131
    obtain rfl := k49_openM hM131
    have hx131_0 : World.cell? _ ⟨go19, (((rd_T48 l3 x11_2).f2) : Int).toNat * 2, none⟩ = some (.int .i64 ((rd_T49 y261 ((rd_T48 l3 x11_2).f2)).f0)) := hcc131 0 _ rfl
    have hx131_1 : World.cell? _ ⟨go19, (((rd_T48 l3 x11_2).f2) : Int).toNat * 2 + 1, none⟩ = some (.int .i64 ((rd_T49 y261 ((rd_T48 l3 x11_2).f2)).f1)) := hcc131 1 _ rfl
    have hf131_0 : World.frozen? _ ⟨go19, (((rd_T48 l3 x11_2).f2) : Int).toNat * 2, none⟩ = false := hfr131 0
    have hf131_1 : World.frozen? _ ⟨go19, (((rd_T48 l3 x11_2).f2) : Int).toNat * 2 + 1, none⟩ = false := hfr131 1
    clear hcl131 hcc131 hfr131; (try clear hM131)
    replace p131 := eq_true p131
    replace q131 := eq_true q131
    obtain ⟨ce146, hcl146, hM146, hcc146, hfr146⟩ := Kd.R_elem HO_10.out z49 (((rd_T48 l3 x11_2).f2) : Int) od_ (by have h_ : (((rd_T48 l3 x11_2).f2) : Int) < ((x10_2.length : Int) : Int) := od_; first | exact h_ | (have e_ := (Kd.R_reads' HO_10.out).1; omega) | simpa using h_)
    obtain rfl := k49_openM hM146
    have HP146 := (Kd.R_seg HO_10.out (((rd_T48 l3 x11_2).f2) : Int) od_ (by have h_ : (((rd_T48 l3 x11_2).f2) : Int) < ((x10_2.length : Int) : Int) := od_; first | exact h_ | (have e_ := (Kd.R_reads' HO_10.out).1; omega) | simpa using h_) (seg := [.int .i64 (wrap64 (((rd_T48 l3 x11_2).f1)))]) (j := 1) hcl146 hcc146 (show 2 ≤ 2 from by decide) (x' := (⟨(rd_T49 y261 ((rd_T48 l3 x11_2).f2)).f0, wrap64 (((rd_T48 l3 x11_2).f1))⟩ : S49)) (k49_mkM _ _ _ (⟨(rd_T49 y261 ((rd_T48 l3 x11_2).f2)).f0, wrap64 (((rd_T48 l3 x11_2).f1))⟩ : S49) ) (fun _ hk => hk)).1
    rw [← Ny262.out] at HP146
    have HQ146 := Aside0.mk HP146
    clear hcl146 hcc146 hfr146; (try clear hM146); clear HP146
    refine start_ (n := 10) (S := fun w' => w'.cell? ⟨gb233, 0, none⟩ = some (.int .i8 ((rd_T48 l3 x11_2).f0)) ∧ w'.cell? ⟨gb233, 1, none⟩ = some (.int .i8 ((rd_T48 l3 x11_2).f1)) ∧ w'.cell? ⟨gb233, 2, none⟩ = some (.int .i8 ((rd_T48 l3 x11_2).f2)) ∧ w'.cell? ⟨gb233, 3, none⟩ = some (.int .i8 ((rd_T48 l3 x11_2).f3))) (ds := [9]) #[false, false, false, false, false, false, false, false, false, false] (by kernel_rfl) rfl rfl ⟨(blk_cell BK233.out 0).trans rfl, (blk_cell BK233.out 1).trans rfl, (blk_cell BK233.out 2).trans rfl, (blk_cell BK233.out 3).trans rfl⟩ (fun hHeld => ?_); refine with_tabW spec_l04Sizes.tab30 spec_l04Sizes.bits30 (fun HT_ HW_ => ?_)
    generalize w144.drew = w145 at HO_10 BK233 BK235 HB HQ146 hf131_0 hf131_1 hx131_0 hx131_1 hHeld ⊢
    refine pu_ 0 137 (lA 10 1) ?_ ?_ HT_ ?_
    refine pu_ 1 138 (lA 10 3) ?_ ?_ HT_ ?_
    refine pu_ 3 140 (lA 10 11) ?_ ?_ HT_ ?_
    refine pu_ 4 141 (lA 10 27) ?_ ?_ HT_ ?_
    refine tk_ 2 139 (lA 10 31) ?_ ?_ HT_ HW_ hHeld ?_
    refine pu_ 7 144 (lA 10 159) ?_ ?_ HT_ ?_
    refine tk_ 5 142 (lA 10 191) ?_ ?_ HT_ HW_ hHeld ?_
    refine pu_ 6 143 (lA 10 255) ?_ ?_ HT_ ?_
    refine pu_ 8 145 (lA 10 511) ?_ ?_ HT_ ?_
    refine last_ (i := 9) (N := none) (lA 10 1023) rfl rfl (one_of HT_.out (by kernel_rfl)) (by decide) (fun K hK => ?_)
    refine skip_ (w1 := ?_) (by rfl) rfl ?_ ?_
    rotate_left
    ·
     go_simp
     rfl
    refine hK.out _ _ ?_
    clear hK K
    refine done_ (done_of HT_.out (by kernel_rfl)) ?_
    have n0_ : Aside0 (Kd.R k49 49 (w145.setCell ⟨go19, (((rd_T48 l3 x11_2).f2) : Int).toNat * 2 + 1, none⟩ (.int .i64 (wrap64 (((rd_T48 l3 x11_2).f1))))) w.heap.size (fun k_ => k_ ≠ gb235) (.slice (some ⟨go19, 0, none⟩) x10_2.length co19) y262) := ⟨kp_ HQ146⟩
    have n1_ : Aside0 ((w145.setCell ⟨go19, (((rd_T48 l3 x11_2).f2) : Int).toNat * 2 + 1, none⟩ (.int .i64 (wrap64 (((rd_T48 l3 x11_2).f1))))).heap[gb233]? = some (.cells #[.int .i8 ((rd_T48 l3 x11_2).f0), .int .i8 ((rd_T48 l3 x11_2).f1), .int .i8 ((rd_T48 l3 x11_2).f2), .int .i8 ((rd_T48 l3 x11_2).f3)] 48 (0, 0))) := ⟨by (with_reducible repeat (first | refine blk_drewN ?_ _ | refine blk_drew ?_ | refine blk_alloc ?_ _)); refine blk_far ?_ (by have h_ := Kd.R_ne HO_10.out BK233.out (by decide); intro e_; exact h_ (by rw [e_]; rfl)) _; (with_reducible repeat (first | refine blk_drewN ?_ _ | refine blk_drew ?_ | refine blk_alloc ?_ _)); exact BK233.out⟩
    have n2_ : Aside0 ((w145.setCell ⟨go19, (((rd_T48 l3 x11_2).f2) : Int).toNat * 2 + 1, none⟩ (.int .i64 (wrap64 (((rd_T48 l3 x11_2).f1))))).heap[gb235]? = some (.cells #[.int .i64 ((rd_T49 x10_2 x11_2).f0), .int .i64 ((rd_T49 x10_2 x11_2).f1)] 49 (0, 0))) := ⟨by (with_reducible repeat (first | refine blk_drewN ?_ _ | refine blk_drew ?_ | refine blk_alloc ?_ _)); refine blk_far ?_ (by have h_ := Kd.R_away HO_10.out (fun _ hk => hk); intro e_; exact h_ (by rw [e_]; rfl)) _; (with_reducible repeat (first | refine blk_drewN ?_ _ | refine blk_drew ?_ | refine blk_alloc ?_ _)); exact BK235.out⟩
    have n3_ : Aside0 (Below w.heap.size w (w145.setCell ⟨go19, (((rd_T48 l3 x11_2).f2) : Int).toNat * 2 + 1, none⟩ (.int .i64 (wrap64 (((rd_T48 l3 x11_2).f1)))))) := ⟨by repeat (first | (with_reducible first | exact HB.out | apply below_alloc | apply pw_below_drewN | apply below_drew1 | refine below_set ?_ GB19.out | refine below_set ?_ GE233.out | refine below_set ?_ GE235.out) | exact HB.out)⟩
    generalize (w145.setCell ⟨go19, (((rd_T48 l3 x11_2).f2) : Int).toNat * 2 + 1, none⟩ (.int .i64 (wrap64 (((rd_T48 l3 x11_2).f1))))) = w147 at n0_ n1_ n2_ n3_ ⊢
    have HO_10 := n0_
    have BK233 := n1_
    have BK235 := n2_
    have HB := n3_
    clear n0_ n1_ n2_ n3_
    have hcz148_0 : w147.cell? ⟨gb233, 0, none⟩ = some (.int .i8 ((rd_T48 l3 x11_2).f0)) := (blk_cell BK233.out 0).trans rfl
    have hcz148_1 : w147.cell? ⟨gb233, 1, none⟩ = some (.int .i8 ((rd_T48 l3 x11_2).f1)) := (blk_cell BK233.out 1).trans rfl
    have hcz148_2 : w147.cell? ⟨gb233, 2, none⟩ = some (.int .i8 ((rd_T48 l3 x11_2).f2)) := (blk_cell BK233.out 2).trans rfl
    have hcz148_3 : w147.cell? ⟨gb233, 3, none⟩ = some (.int .i8 ((rd_T48 l3 x11_2).f3)) := (blk_cell BK233.out 3).trans rfl
    have hfz148_0 := blk_frozen BK233.out 0
    have hfz148_1 := blk_frozen BK233.out 1
    have hfz148_2 := blk_frozen BK233.out 2
    have hfz148_3 := blk_frozen BK233.out 3
    obtain ⟨⟨hcz149_0, hcz149_1⟩, hfz149_0, hfz149_1⟩ := bq_ BK235
    have p134 : 0 ≤ (((rd_T48 l3 x11_2).f3) : Int) := od_
    have q134 : (((rd_T48 l3 x11_2).f3) : Int) < ((x10_2.length : Int) : Int) := od_
    obtain ⟨ce134, hcl134, hM134, hcc134, hfr134⟩ := Kd.R_elem HO_10.out z49 (((rd_T48 l3 x11_2).f3) : Int) p134 q134
    obtain rfl := k49_openM hM134
    have hx134_0 : w147.cell? ⟨go19, (((rd_T48 l3 x11_2).f3) : Int).toNat * 2, none⟩ = some (.int .i64 ((rd_T49 y262 ((rd_T48 l3 x11_2).f3)).f0)) := hcc134 0 _ rfl
    have hx134_1 : w147.cell? ⟨go19, (((rd_T48 l3 x11_2).f3) : Int).toNat * 2 + 1, none⟩ = some (.int .i64 ((rd_T49 y262 ((rd_T48 l3 x11_2).f3)).f1)) := hcc134 1 _ rfl
    have hf134_0 : w147.frozen? ⟨go19, (((rd_T48 l3 x11_2).f3) : Int).toNat * 2, none⟩ = false := hfr134 0
    have hf134_1 : w147.frozen? ⟨go19, (((rd_T48 l3 x11_2).f3) : Int).toNat * 2 + 1, none⟩ = false := hfr134 1
    clear hcl134 hcc134 hfr134; (try clear hM134)
    replace p134 := eq_true p134
    replace q134 := eq_true q134
    have HX150 := Aside0.mk (show Kd.R k49 49 w147 w.heap.size (fun k_ => k_ ≠ gb235) (.slice (some ⟨go19, 0, none⟩) x10_2.length co19) y262 from (kp_ HO_10))
    obtain ⟨ce150, hcl150, hM150, hcc150, hfr150⟩ := Kd.R_elem HX150.out z49 (((rd_T48 l3 x11_2).f3) : Int) od_ (by have h_ : (((rd_T48 l3 x11_2).f3) : Int) < ((x10_2.length : Int) : Int) := od_; first | exact h_ | (have e_ := (Kd.R_reads' HO_10.out).1; omega) | simpa using h_)
    obtain rfl := k49_openM hM150
    have HP150 := Kd.R_seg HX150.out (((rd_T48 l3 x11_2).f3) : Int) od_ (by have h_ : (((rd_T48 l3 x11_2).f3) : Int) < ((x10_2.length : Int) : Int) := od_; first | exact h_ | (have e_ := (Kd.R_reads' HO_10.out).1; omega) | simpa using h_) (seg := [.int .i64 ((rd_T49 x10_2 x11_2).f0), .int .i64 ((rd_T49 x10_2 x11_2).f1)]) (j := 0) hcl150 hcc150 (show 2 ≤ 2 from by decide) (x' := (⟨((rd_T49 x10_2 x11_2).f0), ((rd_T49 x10_2 x11_2).f1)⟩ : S49)) (k49_mkM _ _ _ (⟨((rd_T49 x10_2 x11_2).f0), ((rd_T49 x10_2 x11_2).f1)⟩ : S49) ) (fun _ hk => hk)
    have hx150_0 := hcc150 0 _ rfl
    (try simp only [show (k49).sz = 2 from rfl, Nat.mul_one, Nat.add_zero] at hx150_0)
    have hf150_0 := hfr150 0
    (try simp only [show (k49).sz = 2 from rfl, Nat.mul_one, Nat.add_zero] at hf150_0)
    have hx150_1 := hcc150 1 _ rfl
    (try simp only [show (k49).sz = 2 from rfl, Nat.mul_one, Nat.add_zero] at hx150_1)
    have hf150_1 := hfr150 1
    (try simp only [show (k49).sz = 2 from rfl, Nat.mul_one, Nat.add_zero] at hf150_1)
    clear hcl150 hcc150 hfr150; (try clear hM150)
    try go_wp2_with (first | ((with_reducible refine gate_store (t := 49) (p := 150) rfl ?_); refine store_event (t := 49) (p := 150) (v := ?vo_w151) (w1 := ((w147.setCell ⟨go19, (((rd_T48 l3 x11_2).f3) : Int).toNat * 2, none⟩ (.int .i64 ((rd_T49 x10_2 x11_2).f0))).setCell ⟨go19, (((rd_T48 l3 x11_2).f3) : Int).toNat * 2 + 1, none⟩ (.int .i64 ((rd_T49 x10_2 x11_2).f1)))) ?hg ?ho ?hn ?hr ?_; (case ho => rfl); (case hg => rfl); (case hn => rfl); (case hr => first | (go_simp; done) | (go_simp; rfl)); intro w151 hw; have hg : w147.grownBy w151 (some go19) := (by rw [hw]; exact HP150.2); have hp_ : Kd.R k49 49 w151 w.heap.size (fun k_ => k_ ≠ gb235) (.slice (some ⟨go19, 0, none⟩) x10_2.length co19) y263 := (by rw [hw, Ny263.out]; exact HP150.1); clear HP150; replace BK233 := Aside0.mk (blk_grown (g := gb233) (o := .cells #[.int .i8 ((rd_T48 l3 x11_2).f0), .int .i8 ((rd_T48 l3 x11_2).f1), .int .i8 ((rd_T48 l3 x11_2).f2), .int .i8 ((rd_T48 l3 x11_2).f3)] 48 (0, 0)) (kb_ BK233) hg (Kd.R_ne HO_10.out BK233.out (by decide))); replace BK235 := Aside0.mk (blk_grown (g := gb235) (o := .cells #[.int .i64 ((rd_T49 x10_2 x11_2).f0), .int .i64 ((rd_T49 x10_2 x11_2).f1)] 49 (0, 0)) (kb_ BK235) hg (Kd.R_away HO_10.out (fun _ hk => hk))); replace HO_10 := Aside0.mk (hp_); replace HB := Aside0.mk ((by rw [hw]; exact below_set (below_set (HB.out) GB19.out) GB19.out : Below w.heap.size w w151)); clear hg hw hp_))
    replace HO_10 := Aside0.mk (Kd.R_drew HO_10.out)
    replace BK233 := Aside0.mk (blk_drew BK233.out)
    replace BK235 := Aside0.mk (blk_drew BK235.out)
    replace HB := Aside0.mk (below_drew1 HB.out)
    have p135 : 0 ≤ (((rd_T48 l3 x11_2).f3) : Int) := od_
    have q135 : (((rd_T48 l3 x11_2).f3) : Int) < ((x10_2.length : Int) : Int) := od_
    obtain ⟨ce135, hcl135, hM135, hcc135, hfr135⟩ := Kd.R_elem HO_10.out z49 (((rd_T48 l3 x11_2).f3) : Int) p135 q135
    obtain rfl := k49_openM hM135
    have hx135_0 : World.cell? _ ⟨go19, (((rd_T48 l3 x11_2).f3) : Int).toNat * 2, none⟩ = some (.int .i64 ((rd_T49 y263 ((rd_T48 l3 x11_2).f3)).f0)) := hcc135 0 _ rfl
    have hx135_1 : World.cell? _ ⟨go19, (((rd_T48 l3 x11_2).f3) : Int).toNat * 2 + 1, none⟩ = some (.int .i64 ((rd_T49 y263 ((rd_T48 l3 x11_2).f3)).f1)) := hcc135 1 _ rfl
    have hf135_0 : World.frozen? _ ⟨go19, (((rd_T48 l3 x11_2).f3) : Int).toNat * 2, none⟩ = false := hfr135 0
    have hf135_1 : World.frozen? _ ⟨go19, (((rd_T48 l3 x11_2).f3) : Int).toNat * 2 + 1, none⟩ = false := hfr135 1
    clear hcl135 hcc135 hfr135; (try clear hM135)
    replace p135 := eq_true p135
    replace q135 := eq_true q135
    obtain ⟨ce153, hcl153, hM153, hcc153, hfr153⟩ := Kd.R_elem HO_10.out z49 (((rd_T48 l3 x11_2).f3) : Int) od_ (by have h_ : (((rd_T48 l3 x11_2).f3) : Int) < ((x10_2.length : Int) : Int) := od_; first | exact h_ | (have e_ := (Kd.R_reads' HO_10.out).1; omega) | simpa using h_)
    obtain rfl := k49_openM hM153
    have HP153 := (Kd.R_seg HO_10.out (((rd_T48 l3 x11_2).f3) : Int) od_ (by have h_ : (((rd_T48 l3 x11_2).f3) : Int) < ((x10_2.length : Int) : Int) := od_; first | exact h_ | (have e_ := (Kd.R_reads' HO_10.out).1; omega) | simpa using h_) (seg := [.int .i64 (wrap64 (((rd_T49 x10_2 x11_2).f1) - (wrap64 (((rd_T48 l3 x11_2).f1)))))]) (j := 1) hcl153 hcc153 (show 2 ≤ 2 from by decide) (x' := (⟨(rd_T49 y263 ((rd_T48 l3 x11_2).f3)).f0, wrap64 (((rd_T49 x10_2 x11_2).f1) - (wrap64 (((rd_T48 l3 x11_2).f1))))⟩ : S49)) (k49_mkM _ _ _ (⟨(rd_T49 y263 ((rd_T48 l3 x11_2).f3)).f0, wrap64 (((rd_T49 x10_2 x11_2).f1) - (wrap64 (((rd_T48 l3 x11_2).f1))))⟩ : S49) ) (fun _ hk => hk)).1
    rw [← Ny264.out] at HP153
    have HQ153 := Aside0.mk HP153
    clear hcl153 hcc153 hfr153; (try clear hM153); clear HP153
    refine start_ (n := 14) (S := fun w' => w'.cell? ⟨gb233, 0, none⟩ = some (.int .i8 ((rd_T48 l3 x11_2).f0)) ∧ w'.cell? ⟨gb233, 1, none⟩ = some (.int .i8 ((rd_T48 l3 x11_2).f1)) ∧ w'.cell? ⟨gb233, 2, none⟩ = some (.int .i8 ((rd_T48 l3 x11_2).f2)) ∧ w'.cell? ⟨gb233, 3, none⟩ = some (.int .i8 ((rd_T48 l3 x11_2).f3)) ∧ w'.cell? ⟨gb235, 0, none⟩ = some (.int .i64 ((rd_T49 x10_2 x11_2).f0)) ∧ w'.cell? ⟨gb235, 1, none⟩ = some (.int .i64 ((rd_T49 x10_2 x11_2).f1))) (ds := [13]) #[false, false, false, false, false, false, false, false, false, false, false, false, false, false] (by kernel_rfl) rfl rfl ⟨(blk_cell BK233.out 0).trans rfl, (blk_cell BK233.out 1).trans rfl, (blk_cell BK233.out 2).trans rfl, (blk_cell BK233.out 3).trans rfl, (blk_cell BK235.out 0).trans rfl, (blk_cell BK235.out 1).trans rfl⟩ (fun hHeld => ?_); refine with_tabW spec_l04Sizes.tab32 spec_l04Sizes.bits32 (fun HT_ HW_ => ?_)
    generalize w151.drew = w152 at HO_10 BK233 BK235 HB HQ153 hf135_0 hf135_1 hx135_0 hx135_1 hHeld ⊢
    refine pu_ 0 151 (lA 14 1) ?_ ?_ HT_ ?_
    refine pu_ 1 152 (lA 14 3) ?_ ?_ HT_ ?_
    refine pu_ 3 154 (lA 14 11) ?_ ?_ HT_ ?_
    refine pu_ 4 155 (lA 14 27) ?_ ?_ HT_ ?_
    refine pu_ 5 156 (lA 14 59) ?_ ?_ HT_ ?_
    refine pu_ 7 158 (lA 14 187) ?_ ?_ HT_ ?_
    refine tk_ 2 153 (lA 14 191) ?_ ?_ HT_ HW_ hHeld ?_
    refine pu_ 11 162 (lA 14 2239) ?_ ?_ HT_ ?_
    refine tk_ 6 157 (lA 14 2303) ?_ ?_ HT_ HW_ hHeld ?_
    refine tk_ 8 159 (lA 14 2559) ?_ ?_ HT_ HW_ hHeld ?_
    refine pu_ 9 160 (lA 14 3071) ?_ ?_ HT_ ?_
    refine pu_ 10 161 (lA 14 4095) ?_ ?_ HT_ ?_
    refine pu_ 12 163 (lA 14 8191) ?_ ?_ HT_ ?_
    refine last_ (i := 13) (N := none) (lA 14 16383) rfl rfl (one_of HT_.out (by kernel_rfl)) (by decide) (fun K hK => ?_)
    refine skip_ (w1 := ?_) (by rfl) rfl ?_ ?_
    rotate_left
    ·
     go_simp
     rfl
    refine hK.out _ _ ?_
    clear hK K
    refine done_ (done_of HT_.out (by kernel_rfl)) ?_
    try go_wp2
    (try simp only [← hl10_2])
    go_roundg kj77
    case measure => have := HJ4.out; have := HK2.out; have := HJ77.out; omega
    case rel => exact ⟨(y264), (wrap64 (x11_2 + 1)), (by first | rfl | (simp; done) | (simp [*]; done)), H', ⟨by have := HJ4.out; have := HK2.out; have := HJ77.out; omega⟩, ⟨by (try simp only [hl10_2]); (with_reducible repeat (first | apply Kd.R_alloc | apply Kd.R_drewN | apply Kd.R_drew)); exact Kd.R_mono HQ153.out (fun _ hk => trivial)⟩, ⟨by repeat (first | (with_reducible first | exact HB.out | apply below_alloc | apply pw_below_drewN | apply below_drew1 | refine below_set ?_ GB19.out | refine below_set ?_ GE233.out | refine below_set ?_ GE235.out) | exact HB.out)⟩⟩
end Go.Proofs.Ytnkihjabmbeicaa.PA
