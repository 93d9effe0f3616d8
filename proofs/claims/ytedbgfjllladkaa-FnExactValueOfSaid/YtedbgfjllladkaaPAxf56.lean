/- Written by a program of this session out of the translation: pure functions, and that Go's functions come to them. -/
import Derived.Test.YtedbgfjllladkaaPAx0
import Derived.Test.YtedbgfjllladkaaPAxe0
import Derived.Test.YtedbgfjllladkaaPAxe1
import Derived.Test.YtedbgfjllladkaaPAxgPlate
import Derived.Test.YtedbgfjllladkaaPAxgSpec
import Derived.Test.YtedbgfjllladkaaPAxf56d
namespace Go.Proofs.Ytedbgfjllladkaa.PA
open Go.RowKit Go.Proofs.YtedbgfjllladkaaW.PrintWords Go.Proofs.YtedbgfjllladkaaW.PrintLast Go.Proofs.YtedbgfjllladkaaW.PrintMore
attribute [local go_sem] max2_int min2_int max_two min_two max_three min_three max_four min_four   -- for this text's walks alone
set_option linter.unusedVariables false
set_option linter.unusedSimpArgs false

attribute [local go_sem high] eqA75 eqA79
set_option maxHeartbeats 8000000 in
set_option maxRecDepth 100000 in
theorem spec_l04Sizes.calls (k : Nat) (a0 : Int) (a1 : Int) (A2 : Option Addr) (c2 : Nat) (l2 : List (S57)) (A3 : Option Addr) (c3 : Nat) (l3 : List (S75)) (r1 : List (S79)) (r2 : Bool) (w : World) (hr2 : Kd.C k57 w A2 l2.length l2) (hc2 : l2.length ≤ c2) (hr3 : Kd.C k75 w A3 l3.length l3) (hc3 : l3.length ≤ c3) (h : spec_l04Sizes.f k a0 a1 l2 l3 = some (r1, r2)) :
  Calls Try.prog 56 #[.int .i64 a0, .int .i64 a1, .slice A2 l2.length c2, .slice A3 l3.length c3] w fun e w' => ∃ v0_ : Value, e = .returned (.tuple #[v0_, .bool r2]) ∧ Kd.R k79 79 w' w.heap.size (fun _ => True) v0_ r1 ∧ Below w.heap.size w w' := by
 have hu79 := Try.underlying79
 have hu75 := Try.underlying75
 have HR2 := Aside0.mk hr2
 have HC2 := Aside0.mk hc2
 clear hr2 hc2
 have HR3 := Aside0.mk hr3
 have HC3 := Aside0.mk hc3
 clear hr3 hc3
 have HB := Aside0.mk (Below.refl w.heap.size w)
 have H : ((spec_l04Plate.f a0).bind fun t161 => (if t161 = true then ((spec_l04Plate.f a1).bind fun t162 => (if t162 = true then ((spec_l04Kinds.f k l2).bind fun t163 => (if t163 = true then ((spec_l00In.f (l3.length : Int) 1 60).bind fun t164 => (spec_l04Sizes.j0 k a0 a1 l2 l3 (!t164))) else (spec_l04Sizes.j0 k a0 a1 l2 l3 true))) else (spec_l04Sizes.j0 k a0 a1 l2 l3 true))) else (spec_l04Sizes.j0 k a0 a1 l2 l3 true))) = some (r1, r2) := h
 clear h
 have HC5 := Aside0.mk H
 clear H
 go_enter Try.func56, Try.ntmps56
 go_upto_region 1 with (fail)
 go_cut [33] (fun v33 wc => ∃ (kq : Nat) (x33_4 : Bool), v33 = .bool x33_4 ∧ Aside0 (spec_l04Sizes.j0 kq a0 a1 l2 l3 x33_4 = some (r1, r2)) ∧ Aside0 (kq ≤ k) ∧ Aside0 (Below w.heap.size w wc))
 case first =>
  have H := HC5.out
  clear HC5
  replace H := Option.bind_eq_some_iff.mp H
  obtain ⟨t161, A60, H⟩ := H
  replace H : (if t161 = true then ((spec_l04Plate.f a1).bind fun t162 => (if t162 = true then ((spec_l04Kinds.f k l2).bind fun t163 => (if t163 = true then ((spec_l00In.f (l3.length : Int) 1 60).bind fun t164 => (spec_l04Sizes.j0 k a0 a1 l2 l3 (!t164))) else (spec_l04Sizes.j0 k a0 a1 l2 l3 true))) else (spec_l04Sizes.j0 k a0 a1 l2 l3 true))) else (spec_l04Sizes.j0 k a0 a1 l2 l3 true)) = some (r1, r2) := H
  have A6 := Aside0.mk A60
  clear A60
  by_cases c7 : t161 = true
  rotate_left
  ·
   replace c7 := Bool.eq_false_iff.mpr c7
   subst c7
   have H1 : (spec_l04Sizes.j0 k a0 a1 l2 l3 true) = some (r1, r2) := by rw [if_neg (show ¬ (false = true) by decide)] at H; exact H
   clear H
   have H := H1
   clear H1
   have H' := Aside0.mk H
   clear H
   go_wp2_with (first | ((with_reducible refine gate_callee (f := 67) rfl ?_); refine goesL_ (some 16) rfl rfl Try.func67 (by kernel_rfl) rfl #[.int .i64 a0] rfl (by (try simp only [List.map_toArray, List.map_cons, List.map_nil]); first | done | rfl | (simp only [List.length_drop, List.length_take]; rfl)) ?_; (with_reducible refine (spec_l04Plate.calls a0 false _ A6.out).mono ?_); rintro e w' ⟨rfl, ⟨nd, rfl⟩⟩; refine ⟨_, rfl, ?_⟩))
   go_meet
   case rel => exact ⟨_, (true), (by first | rfl | (simp; done) | (simp [*]; done)), H', ⟨by first | omega | exact Nat.le_refl _⟩, ⟨kB_ HB⟩⟩
  subst c7
  have H1 : ((spec_l04Plate.f a1).bind fun t162 => (if t162 = true then ((spec_l04Kinds.f k l2).bind fun t163 => (if t163 = true then ((spec_l00In.f (l3.length : Int) 1 60).bind fun t164 => (spec_l04Sizes.j0 k a0 a1 l2 l3 (!t164))) else (spec_l04Sizes.j0 k a0 a1 l2 l3 true))) else (spec_l04Sizes.j0 k a0 a1 l2 l3 true))) = some (r1, r2) := by rw [if_pos rfl] at H; exact H
  clear H
  have H := H1
  clear H1
  replace H := Option.bind_eq_some_iff.mp H
  obtain ⟨t162, A80, H⟩ := H
  replace H : (if t162 = true then ((spec_l04Kinds.f k l2).bind fun t163 => (if t163 = true then ((spec_l00In.f (l3.length : Int) 1 60).bind fun t164 => (spec_l04Sizes.j0 k a0 a1 l2 l3 (!t164))) else (spec_l04Sizes.j0 k a0 a1 l2 l3 true))) else (spec_l04Sizes.j0 k a0 a1 l2 l3 true)) = some (r1, r2) := H
  have A8 := Aside0.mk A80
  clear A80
  by_cases c9 : t162 = true
  ·
   subst c9
   have H1 : ((spec_l04Kinds.f k l2).bind fun t163 => (if t163 = true then ((spec_l00In.f (l3.length : Int) 1 60).bind fun t164 => (spec_l04Sizes.j0 k a0 a1 l2 l3 (!t164))) else (spec_l04Sizes.j0 k a0 a1 l2 l3 true))) = some (r1, r2) := by rw [if_pos rfl] at H; exact H
   clear H
   have H := H1
   clear H1
   replace H := Option.bind_eq_some_iff.mp H
   obtain ⟨t163, A100, H⟩ := H
   replace H : (if t163 = true then ((spec_l00In.f (l3.length : Int) 1 60).bind fun t164 => (spec_l04Sizes.j0 k a0 a1 l2 l3 (!t164))) else (spec_l04Sizes.j0 k a0 a1 l2 l3 true)) = some (r1, r2) := H
   have A10 := Aside0.mk A100
   clear A100
   by_cases c11 : t163 = true
   ·
    subst c11
    have H1 : ((spec_l00In.f (l3.length : Int) 1 60).bind fun t164 => (spec_l04Sizes.j0 k a0 a1 l2 l3 (!t164))) = some (r1, r2) := by rw [if_pos rfl] at H; exact H
    clear H
    have H := H1
    clear H1
    replace H := Option.bind_eq_some_iff.mp H
    obtain ⟨t164, A120, H⟩ := H
    replace H : (spec_l04Sizes.j0 k a0 a1 l2 l3 (!t164)) = some (r1, r2) := H
    have A12 := Aside0.mk A120
    clear A120
    have H' := Aside0.mk H
    clear H
    go_wp2_with (first | ((with_reducible refine gate_callee (f := 67) rfl ?_); refine goesL_ (some 16) rfl rfl Try.func67 (by kernel_rfl) rfl #[.int .i64 a0] rfl (by (try simp only [List.map_toArray, List.map_cons, List.map_nil]); first | done | rfl | (simp only [List.length_drop, List.length_take]; rfl)) ?_; (with_reducible refine (spec_l04Plate.calls a0 true _ A6.out).mono ?_); rintro e w' ⟨rfl, ⟨nd, rfl⟩⟩; refine ⟨_, rfl, ?_⟩) | (go_at_call 67; (with_reducible refine (spec_l04Plate.calls a1 true _ A8.out).mono ?_); rintro e w' ⟨rfl, ⟨nd, rfl⟩⟩) | (go_at_call 45; (with_reducible refine (spec_l04Kinds.calls k _ _ l2 true _ ?side1 ?side2 A10.out).mono ?_); (case side1 => repeat (first | exact (Kd.C_below HR2.out (kB_ HB)) | (with_reducible refine Kd.C_alloc ?_ _) | (with_reducible refine Kd.C_drewN ?_ _) | (with_reducible refine Kd.C_drew ?_))); (case side2 => exact HC2.out); rintro e w' ⟨rfl, ⟨nd, rfl⟩⟩) | (go_at_call 68; (with_reducible refine (spec_l00In.calls (l3.length : Int) 1 60 t164 _ A12.out).mono ?_); rintro e w' ⟨rfl, ⟨nd, rfl⟩⟩))
    go_meet
    case rel => exact ⟨_, (!t164), (by first | rfl | (simp; done) | (simp [*]; done)), H', ⟨by first | omega | exact Nat.le_refl _⟩, ⟨kB_ HB⟩⟩
   ·
    replace c11 := Bool.eq_false_iff.mpr c11
    subst c11
    have H1 : (spec_l04Sizes.j0 k a0 a1 l2 l3 true) = some (r1, r2) := by rw [if_neg (show ¬ (false = true) by decide)] at H; exact H
    clear H
    have H := H1
    clear H1
    have H' := Aside0.mk H
    clear H
    go_wp2_with (first | ((with_reducible refine gate_callee (f := 67) rfl ?_); refine goesL_ (some 16) rfl rfl Try.func67 (by kernel_rfl) rfl #[.int .i64 a0] rfl (by (try simp only [List.map_toArray, List.map_cons, List.map_nil]); first | done | rfl | (simp only [List.length_drop, List.length_take]; rfl)) ?_; (with_reducible refine (spec_l04Plate.calls a0 true _ A6.out).mono ?_); rintro e w' ⟨rfl, ⟨nd, rfl⟩⟩; refine ⟨_, rfl, ?_⟩) | (go_at_call 67; (with_reducible refine (spec_l04Plate.calls a1 true _ A8.out).mono ?_); rintro e w' ⟨rfl, ⟨nd, rfl⟩⟩) | (go_at_call 45; (with_reducible refine (spec_l04Kinds.calls k _ _ l2 false _ ?side1 ?side2 A10.out).mono ?_); (case side1 => repeat (first | exact (Kd.C_below HR2.out (kB_ HB)) | (with_reducible refine Kd.C_alloc ?_ _) | (with_reducible refine Kd.C_drewN ?_ _) | (with_reducible refine Kd.C_drew ?_))); (case side2 => exact HC2.out); rintro e w' ⟨rfl, ⟨nd, rfl⟩⟩))
    go_meet
    case rel => exact ⟨_, (true), (by first | rfl | (simp; done) | (simp [*]; done)), H', ⟨by first | omega | exact Nat.le_refl _⟩, ⟨kB_ HB⟩⟩
  ·
   replace c9 := Bool.eq_false_iff.mpr c9
   subst c9
   have H1 : (spec_l04Sizes.j0 k a0 a1 l2 l3 true) = some (r1, r2) := by rw [if_neg (show ¬ (false = true) by decide)] at H; exact H
   clear H
   have H := H1
   clear H1
   have H' := Aside0.mk H
   clear H
   go_wp2_with (first | ((with_reducible refine gate_callee (f := 67) rfl ?_); refine goesL_ (some 16) rfl rfl Try.func67 (by kernel_rfl) rfl #[.int .i64 a0] rfl (by (try simp only [List.map_toArray, List.map_cons, List.map_nil]); first | done | rfl | (simp only [List.length_drop, List.length_take]; rfl)) ?_; (with_reducible refine (spec_l04Plate.calls a0 true _ A6.out).mono ?_); rintro e w' ⟨rfl, ⟨nd, rfl⟩⟩; refine ⟨_, rfl, ?_⟩) | (go_at_call 67; (with_reducible refine (spec_l04Plate.calls a1 false _ A8.out).mono ?_); rintro e w' ⟨rfl, ⟨nd, rfl⟩⟩))
   go_meet
   case rel => exact ⟨_, (true), (by first | rfl | (simp; done) | (simp [*]; done)), H', ⟨by first | omega | exact Nat.le_refl _⟩, ⟨kB_ HB⟩⟩
 case rest =>
  clear HC5
  try clear c1
  try clear c2
  try clear p2
  try clear c3
  try clear c5
  try clear c6
  try clear c7
  try clear c9
  try clear c11
  obtain ⟨kq, x33_4, rfl, HA, HJ4, HB⟩ := hcut
  cases kq with
  | zero => exact absurd HA.out (by simp [spec_l04Sizes.j0])
  | succ kj4 =>
   have H := HA.out
   clear HA
   simp only [spec_l04Sizes.j0] at H
   by_cases c13 : x33_4 = true
   ·
    subst c13
    have H1 : (some ((([] : List (S79))), false)) = some (r1, r2) := by rw [if_pos rfl] at H; exact H
    clear H
    have H := H1
    clear H1
    obtain ⟨y165, hy165⟩ : ∃ y_ : List (S79), y_ = (([] : List (S79))) := ⟨_, rfl⟩
    replace H : (some (y165, false)) = some (r1, r2) := by first | (rw [hy165]; with_reducible exact H) | (have H2_ := (Option.bind_some _ _).symm.trans H; rw [hy165]; with_reducible exact H2_) | (have H2_ := (Option.bind_some _ _).symm.trans H; with_reducible exact H2_) | with_reducible exact H | (rw [hy165]; exact H) | exact H
    have Ny165 := Aside0.mk hy165
    clear hy165
    simp only [Option.some.injEq, Prod.mk.injEq] at H
    obtain ⟨rfl, rfl⟩ := H
    go_wp2_with (first | ((with_reducible refine gate_dst (N := 34) rfl ?_); (try (refine gate_guard (by rfl) ?_; dsimp only)); refine Kd.R_lit k79 _ 79 ?hg (N := 34) ?hd (xs := ([] : List (S79))) (inner := []) (ok := fun _ => True) (okp := fun _ => True) ?hr ?hp (fun _ hk => hk) trivial (Below.refl _ _) (Nat.le_refl _) (by simp) ?_; (case hd => rfl); (case hg => rfl); (case hr => first | (go_simp; done) | (go_simp; rfl)); (case hp => exact (Reps.none _ _)); intro v166 w14 ho15 hb hg_ hnew_; clear hg_ hnew_; (first | rw [← Ny165.out] at ho15 | (simp only [Int.reduceToNat] at ho15; rw [← Ny165.out] at ho15)); have n0_ := Aside0.mk (Kd.R_lower ho15 (below_size (kB_ HB))); have n1_ := Aside0.mk (below_step (kB_ HB) hb); clear HB; have HO167 := n0_; have HB := n1_; clear n0_ n1_; clear hb ho15))
    go_ret2
    exact ⟨_, by first | rfl | (simp [errW_none, errW_some] <;> rfl) | (simp [*, errW_none, errW_some] <;> rfl), by (with_reducible repeat (first | apply Kd.R_alloc | apply Kd.R_drewN | apply Kd.R_drew)); exact HO167.out, kB_ HB⟩
   replace c13 := Bool.eq_false_iff.mpr c13
   subst c13
   have H1 : (if 0 ≤ (l3.length : Int) then (if ((l3.length : Int) : Int).toNat ≤ 17592186044416 then ((some (List.replicate ((l3.length : Int) : Int).toNat z79 : List (S79))).bind fun y168 => (if 0 < (y168.length : Int) then (spec_l04Sizes.l0 kj4 l2 l3 (y168.set (0 : Int).toNat (⟨a0, a1⟩ : S79)) 0) else (none))) else (none)) else (none)) = some (r1, r2) := by rw [if_neg (show ¬ (false = true) by decide)] at H; exact H
   clear H
   have H := H1
   clear H1
   by_cases c16 : 0 ≤ (l3.length : Int)
   rotate_left
   ·
    rw [if_neg c16] at H
    exact absurd H (by simp)

   rw [if_pos c16] at H
   have c16b0 := eq_true c16
   have c16b1 : decide (0 ≤ (l3.length : Int)) = true := decide_eq_true c16
   clear c16
   by_cases c17 : ((l3.length : Int) : Int).toNat ≤ 17592186044416
   rotate_left
   ·
    rw [if_neg c17] at H
    exact absurd H (by simp)
   rw [if_pos c17] at H
   have c17b0 := eq_true c17
   have c17b1 : decide (((l3.length : Int) : Int).toNat ≤ 17592186044416) = true := decide_eq_true c17
   clear c17
   obtain ⟨y168, hy168⟩ : ∃ y_ : List (S79), y_ = (List.replicate ((l3.length : Int) : Int).toNat z79) := ⟨_, rfl⟩
   replace H : (if 0 < (y168.length : Int) then (spec_l04Sizes.l0 kj4 l2 l3 (y168.set (0 : Int).toNat (⟨a0, a1⟩ : S79)) 0) else (none)) = some (r1, r2) := by first | (rw [hy168]; with_reducible exact H) | (have H2_ := (Option.bind_some _ _).symm.trans H; rw [hy168]; with_reducible exact H2_) | (have H2_ := (Option.bind_some _ _).symm.trans H; with_reducible exact H2_) | with_reducible exact H | (rw [hy168]; exact H) | exact H
   have Ny168 := Aside0.mk hy168
   clear hy168
   by_cases c18 : 0 < (y168.length : Int)
   rotate_left
   ·
    rw [if_neg c18] at H
    exact absurd H (by simp)
   rw [if_pos c18] at H
   have c18b0 : decide (0 < (y168.length : Int)) = true := decide_eq_true c18
   have c18b1 : decide (0 < y168.length) = true := decide_eq_true (by omega)
   clear c18
   obtain ⟨y171, hy171⟩ : ∃ y_ : List (S79), y_ = (y168.set (0 : Int).toNat (⟨a0, a1⟩ : S79)) := ⟨_, rfl⟩
   replace H : (spec_l04Sizes.l0 kj4 l2 l3 y171 0) = some (r1, r2) := by first | (rw [hy171]; with_reducible exact H) | (have H2_ := (Option.bind_some _ _).symm.trans H; rw [hy171]; with_reducible exact H2_) | (have H2_ := (Option.bind_some _ _).symm.trans H; with_reducible exact H2_) | with_reducible exact H | (rw [hy171]; exact H) | exact H
   have Ny171 := Aside0.mk hy171
   clear hy171
   have H' := Aside0.mk H
   clear H
   go_wp2_with (first | ((with_reducible refine gate_dst (N := 37) rfl ?_); (try (refine gate_guard (by rfl) ?_; dsimp only)); refine Kd.R_make k79 _ 79 rfl (N := 37) rfl 40 _ _ rfl (l3.length : Int) rfl rfl Try.underlying40 (.agg #[(.int .i64 0), (.int .i64 0)]) 16 info79 rfl (by decide) (by omega) z79 (ok := fun _ => True) (okp := fun _ => True) (k79_mkM _ _ _ z79 ) (fun _ hk => hk) trivial od_ (Nat.le_trans (Nat.mul_le_mul_right _ (od_ : (l3.length : Int).toNat ≤ 17592186044416)) (by omega)) (Below.refl _ _) (Nat.le_refl _) ?_; intro v169 w20 ho21 hb hg_ hnew_; clear hg_ hnew_; (first | rw [← Ny168.out] at ho21 | (simp only [Int.reduceToNat] at ho21; rw [← Ny168.out] at ho21)); have n0_ := Aside0.mk (Kd.R_lower ho21 (below_size (kB_ HB))); have n1_ := Aside0.mk (below_step (kB_ HB) hb); clear HB; have HO170 := n0_; have HB := n1_; clear n0_ n1_; clear hb ho21; have p19 : 0 ≤ (0 : Int) := (by omega); have q19 : (0 : Int) < ((y168.length : Int) : Int) := od_; have qi19 : (0 < y168.length) = True := eq_true (by omega); obtain ⟨go19, co19, eo19, gb19, gl19, cl19, HG19⟩ := Kd.R_form HO170.out (by omega); (first | cases eo19 | (injection eo19 with ea_ en_ ec_; (first | subst ea_ | (injection ea_ with ea_; subst ea_)); subst ec_; clear en_)); have GB19 := Aside0.mk gb19; have GG19 := Aside0.mk HG19; clear gb19 gl19 HG19; obtain ⟨ce19, hcl19, hM19, hcc19, hfr19⟩ := Kd.R_elem HO170.out z79 (0 : Int) p19 q19; obtain rfl := k79_openM hM19; have hx19_0 : w20.cell? ⟨go19, (0 : Int).toNat * 2, none⟩ = some (.int .i64 ((rd_T79 y168 0).f0)) := hcc19 0 _ rfl; have hx19_1 : w20.cell? ⟨go19, (0 : Int).toNat * 2 + 1, none⟩ = some (.int .i64 ((rd_T79 y168 0).f1)) := hcc19 1 _ rfl; have hf19_0 : w20.frozen? ⟨go19, (0 : Int).toNat * 2, none⟩ = false := hfr19 0; have hf19_1 : w20.frozen? ⟨go19, (0 : Int).toNat * 2 + 1, none⟩ = false := hfr19 1; clear hcl19 hcc19 hfr19; (try clear hM19); (try rw [show ((0 : Int)).toNat = 0 from rfl] at hx19_0); (try simp only [Nat.reduceMul, Nat.zero_mul, Nat.zero_add, Nat.reduceAdd] at hx19_0); (try rw [show ((0 : Int)).toNat = 0 from rfl] at hf19_0); (try simp only [Nat.reduceMul, Nat.zero_mul, Nat.zero_add, Nat.reduceAdd] at hf19_0); (try rw [show ((0 : Int)).toNat = 0 from rfl] at hx19_1); (try simp only [Nat.reduceMul, Nat.zero_mul, Nat.zero_add, Nat.reduceAdd] at hx19_1); (try rw [show ((0 : Int)).toNat = 0 from rfl] at hf19_1); (try simp only [Nat.reduceMul, Nat.zero_mul, Nat.zero_add, Nat.reduceAdd] at hf19_1); replace p19 := eq_true p19; replace q19 := eq_true q19; have HX22 := Aside0.mk (show Kd.R k79 79 w20 w.heap.size (fun _ => True) (.slice (some ⟨go19, 0, none⟩) y168.length co19) y168 from (kp_ HO170)); obtain ⟨ce22, hcl22, hM22, hcc22, hfr22⟩ := Kd.R_elem HX22.out z79 (0 : Int) (by omega) (by have h_ : (0 : Int) < ((y168.length : Int) : Int) := od_; first | exact h_ | (have e_ := (Kd.R_reads' HO170.out).1; omega) | simpa using h_); obtain rfl := k79_openM hM22; have HP22 := Kd.R_seg HX22.out (0 : Int) (by omega) (by have h_ : (0 : Int) < ((y168.length : Int) : Int) := od_; first | exact h_ | (have e_ := (Kd.R_reads' HO170.out).1; omega) | simpa using h_) (seg := [.int .i64 a0, .int .i64 a1]) (j := 0) hcl22 hcc22 (show 2 ≤ 2 from by decide) (x' := (⟨a0, a1⟩ : S79)) (k79_mkM _ _ _ (⟨a0, a1⟩ : S79) ) (fun _ hk => hk); have hx22_0 := hcc22 0 _ rfl; (try simp only [show (k79).sz = 2 from rfl, Nat.mul_one, Nat.add_zero] at hx22_0); (try rw [show ((0 : Int)).toNat = 0 from rfl] at hx22_0); (try simp only [Nat.reduceMul, Nat.zero_mul, Nat.zero_add, Nat.reduceAdd] at hx22_0); have hf22_0 := hfr22 0; (try simp only [show (k79).sz = 2 from rfl, Nat.mul_one, Nat.add_zero] at hf22_0); (try rw [show ((0 : Int)).toNat = 0 from rfl] at hf22_0); (try simp only [Nat.reduceMul, Nat.zero_mul, Nat.zero_add, Nat.reduceAdd] at hf22_0); have hx22_1 := hcc22 1 _ rfl; (try simp only [show (k79).sz = 2 from rfl, Nat.mul_one, Nat.add_zero] at hx22_1); (try rw [show ((0 : Int)).toNat = 0 from rfl] at hx22_1); (try simp only [Nat.reduceMul, Nat.zero_mul, Nat.zero_add, Nat.reduceAdd] at hx22_1); have hf22_1 := hfr22 1; (try simp only [show (k79).sz = 2 from rfl, Nat.mul_one, Nat.add_zero] at hf22_1); (try rw [show ((0 : Int)).toNat = 0 from rfl] at hf22_1); (try simp only [Nat.reduceMul, Nat.zero_mul, Nat.zero_add, Nat.reduceAdd] at hf22_1); clear hcl22 hcc22 hfr22; (try clear hM22)) | ((with_reducible refine gate_store (t := 79) (p := 42) rfl ?_); refine store_event (t := 79) (p := 42) (v := ?vo_w23) (w1 := ((w20.setCell ⟨go19, 0, none⟩ (.int .i64 a0)).setCell ⟨go19, 1, none⟩ (.int .i64 a1))) ?hg ?ho ?hn ?hr ?_; (case ho => rfl); (case hg => rfl); (case hn => rfl); (case hr => first | (go_simp; done) | (go_simp; rfl)); intro w23 hw; have hg : w20.grownBy w23 (some go19) := (by rw [hw]; exact HP22.2); have hp_ : Kd.R k79 79 w23 w.heap.size (fun _ => True) (.slice (some ⟨go19, 0, none⟩) y168.length co19) y171 := (by rw [hw, Ny171.out]; exact HP22.1); clear HP22; have n0_ := Aside0.mk (hp_); have n1_ := Aside0.mk ((by rw [hw]; exact below_set (below_set (HB.out) GB19.out) GB19.out : Below w.heap.size w w23)); clear HO170; clear HB; have HO170 := n0_; have HB := n1_; clear n0_ n1_; clear hg hw hp_))
   go_loopg [11] kj4 (fun kq v11 w' => ∃ (x10_2 : List (S79)) (x11_2 : Int), v11 = .int .i64 x11_2 ∧ Aside0 (spec_l04Sizes.l0 kq l2 l3 x10_2 x11_2 = some (r1, r2)) ∧ Aside0 (kq ≤ kj4) ∧ Aside0 (Kd.R k79 79 w' w.heap.size (fun _ => True) (.slice (some ⟨go19, 0, none⟩) y168.length co19) x10_2) ∧ Aside0 (Below w.heap.size w w'))
   case atStart => exact ⟨(y171), (0), (by first | rfl | (simp; done) | (simp [*]; done)), H', ⟨Nat.le_refl _⟩, ⟨kp_ HO170⟩, ⟨kB_ HB⟩⟩
   case round =>
    clear H'
    try clear c1
    try clear p1
    try clear q1
    try clear hx1
    try clear qi1
    try clear c2
    try clear p2
    try clear hx2
    try clear c3
    try clear c5
    try clear c6
    try clear c7
    try clear c9
    try clear c11
    try clear c13
    try clear c16
    try clear c16b0
    try clear c16b1
    try clear c17
    try clear c17b0
    try clear c17b1
    try clear c18
    try clear c18b0
    try clear c18b1
    try clear c19
    try clear p19
    try clear q19
    try clear hx19
    try clear qi19
    try clear hf19
    try clear c22
    try clear hx22
    try clear hf22
    try clear hx19_0
    try clear hx19_1
    try clear hx22_0
    try clear hx22_1
    try clear p19
    try clear p2
    try clear q19
    obtain ⟨x10_2, x11_2, rfl, HA, HK2, HO_10, HB⟩ := hrel
    have hl10_2 := (Kd.R_reads' HO_10.out).1
    rw [hl10_2] at HO_10
    (try simp only [hl10_2])
    cases gk with
    | zero => exact absurd HA.out (by simp [spec_l04Sizes.l0])
    | succ k2 =>
     have H := HA.out
     clear HA
     simp only [spec_l04Sizes.l0] at H
     by_cases c24 : x11_2 < (l3.length : Int)
     rotate_left
     ·
      rw [if_neg c24] at H
      have c24b0 : decide (x11_2 < (l3.length : Int)) = false := decide_eq_false c24
      clear c24
      simp only [Option.some.injEq, Prod.mk.injEq] at H
      obtain ⟨rfl, rfl⟩ := H
      go_wp2
      go_ret2
      exact ⟨_, by first | rfl | (simp [errW_none, errW_some] <;> rfl) | (simp [*, errW_none, errW_some] <;> rfl), by (with_reducible repeat (first | apply Kd.R_alloc | apply Kd.R_drewN | apply Kd.R_drew)); exact HO_10.out, kB_ HB⟩
     rw [if_pos c24] at H
     have c24b0 : decide (x11_2 < (l3.length : Int)) = true := decide_eq_true c24
     clear c24
     by_cases c25 : 0 ≤ x11_2
     rotate_left
     ·
      rw [if_neg c25] at H
      exact absurd H (by simp)
     rw [if_pos c25] at H
     have c25b0 : decide (0 ≤ x11_2) = true := decide_eq_true c25
     clear c25
     by_cases c26 : x11_2 < (x10_2.length : Int)
     rotate_left
     ·
      rw [if_neg c26] at H
      exact absurd H (by simp)
     rw [if_pos c26] at H
     have c26b0 : decide (x11_2 < (x10_2.length : Int)) = true := decide_eq_true c26
     clear c26
     by_cases c27 : ((rd_T79 x10_2 x11_2).f0) = 0
     ·
      rw [if_pos c27] at H
      have c27b0 : (((rd_T79 x10_2 x11_2).f0) == 0) = true := beq_iff_eq.mpr c27
      have c27b1 : (((rd_T79 x10_2 x11_2).f0) != 0) = false := bne_eq_false_iff_eq.mpr c27
      clear c27
      obtain ⟨y176, hy176⟩ : ∃ y_ : List (S79), y_ = (([] : List (S79))) := ⟨_, rfl⟩
      replace H : (some (y176, false)) = some (r1, r2) := by first | (rw [hy176]; with_reducible exact H) | (have H2_ := (Option.bind_some _ _).symm.trans H; rw [hy176]; with_reducible exact H2_) | (have H2_ := (Option.bind_some _ _).symm.trans H; with_reducible exact H2_) | with_reducible exact H | (rw [hy176]; exact H) | exact H
      have Ny176 := Aside0.mk hy176
      clear hy176
      simp only [Option.some.injEq, Prod.mk.injEq] at H
      obtain ⟨rfl, rfl⟩ := H
      have p172 : 0 ≤ (x11_2 : Int) := od_
      have q172 : x11_2 < (l3.length : Int) := od_
      obtain ⟨ad172, e172, hx172_0, hx172_1, hx172_2, hx172_3⟩ := at_T75 HR3.out x11_2 p172 q172
      cases e172
      replace hx172_0 := (HB.out.cell (World.block_lt_of_cell? w _ hx172_0)).trans hx172_0
      replace hx172_1 := (HB.out.cell (World.block_lt_of_cell? w _ hx172_1)).trans hx172_1
      replace hx172_2 := (HB.out.cell (World.block_lt_of_cell? w _ hx172_2)).trans hx172_2
      replace hx172_3 := (HB.out.cell (World.block_lt_of_cell? w _ hx172_3)).trans hx172_3
      replace p172 := eq_true p172
      replace q172 := eq_true q172
      go_wp2_with (first | ((with_reducible refine gate_dst (N := 12) rfl ?_); (try (refine gate_guard (by rfl) ?_; dsimp only)); refine box_event ?hg (N := 12) ?hd (cs := #[.int .i8 0, .int .i8 0, .int .i8 0, .int .i8 0]) (t := 75) ?hr ?_; (case hd => rfl); (case hg => rfl); (case hr => first | (go_simp; done) | (go_simp; rfl)); intro gb173 hg w28 hbox hb; have n0_ := Aside0.mk (Kd.R_below (kp_ HO_10) hb); have n1_ := Aside0.mk (below_step (kB_ HB) hb); have n2_ := Aside0.mk (hbox); have n3_ := Aside0.mk ((by rw [hg]; exact (below_size (kB_ HB)) : w.heap.size ≤ gb173)); have n4_ := Aside0.mk ((by rw [hg]; exact (below_size (kB_ HB)) : w.heap.size ≤ gb173)); clear HO_10; clear HB; have HO_10 := n0_; have HB := n1_; have BK173 := n2_; have GW173 := n3_; have GE173 := n4_; clear n0_ n1_ n2_ n3_ n4_; clear hb hbox hg; have hcz29_0 : w28.cell? ⟨gb173, 0, none⟩ = some (.int .i8 0) := (blk_cell BK173.out 0).trans rfl; have hcz29_1 : w28.cell? ⟨gb173, 1, none⟩ = some (.int .i8 0) := (blk_cell BK173.out 1).trans rfl; have hcz29_2 : w28.cell? ⟨gb173, 2, none⟩ = some (.int .i8 0) := (blk_cell BK173.out 2).trans rfl; have hcz29_3 : w28.cell? ⟨gb173, 3, none⟩ = some (.int .i8 0) := (blk_cell BK173.out 3).trans rfl; have hfz29_0 := blk_frozen BK173.out 0; have hfz29_1 := blk_frozen BK173.out 1; have hfz29_2 := blk_frozen BK173.out 2; have hfz29_3 := blk_frozen BK173.out 3; have p174 : 0 ≤ (x11_2 : Int) := od_; have q174 : x11_2 < (x10_2.length : Int) := od_; obtain ⟨ad174, e174, hx174_0, hx174_1⟩ := at_T79 (Kd.R_reads' HO_10.out).2.2 x11_2 p174 q174; obtain rfl : (⟨go19, 0, none⟩ : Addr) = ad174 := (by injection e174); (first | simp only [add_plain] at hx174_0 | simp only [add_at] at hx174_0 | simp only [Addr.add, Nat.zero_add] at hx174_0 | skip); (first | simp only [add_plain] at hx174_1 | simp only [add_at] at hx174_1 | simp only [Addr.add, Nat.zero_add] at hx174_1 | skip); have hn174_0 : (⟨go19, 0, none⟩ : Addr).block ≠ gb173 := Kd.own_blk (Kd.R_ne HO_10.out BK173.out (by decide)); have hn174_1 : (⟨go19, 0, none⟩ : Addr).block ≠ gb173 := Kd.own_blk (Kd.R_ne HO_10.out BK173.out (by decide)); have hn174_2 : (⟨go19, 0, none⟩ : Addr).block ≠ gb173 := Kd.own_blk (Kd.R_ne HO_10.out BK173.out (by decide)); have hn174_3 : (⟨go19, 0, none⟩ : Addr).block ≠ gb173 := Kd.own_blk (Kd.R_ne HO_10.out BK173.out (by decide)); replace hx174_0 := (cell_far (p := ⟨gb173, 0, none⟩) (by first | (rw [add_block]; exact hn174_0) | (show (Addr.add _ _).block ≠ _; rw [add_block]; exact hn174_0) | exact hn174_0) (.int .i8 ((rd_T75 l3 x11_2).f0))).trans hx174_0; replace hx174_1 := (cell_far (p := ⟨gb173, 0, none⟩) (by first | (rw [add_block]; exact hn174_0) | (show (Addr.add _ _).block ≠ _; rw [add_block]; exact hn174_0) | exact hn174_0) (.int .i8 ((rd_T75 l3 x11_2).f0))).trans hx174_1; replace hx174_0 := (cell_far (p := ⟨gb173, 1, none⟩) (by first | (rw [add_block]; exact hn174_1) | (show (Addr.add _ _).block ≠ _; rw [add_block]; exact hn174_1) | exact hn174_1) (.int .i8 ((rd_T75 l3 x11_2).f1))).trans hx174_0; replace hx174_1 := (cell_far (p := ⟨gb173, 1, none⟩) (by first | (rw [add_block]; exact hn174_1) | (show (Addr.add _ _).block ≠ _; rw [add_block]; exact hn174_1) | exact hn174_1) (.int .i8 ((rd_T75 l3 x11_2).f1))).trans hx174_1; replace hx174_0 := (cell_far (p := ⟨gb173, 2, none⟩) (by first | (rw [add_block]; exact hn174_2) | (show (Addr.add _ _).block ≠ _; rw [add_block]; exact hn174_2) | exact hn174_2) (.int .i8 ((rd_T75 l3 x11_2).f2))).trans hx174_0; replace hx174_1 := (cell_far (p := ⟨gb173, 2, none⟩) (by first | (rw [add_block]; exact hn174_2) | (show (Addr.add _ _).block ≠ _; rw [add_block]; exact hn174_2) | exact hn174_2) (.int .i8 ((rd_T75 l3 x11_2).f2))).trans hx174_1; replace hx174_0 := (cell_far (p := ⟨gb173, 3, none⟩) (by first | (rw [add_block]; exact hn174_3) | (show (Addr.add _ _).block ≠ _; rw [add_block]; exact hn174_3) | exact hn174_3) (.int .i8 ((rd_T75 l3 x11_2).f3))).trans hx174_0; replace hx174_1 := (cell_far (p := ⟨gb173, 3, none⟩) (by first | (rw [add_block]; exact hn174_3) | (show (Addr.add _ _).block ≠ _; rw [add_block]; exact hn174_3) | exact hn174_3) (.int .i8 ((rd_T75 l3 x11_2).f3))).trans hx174_1; clear hn174_0; clear hn174_1; clear hn174_2; clear hn174_3; replace p174 := eq_true p174; replace q174 := eq_true q174) | ((with_reducible refine gate_dst (N := 13) rfl ?_); (try (refine gate_guard (by rfl) ?_; dsimp only)); refine box_event ?hg (N := 13) ?hd (cs := #[.int .i64 0, .int .i64 0]) (t := 79) ?hr ?_; (case hd => rfl); (case hg => rfl); (case hr => first | (go_simp; done) | (go_simp; rfl)); intro gb175 hg w30 hbox hb; have n0_ := Aside0.mk (Kd.R_below (Kd.R_elderB (by (with_reducible repeat (first | apply Kd.R_alloc | apply Kd.R_drewN | apply Kd.R_drew)); exact (Kd.R_mono (Kd.R_far (p := ⟨gb173, 3, none⟩) (Kd.R_far (p := ⟨gb173, 2, none⟩) (Kd.R_far (p := ⟨gb173, 1, none⟩) (Kd.R_far (p := ⟨gb173, 0, none⟩) (Kd.R_types HO_10.out BK173.out (by decide)) (fun _ hk => hk.2) (.int .i8 ((rd_T75 l3 x11_2).f0))) (fun _ hk => hk.2) (.int .i8 ((rd_T75 l3 x11_2).f1))) (fun _ hk => hk.2) (.int .i8 ((rd_T75 l3 x11_2).f2))) (fun _ hk => hk.2) (.int .i8 ((rd_T75 l3 x11_2).f3))) (fun _ h_ => h_.1))) gb175 (Nat.le_of_eq hg.symm)) hb); have n1_ := Aside0.mk (blk_below (g := gb173) (o := .cells #[.int .i8 ((rd_T75 l3 x11_2).f0), .int .i8 ((rd_T75 l3 x11_2).f1), .int .i8 ((rd_T75 l3 x11_2).f2), .int .i8 ((rd_T75 l3 x11_2).f3)] 75 (0, 0)) (by (with_reducible repeat (first | refine blk_drewN ?_ _ | refine blk_drew ?_ | refine blk_alloc ?_ _)); refine blk_put (cs := #[.int .i8 ((rd_T75 l3 x11_2).f0), .int .i8 ((rd_T75 l3 x11_2).f1), .int .i8 ((rd_T75 l3 x11_2).f2), .int .i8 0]) ?_ 3 _ rfl; (with_reducible repeat (first | refine blk_drewN ?_ _ | refine blk_drew ?_ | refine blk_alloc ?_ _)); refine blk_put (cs := #[.int .i8 ((rd_T75 l3 x11_2).f0), .int .i8 ((rd_T75 l3 x11_2).f1), .int .i8 0, .int .i8 0]) ?_ 2 _ rfl; (with_reducible repeat (first | refine blk_drewN ?_ _ | refine blk_drew ?_ | refine blk_alloc ?_ _)); refine blk_put (cs := #[.int .i8 ((rd_T75 l3 x11_2).f0), .int .i8 0, .int .i8 0, .int .i8 0]) ?_ 1 _ rfl; (with_reducible repeat (first | refine blk_drewN ?_ _ | refine blk_drew ?_ | refine blk_alloc ?_ _)); refine blk_put (cs := #[.int .i8 0, .int .i8 0, .int .i8 0, .int .i8 0]) ?_ 0 _ rfl; (with_reducible repeat (first | refine blk_drewN ?_ _ | refine blk_drew ?_ | refine blk_alloc ?_ _)); exact BK173.out) hb); have n2_ := Aside0.mk (below_step (by repeat (first | (with_reducible first | exact HB.out | apply below_alloc | apply pw_below_drewN | apply below_drew1 | refine below_set ?_ GE173.out) | exact HB.out)) hb); have n3_ := Aside0.mk (hbox); have n4_ := Aside0.mk ((by rw [hg]; exact (below_size (by repeat (first | (with_reducible first | exact HB.out | apply below_alloc | apply pw_below_drewN | apply below_drew1 | refine below_set ?_ GE173.out) | exact HB.out))) : w.heap.size ≤ gb175)); have n5_ := Aside0.mk ((by rw [hg]; exact (below_size (by repeat (first | (with_reducible first | exact HB.out | apply below_alloc | apply pw_below_drewN | apply below_drew1 | refine below_set ?_ GE173.out) | exact HB.out))) : w.heap.size ≤ gb175)); have n6_ := Aside0.mk ((by rw [hg]; exact Nat.ne_of_lt (blk_lt (g := gb173) (o := .cells #[.int .i8 ((rd_T75 l3 x11_2).f0), .int .i8 ((rd_T75 l3 x11_2).f1), .int .i8 ((rd_T75 l3 x11_2).f2), .int .i8 ((rd_T75 l3 x11_2).f3)] 75 (0, 0)) (by (with_reducible repeat (first | refine blk_drewN ?_ _ | refine blk_drew ?_ | refine blk_alloc ?_ _)); refine blk_put (cs := #[.int .i8 ((rd_T75 l3 x11_2).f0), .int .i8 ((rd_T75 l3 x11_2).f1), .int .i8 ((rd_T75 l3 x11_2).f2), .int .i8 0]) ?_ 3 _ rfl; (with_reducible repeat (first | refine blk_drewN ?_ _ | refine blk_drew ?_ | refine blk_alloc ?_ _)); refine blk_put (cs := #[.int .i8 ((rd_T75 l3 x11_2).f0), .int .i8 ((rd_T75 l3 x11_2).f1), .int .i8 0, .int .i8 0]) ?_ 2 _ rfl; (with_reducible repeat (first | refine blk_drewN ?_ _ | refine blk_drew ?_ | refine blk_alloc ?_ _)); refine blk_put (cs := #[.int .i8 ((rd_T75 l3 x11_2).f0), .int .i8 0, .int .i8 0, .int .i8 0]) ?_ 1 _ rfl; (with_reducible repeat (first | refine blk_drewN ?_ _ | refine blk_drew ?_ | refine blk_alloc ?_ _)); refine blk_put (cs := #[.int .i8 0, .int .i8 0, .int .i8 0, .int .i8 0]) ?_ 0 _ rfl; (with_reducible repeat (first | refine blk_drewN ?_ _ | refine blk_drew ?_ | refine blk_alloc ?_ _)); exact BK173.out)) : gb173 ≠ gb175)); have n7_ := Aside0.mk ((by rw [hg]; exact Nat.ne_of_gt (blk_lt (g := gb173) (o := .cells #[.int .i8 ((rd_T75 l3 x11_2).f0), .int .i8 ((rd_T75 l3 x11_2).f1), .int .i8 ((rd_T75 l3 x11_2).f2), .int .i8 ((rd_T75 l3 x11_2).f3)] 75 (0, 0)) (by (with_reducible repeat (first | refine blk_drewN ?_ _ | refine blk_drew ?_ | refine blk_alloc ?_ _)); refine blk_put (cs := #[.int .i8 ((rd_T75 l3 x11_2).f0), .int .i8 ((rd_T75 l3 x11_2).f1), .int .i8 ((rd_T75 l3 x11_2).f2), .int .i8 0]) ?_ 3 _ rfl; (with_reducible repeat (first | refine blk_drewN ?_ _ | refine blk_drew ?_ | refine blk_alloc ?_ _)); refine blk_put (cs := #[.int .i8 ((rd_T75 l3 x11_2).f0), .int .i8 ((rd_T75 l3 x11_2).f1), .int .i8 0, .int .i8 0]) ?_ 2 _ rfl; (with_reducible repeat (first | refine blk_drewN ?_ _ | refine blk_drew ?_ | refine blk_alloc ?_ _)); refine blk_put (cs := #[.int .i8 ((rd_T75 l3 x11_2).f0), .int .i8 0, .int .i8 0, .int .i8 0]) ?_ 1 _ rfl; (with_reducible repeat (first | refine blk_drewN ?_ _ | refine blk_drew ?_ | refine blk_alloc ?_ _)); refine blk_put (cs := #[.int .i8 0, .int .i8 0, .int .i8 0, .int .i8 0]) ?_ 0 _ rfl; (with_reducible repeat (first | refine blk_drewN ?_ _ | refine blk_drew ?_ | refine blk_alloc ?_ _)); exact BK173.out)) : gb175 ≠ gb173)); clear HO_10; clear BK173; clear HB; have HO_10 := n0_; have BK173 := n1_; have HB := n2_; have BK175 := n3_; have GW175 := n4_; have GE175 := n5_; have NB173_175 := n6_; have NB175_173 := n7_; clear n0_ n1_ n2_ n3_ n4_ n5_ n6_ n7_; clear hb hbox hg; have hnb31 := NB175_173.out; have hnc31 := NB173_175.out; have hcz32_0 : w30.cell? ⟨gb175, 0, none⟩ = some (.int .i64 0) := (blk_cell BK175.out 0).trans rfl; have hcz32_1 : w30.cell? ⟨gb175, 1, none⟩ = some (.int .i64 0) := (blk_cell BK175.out 1).trans rfl; have hfz32_0 := blk_frozen BK175.out 0; have hfz32_1 := blk_frozen BK175.out 1) | ((with_reducible refine gate_dst (N := 60) rfl ?_); (try (refine gate_guard (by rfl) ?_; dsimp only)); refine Kd.R_lit k79 _ 79 ?hg (N := 60) ?hd (xs := ([] : List (S79))) (inner := []) (ok := fun _ => True) (okp := fun _ => True) ?hr ?hp (fun _ hk => hk) trivial (Below.refl _ _) (Nat.le_refl _) (by simp) ?_; (case hd => rfl); (case hg => rfl); (case hr => first | (go_simp; done) | (go_simp; rfl)); (case hp => exact (Reps.none _ _)); intro v177 w33 ho34 hb hg_ hnew_; clear hg_ hnew_; (first | rw [← Ny176.out] at ho34 | (simp only [Int.reduceToNat] at ho34; rw [← Ny176.out] at ho34)); have n0_ := Aside0.mk (Kd.R_elder' (by (with_reducible repeat (first | apply Kd.R_alloc | apply Kd.R_drewN | apply Kd.R_drew)); exact (Kd.R_mono (Kd.R_far (p := ⟨gb175, 1, none⟩) (Kd.R_far (p := ⟨gb175, 0, none⟩) (Kd.R_mono HO_10.out (fun k_ hk => (⟨hk, hk.2⟩ : _ ∧ k_ ≠ gb175))) (fun _ hk => hk.2) (.int .i64 ((rd_T79 x10_2 x11_2).f0))) (fun _ hk => hk.2) (.int .i64 ((rd_T79 x10_2 x11_2).f1))) (fun _ h_ => h_.1))) (Kd.R_base ho34) hb); have n1_ := Aside0.mk (Kd.R_lower (Kd.R_newB (Kd.R_new' ho34 (Kd.R_lt (by (with_reducible repeat (first | apply Kd.R_alloc | apply Kd.R_drewN | apply Kd.R_drew)); exact (Kd.R_mono (Kd.R_far (p := ⟨gb175, 1, none⟩) (Kd.R_far (p := ⟨gb175, 0, none⟩) (Kd.R_mono HO_10.out (fun k_ hk => (⟨hk, hk.2⟩ : _ ∧ k_ ≠ gb175))) (fun _ hk => hk.2) (.int .i64 ((rd_T79 x10_2 x11_2).f0))) (fun _ hk => hk.2) (.int .i64 ((rd_T79 x10_2 x11_2).f1))) (fun _ h_ => h_.1))))) (g := gb175) (o := .cells #[.int .i64 ((rd_T79 x10_2 x11_2).f0), .int .i64 ((rd_T79 x10_2 x11_2).f1)] 79 (0, 0)) (by (with_reducible repeat (first | refine blk_drewN ?_ _ | refine blk_drew ?_ | refine blk_alloc ?_ _)); refine blk_put (cs := #[.int .i64 ((rd_T79 x10_2 x11_2).f0), .int .i64 0]) ?_ 1 _ rfl; (with_reducible repeat (first | refine blk_drewN ?_ _ | refine blk_drew ?_ | refine blk_alloc ?_ _)); refine blk_put (cs := #[.int .i64 0, .int .i64 0]) ?_ 0 _ rfl; (with_reducible repeat (first | refine blk_drewN ?_ _ | refine blk_drew ?_ | refine blk_alloc ?_ _)); exact BK175.out)) (below_size (kS_ HB GE173 GE175))); have n2_ := Aside0.mk (blk_below (g := gb173) (o := .cells #[.int .i8 ((rd_T75 l3 x11_2).f0), .int .i8 ((rd_T75 l3 x11_2).f1), .int .i8 ((rd_T75 l3 x11_2).f2), .int .i8 ((rd_T75 l3 x11_2).f3)] 75 (0, 0)) (by (with_reducible repeat (first | refine blk_drewN ?_ _ | refine blk_drew ?_ | refine blk_alloc ?_ _)); refine blk_far ?_ NB173_175.out _; (with_reducible repeat (first | refine blk_drewN ?_ _ | refine blk_drew ?_ | refine blk_alloc ?_ _)); refine blk_far ?_ NB173_175.out _; (with_reducible repeat (first | refine blk_drewN ?_ _ | refine blk_drew ?_ | refine blk_alloc ?_ _)); exact BK173.out) hb); have n3_ := Aside0.mk (blk_below (g := gb175) (o := .cells #[.int .i64 ((rd_T79 x10_2 x11_2).f0), .int .i64 ((rd_T79 x10_2 x11_2).f1)] 79 (0, 0)) (by (with_reducible repeat (first | refine blk_drewN ?_ _ | refine blk_drew ?_ | refine blk_alloc ?_ _)); refine blk_put (cs := #[.int .i64 ((rd_T79 x10_2 x11_2).f0), .int .i64 0]) ?_ 1 _ rfl; (with_reducible repeat (first | refine blk_drewN ?_ _ | refine blk_drew ?_ | refine blk_alloc ?_ _)); refine blk_put (cs := #[.int .i64 0, .int .i64 0]) ?_ 0 _ rfl; (with_reducible repeat (first | refine blk_drewN ?_ _ | refine blk_drew ?_ | refine blk_alloc ?_ _)); exact BK175.out) hb); have n4_ := Aside0.mk (below_step (kS_ HB GE173 GE175) hb); clear HO_10; clear BK173; clear BK175; clear HB; have HO_10 := n0_; have HO178 := n1_; have BK173 := n2_; have BK175 := n3_; have HB := n4_; clear n0_ n1_ n2_ n3_ n4_; clear hb ho34))
      go_ret2
      exact ⟨_, by first | rfl | (simp [errW_none, errW_some] <;> rfl) | (simp [*, errW_none, errW_some] <;> rfl), by (with_reducible repeat (first | apply Kd.R_alloc | apply Kd.R_drewN | apply Kd.R_drew)); exact Kd.R_mono HO178.out (fun _ hk => trivial), kS_ HB GE173 GE175⟩
     rw [if_neg c27] at H
     have c27b0 : (((rd_T79 x10_2 x11_2).f0) == 0) = false := beq_eq_false_iff_ne.mpr c27
     have c27b1 : (((rd_T79 x10_2 x11_2).f0) != 0) = true := bne_iff_ne.mpr c27
     have p172 : 0 ≤ (x11_2 : Int) := od_
     have q172 : x11_2 < (l3.length : Int) := od_
     obtain ⟨ad172, e172, hx172_0, hx172_1, hx172_2, hx172_3⟩ := at_T75 HR3.out x11_2 p172 q172
     cases e172
     replace hx172_0 := (HB.out.cell (World.block_lt_of_cell? w _ hx172_0)).trans hx172_0
     replace hx172_1 := (HB.out.cell (World.block_lt_of_cell? w _ hx172_1)).trans hx172_1
     replace hx172_2 := (HB.out.cell (World.block_lt_of_cell? w _ hx172_2)).trans hx172_2
     replace hx172_3 := (HB.out.cell (World.block_lt_of_cell? w _ hx172_3)).trans hx172_3
     replace p172 := eq_true p172
     replace q172 := eq_true q172
     go_upto_region 14 with (first | ((with_reducible refine gate_dst (N := 12) rfl ?_); (try (refine gate_guard (by rfl) ?_; dsimp only)); refine box_event ?hg (N := 12) ?hd (cs := #[.int .i8 0, .int .i8 0, .int .i8 0, .int .i8 0]) (t := 75) ?hr ?_; (case hd => rfl); (case hg => rfl); (case hr => first | (go_simp; done) | (go_simp; rfl)); intro gb173 hg w37 hbox hb; have n0_ := Aside0.mk (Kd.R_below (kp_ HO_10) hb); have n1_ := Aside0.mk (below_step (kB_ HB) hb); have n2_ := Aside0.mk (hbox); have n3_ := Aside0.mk ((by rw [hg]; exact (below_size (kB_ HB)) : w.heap.size ≤ gb173)); have n4_ := Aside0.mk ((by rw [hg]; exact (below_size (kB_ HB)) : w.heap.size ≤ gb173)); clear HO_10; clear HB; have HO_10 := n0_; have HB := n1_; have BK173 := n2_; have GW173 := n3_; have GE173 := n4_; clear n0_ n1_ n2_ n3_ n4_; clear hb hbox hg; have hcz38_0 : w37.cell? ⟨gb173, 0, none⟩ = some (.int .i8 0) := (blk_cell BK173.out 0).trans rfl; have hcz38_1 : w37.cell? ⟨gb173, 1, none⟩ = some (.int .i8 0) := (blk_cell BK173.out 1).trans rfl; have hcz38_2 : w37.cell? ⟨gb173, 2, none⟩ = some (.int .i8 0) := (blk_cell BK173.out 2).trans rfl; have hcz38_3 : w37.cell? ⟨gb173, 3, none⟩ = some (.int .i8 0) := (blk_cell BK173.out 3).trans rfl; have hfz38_0 := blk_frozen BK173.out 0; have hfz38_1 := blk_frozen BK173.out 1; have hfz38_2 := blk_frozen BK173.out 2; have hfz38_3 := blk_frozen BK173.out 3; have p174 : 0 ≤ (x11_2 : Int) := od_; have q174 : x11_2 < (x10_2.length : Int) := od_; obtain ⟨ad174, e174, hx174_0, hx174_1⟩ := at_T79 (Kd.R_reads' HO_10.out).2.2 x11_2 p174 q174; obtain rfl : (⟨go19, 0, none⟩ : Addr) = ad174 := (by injection e174); (first | simp only [add_plain] at hx174_0 | simp only [add_at] at hx174_0 | simp only [Addr.add, Nat.zero_add] at hx174_0 | skip); (first | simp only [add_plain] at hx174_1 | simp only [add_at] at hx174_1 | simp only [Addr.add, Nat.zero_add] at hx174_1 | skip); have hn174_0 : (⟨go19, 0, none⟩ : Addr).block ≠ gb173 := Kd.own_blk (Kd.R_ne HO_10.out BK173.out (by decide)); have hn174_1 : (⟨go19, 0, none⟩ : Addr).block ≠ gb173 := Kd.own_blk (Kd.R_ne HO_10.out BK173.out (by decide)); have hn174_2 : (⟨go19, 0, none⟩ : Addr).block ≠ gb173 := Kd.own_blk (Kd.R_ne HO_10.out BK173.out (by decide)); have hn174_3 : (⟨go19, 0, none⟩ : Addr).block ≠ gb173 := Kd.own_blk (Kd.R_ne HO_10.out BK173.out (by decide)); replace hx174_0 := (cell_far (p := ⟨gb173, 0, none⟩) (by first | (rw [add_block]; exact hn174_0) | (show (Addr.add _ _).block ≠ _; rw [add_block]; exact hn174_0) | exact hn174_0) (.int .i8 ((rd_T75 l3 x11_2).f0))).trans hx174_0; replace hx174_1 := (cell_far (p := ⟨gb173, 0, none⟩) (by first | (rw [add_block]; exact hn174_0) | (show (Addr.add _ _).block ≠ _; rw [add_block]; exact hn174_0) | exact hn174_0) (.int .i8 ((rd_T75 l3 x11_2).f0))).trans hx174_1; replace hx174_0 := (cell_far (p := ⟨gb173, 1, none⟩) (by first | (rw [add_block]; exact hn174_1) | (show (Addr.add _ _).block ≠ _; rw [add_block]; exact hn174_1) | exact hn174_1) (.int .i8 ((rd_T75 l3 x11_2).f1))).trans hx174_0; replace hx174_1 := (cell_far (p := ⟨gb173, 1, none⟩) (by first | (rw [add_block]; exact hn174_1) | (show (Addr.add _ _).block ≠ _; rw [add_block]; exact hn174_1) | exact hn174_1) (.int .i8 ((rd_T75 l3 x11_2).f1))).trans hx174_1; replace hx174_0 := (cell_far (p := ⟨gb173, 2, none⟩) (by first | (rw [add_block]; exact hn174_2) | (show (Addr.add _ _).block ≠ _; rw [add_block]; exact hn174_2) | exact hn174_2) (.int .i8 ((rd_T75 l3 x11_2).f2))).trans hx174_0; replace hx174_1 := (cell_far (p := ⟨gb173, 2, none⟩) (by first | (rw [add_block]; exact hn174_2) | (show (Addr.add _ _).block ≠ _; rw [add_block]; exact hn174_2) | exact hn174_2) (.int .i8 ((rd_T75 l3 x11_2).f2))).trans hx174_1; replace hx174_0 := (cell_far (p := ⟨gb173, 3, none⟩) (by first | (rw [add_block]; exact hn174_3) | (show (Addr.add _ _).block ≠ _; rw [add_block]; exact hn174_3) | exact hn174_3) (.int .i8 ((rd_T75 l3 x11_2).f3))).trans hx174_0; replace hx174_1 := (cell_far (p := ⟨gb173, 3, none⟩) (by first | (rw [add_block]; exact hn174_3) | (show (Addr.add _ _).block ≠ _; rw [add_block]; exact hn174_3) | exact hn174_3) (.int .i8 ((rd_T75 l3 x11_2).f3))).trans hx174_1; clear hn174_0; clear hn174_1; clear hn174_2; clear hn174_3; replace p174 := eq_true p174; replace q174 := eq_true q174) | ((with_reducible refine gate_dst (N := 13) rfl ?_); (try (refine gate_guard (by rfl) ?_; dsimp only)); refine box_event ?hg (N := 13) ?hd (cs := #[.int .i64 0, .int .i64 0]) (t := 79) ?hr ?_; (case hd => rfl); (case hg => rfl); (case hr => first | (go_simp; done) | (go_simp; rfl)); intro gb175 hg w39 hbox hb; have n0_ := Aside0.mk (Kd.R_below (Kd.R_elderB (by (with_reducible repeat (first | apply Kd.R_alloc | apply Kd.R_drewN | apply Kd.R_drew)); exact (Kd.R_mono (Kd.R_far (p := ⟨gb173, 3, none⟩) (Kd.R_far (p := ⟨gb173, 2, none⟩) (Kd.R_far (p := ⟨gb173, 1, none⟩) (Kd.R_far (p := ⟨gb173, 0, none⟩) (Kd.R_types HO_10.out BK173.out (by decide)) (fun _ hk => hk.2) (.int .i8 ((rd_T75 l3 x11_2).f0))) (fun _ hk => hk.2) (.int .i8 ((rd_T75 l3 x11_2).f1))) (fun _ hk => hk.2) (.int .i8 ((rd_T75 l3 x11_2).f2))) (fun _ hk => hk.2) (.int .i8 ((rd_T75 l3 x11_2).f3))) (fun _ h_ => h_.1))) gb175 (Nat.le_of_eq hg.symm)) hb); have n1_ := Aside0.mk (blk_below (g := gb173) (o := .cells #[.int .i8 ((rd_T75 l3 x11_2).f0), .int .i8 ((rd_T75 l3 x11_2).f1), .int .i8 ((rd_T75 l3 x11_2).f2), .int .i8 ((rd_T75 l3 x11_2).f3)] 75 (0, 0)) (by (with_reducible repeat (first | refine blk_drewN ?_ _ | refine blk_drew ?_ | refine blk_alloc ?_ _)); refine blk_put (cs := #[.int .i8 ((rd_T75 l3 x11_2).f0), .int .i8 ((rd_T75 l3 x11_2).f1), .int .i8 ((rd_T75 l3 x11_2).f2), .int .i8 0]) ?_ 3 _ rfl; (with_reducible repeat (first | refine blk_drewN ?_ _ | refine blk_drew ?_ | refine blk_alloc ?_ _)); refine blk_put (cs := #[.int .i8 ((rd_T75 l3 x11_2).f0), .int .i8 ((rd_T75 l3 x11_2).f1), .int .i8 0, .int .i8 0]) ?_ 2 _ rfl; (with_reducible repeat (first | refine blk_drewN ?_ _ | refine blk_drew ?_ | refine blk_alloc ?_ _)); refine blk_put (cs := #[.int .i8 ((rd_T75 l3 x11_2).f0), .int .i8 0, .int .i8 0, .int .i8 0]) ?_ 1 _ rfl; (with_reducible repeat (first | refine blk_drewN ?_ _ | refine blk_drew ?_ | refine blk_alloc ?_ _)); refine blk_put (cs := #[.int .i8 0, .int .i8 0, .int .i8 0, .int .i8 0]) ?_ 0 _ rfl; (with_reducible repeat (first | refine blk_drewN ?_ _ | refine blk_drew ?_ | refine blk_alloc ?_ _)); exact BK173.out) hb); have n2_ := Aside0.mk (below_step (by repeat (first | (with_reducible first | exact HB.out | apply below_alloc | apply pw_below_drewN | apply below_drew1 | refine below_set ?_ GE173.out) | exact HB.out)) hb); have n3_ := Aside0.mk (hbox); have n4_ := Aside0.mk ((by rw [hg]; exact (below_size (by repeat (first | (with_reducible first | exact HB.out | apply below_alloc | apply pw_below_drewN | apply below_drew1 | refine below_set ?_ GE173.out) | exact HB.out))) : w.heap.size ≤ gb175)); have n5_ := Aside0.mk ((by rw [hg]; exact (below_size (by repeat (first | (with_reducible first | exact HB.out | apply below_alloc | apply pw_below_drewN | apply below_drew1 | refine below_set ?_ GE173.out) | exact HB.out))) : w.heap.size ≤ gb175)); have n6_ := Aside0.mk ((by rw [hg]; exact Nat.ne_of_lt (blk_lt (g := gb173) (o := .cells #[.int .i8 ((rd_T75 l3 x11_2).f0), .int .i8 ((rd_T75 l3 x11_2).f1), .int .i8 ((rd_T75 l3 x11_2).f2), .int .i8 ((rd_T75 l3 x11_2).f3)] 75 (0, 0)) (by (with_reducible repeat (first | refine blk_drewN ?_ _ | refine blk_drew ?_ | refine blk_alloc ?_ _)); refine blk_put (cs := #[.int .i8 ((rd_T75 l3 x11_2).f0), .int .i8 ((rd_T75 l3 x11_2).f1), .int .i8 ((rd_T75 l3 x11_2).f2), .int .i8 0]) ?_ 3 _ rfl; (with_reducible repeat (first | refine blk_drewN ?_ _ | refine blk_drew ?_ | refine blk_alloc ?_ _)); refine blk_put (cs := #[.int .i8 ((rd_T75 l3 x11_2).f0), .int .i8 ((rd_T75 l3 x11_2).f1), .int .i8 0, .int .i8 0]) ?_ 2 _ rfl; (with_reducible repeat (first | refine blk_drewN ?_ _ | refine blk_drew ?_ | refine blk_alloc ?_ _)); refine blk_put (cs := #[.int .i8 ((rd_T75 l3 x11_2).f0), .int .i8 0, .int .i8 0, .int .i8 0]) ?_ 1 _ rfl; (with_reducible repeat (first | refine blk_drewN ?_ _ | refine blk_drew ?_ | refine blk_alloc ?_ _)); refine blk_put (cs := #[.int .i8 0, .int .i8 0, .int .i8 0, .int .i8 0]) ?_ 0 _ rfl; (with_reducible repeat (first | refine blk_drewN ?_ _ | refine blk_drew ?_ | refine blk_alloc ?_ _)); exact BK173.out)) : gb173 ≠ gb175)); have n7_ := Aside0.mk ((by rw [hg]; exact Nat.ne_of_gt (blk_lt (g := gb173) (o := .cells #[.int .i8 ((rd_T75 l3 x11_2).f0), .int .i8 ((rd_T75 l3 x11_2).f1), .int .i8 ((rd_T75 l3 x11_2).f2), .int .i8 ((rd_T75 l3 x11_2).f3)] 75 (0, 0)) (by (with_reducible repeat (first | refine blk_drewN ?_ _ | refine blk_drew ?_ | refine blk_alloc ?_ _)); refine blk_put (cs := #[.int .i8 ((rd_T75 l3 x11_2).f0), .int .i8 ((rd_T75 l3 x11_2).f1), .int .i8 ((rd_T75 l3 x11_2).f2), .int .i8 0]) ?_ 3 _ rfl; (with_reducible repeat (first | refine blk_drewN ?_ _ | refine blk_drew ?_ | refine blk_alloc ?_ _)); refine blk_put (cs := #[.int .i8 ((rd_T75 l3 x11_2).f0), .int .i8 ((rd_T75 l3 x11_2).f1), .int .i8 0, .int .i8 0]) ?_ 2 _ rfl; (with_reducible repeat (first | refine blk_drewN ?_ _ | refine blk_drew ?_ | refine blk_alloc ?_ _)); refine blk_put (cs := #[.int .i8 ((rd_T75 l3 x11_2).f0), .int .i8 0, .int .i8 0, .int .i8 0]) ?_ 1 _ rfl; (with_reducible repeat (first | refine blk_drewN ?_ _ | refine blk_drew ?_ | refine blk_alloc ?_ _)); refine blk_put (cs := #[.int .i8 0, .int .i8 0, .int .i8 0, .int .i8 0]) ?_ 0 _ rfl; (with_reducible repeat (first | refine blk_drewN ?_ _ | refine blk_drew ?_ | refine blk_alloc ?_ _)); exact BK173.out)) : gb175 ≠ gb173)); clear HO_10; clear BK173; clear HB; have HO_10 := n0_; have BK173 := n1_; have HB := n2_; have BK175 := n3_; have GW175 := n4_; have GE175 := n5_; have NB173_175 := n6_; have NB175_173 := n7_; clear n0_ n1_ n2_ n3_ n4_ n5_ n6_ n7_; clear hb hbox hg; have hnb40 := NB175_173.out; have hnc40 := NB173_175.out; have hcz41_0 : w39.cell? ⟨gb175, 0, none⟩ = some (.int .i64 0) := (blk_cell BK175.out 0).trans rfl; have hcz41_1 : w39.cell? ⟨gb175, 1, none⟩ = some (.int .i64 0) := (blk_cell BK175.out 1).trans rfl; have hfz41_0 := blk_frozen BK175.out 0; have hfz41_1 := blk_frozen BK175.out 1; have hcz42_0 : w39.cell? ⟨gb173, 0, none⟩ = some (.int .i8 ((rd_T75 l3 x11_2).f0)) := (blk_cell BK173.out 0).trans rfl; have hcz42_1 : w39.cell? ⟨gb173, 1, none⟩ = some (.int .i8 ((rd_T75 l3 x11_2).f1)) := (blk_cell BK173.out 1).trans rfl; have hcz42_2 : w39.cell? ⟨gb173, 2, none⟩ = some (.int .i8 ((rd_T75 l3 x11_2).f2)) := (blk_cell BK173.out 2).trans rfl; have hcz42_3 : w39.cell? ⟨gb173, 3, none⟩ = some (.int .i8 ((rd_T75 l3 x11_2).f3)) := (blk_cell BK173.out 3).trans rfl; have hfz42_0 := blk_frozen BK173.out 0; have hfz42_1 := blk_frozen BK173.out 1; have hfz42_2 := blk_frozen BK173.out 2; have hfz42_3 := blk_frozen BK173.out 3))
     as_aux_lemma =>
     by_cases c35 : ((rd_T75 l3 x11_2).f0) = 0
     ·
      rw [if_pos c35] at H
      have c35b0 : (((rd_T75 l3 x11_2).f0) == 0) = true := beq_iff_eq.mpr c35
      have c35b1 : (((rd_T75 l3 x11_2).f0) != 0) = false := bne_eq_false_iff_eq.mpr c35
      clear c35
      by_cases c36 : (!(((rd_T75 l3 x11_2).f0) == 0) || (!(((rd_T75 l3 x11_2).f1) == 0) || (!(((rd_T75 l3 x11_2).f2) == 0) || (!(((rd_T75 l3 x11_2).f3) == 0))))) = true
      ·
       rw [if_pos c36] at H
       have c36b0 : (!(((rd_T75 l3 x11_2).f0) == 0) || (!(((rd_T75 l3 x11_2).f1) == 0) || (!(((rd_T75 l3 x11_2).f2) == 0) || (!(((rd_T75 l3 x11_2).f3) == 0))))) = true := c36
       have c36c0 := c36b0; simp only [c35b0, Bool.not_true, Bool.false_or] at c36c0
       clear c36
       obtain ⟨y179, hy179⟩ : ∃ y_ : List (S79), y_ = (([] : List (S79))) := ⟨_, rfl⟩
       replace H : (some (y179, false)) = some (r1, r2) := by first | (rw [hy179]; with_reducible exact H) | (have H2_ := (Option.bind_some _ _).symm.trans H; rw [hy179]; with_reducible exact H2_) | (have H2_ := (Option.bind_some _ _).symm.trans H; with_reducible exact H2_) | with_reducible exact H | (rw [hy179]; exact H) | exact H
       have Ny179 := Aside0.mk hy179
       clear hy179
       simp only [Option.some.injEq, Prod.mk.injEq] at H
       obtain ⟨rfl, rfl⟩ := H
       go_wp2_with (first | ((with_reducible refine gate_dst (N := 69) rfl ?_); (try (refine gate_guard (by rfl) ?_; dsimp only)); refine Kd.R_lit k79 _ 79 ?hg (N := 69) ?hd (xs := ([] : List (S79))) (inner := []) (ok := fun _ => True) (okp := fun _ => True) ?hr ?hp (fun _ hk => hk) trivial (Below.refl _ _) (Nat.le_refl _) (by simp) ?_; (case hd => rfl); (case hg => rfl); (case hr => first | (go_simp; done) | (go_simp; rfl)); (case hp => exact (Reps.none _ _)); intro v180 w43 ho44 hb hg_ hnew_; clear hg_ hnew_; (first | rw [← Ny179.out] at ho44 | (simp only [Int.reduceToNat] at ho44; rw [← Ny179.out] at ho44)); have n0_ := Aside0.mk (Kd.R_elder' (by (with_reducible repeat (first | apply Kd.R_alloc | apply Kd.R_drewN | apply Kd.R_drew)); exact (Kd.R_mono (Kd.R_far (p := ⟨gb175, 1, none⟩) (Kd.R_far (p := ⟨gb175, 0, none⟩) (Kd.R_mono HO_10.out (fun k_ hk => (⟨hk, hk.2⟩ : _ ∧ k_ ≠ gb175))) (fun _ hk => hk.2) (.int .i64 ((rd_T79 x10_2 x11_2).f0))) (fun _ hk => hk.2) (.int .i64 ((rd_T79 x10_2 x11_2).f1))) (fun _ h_ => h_.1))) (Kd.R_base ho44) hb); have n1_ := Aside0.mk (Kd.R_lower (Kd.R_newB (Kd.R_new' ho44 (Kd.R_lt (by (with_reducible repeat (first | apply Kd.R_alloc | apply Kd.R_drewN | apply Kd.R_drew)); exact (Kd.R_mono (Kd.R_far (p := ⟨gb175, 1, none⟩) (Kd.R_far (p := ⟨gb175, 0, none⟩) (Kd.R_mono HO_10.out (fun k_ hk => (⟨hk, hk.2⟩ : _ ∧ k_ ≠ gb175))) (fun _ hk => hk.2) (.int .i64 ((rd_T79 x10_2 x11_2).f0))) (fun _ hk => hk.2) (.int .i64 ((rd_T79 x10_2 x11_2).f1))) (fun _ h_ => h_.1))))) (g := gb175) (o := .cells #[.int .i64 ((rd_T79 x10_2 x11_2).f0), .int .i64 ((rd_T79 x10_2 x11_2).f1)] 79 (0, 0)) (by (with_reducible repeat (first | refine blk_drewN ?_ _ | refine blk_drew ?_ | refine blk_alloc ?_ _)); refine blk_put (cs := #[.int .i64 ((rd_T79 x10_2 x11_2).f0), .int .i64 0]) ?_ 1 _ rfl; (with_reducible repeat (first | refine blk_drewN ?_ _ | refine blk_drew ?_ | refine blk_alloc ?_ _)); refine blk_put (cs := #[.int .i64 0, .int .i64 0]) ?_ 0 _ rfl; (with_reducible repeat (first | refine blk_drewN ?_ _ | refine blk_drew ?_ | refine blk_alloc ?_ _)); exact BK175.out)) (below_size (kS_ HB GE173 GE175))); have n2_ := Aside0.mk (blk_below (g := gb173) (o := .cells #[.int .i8 ((rd_T75 l3 x11_2).f0), .int .i8 ((rd_T75 l3 x11_2).f1), .int .i8 ((rd_T75 l3 x11_2).f2), .int .i8 ((rd_T75 l3 x11_2).f3)] 75 (0, 0)) (by (with_reducible repeat (first | refine blk_drewN ?_ _ | refine blk_drew ?_ | refine blk_alloc ?_ _)); refine blk_far ?_ NB173_175.out _; (with_reducible repeat (first | refine blk_drewN ?_ _ | refine blk_drew ?_ | refine blk_alloc ?_ _)); refine blk_far ?_ NB173_175.out _; (with_reducible repeat (first | refine blk_drewN ?_ _ | refine blk_drew ?_ | refine blk_alloc ?_ _)); exact BK173.out) hb); have n3_ := Aside0.mk (blk_below (g := gb175) (o := .cells #[.int .i64 ((rd_T79 x10_2 x11_2).f0), .int .i64 ((rd_T79 x10_2 x11_2).f1)] 79 (0, 0)) (by (with_reducible repeat (first | refine blk_drewN ?_ _ | refine blk_drew ?_ | refine blk_alloc ?_ _)); refine blk_put (cs := #[.int .i64 ((rd_T79 x10_2 x11_2).f0), .int .i64 0]) ?_ 1 _ rfl; (with_reducible repeat (first | refine blk_drewN ?_ _ | refine blk_drew ?_ | refine blk_alloc ?_ _)); refine blk_put (cs := #[.int .i64 0, .int .i64 0]) ?_ 0 _ rfl; (with_reducible repeat (first | refine blk_drewN ?_ _ | refine blk_drew ?_ | refine blk_alloc ?_ _)); exact BK175.out) hb); have n4_ := Aside0.mk (below_step (kS_ HB GE173 GE175) hb); clear HO_10; clear BK173; clear BK175; clear HB; have HO_10 := n0_; have HO181 := n1_; have BK173 := n2_; have BK175 := n3_; have HB := n4_; clear n0_ n1_ n2_ n3_ n4_; clear hb ho44))
       go_ret2
       exact ⟨_, by first | rfl | (simp [errW_none, errW_some] <;> rfl) | (simp [*, errW_none, errW_some] <;> rfl), by (with_reducible repeat (first | apply Kd.R_alloc | apply Kd.R_drewN | apply Kd.R_drew)); exact Kd.R_mono HO181.out (fun _ hk => trivial), kS_ HB GE173 GE175⟩
      ·
       rw [if_neg c36] at H
       have c36b0 : (!(((rd_T75 l3 x11_2).f0) == 0) || (!(((rd_T75 l3 x11_2).f1) == 0) || (!(((rd_T75 l3 x11_2).f2) == 0) || (!(((rd_T75 l3 x11_2).f3) == 0))))) = false := by simpa using c36
       have c36c0 := c36b0; simp only [c35b0, Bool.not_true, Bool.false_or] at c36c0
       clear c36
       have H' := Aside0.mk H
       clear H
       go_wp2
       (try simp only [← hl10_2])
       go_roundg k2
       case measure => have := HJ4.out; have := HK2.out; omega
       case rel => exact ⟨(x10_2), (wrap64 (x11_2 + 1)), (by first | rfl | (simp; done) | (simp [*]; done)), H', ⟨by have := HJ4.out; have := HK2.out; omega⟩, ⟨by (try simp only [hl10_2]); (with_reducible repeat (first | apply Kd.R_alloc | apply Kd.R_drewN | apply Kd.R_drew)); exact Kd.R_mono (Kd.R_far (p := ⟨gb175, 1, none⟩) (Kd.R_far (p := ⟨gb175, 0, none⟩) (Kd.R_mono HO_10.out (fun k_ hk => (⟨hk, hk.2⟩ : _ ∧ k_ ≠ gb175))) (fun _ hk => hk.2) (.int .i64 ((rd_T79 x10_2 x11_2).f0))) (fun _ hk => hk.2) (.int .i64 ((rd_T79 x10_2 x11_2).f1))) (fun _ hk => trivial)⟩, ⟨kS_ HB GE173 GE175⟩⟩
     rw [if_neg c35] at H
     have c35b0 : (((rd_T75 l3 x11_2).f0) == 0) = false := beq_eq_false_iff_ne.mpr c35
     have c35b1 : (((rd_T75 l3 x11_2).f0) != 0) = true := bne_iff_ne.mpr c35
     by_cases c51 : ((rd_T75 l3 x11_2).f0) = 1
     ·
      rw [if_pos c51] at H
      have c51b0 : (((rd_T75 l3 x11_2).f0) == 1) = true := beq_iff_eq.mpr c51
      have c51b1 : (((rd_T75 l3 x11_2).f0) != 1) = false := bne_eq_false_iff_eq.mpr c51
      clear c51
      have HC52 := Aside0.mk H
      clear H
      go_upto_region 18 with fail
      (try simp only [Act.put, List.setIfInBounds_toArray, List.set_cons_zero, List.set_cons_succ])
      go_cut [89] (fun v89 wc => ∃ (kq : Nat) (x89_51 : Bool), v89 = .bool x89_51 ∧ Aside0 (spec_l04Sizes.j2 kq l2 l3 x10_2 x11_2 x89_51 ((rd_T75 l3 x11_2).f0) ((rd_T75 l3 x11_2).f1) ((rd_T75 l3 x11_2).f2) ((rd_T75 l3 x11_2).f3) ((rd_T79 x10_2 x11_2).f0) ((rd_T79 x10_2 x11_2).f1) = some (r1, r2)) ∧ Aside0 (kq ≤ k2) ∧ Aside0 (Kd.R k79 79 wc w.heap.size (fun k_ => k_ ≠ gb175) (.slice (some ⟨go19, 0, none⟩) x10_2.length co19) x10_2) ∧ Aside0 (wc.heap[gb173]? = some (.cells #[.int .i8 ((rd_T75 l3 x11_2).f0), .int .i8 ((rd_T75 l3 x11_2).f1), .int .i8 ((rd_T75 l3 x11_2).f2), .int .i8 ((rd_T75 l3 x11_2).f3)] 75 (0, 0))) ∧ Aside0 (wc.heap[gb175]? = some (.cells #[.int .i64 ((rd_T79 x10_2 x11_2).f0), .int .i64 ((rd_T79 x10_2 x11_2).f1)] 79 (0, 0))) ∧ Aside0 (Below w.heap.size w wc))
      case first =>
       have H := HC52.out
       clear HC52
       by_cases c59 : ((rd_T75 l3 x11_2).f1) = 0
       rotate_left
       ·
        rw [if_neg c59] at H
        have c59b0 : (((rd_T75 l3 x11_2).f1) == 0) = false := beq_eq_false_iff_ne.mpr c59
        have c59b1 : (((rd_T75 l3 x11_2).f1) != 0) = true := bne_iff_ne.mpr c59
        (first | rw [c59b0] | (simp only [i64_w, i32_w]; rw [c59b0]) | skip)
        have H' := Aside0.mk H
        clear H
        have hnb66 := NB173_175.out
        have hnc66 := NB175_173.out
        have hcz67_0 : w39.cell? ⟨gb173, 0, none⟩ = some (.int .i8 ((rd_T75 l3 x11_2).f0)) := (blk_cell BK173.out 0).trans rfl
        have hcz67_1 : w39.cell? ⟨gb173, 1, none⟩ = some (.int .i8 ((rd_T75 l3 x11_2).f1)) := (blk_cell BK173.out 1).trans rfl
        have hcz67_2 : w39.cell? ⟨gb173, 2, none⟩ = some (.int .i8 ((rd_T75 l3 x11_2).f2)) := (blk_cell BK173.out 2).trans rfl
        have hcz67_3 : w39.cell? ⟨gb173, 3, none⟩ = some (.int .i8 ((rd_T75 l3 x11_2).f3)) := (blk_cell BK173.out 3).trans rfl
        have hfz67_0 := blk_frozen BK173.out 0
        have hfz67_1 := blk_frozen BK173.out 1
        have hfz67_2 := blk_frozen BK173.out 2
        have hfz67_3 := blk_frozen BK173.out 3
        go_wp2
        go_meet
        case rel => exact ⟨_, (true), (by first | rfl | (simp; done) | (simp [*]; done)), H', ⟨by have := HJ4.out; have := HK2.out; first | omega | exact Nat.le_refl _⟩, ⟨by (try simp only [hl10_2]); (with_reducible repeat (first | apply Kd.R_alloc | apply Kd.R_drewN | apply Kd.R_drew)); exact Kd.R_mono (Kd.R_far (p := ⟨gb175, 1, none⟩) (Kd.R_far (p := ⟨gb175, 0, none⟩) (Kd.R_mono HO_10.out (fun k_ hk => (⟨hk, hk.2⟩ : _ ∧ k_ ≠ gb175))) (fun _ hk => hk.2) (.int .i64 ((rd_T79 x10_2 x11_2).f0))) (fun _ hk => hk.2) (.int .i64 ((rd_T79 x10_2 x11_2).f1))) (fun _ hk => hk.1.2)⟩, ⟨by (try simp only [hl10_2]); (with_reducible repeat (first | refine blk_drewN ?_ _ | refine blk_drew ?_ | refine blk_alloc ?_ _)); refine blk_far ?_ NB173_175.out _; (with_reducible repeat (first | refine blk_drewN ?_ _ | refine blk_drew ?_ | refine blk_alloc ?_ _)); refine blk_far ?_ NB173_175.out _; (with_reducible repeat (first | refine blk_drewN ?_ _ | refine blk_drew ?_ | refine blk_alloc ?_ _)); exact BK173.out⟩, ⟨by (try simp only [hl10_2]); (with_reducible repeat (first | refine blk_drewN ?_ _ | refine blk_drew ?_ | refine blk_alloc ?_ _)); refine blk_put (cs := #[.int .i64 ((rd_T79 x10_2 x11_2).f0), .int .i64 0]) ?_ 1 _ rfl; (with_reducible repeat (first | refine blk_drewN ?_ _ | refine blk_drew ?_ | refine blk_alloc ?_ _)); refine blk_put (cs := #[.int .i64 0, .int .i64 0]) ?_ 0 _ rfl; (with_reducible repeat (first | refine blk_drewN ?_ _ | refine blk_drew ?_ | refine blk_alloc ?_ _)); exact BK175.out⟩, ⟨kS_ HB GE173 GE175⟩⟩
       rw [if_pos c59] at H
       have c59b0 : (((rd_T75 l3 x11_2).f1) == 0) = true := beq_iff_eq.mpr c59
       have c59b1 : (((rd_T75 l3 x11_2).f1) != 0) = false := bne_eq_false_iff_eq.mpr c59
       clear c59
       (first | rw [c59b0] | (simp only [i64_w, i32_w]; rw [c59b0]) | skip)
       by_cases c60 : ((rd_T75 l3 x11_2).f3) = 0
       ·
        rw [if_pos c60] at H
        have c60b0 : (((rd_T75 l3 x11_2).f3) == 0) = true := beq_iff_eq.mpr c60
        have c60b1 : (((rd_T75 l3 x11_2).f3) != 0) = false := bne_eq_false_iff_eq.mpr c60
        clear c60
        replace H := Option.bind_eq_some_iff.mp H
        obtain ⟨t182, A610, H⟩ := H
        replace H : (spec_l04Sizes.j2 k2 l2 l3 x10_2 x11_2 (!t182) ((rd_T75 l3 x11_2).f0) ((rd_T75 l3 x11_2).f1) ((rd_T75 l3 x11_2).f2) ((rd_T75 l3 x11_2).f3) ((rd_T79 x10_2 x11_2).f0) ((rd_T79 x10_2 x11_2).f1)) = some (r1, r2) := H
        have A61 := Aside0.mk A610
        clear A610
        have H' := Aside0.mk H
        clear H
        have hnb62 := NB173_175.out
        have hnc62 := NB175_173.out
        have hcz63_0 : w39.cell? ⟨gb173, 0, none⟩ = some (.int .i8 ((rd_T75 l3 x11_2).f0)) := (blk_cell BK173.out 0).trans rfl
        have hcz63_1 : w39.cell? ⟨gb173, 1, none⟩ = some (.int .i8 ((rd_T75 l3 x11_2).f1)) := (blk_cell BK173.out 1).trans rfl
        have hcz63_2 : w39.cell? ⟨gb173, 2, none⟩ = some (.int .i8 ((rd_T75 l3 x11_2).f2)) := (blk_cell BK173.out 2).trans rfl
        have hcz63_3 : w39.cell? ⟨gb173, 3, none⟩ = some (.int .i8 ((rd_T75 l3 x11_2).f3)) := (blk_cell BK173.out 3).trans rfl
        have hfz63_0 := blk_frozen BK173.out 0
        have hfz63_1 := blk_frozen BK173.out 1
        have hfz63_2 := blk_frozen BK173.out 2
        have hfz63_3 := blk_frozen BK173.out 3
        go_wp2_with (first | (go_at_call 68; (with_reducible refine (spec_l00In.calls (wrap64 ((rd_T75 l3 x11_2).f2)) 0 (wrap64 ((l2.length : Int) - 1)) t182 _ A61.out).mono ?_); rintro e w' ⟨rfl, ⟨nd, rfl⟩⟩))
        go_meet
        case rel => exact ⟨_, (!t182), (by first | rfl | (simp; done) | (simp [*]; done)), H', ⟨by have := HJ4.out; have := HK2.out; first | omega | exact Nat.le_refl _⟩, ⟨by (try simp only [hl10_2]); (with_reducible repeat (first | apply Kd.R_alloc | apply Kd.R_drewN | apply Kd.R_drew)); exact Kd.R_mono (Kd.R_far (p := ⟨gb175, 1, none⟩) (Kd.R_far (p := ⟨gb175, 0, none⟩) (Kd.R_mono HO_10.out (fun k_ hk => (⟨hk, hk.2⟩ : _ ∧ k_ ≠ gb175))) (fun _ hk => hk.2) (.int .i64 ((rd_T79 x10_2 x11_2).f0))) (fun _ hk => hk.2) (.int .i64 ((rd_T79 x10_2 x11_2).f1))) (fun _ hk => hk.1.2)⟩, ⟨by (try simp only [hl10_2]); (with_reducible repeat (first | refine blk_drewN ?_ _ | refine blk_drew ?_ | refine blk_alloc ?_ _)); refine blk_far ?_ NB173_175.out _; (with_reducible repeat (first | refine blk_drewN ?_ _ | refine blk_drew ?_ | refine blk_alloc ?_ _)); refine blk_far ?_ NB173_175.out _; (with_reducible repeat (first | refine blk_drewN ?_ _ | refine blk_drew ?_ | refine blk_alloc ?_ _)); exact BK173.out⟩, ⟨by (try simp only [hl10_2]); (with_reducible repeat (first | refine blk_drewN ?_ _ | refine blk_drew ?_ | refine blk_alloc ?_ _)); refine blk_put (cs := #[.int .i64 ((rd_T79 x10_2 x11_2).f0), .int .i64 0]) ?_ 1 _ rfl; (with_reducible repeat (first | refine blk_drewN ?_ _ | refine blk_drew ?_ | refine blk_alloc ?_ _)); refine blk_put (cs := #[.int .i64 0, .int .i64 0]) ?_ 0 _ rfl; (with_reducible repeat (first | refine blk_drewN ?_ _ | refine blk_drew ?_ | refine blk_alloc ?_ _)); exact BK175.out⟩, ⟨kS_ HB GE173 GE175⟩⟩
       ·
        rw [if_neg c60] at H
        have c60b0 : (((rd_T75 l3 x11_2).f3) == 0) = false := beq_eq_false_iff_ne.mpr c60
        have c60b1 : (((rd_T75 l3 x11_2).f3) != 0) = true := bne_iff_ne.mpr c60
        have H' := Aside0.mk H
        clear H
        have hnb64 := NB173_175.out
        have hnc64 := NB175_173.out
        have hcz65_0 : w39.cell? ⟨gb173, 0, none⟩ = some (.int .i8 ((rd_T75 l3 x11_2).f0)) := (blk_cell BK173.out 0).trans rfl
        have hcz65_1 : w39.cell? ⟨gb173, 1, none⟩ = some (.int .i8 ((rd_T75 l3 x11_2).f1)) := (blk_cell BK173.out 1).trans rfl
        have hcz65_2 : w39.cell? ⟨gb173, 2, none⟩ = some (.int .i8 ((rd_T75 l3 x11_2).f2)) := (blk_cell BK173.out 2).trans rfl
        have hcz65_3 : w39.cell? ⟨gb173, 3, none⟩ = some (.int .i8 ((rd_T75 l3 x11_2).f3)) := (blk_cell BK173.out 3).trans rfl
        have hfz65_0 := blk_frozen BK173.out 0
        have hfz65_1 := blk_frozen BK173.out 1
        have hfz65_2 := blk_frozen BK173.out 2
        have hfz65_3 := blk_frozen BK173.out 3
        go_wp2
        go_meet
        case rel => exact ⟨_, (true), (by first | rfl | (simp; done) | (simp [*]; done)), H', ⟨by have := HJ4.out; have := HK2.out; first | omega | exact Nat.le_refl _⟩, ⟨by (try simp only [hl10_2]); (with_reducible repeat (first | apply Kd.R_alloc | apply Kd.R_drewN | apply Kd.R_drew)); exact Kd.R_mono (Kd.R_far (p := ⟨gb175, 1, none⟩) (Kd.R_far (p := ⟨gb175, 0, none⟩) (Kd.R_mono HO_10.out (fun k_ hk => (⟨hk, hk.2⟩ : _ ∧ k_ ≠ gb175))) (fun _ hk => hk.2) (.int .i64 ((rd_T79 x10_2 x11_2).f0))) (fun _ hk => hk.2) (.int .i64 ((rd_T79 x10_2 x11_2).f1))) (fun _ hk => hk.1.2)⟩, ⟨by (try simp only [hl10_2]); (with_reducible repeat (first | refine blk_drewN ?_ _ | refine blk_drew ?_ | refine blk_alloc ?_ _)); refine blk_far ?_ NB173_175.out _; (with_reducible repeat (first | refine blk_drewN ?_ _ | refine blk_drew ?_ | refine blk_alloc ?_ _)); refine blk_far ?_ NB173_175.out _; (with_reducible repeat (first | refine blk_drewN ?_ _ | refine blk_drew ?_ | refine blk_alloc ?_ _)); exact BK173.out⟩, ⟨by (try simp only [hl10_2]); (with_reducible repeat (first | refine blk_drewN ?_ _ | refine blk_drew ?_ | refine blk_alloc ?_ _)); refine blk_put (cs := #[.int .i64 ((rd_T79 x10_2 x11_2).f0), .int .i64 0]) ?_ 1 _ rfl; (with_reducible repeat (first | refine blk_drewN ?_ _ | refine blk_drew ?_ | refine blk_alloc ?_ _)); refine blk_put (cs := #[.int .i64 0, .int .i64 0]) ?_ 0 _ rfl; (with_reducible repeat (first | refine blk_drewN ?_ _ | refine blk_drew ?_ | refine blk_alloc ?_ _)); exact BK175.out⟩, ⟨kS_ HB GE173 GE175⟩⟩
      case rest =>
       clear HC52
       try clear c1
       try clear p1
       try clear q1
       try clear hx1
       try clear qi1
       try clear c2
       try clear p2
       try clear hx2
       try clear c3
       try clear c4
       try clear c5
       try clear c6
       try clear p6
       try clear c7
       try clear c9
       try clear c11
       try clear c13
       try clear c16
       try clear c16b0
       try clear c16b1
       try clear c17
       try clear c17b0
       try clear c17b1
       try clear p17
       try clear q17
       try clear hx17
       try clear c18
       try clear c18b0
       try clear c18b1
       try clear c19
       try clear p19
       try clear q19
       try clear hx19
       try clear qi19
       try clear hf19
       try clear c22
       try clear hx22
       try clear hf22
       try clear c24
       try clear c24b0
       try clear c25
       try clear c25b0
       try clear c26
       try clear c26b0
       try clear c27
       try clear c27b0
       try clear c27b1
       try clear c31
       try clear c35
       try clear c35b0
       try clear c35b1
       try clear c36
       try clear c36b0
       try clear c40
       try clear c48
       try clear c51
       try clear c51b0
       try clear c51b1
       try clear c56
       try clear c59
       try clear c59b0
       try clear c59b1
       try clear c60
       try clear c60b0
       try clear c60b1
       try clear c62
       try clear c64
       try clear p64
       try clear c66
       try clear c67
       try clear hcz29_0
       try clear hcz29_1
       try clear hcz29_2
       try clear hcz29_3
       try clear hcz32_0
       try clear hcz32_1
       try clear hcz38_0
       try clear hcz38_1
       try clear hcz38_2
       try clear hcz38_3
       try clear hcz41_0
       try clear hcz41_1
       try clear hcz42_0
       try clear hcz42_1
       try clear hcz42_2
       try clear hcz42_3
       try clear hcz46_0
       try clear hcz46_1
       try clear hcz46_2
       try clear hcz46_3
       try clear hcz49_0
       try clear hcz49_1
       try clear hcz50_0
       try clear hcz50_1
       try clear hcz50_2
       try clear hcz50_3
       try clear hcz38_0
       try clear hcz38_1
       try clear hcz38_2
       try clear hcz38_3
       try clear hcz41_0
       try clear hcz41_1
       try clear hcz42_0
       try clear hcz42_1
       try clear hcz42_2
       try clear hcz42_3
       try clear hcz63_0
       try clear hcz63_1
       try clear hcz63_2
       try clear hcz63_3
       try clear hcz65_0
       try clear hcz65_1
       try clear hcz65_2
       try clear hcz65_3
       try clear hcz67_0
       try clear hcz67_1
       try clear hcz67_2
       try clear hcz67_3
       try clear hfz29_0
       try clear hfz29_1
       try clear hfz29_2
       try clear hfz29_3
       try clear hfz32_0
       try clear hfz32_1
       try clear hfz38_0
       try clear hfz38_1
       try clear hfz38_2
       try clear hfz38_3
       try clear hfz41_0
       try clear hfz41_1
       try clear hfz42_0
       try clear hfz42_1
       try clear hfz42_2
       try clear hfz42_3
       try clear hfz46_0
       try clear hfz46_1
       try clear hfz46_2
       try clear hfz46_3
       try clear hfz49_0
       try clear hfz49_1
       try clear hfz50_0
       try clear hfz50_1
       try clear hfz50_2
       try clear hfz50_3
       try clear hfz38_0
       try clear hfz38_1
       try clear hfz38_2
       try clear hfz38_3
       try clear hfz41_0
       try clear hfz41_1
       try clear hfz42_0
       try clear hfz42_1
       try clear hfz42_2
       try clear hfz42_3
       try clear hfz63_0
       try clear hfz63_1
       try clear hfz63_2
       try clear hfz63_3
       try clear hfz65_0
       try clear hfz65_1
       try clear hfz65_2
       try clear hfz65_3
       try clear hfz67_0
       try clear hfz67_1
       try clear hfz67_2
       try clear hfz67_3
       try clear hx172_0
       try clear hx172_1
       try clear hx172_2
       try clear hx172_3
       try clear hx174_0
       try clear hx174_1
       try clear hx19_0
       try clear hx19_1
       try clear hx22_0
       try clear hx22_1
       try clear p1
       try clear p172
       try clear p174
       try clear p19
       try clear p2
       try clear q1
       try clear q172
       try clear q174
       try clear q19
       obtain ⟨kq, x89_51, rfl, HA, HJ51, HO_10, BK173, BK175, HB⟩ := hcut
       cases kq with
       | zero => exact absurd HA.out (by simp [spec_l04Sizes.j2])
       | succ kj51 =>
        have H := HA.out
        clear HA
        simp only [spec_l04Sizes.j2] at H
        by_cases c68 : x89_51 = true
        ·
         subst c68
         have H1 : (some ((([] : List (S79))), false)) = some (r1, r2) := by rw [if_pos rfl] at H; exact H
         clear H
         have H := H1
         clear H1
         obtain ⟨y183, hy183⟩ : ∃ y_ : List (S79), y_ = (([] : List (S79))) := ⟨_, rfl⟩
         replace H : (some (y183, false)) = some (r1, r2) := by first | (rw [hy183]; with_reducible exact H) | (have H2_ := (Option.bind_some _ _).symm.trans H; rw [hy183]; with_reducible exact H2_) | (have H2_ := (Option.bind_some _ _).symm.trans H; with_reducible exact H2_) | with_reducible exact H | (rw [hy183]; exact H) | exact H
         have Ny183 := Aside0.mk hy183
         clear hy183
         simp only [Option.some.injEq, Prod.mk.injEq] at H
         obtain ⟨rfl, rfl⟩ := H
         go_wp2_with (first | ((with_reducible refine gate_dst (N := 90) rfl ?_); (try (refine gate_guard (by rfl) ?_; dsimp only)); refine Kd.R_lit k79 _ 79 ?hg (N := 90) ?hd (xs := ([] : List (S79))) (inner := []) (ok := fun _ => True) (okp := fun _ => True) ?hr ?hp (fun _ hk => hk) trivial (Below.refl _ _) (Nat.le_refl _) (by simp) ?_; (case hd => rfl); (case hg => rfl); (case hr => first | (go_simp; done) | (go_simp; rfl)); (case hp => exact (Reps.none _ _)); intro v184 w69 ho70 hb hg_ hnew_; clear hg_ hnew_; (first | rw [← Ny183.out] at ho70 | (simp only [Int.reduceToNat] at ho70; rw [← Ny183.out] at ho70)); have n0_ := Aside0.mk (Kd.R_elder' (kp_ HO_10) (Kd.R_base ho70) hb); have n1_ := Aside0.mk (Kd.R_lower (Kd.R_newB (Kd.R_new' ho70 (Kd.R_lt (kp_ HO_10))) (g := gb175) (o := .cells #[.int .i64 ((rd_T79 x10_2 x11_2).f0), .int .i64 ((rd_T79 x10_2 x11_2).f1)] 79 (0, 0)) (kb_ BK175)) (below_size (kS_ HB GE173 GE175))); have n2_ := Aside0.mk (blk_below (g := gb173) (o := .cells #[.int .i8 ((rd_T75 l3 x11_2).f0), .int .i8 ((rd_T75 l3 x11_2).f1), .int .i8 ((rd_T75 l3 x11_2).f2), .int .i8 ((rd_T75 l3 x11_2).f3)] 75 (0, 0)) (kb_ BK173) hb); have n3_ := Aside0.mk (blk_below (g := gb175) (o := .cells #[.int .i64 ((rd_T79 x10_2 x11_2).f0), .int .i64 ((rd_T79 x10_2 x11_2).f1)] 79 (0, 0)) (kb_ BK175) hb); have n4_ := Aside0.mk (below_step (kS_ HB GE173 GE175) hb); clear HO_10; clear BK173; clear BK175; clear HB; have HO_10 := n0_; have HO185 := n1_; have BK173 := n2_; have BK175 := n3_; have HB := n4_; clear n0_ n1_ n2_ n3_ n4_; clear hb ho70))
         go_ret2
         exact ⟨_, by first | rfl | (simp [errW_none, errW_some] <;> rfl) | (simp [*, errW_none, errW_some] <;> rfl), by (with_reducible repeat (first | apply Kd.R_alloc | apply Kd.R_drewN | apply Kd.R_drew)); exact Kd.R_mono HO185.out (fun _ hk => trivial), kS_ HB GE173 GE175⟩
        replace c68 := Bool.eq_false_iff.mpr c68
        subst c68
        have H1 : (if 0 ≤ ((rd_T75 l3 x11_2).f2) then (if ((rd_T75 l3 x11_2).f2) < (l2.length : Int) then (if (!(((rd_T79 x10_2 x11_2).f0) == (wrap64 ((rd_T57 l2 ((rd_T75 l3 x11_2).f2)).f0))) || (!(((rd_T79 x10_2 x11_2).f1) == (wrap64 ((rd_T57 l2 ((rd_T75 l3 x11_2).f2)).f1))))) = true then (some ((([] : List (S79))), false)) else (spec_l04Sizes.l0 kj51 l2 l3 x10_2 (wrap64 (x11_2 + 1)))) else (none)) else (none)) = some (r1, r2) := by rw [if_neg (show ¬ (false = true) by decide)] at H; exact H
        clear H
        have H := H1
        clear H1
        by_cases c71 : 0 ≤ ((rd_T75 l3 x11_2).f2)
        rotate_left
        ·
         rw [if_neg c71] at H
         exact absurd H (by simp)
        rw [if_pos c71] at H
        have c71b0 : decide (0 ≤ ((rd_T75 l3 x11_2).f2)) = true := decide_eq_true c71
        clear c71
        by_cases c72 : ((rd_T75 l3 x11_2).f2) < (l2.length : Int)
        rotate_left
        ·
         rw [if_neg c72] at H
         exact absurd H (by simp)
        rw [if_pos c72] at H
        have c72b0 : decide (((rd_T75 l3 x11_2).f2) < (l2.length : Int)) = true := decide_eq_true c72
        clear c72
        by_cases c73 : (!(((rd_T79 x10_2 x11_2).f0) == (wrap64 ((rd_T57 l2 ((rd_T75 l3 x11_2).f2)).f0))) || (!(((rd_T79 x10_2 x11_2).f1) == (wrap64 ((rd_T57 l2 ((rd_T75 l3 x11_2).f2)).f1))))) = true
        ·
         as_aux_lemma =>
         rw [if_pos c73] at H
         have c73b0 : (!(((rd_T79 x10_2 x11_2).f0) == (wrap64 ((rd_T57 l2 ((rd_T75 l3 x11_2).f2)).f0))) || (!(((rd_T79 x10_2 x11_2).f1) == (wrap64 ((rd_T57 l2 ((rd_T75 l3 x11_2).f2)).f1))))) = true := c73
         clear c73
         obtain ⟨y188, hy188⟩ : ∃ y_ : List (S79), y_ = (([] : List (S79))) := ⟨_, rfl⟩
         replace H : (some (y188, false)) = some (r1, r2) := by first | (rw [hy188]; with_reducible exact H) | (have H2_ := (Option.bind_some _ _).symm.trans H; rw [hy188]; with_reducible exact H2_) | (have H2_ := (Option.bind_some _ _).symm.trans H; with_reducible exact H2_) | with_reducible exact H | (rw [hy188]; exact H) | exact H
         have Ny188 := Aside0.mk hy188
         clear hy188
         simp only [Option.some.injEq, Prod.mk.injEq] at H
         obtain ⟨rfl, rfl⟩ := H
         try go_wp2
         replace HO_10 := Aside0.mk (Kd.R_drew HO_10.out)
         replace BK173 := Aside0.mk (blk_drew BK173.out)
         replace BK175 := Aside0.mk (blk_drew BK175.out)
         replace HB := Aside0.mk (below_drew1 HB.out)
         have p186 : 0 ≤ (((rd_T75 l3 x11_2).f2) : Int) := od_
         have q186 : ((rd_T75 l3 x11_2).f2) < (l2.length : Int) := od_
         obtain ⟨ad186, e186, hx186_0, hx186_1, hx186_2⟩ := at_T57 HR2.out ((rd_T75 l3 x11_2).f2) p186 q186
         have hw186_2 := hx186_2
         have hw186_1 := hx186_1
         have hw186_0 := hx186_0
         cases e186
         replace hx186_0 := (HB.out.cell (World.block_lt_of_cell? w _ hx186_0)).trans hx186_0
         replace hx186_1 := (HB.out.cell (World.block_lt_of_cell? w _ hx186_1)).trans hx186_1
         replace hx186_2 := (HB.out.cell (World.block_lt_of_cell? w _ hx186_2)).trans hx186_2
         replace p186 := eq_true p186
         replace q186 := eq_true q186
         have p187 : 0 ≤ (((rd_T75 l3 x11_2).f2) : Int) := od_
         have q187 : ((rd_T75 l3 x11_2).f2) < (l2.length : Int) := od_
         obtain ⟨ad187, e187, hx187_0, hx187_1, hx187_2⟩ := at_T57 HR2.out ((rd_T75 l3 x11_2).f2) p187 q187
         have hw187_2 := hx187_2
         have hw187_1 := hx187_1
         have hw187_0 := hx187_0
         obtain rfl : ad186 = ad187 := (by injection e187)
         replace hx187_0 := (HB.out.cell (World.block_lt_of_cell? w _ hx187_0)).trans hx187_0
         replace hx187_1 := (HB.out.cell (World.block_lt_of_cell? w _ hx187_1)).trans hx187_1
         replace hx187_2 := (HB.out.cell (World.block_lt_of_cell? w _ hx187_2)).trans hx187_2
         replace p187 := eq_true p187
         replace q187 := eq_true q187
         refine start_ (n := 17) (S := fun w' => w'.cell? ⟨gb175, 0, none⟩ = some (.int .i64 ((rd_T79 x10_2 x11_2).f0)) ∧ w'.cell? ⟨gb175, 1, none⟩ = some (.int .i64 ((rd_T79 x10_2 x11_2).f1)) ∧ w'.cell? ⟨gb173, 0, none⟩ = some (.int .i8 ((rd_T75 l3 x11_2).f0)) ∧ w'.cell? ⟨gb173, 1, none⟩ = some (.int .i8 ((rd_T75 l3 x11_2).f1)) ∧ w'.cell? ⟨gb173, 2, none⟩ = some (.int .i8 ((rd_T75 l3 x11_2).f2)) ∧ w'.cell? ⟨gb173, 3, none⟩ = some (.int .i8 ((rd_T75 l3 x11_2).f3)) ∧ w'.cell? (ad186.add ((((rd_T75 l3 x11_2).f2)).toNat * 3)) = some (.int .i8 ((rd_T57 l2 ((rd_T75 l3 x11_2).f2)).f0)) ∧ w'.cell? ⟨(ad186.add ((((rd_T75 l3 x11_2).f2)).toNat * 3)).block, (ad186.add ((((rd_T75 l3 x11_2).f2)).toNat * 3)).off + 1, none⟩ = some (.int .i8 ((rd_T57 l2 ((rd_T75 l3 x11_2).f2)).f1)) ∧ w'.cell? ⟨(ad186.add ((((rd_T75 l3 x11_2).f2)).toNat * 3)).block, (ad186.add ((((rd_T75 l3 x11_2).f2)).toNat * 3)).off + 2, none⟩ = some (.int .i16 ((rd_T57 l2 ((rd_T75 l3 x11_2).f2)).f2)) ∧ w'.cell? (ad186.add ((((rd_T75 l3 x11_2).f2)).toNat * 3)) = some (.int .i8 ((rd_T57 l2 ((rd_T75 l3 x11_2).f2)).f0)) ∧ w'.cell? ⟨(ad186.add ((((rd_T75 l3 x11_2).f2)).toNat * 3)).block, (ad186.add ((((rd_T75 l3 x11_2).f2)).toNat * 3)).off + 1, none⟩ = some (.int .i8 ((rd_T57 l2 ((rd_T75 l3 x11_2).f2)).f1)) ∧ w'.cell? ⟨(ad186.add ((((rd_T75 l3 x11_2).f2)).toNat * 3)).block, (ad186.add ((((rd_T75 l3 x11_2).f2)).toNat * 3)).off + 2, none⟩ = some (.int .i16 ((rd_T57 l2 ((rd_T75 l3 x11_2).f2)).f2))) (ds := []) #[false, false, false, false, false, false, false, false, false, false, false, false, false, false, false, false, false] (by kernel_rfl) rfl rfl ⟨(blk_cell BK175.out 0).trans rfl, (blk_cell BK175.out 1).trans rfl, (blk_cell BK173.out 0).trans rfl, (blk_cell BK173.out 1).trans rfl, (blk_cell BK173.out 2).trans rfl, (blk_cell BK173.out 3).trans rfl, ((HB.out.cell (World.block_lt_of_cell? w _ hw186_0)).trans hw186_0), ((HB.out.cell (World.block_lt_of_cell? w _ hw186_1)).trans hw186_1), ((HB.out.cell (World.block_lt_of_cell? w _ hw186_2)).trans hw186_2), ((HB.out.cell (World.block_lt_of_cell? w _ hw187_0)).trans hw187_0), ((HB.out.cell (World.block_lt_of_cell? w _ hw187_1)).trans hw187_1), ((HB.out.cell (World.block_lt_of_cell? w _ hw187_2)).trans hw187_2)⟩ (fun hHeld => ?_); refine with_tabW spec_l04Sizes.tab20 spec_l04Sizes.bits20 (fun HT_ HW_ => ?_)
         generalize wc.drew = w74 at HO_10 BK173 BK175 HB hx186_0 hx186_1 hx186_2 hx187_0 hx187_1 hx187_2 hHeld ⊢
         refine pu_ 1 92 (lA 17 2) ?_ ?_ HT_ ?_
         refine pu_ 2 93 (lA 17 6) ?_ ?_ HT_ ?_
         refine pu_ 8 99 (lA 17 262) ?_ ?_ HT_ ?_
         refine pu_ 9 100 (lA 17 774) ?_ ?_ HT_ ?_
         refine tk_ 0 91 (lA 17 775) ?_ ?_ HT_ HW_ hHeld ?_
         refine tk_ 3 94 (lA 17 783) ?_ ?_ HT_ HW_ hHeld ?_
         refine pu_ 4 95 (lA 17 799) ?_ ?_ HT_ ?_
         refine pu_ 5 96 (lA 17 831) ?_ ?_ HT_ ?_
         refine tk_ 6 97 (lA 17 895) ?_ ?_ HT_ HW_ hHeld ?_
         refine pu_ 7 98 (lA 17 1023) ?_ ?_ HT_ ?_
         refine tk_ 10 101 (lA 17 2047) ?_ ?_ HT_ HW_ hHeld ?_
         refine pu_ 11 102 (lA 17 4095) ?_ ?_ HT_ ?_
         refine pu_ 12 103 (lA 17 8191) ?_ ?_ HT_ ?_
         refine tk_ 13 104 (lA 17 16383) ?_ ?_ HT_ HW_ hHeld ?_
         refine pu_ 14 105 (lA 17 32767) ?_ ?_ HT_ ?_
         refine pu_ 15 106 (lA 17 65535) ?_ ?_ HT_ ?_
         refine pu_ 16 107 (lA 17 131071) ?_ ?_ HT_ ?_
         refine done_ (done_of HT_.out (by kernel_rfl)) ?_
         try go_wp2_with (first | ((with_reducible refine gate_dst (N := 108) rfl ?_); (try (refine gate_guard (by rfl) ?_; dsimp only)); refine Kd.R_lit k79 _ 79 ?hg (N := 108) ?hd (xs := ([] : List (S79))) (inner := []) (ok := fun _ => True) (okp := fun _ => True) ?hr ?hp (fun _ hk => hk) trivial (Below.refl _ _) (Nat.le_refl _) (by simp) ?_; (case hd => rfl); (case hg => rfl); (case hr => first | (go_simp; done) | (go_simp; rfl)); (case hp => exact (Reps.none _ _)); intro v189 w75 ho76 hb hg_ hnew_; clear hg_ hnew_; (first | rw [← Ny188.out] at ho76 | (simp only [Int.reduceToNat] at ho76; rw [← Ny188.out] at ho76)); have n0_ := Aside0.mk (Kd.R_elder' (kp_ HO_10) (Kd.R_base ho76) hb); have n1_ := Aside0.mk (Kd.R_lower (Kd.R_newB (Kd.R_new' ho76 (Kd.R_lt (kp_ HO_10))) (g := gb175) (o := .cells #[.int .i64 ((rd_T79 x10_2 x11_2).f0), .int .i64 ((rd_T79 x10_2 x11_2).f1)] 79 (0, 0)) (kb_ BK175)) (below_size (kS_ HB GE173 GE175))); have n2_ := Aside0.mk (blk_below (g := gb173) (o := .cells #[.int .i8 ((rd_T75 l3 x11_2).f0), .int .i8 ((rd_T75 l3 x11_2).f1), .int .i8 ((rd_T75 l3 x11_2).f2), .int .i8 ((rd_T75 l3 x11_2).f3)] 75 (0, 0)) (kb_ BK173) hb); have n3_ := Aside0.mk (blk_below (g := gb175) (o := .cells #[.int .i64 ((rd_T79 x10_2 x11_2).f0), .int .i64 ((rd_T79 x10_2 x11_2).f1)] 79 (0, 0)) (kb_ BK175) hb); have n4_ := Aside0.mk (below_step (kS_ HB GE173 GE175) hb); clear HO_10; clear BK173; clear BK175; clear HB; have HO_10 := n0_; have HO190 := n1_; have BK173 := n2_; have BK175 := n3_; have HB := n4_; clear n0_ n1_ n2_ n3_ n4_; clear hb ho76))
         go_ret2
         exact ⟨_, by first | rfl | (simp [errW_none, errW_some] <;> rfl) | (simp [*, errW_none, errW_some] <;> rfl), by (with_reducible repeat (first | apply Kd.R_alloc | apply Kd.R_drewN | apply Kd.R_drew)); exact Kd.R_mono HO190.out (fun _ hk => trivial), kS_ HB GE173 GE175⟩
        ·
         as_aux_lemma =>
         rw [if_neg c73] at H
         have c73b0 : (!(((rd_T79 x10_2 x11_2).f0) == (wrap64 ((rd_T57 l2 ((rd_T75 l3 x11_2).f2)).f0))) || (!(((rd_T79 x10_2 x11_2).f1) == (wrap64 ((rd_T57 l2 ((rd_T75 l3 x11_2).f2)).f1))))) = false := by simpa using c73
         clear c73
         have H' := Aside0.mk H
         clear H
         try go_wp2
         replace HO_10 := Aside0.mk (Kd.R_drew HO_10.out)
         replace BK173 := Aside0.mk (blk_drew BK173.out)
         replace BK175 := Aside0.mk (blk_drew BK175.out)
         replace HB := Aside0.mk (below_drew1 HB.out)
         have p186 : 0 ≤ (((rd_T75 l3 x11_2).f2) : Int) := od_
         have q186 : ((rd_T75 l3 x11_2).f2) < (l2.length : Int) := od_
         obtain ⟨ad186, e186, hx186_0, hx186_1, hx186_2⟩ := at_T57 HR2.out ((rd_T75 l3 x11_2).f2) p186 q186
         have hw186_2 := hx186_2
         have hw186_1 := hx186_1
         have hw186_0 := hx186_0
         cases e186
         replace hx186_0 := (HB.out.cell (World.block_lt_of_cell? w _ hx186_0)).trans hx186_0
         replace hx186_1 := (HB.out.cell (World.block_lt_of_cell? w _ hx186_1)).trans hx186_1
         replace hx186_2 := (HB.out.cell (World.block_lt_of_cell? w _ hx186_2)).trans hx186_2
         replace p186 := eq_true p186
         replace q186 := eq_true q186
         have p187 : 0 ≤ (((rd_T75 l3 x11_2).f2) : Int) := od_
         have q187 : ((rd_T75 l3 x11_2).f2) < (l2.length : Int) := od_
         obtain ⟨ad187, e187, hx187_0, hx187_1, hx187_2⟩ := at_T57 HR2.out ((rd_T75 l3 x11_2).f2) p187 q187
         have hw187_2 := hx187_2
         have hw187_1 := hx187_1
         have hw187_0 := hx187_0
         obtain rfl : ad186 = ad187 := (by injection e187)
         replace hx187_0 := (HB.out.cell (World.block_lt_of_cell? w _ hx187_0)).trans hx187_0
         replace hx187_1 := (HB.out.cell (World.block_lt_of_cell? w _ hx187_1)).trans hx187_1
         replace hx187_2 := (HB.out.cell (World.block_lt_of_cell? w _ hx187_2)).trans hx187_2
         replace p187 := eq_true p187
         replace q187 := eq_true q187
         refine start_ (n := 17) (S := fun w' => w'.cell? ⟨gb175, 0, none⟩ = some (.int .i64 ((rd_T79 x10_2 x11_2).f0)) ∧ w'.cell? ⟨gb175, 1, none⟩ = some (.int .i64 ((rd_T79 x10_2 x11_2).f1)) ∧ w'.cell? ⟨gb173, 0, none⟩ = some (.int .i8 ((rd_T75 l3 x11_2).f0)) ∧ w'.cell? ⟨gb173, 1, none⟩ = some (.int .i8 ((rd_T75 l3 x11_2).f1)) ∧ w'.cell? ⟨gb173, 2, none⟩ = some (.int .i8 ((rd_T75 l3 x11_2).f2)) ∧ w'.cell? ⟨gb173, 3, none⟩ = some (.int .i8 ((rd_T75 l3 x11_2).f3)) ∧ w'.cell? (ad186.add ((((rd_T75 l3 x11_2).f2)).toNat * 3)) = some (.int .i8 ((rd_T57 l2 ((rd_T75 l3 x11_2).f2)).f0)) ∧ w'.cell? ⟨(ad186.add ((((rd_T75 l3 x11_2).f2)).toNat * 3)).block, (ad186.add ((((rd_T75 l3 x11_2).f2)).toNat * 3)).off + 1, none⟩ = some (.int .i8 ((rd_T57 l2 ((rd_T75 l3 x11_2).f2)).f1)) ∧ w'.cell? ⟨(ad186.add ((((rd_T75 l3 x11_2).f2)).toNat * 3)).block, (ad186.add ((((rd_T75 l3 x11_2).f2)).toNat * 3)).off + 2, none⟩ = some (.int .i16 ((rd_T57 l2 ((rd_T75 l3 x11_2).f2)).f2)) ∧ w'.cell? (ad186.add ((((rd_T75 l3 x11_2).f2)).toNat * 3)) = some (.int .i8 ((rd_T57 l2 ((rd_T75 l3 x11_2).f2)).f0)) ∧ w'.cell? ⟨(ad186.add ((((rd_T75 l3 x11_2).f2)).toNat * 3)).block, (ad186.add ((((rd_T75 l3 x11_2).f2)).toNat * 3)).off + 1, none⟩ = some (.int .i8 ((rd_T57 l2 ((rd_T75 l3 x11_2).f2)).f1)) ∧ w'.cell? ⟨(ad186.add ((((rd_T75 l3 x11_2).f2)).toNat * 3)).block, (ad186.add ((((rd_T75 l3 x11_2).f2)).toNat * 3)).off + 2, none⟩ = some (.int .i16 ((rd_T57 l2 ((rd_T75 l3 x11_2).f2)).f2))) (ds := []) #[false, false, false, false, false, false, false, false, false, false, false, false, false, false, false, false, false] (by kernel_rfl) rfl rfl ⟨(blk_cell BK175.out 0).trans rfl, (blk_cell BK175.out 1).trans rfl, (blk_cell BK173.out 0).trans rfl, (blk_cell BK173.out 1).trans rfl, (blk_cell BK173.out 2).trans rfl, (blk_cell BK173.out 3).trans rfl, ((HB.out.cell (World.block_lt_of_cell? w _ hw186_0)).trans hw186_0), ((HB.out.cell (World.block_lt_of_cell? w _ hw186_1)).trans hw186_1), ((HB.out.cell (World.block_lt_of_cell? w _ hw186_2)).trans hw186_2), ((HB.out.cell (World.block_lt_of_cell? w _ hw187_0)).trans hw187_0), ((HB.out.cell (World.block_lt_of_cell? w _ hw187_1)).trans hw187_1), ((HB.out.cell (World.block_lt_of_cell? w _ hw187_2)).trans hw187_2)⟩ (fun hHeld => ?_); refine with_tabW spec_l04Sizes.tab20 spec_l04Sizes.bits20 (fun HT_ HW_ => ?_)
         generalize wc.drew = w77 at HO_10 BK173 BK175 HB hx186_0 hx186_1 hx186_2 hx187_0 hx187_1 hx187_2 hHeld ⊢
         refine pu_ 1 92 (lA 17 2) ?_ ?_ HT_ ?_
         refine pu_ 2 93 (lA 17 6) ?_ ?_ HT_ ?_
         refine pu_ 8 99 (lA 17 262) ?_ ?_ HT_ ?_
         refine pu_ 9 100 (lA 17 774) ?_ ?_ HT_ ?_
         refine tk_ 0 91 (lA 17 775) ?_ ?_ HT_ HW_ hHeld ?_
         refine tk_ 3 94 (lA 17 783) ?_ ?_ HT_ HW_ hHeld ?_
         refine pu_ 4 95 (lA 17 799) ?_ ?_ HT_ ?_
         refine pu_ 5 96 (lA 17 831) ?_ ?_ HT_ ?_
         refine tk_ 6 97 (lA 17 895) ?_ ?_ HT_ HW_ hHeld ?_
         refine pu_ 7 98 (lA 17 1023) ?_ ?_ HT_ ?_
         refine tk_ 10 101 (lA 17 2047) ?_ ?_ HT_ HW_ hHeld ?_
         refine pu_ 11 102 (lA 17 4095) ?_ ?_ HT_ ?_
         refine pu_ 12 103 (lA 17 8191) ?_ ?_ HT_ ?_
         refine tk_ 13 104 (lA 17 16383) ?_ ?_ HT_ HW_ hHeld ?_
         refine pu_ 14 105 (lA 17 32767) ?_ ?_ HT_ ?_
         refine pu_ 15 106 (lA 17 65535) ?_ ?_ HT_ ?_
         refine pu_ 16 107 (lA 17 131071) ?_ ?_ HT_ ?_
         refine done_ (done_of HT_.out (by kernel_rfl)) ?_
         try go_wp2
         (try simp only [← hl10_2])
         go_roundg kj51
         case measure => have := HJ4.out; have := HK2.out; have := HJ51.out; omega
         case rel => exact ⟨(x10_2), (wrap64 (x11_2 + 1)), (by first | rfl | (simp; done) | (simp [*]; done)), H', ⟨by have := HJ4.out; have := HK2.out; have := HJ51.out; omega⟩, ⟨by (try simp only [hl10_2]); (with_reducible repeat (first | apply Kd.R_alloc | apply Kd.R_drewN | apply Kd.R_drew)); exact Kd.R_mono HO_10.out (fun _ hk => trivial)⟩, ⟨kS_ HB GE173 GE175⟩⟩
     ·
      rw [if_neg c51] at H
      have c51b0 : (((rd_T75 l3 x11_2).f0) == 1) = false := beq_eq_false_iff_ne.mpr c51
      have c51b1 : (((rd_T75 l3 x11_2).f0) != 1) = true := bne_iff_ne.mpr c51
      have HC78 := Aside0.mk H
      clear H
      go_upto_if 109 with fail
      (try simp only [Act.put, List.setIfInBounds_toArray, List.set_cons_zero, List.set_cons_succ])
      go_cut [109] (fun v109 wc => ∃ (kq : Nat) (x109_77 : Bool), v109 = .bool x109_77 ∧ Aside0 (spec_l04Sizes.j3 kq l2 l3 x10_2 x11_2 x109_77 ((rd_T75 l3 x11_2).f0) ((rd_T75 l3 x11_2).f1) ((rd_T75 l3 x11_2).f2) ((rd_T75 l3 x11_2).f3) ((rd_T79 x10_2 x11_2).f0) ((rd_T79 x10_2 x11_2).f1) = some (r1, r2)) ∧ Aside0 (kq ≤ k2) ∧ Aside0 (Kd.R k79 79 wc w.heap.size (fun k_ => k_ ≠ gb175) (.slice (some ⟨go19, 0, none⟩) x10_2.length co19) x10_2) ∧ Aside0 (wc.heap[gb173]? = some (.cells #[.int .i8 ((rd_T75 l3 x11_2).f0), .int .i8 ((rd_T75 l3 x11_2).f1), .int .i8 ((rd_T75 l3 x11_2).f2), .int .i8 ((rd_T75 l3 x11_2).f3)] 75 (0, 0))) ∧ Aside0 (wc.heap[gb175]? = some (.cells #[.int .i64 ((rd_T79 x10_2 x11_2).f0), .int .i64 ((rd_T79 x10_2 x11_2).f1)] 79 (0, 0))) ∧ Aside0 (Below w.heap.size w wc))
      case first =>
       have H := HC78.out
       clear HC78
       by_cases c85 : ((rd_T75 l3 x11_2).f0) = 2
       ·
        rw [if_pos c85] at H
        have c85b0 : (((rd_T75 l3 x11_2).f0) == 2) = true := beq_iff_eq.mpr c85
        have c85b1 : (((rd_T75 l3 x11_2).f0) != 2) = false := bne_eq_false_iff_eq.mpr c85
        clear c85
        (first | rw [c85b0] | (simp only [i64_w, i32_w]; rw [c85b0]) | skip)
        have H' := Aside0.mk H
        clear H
        go_wp2
        go_meet
        case rel => exact ⟨_, ((((rd_T75 l3 x11_2).f0) == 2)), (by first | rfl | (simp; done) | (simp [*]; done)), H', ⟨by have := HJ4.out; have := HK2.out; first | omega | exact Nat.le_refl _⟩, ⟨by (try simp only [hl10_2]); (with_reducible repeat (first | apply Kd.R_alloc | apply Kd.R_drewN | apply Kd.R_drew)); exact Kd.R_mono (Kd.R_far (p := ⟨gb175, 1, none⟩) (Kd.R_far (p := ⟨gb175, 0, none⟩) (Kd.R_mono HO_10.out (fun k_ hk => (⟨hk, hk.2⟩ : _ ∧ k_ ≠ gb175))) (fun _ hk => hk.2) (.int .i64 ((rd_T79 x10_2 x11_2).f0))) (fun _ hk => hk.2) (.int .i64 ((rd_T79 x10_2 x11_2).f1))) (fun _ hk => hk.1.2)⟩, ⟨by (try simp only [hl10_2]); (with_reducible repeat (first | refine blk_drewN ?_ _ | refine blk_drew ?_ | refine blk_alloc ?_ _)); refine blk_far ?_ NB173_175.out _; (with_reducible repeat (first | refine blk_drewN ?_ _ | refine blk_drew ?_ | refine blk_alloc ?_ _)); refine blk_far ?_ NB173_175.out _; (with_reducible repeat (first | refine blk_drewN ?_ _ | refine blk_drew ?_ | refine blk_alloc ?_ _)); exact BK173.out⟩, ⟨by (try simp only [hl10_2]); (with_reducible repeat (first | refine blk_drewN ?_ _ | refine blk_drew ?_ | refine blk_alloc ?_ _)); refine blk_put (cs := #[.int .i64 ((rd_T79 x10_2 x11_2).f0), .int .i64 0]) ?_ 1 _ rfl; (with_reducible repeat (first | refine blk_drewN ?_ _ | refine blk_drew ?_ | refine blk_alloc ?_ _)); refine blk_put (cs := #[.int .i64 0, .int .i64 0]) ?_ 0 _ rfl; (with_reducible repeat (first | refine blk_drewN ?_ _ | refine blk_drew ?_ | refine blk_alloc ?_ _)); exact BK175.out⟩, ⟨kS_ HB GE173 GE175⟩⟩
       ·
        rw [if_neg c85] at H
        have c85b0 : (((rd_T75 l3 x11_2).f0) == 2) = false := beq_eq_false_iff_ne.mpr c85
        have c85b1 : (((rd_T75 l3 x11_2).f0) != 2) = true := bne_iff_ne.mpr c85
        (first | rw [c85b0] | (simp only [i64_w, i32_w]; rw [c85b0]) | skip)
        have H' := Aside0.mk H
        clear H
        go_wp2
        go_meet
        case rel => exact ⟨_, ((((rd_T75 l3 x11_2).f0) == 3)), (by first | rfl | (simp; done) | (simp [*]; done)), H', ⟨by have := HJ4.out; have := HK2.out; first | omega | exact Nat.le_refl _⟩, ⟨by (try simp only [hl10_2]); (with_reducible repeat (first | apply Kd.R_alloc | apply Kd.R_drewN | apply Kd.R_drew)); exact Kd.R_mono (Kd.R_far (p := ⟨gb175, 1, none⟩) (Kd.R_far (p := ⟨gb175, 0, none⟩) (Kd.R_mono HO_10.out (fun k_ hk => (⟨hk, hk.2⟩ : _ ∧ k_ ≠ gb175))) (fun _ hk => hk.2) (.int .i64 ((rd_T79 x10_2 x11_2).f0))) (fun _ hk => hk.2) (.int .i64 ((rd_T79 x10_2 x11_2).f1))) (fun _ hk => hk.1.2)⟩, ⟨by (try simp only [hl10_2]); (with_reducible repeat (first | refine blk_drewN ?_ _ | refine blk_drew ?_ | refine blk_alloc ?_ _)); refine blk_far ?_ NB173_175.out _; (with_reducible repeat (first | refine blk_drewN ?_ _ | refine blk_drew ?_ | refine blk_alloc ?_ _)); refine blk_far ?_ NB173_175.out _; (with_reducible repeat (first | refine blk_drewN ?_ _ | refine blk_drew ?_ | refine blk_alloc ?_ _)); exact BK173.out⟩, ⟨by (try simp only [hl10_2]); (with_reducible repeat (first | refine blk_drewN ?_ _ | refine blk_drew ?_ | refine blk_alloc ?_ _)); refine blk_put (cs := #[.int .i64 ((rd_T79 x10_2 x11_2).f0), .int .i64 0]) ?_ 1 _ rfl; (with_reducible repeat (first | refine blk_drewN ?_ _ | refine blk_drew ?_ | refine blk_alloc ?_ _)); refine blk_put (cs := #[.int .i64 0, .int .i64 0]) ?_ 0 _ rfl; (with_reducible repeat (first | refine blk_drewN ?_ _ | refine blk_drew ?_ | refine blk_alloc ?_ _)); exact BK175.out⟩, ⟨kS_ HB GE173 GE175⟩⟩
      case rest =>
       clear HC78
       try clear p1
       try clear q1
       try clear hx1
       try clear c2
       try clear p2
       try clear hx2
       try clear c3
       try clear c4
       try clear c5
       try clear c6
       try clear p6
       try clear c7
       try clear c8
       try clear p17
       try clear q17
       try clear hx17
       try clear p18
       try clear q18
       try clear hx18
       try clear p19
       try clear q19
       try clear hx19
       try clear hx22
       try clear c27
       try clear c27b0
       try clear c27b1
       try clear c31
       try clear c35
       try clear c35b0
       try clear c35b1
       try clear c36
       try clear c36b0
       try clear c40
       try clear c48
       try clear c51
       try clear c51b0
       try clear c51b1
       try clear c56
       try clear c59
       try clear c59b0
       try clear c59b1
       try clear c60
       try clear c60b0
       try clear c60b1
       try clear c62
       try clear c64
       try clear p64
       try clear c66
       try clear c67
       try clear c68
       try clear c71
       try clear c71b0
       try clear c72
       try clear c72b0
       try clear c73
       try clear c73b0
       try clear c82
       try clear c85
       try clear c85b0
       try clear c85b1
       try clear hcz29_0
       try clear hcz29_1
       try clear hcz29_2
       try clear hcz29_3
       try clear hcz32_0
       try clear hcz32_1
       try clear hcz38_0
       try clear hcz38_1
       try clear hcz38_2
       try clear hcz38_3
       try clear hcz41_0
       try clear hcz41_1
       try clear hcz42_0
       try clear hcz42_1
       try clear hcz42_2
       try clear hcz42_3
       try clear hcz46_0
       try clear hcz46_1
       try clear hcz46_2
       try clear hcz46_3
       try clear hcz49_0
       try clear hcz49_1
       try clear hcz50_0
       try clear hcz50_1
       try clear hcz50_2
       try clear hcz50_3
       try clear hcz54_0
       try clear hcz54_1
       try clear hcz54_2
       try clear hcz54_3
       try clear hcz57_0
       try clear hcz57_1
       try clear hcz58_0
       try clear hcz58_1
       try clear hcz58_2
       try clear hcz58_3
       try clear hcz63_0
       try clear hcz63_1
       try clear hcz63_2
       try clear hcz63_3
       try clear hcz65_0
       try clear hcz65_1
       try clear hcz65_2
       try clear hcz65_3
       try clear hcz67_0
       try clear hcz67_1
       try clear hcz67_2
       try clear hcz67_3
       try clear hcz38_0
       try clear hcz38_1
       try clear hcz38_2
       try clear hcz38_3
       try clear hcz41_0
       try clear hcz41_1
       try clear hcz42_0
       try clear hcz42_1
       try clear hcz42_2
       try clear hcz42_3
       try clear hfz29_0
       try clear hfz29_1
       try clear hfz29_2
       try clear hfz29_3
       try clear hfz32_0
       try clear hfz32_1
       try clear hfz38_0
       try clear hfz38_1
       try clear hfz38_2
       try clear hfz38_3
       try clear hfz41_0
       try clear hfz41_1
       try clear hfz42_0
       try clear hfz42_1
       try clear hfz42_2
       try clear hfz42_3
       try clear hfz46_0
       try clear hfz46_1
       try clear hfz46_2
       try clear hfz46_3
       try clear hfz49_0
       try clear hfz49_1
       try clear hfz50_0
       try clear hfz50_1
       try clear hfz50_2
       try clear hfz50_3
       try clear hfz54_0
       try clear hfz54_1
       try clear hfz54_2
       try clear hfz54_3
       try clear hfz57_0
       try clear hfz57_1
       try clear hfz58_0
       try clear hfz58_1
       try clear hfz58_2
       try clear hfz58_3
       try clear hfz63_0
       try clear hfz63_1
       try clear hfz63_2
       try clear hfz63_3
       try clear hfz65_0
       try clear hfz65_1
       try clear hfz65_2
       try clear hfz65_3
       try clear hfz67_0
       try clear hfz67_1
       try clear hfz67_2
       try clear hfz67_3
       try clear hfz38_0
       try clear hfz38_1
       try clear hfz38_2
       try clear hfz38_3
       try clear hfz41_0
       try clear hfz41_1
       try clear hfz42_0
       try clear hfz42_1
       try clear hfz42_2
       try clear hfz42_3
       try clear hx172_0
       try clear hx172_1
       try clear hx172_2
       try clear hx172_3
       try clear hx174_0
       try clear hx174_1
       try clear hx186_0
       try clear hx186_1
       try clear hx186_2
       try clear hx187_0
       try clear hx187_1
       try clear hx187_2
       try clear hx19_0
       try clear hx19_1
       try clear hx22_0
       try clear hx22_1
       try clear p1
       try clear p172
       try clear p174
       try clear p186
       try clear p187
       try clear p19
       try clear p2
       try clear p64
       try clear q1
       try clear q172
       try clear q174
       try clear q186
       try clear q187
       try clear q19
       obtain ⟨kq, x109_77, rfl, HA, HJ77, HO_10, BK173, BK175, HB⟩ := hcut
       cases kq with
       | zero => exact absurd HA.out (by simp [spec_l04Sizes.j3])
       | succ kj77 =>
        have H := HA.out
        clear HA
        simp only [spec_l04Sizes.j3] at H
        by_cases c86 : x109_77 = true
        rotate_left
        ·
         replace c86 := Bool.eq_false_iff.mpr c86
         subst c86
         have H1 : (some ((([] : List (S79))), false)) = some (r1, r2) := by rw [if_neg (show ¬ (false = true) by decide)] at H; exact H
         clear H
         have H := H1
         clear H1
         obtain ⟨y211, hy211⟩ : ∃ y_ : List (S79), y_ = (([] : List (S79))) := ⟨_, rfl⟩
         replace H : (some (y211, false)) = some (r1, r2) := by first | (rw [hy211]; with_reducible exact H) | (have H2_ := (Option.bind_some _ _).symm.trans H; rw [hy211]; with_reducible exact H2_) | (have H2_ := (Option.bind_some _ _).symm.trans H; with_reducible exact H2_) | with_reducible exact H | (rw [hy211]; exact H) | exact H
         have Ny211 := Aside0.mk hy211
         clear hy211
         simp only [Option.some.injEq, Prod.mk.injEq] at H
         obtain ⟨rfl, rfl⟩ := H
         go_wp2_with (first | ((with_reducible refine gate_dst (N := 63) rfl ?_); (try (refine gate_guard (by rfl) ?_; dsimp only)); refine Kd.R_lit k79 _ 79 ?hg (N := 63) ?hd (xs := ([] : List (S79))) (inner := []) (ok := fun _ => True) (okp := fun _ => True) ?hr ?hp (fun _ hk => hk) trivial (Below.refl _ _) (Nat.le_refl _) (by simp) ?_; (case hd => rfl); (case hg => rfl); (case hr => first | (go_simp; done) | (go_simp; rfl)); (case hp => exact (Reps.none _ _)); intro v212 w166 ho167 hb hg_ hnew_; clear hg_ hnew_; (first | rw [← Ny211.out] at ho167 | (simp only [Int.reduceToNat] at ho167; rw [← Ny211.out] at ho167)); have n0_ := Aside0.mk (Kd.R_elder' (kp_ HO_10) (Kd.R_base ho167) hb); have n1_ := Aside0.mk (Kd.R_lower (Kd.R_newB (Kd.R_new' ho167 (Kd.R_lt (kp_ HO_10))) (g := gb175) (o := .cells #[.int .i64 ((rd_T79 x10_2 x11_2).f0), .int .i64 ((rd_T79 x10_2 x11_2).f1)] 79 (0, 0)) (kb_ BK175)) (below_size (kS_ HB GE173 GE175))); have n2_ := Aside0.mk (blk_below (g := gb173) (o := .cells #[.int .i8 ((rd_T75 l3 x11_2).f0), .int .i8 ((rd_T75 l3 x11_2).f1), .int .i8 ((rd_T75 l3 x11_2).f2), .int .i8 ((rd_T75 l3 x11_2).f3)] 75 (0, 0)) (kb_ BK173) hb); have n3_ := Aside0.mk (blk_below (g := gb175) (o := .cells #[.int .i64 ((rd_T79 x10_2 x11_2).f0), .int .i64 ((rd_T79 x10_2 x11_2).f1)] 79 (0, 0)) (kb_ BK175) hb); have n4_ := Aside0.mk (below_step (kS_ HB GE173 GE175) hb); clear HO_10; clear BK173; clear BK175; clear HB; have HO_10 := n0_; have HO213 := n1_; have BK173 := n2_; have BK175 := n3_; have HB := n4_; clear n0_ n1_ n2_ n3_ n4_; clear hb ho167))
         go_ret2
         exact ⟨_, by first | rfl | (simp [errW_none, errW_some] <;> rfl) | (simp [*, errW_none, errW_some] <;> rfl), by (with_reducible repeat (first | apply Kd.R_alloc | apply Kd.R_drewN | apply Kd.R_drew)); exact Kd.R_mono HO213.out (fun _ hk => trivial), kS_ HB GE173 GE175⟩
        subst c86
        have H1 : ((spec_l04Given.f x10_2 x11_2 ((rd_T75 l3 x11_2).f0) ((rd_T75 l3 x11_2).f1) ((rd_T75 l3 x11_2).f2) ((rd_T75 l3 x11_2).f3)).bind fun t191 => (if t191 = true then (if (wrap64 ((wrap64 (((rd_T75 l3 x11_2).f0))) - 2)) = (0 : Int) then ((spec_l00In.f (wrap64 (((rd_T75 l3 x11_2).f1))) 1 (wrap64 (((rd_T79 x10_2 x11_2).f0) - 1))).bind fun t192 => (if t192 = true then (if 0 ≤ ((rd_T75 l3 x11_2).f2) then (if ((rd_T75 l3 x11_2).f2) < (x10_2.length : Int) then ((some (x10_2.set (((rd_T75 l3 x11_2).f2) : Int).toNat (⟨((rd_T79 x10_2 x11_2).f0), ((rd_T79 x10_2 x11_2).f1)⟩ : S79) : List (S79))).bind fun y193 => (if 0 ≤ ((rd_T75 l3 x11_2).f3) then (if ((rd_T75 l3 x11_2).f3) < (x10_2.length : Int) then ((some ((y193.set (((rd_T75 l3 x11_2).f2) : Int).toNat (⟨wrap64 (((rd_T75 l3 x11_2).f1)), (rd_T79 y193 ((rd_T75 l3 x11_2).f2)).f1⟩ : S79)).set (((rd_T75 l3 x11_2).f3) : Int).toNat (⟨((rd_T79 x10_2 x11_2).f0), ((rd_T79 x10_2 x11_2).f1)⟩ : S79) : List (S79))).bind fun y195 => (spec_l04Sizes.l0 kj77 l2 l3 (y195.set (((rd_T75 l3 x11_2).f3) : Int).toNat (⟨wrap64 (((rd_T79 x10_2 x11_2).f0) - (wrap64 (((rd_T75 l3 x11_2).f1)))), (rd_T79 y195 ((rd_T75 l3 x11_2).f3)).f1⟩ : S79)) (wrap64 (x11_2 + 1)))) else (none)) else (none))) else (none)) else (none)) else (some ((([] : List (S79))), false)))) else (if (wrap64 ((wrap64 (((rd_T75 l3 x11_2).f0))) - 2)) = (1 : Int) then ((spec_l00In.f (wrap64 (((rd_T75 l3 x11_2).f1))) 1 (wrap64 (((rd_T79 x10_2 x11_2).f1) - 1))).bind fun t200 => (if t200 = true then (if 0 ≤ ((rd_T75 l3 x11_2).f2) then (if ((rd_T75 l3 x11_2).f2) < (x10_2.length : Int) then ((some (x10_2.set (((rd_T75 l3 x11_2).f2) : Int).toNat (⟨((rd_T79 x10_2 x11_2).f0), ((rd_T79 x10_2 x11_2).f1)⟩ : S79) : List (S79))).bind fun y201 => (if 0 ≤ ((rd_T75 l3 x11_2).f3) then (if ((rd_T75 l3 x11_2).f3) < (x10_2.length : Int) then ((some ((y201.set (((rd_T75 l3 x11_2).f2) : Int).toNat (⟨(rd_T79 y201 ((rd_T75 l3 x11_2).f2)).f0, wrap64 (((rd_T75 l3 x11_2).f1))⟩ : S79)).set (((rd_T75 l3 x11_2).f3) : Int).toNat (⟨((rd_T79 x10_2 x11_2).f0), ((rd_T79 x10_2 x11_2).f1)⟩ : S79) : List (S79))).bind fun y203 => (spec_l04Sizes.l0 kj77 l2 l3 (y203.set (((rd_T75 l3 x11_2).f3) : Int).toNat (⟨(rd_T79 y203 ((rd_T75 l3 x11_2).f3)).f0, wrap64 (((rd_T79 x10_2 x11_2).f1) - (wrap64 (((rd_T75 l3 x11_2).f1))))⟩ : S79)) (wrap64 (x11_2 + 1)))) else (none)) else (none))) else (none)) else (none)) else (some ((([] : List (S79))), false)))) else (none))) else (some ((([] : List (S79))), false)))) = some (r1, r2) := by rw [if_pos rfl] at H; exact H
        clear H
        have H := H1
        clear H1
        replace H := Option.bind_eq_some_iff.mp H
        obtain ⟨t191, A870, H⟩ := H
        replace H : (if t191 = true then (if (wrap64 ((wrap64 (((rd_T75 l3 x11_2).f0))) - 2)) = (0 : Int) then ((spec_l00In.f (wrap64 (((rd_T75 l3 x11_2).f1))) 1 (wrap64 (((rd_T79 x10_2 x11_2).f0) - 1))).bind fun t192 => (if t192 = true then (if 0 ≤ ((rd_T75 l3 x11_2).f2) then (if ((rd_T75 l3 x11_2).f2) < (x10_2.length : Int) then ((some (x10_2.set (((rd_T75 l3 x11_2).f2) : Int).toNat (⟨((rd_T79 x10_2 x11_2).f0), ((rd_T79 x10_2 x11_2).f1)⟩ : S79) : List (S79))).bind fun y193 => (if 0 ≤ ((rd_T75 l3 x11_2).f3) then (if ((rd_T75 l3 x11_2).f3) < (x10_2.length : Int) then ((some ((y193.set (((rd_T75 l3 x11_2).f2) : Int).toNat (⟨wrap64 (((rd_T75 l3 x11_2).f1)), (rd_T79 y193 ((rd_T75 l3 x11_2).f2)).f1⟩ : S79)).set (((rd_T75 l3 x11_2).f3) : Int).toNat (⟨((rd_T79 x10_2 x11_2).f0), ((rd_T79 x10_2 x11_2).f1)⟩ : S79) : List (S79))).bind fun y195 => (spec_l04Sizes.l0 kj77 l2 l3 (y195.set (((rd_T75 l3 x11_2).f3) : Int).toNat (⟨wrap64 (((rd_T79 x10_2 x11_2).f0) - (wrap64 (((rd_T75 l3 x11_2).f1)))), (rd_T79 y195 ((rd_T75 l3 x11_2).f3)).f1⟩ : S79)) (wrap64 (x11_2 + 1)))) else (none)) else (none))) else (none)) else (none)) else (some ((([] : List (S79))), false)))) else (if (wrap64 ((wrap64 (((rd_T75 l3 x11_2).f0))) - 2)) = (1 : Int) then ((spec_l00In.f (wrap64 (((rd_T75 l3 x11_2).f1))) 1 (wrap64 (((rd_T79 x10_2 x11_2).f1) - 1))).bind fun t200 => (if t200 = true then (if 0 ≤ ((rd_T75 l3 x11_2).f2) then (if ((rd_T75 l3 x11_2).f2) < (x10_2.length : Int) then ((some (x10_2.set (((rd_T75 l3 x11_2).f2) : Int).toNat (⟨((rd_T79 x10_2 x11_2).f0), ((rd_T79 x10_2 x11_2).f1)⟩ : S79) : List (S79))).bind fun y201 => (if 0 ≤ ((rd_T75 l3 x11_2).f3) then (if ((rd_T75 l3 x11_2).f3) < (x10_2.length : Int) then ((some ((y201.set (((rd_T75 l3 x11_2).f2) : Int).toNat (⟨(rd_T79 y201 ((rd_T75 l3 x11_2).f2)).f0, wrap64 (((rd_T75 l3 x11_2).f1))⟩ : S79)).set (((rd_T75 l3 x11_2).f3) : Int).toNat (⟨((rd_T79 x10_2 x11_2).f0), ((rd_T79 x10_2 x11_2).f1)⟩ : S79) : List (S79))).bind fun y203 => (spec_l04Sizes.l0 kj77 l2 l3 (y203.set (((rd_T75 l3 x11_2).f3) : Int).toNat (⟨(rd_T79 y203 ((rd_T75 l3 x11_2).f3)).f0, wrap64 (((rd_T79 x10_2 x11_2).f1) - (wrap64 (((rd_T75 l3 x11_2).f1))))⟩ : S79)) (wrap64 (x11_2 + 1)))) else (none)) else (none))) else (none)) else (none)) else (some ((([] : List (S79))), false)))) else (none))) else (some ((([] : List (S79))), false))) = some (r1, r2) := H
        have A87 := Aside0.mk A870
        clear A870
        by_cases c88 : t191 = true
        rotate_left
        ·
         replace c88 := Bool.eq_false_iff.mpr c88
         subst c88
         have H1 : (some ((([] : List (S79))), false)) = some (r1, r2) := by rw [if_neg (show ¬ (false = true) by decide)] at H; exact H
         clear H
         have H := H1
         clear H1
         obtain ⟨y208, hy208⟩ : ∃ y_ : List (S79), y_ = (([] : List (S79))) := ⟨_, rfl⟩
         replace H : (some (y208, false)) = some (r1, r2) := by first | (rw [hy208]; with_reducible exact H) | (have H2_ := (Option.bind_some _ _).symm.trans H; rw [hy208]; with_reducible exact H2_) | (have H2_ := (Option.bind_some _ _).symm.trans H; with_reducible exact H2_) | with_reducible exact H | (rw [hy208]; exact H) | exact H
         have Ny208 := Aside0.mk hy208
         clear hy208
         simp only [Option.some.injEq, Prod.mk.injEq] at H
         obtain ⟨rfl, rfl⟩ := H
         have hnb161 := NB173_175.out
         have hnc161 := NB175_173.out
         have hcz162_0 : wc.cell? ⟨gb173, 0, none⟩ = some (.int .i8 ((rd_T75 l3 x11_2).f0)) := (blk_cell BK173.out 0).trans rfl
         have hcz162_1 : wc.cell? ⟨gb173, 1, none⟩ = some (.int .i8 ((rd_T75 l3 x11_2).f1)) := (blk_cell BK173.out 1).trans rfl
         have hcz162_2 : wc.cell? ⟨gb173, 2, none⟩ = some (.int .i8 ((rd_T75 l3 x11_2).f2)) := (blk_cell BK173.out 2).trans rfl
         have hcz162_3 : wc.cell? ⟨gb173, 3, none⟩ = some (.int .i8 ((rd_T75 l3 x11_2).f3)) := (blk_cell BK173.out 3).trans rfl
         have hfz162_0 := blk_frozen BK173.out 0
         have hfz162_1 := blk_frozen BK173.out 1
         have hfz162_2 := blk_frozen BK173.out 2
         have hfz162_3 := blk_frozen BK173.out 3
         go_wp2_with (first | ((with_reducible refine gate_callee (f := 71) rfl ?_); refine goesL_ (some 115) rfl rfl Try.func71 (by kernel_rfl) rfl #[.slice (some ⟨go19, 0, none⟩) x10_2.length co19, .int .i64 x11_2, .agg #[.int .i8 ((rd_T75 l3 x11_2).f0), .int .i8 ((rd_T75 l3 x11_2).f1), .int .i8 ((rd_T75 l3 x11_2).f2), .int .i8 ((rd_T75 l3 x11_2).f3)]] rfl (by (try simp only [List.map_toArray, List.map_cons, List.map_nil]); first | done | rfl | (simp only [List.length_drop, List.length_take]; rfl)) ?_; (with_reducible refine (spec_l04Given.calls _ _ x10_2 x11_2 ((rd_T75 l3 x11_2).f0) ((rd_T75 l3 x11_2).f1) ((rd_T75 l3 x11_2).f2) ((rd_T75 l3 x11_2).f3) false _ ?side1 ?side2 A87.out).mono ?_); (case side1 => repeat (first | exact (Kd.R_reads' HO_10.out).2.2 | (with_reducible refine Kd.C_alloc ?_ _) | (with_reducible refine Kd.C_drewN ?_ _) | (with_reducible refine Kd.C_drew ?_))); (case side2 => exact (Kd.R_reads' HO_10.out).2.1); rintro e w163 ⟨rfl, hb⟩; refine ⟨_, rfl, ?_⟩; have n0_ := Aside0.mk (Kd.R_below (kp_ HO_10) hb); have n1_ := Aside0.mk (blk_below (g := gb173) (o := .cells #[.int .i8 ((rd_T75 l3 x11_2).f0), .int .i8 ((rd_T75 l3 x11_2).f1), .int .i8 ((rd_T75 l3 x11_2).f2), .int .i8 ((rd_T75 l3 x11_2).f3)] 75 (0, 0)) (kb_ BK173) hb); have n2_ := Aside0.mk (blk_below (g := gb175) (o := .cells #[.int .i64 ((rd_T79 x10_2 x11_2).f0), .int .i64 ((rd_T79 x10_2 x11_2).f1)] 79 (0, 0)) (kb_ BK175) hb); have n3_ := Aside0.mk (below_step (kS_ HB GE173 GE175) hb); clear HO_10; clear BK173; clear BK175; clear HB; have HO_10 := n0_; have BK173 := n1_; have BK175 := n2_; have HB := n3_; clear n0_ n1_ n2_ n3_; (try clear hb); (try clear hb2); (try clear hk); (try clear hi)) | ((with_reducible refine gate_dst (N := 117) rfl ?_); (try (refine gate_guard (by rfl) ?_; dsimp only)); refine Kd.R_lit k79 _ 79 ?hg (N := 117) ?hd (xs := ([] : List (S79))) (inner := []) (ok := fun _ => True) (okp := fun _ => True) ?hr ?hp (fun _ hk => hk) trivial (Below.refl _ _) (Nat.le_refl _) (by simp) ?_; (case hd => rfl); (case hg => rfl); (case hr => first | (go_simp; done) | (go_simp; rfl)); (case hp => exact (Reps.none _ _)); intro v209 w164 ho165 hb hg_ hnew_; clear hg_ hnew_; (first | rw [← Ny208.out] at ho165 | (simp only [Int.reduceToNat] at ho165; rw [← Ny208.out] at ho165)); have n0_ := Aside0.mk (Kd.R_elder' (kp_ HO_10) (Kd.R_base ho165) hb); have n1_ := Aside0.mk (Kd.R_lower (Kd.R_newB (Kd.R_new' ho165 (Kd.R_lt (kp_ HO_10))) (g := gb175) (o := .cells #[.int .i64 ((rd_T79 x10_2 x11_2).f0), .int .i64 ((rd_T79 x10_2 x11_2).f1)] 79 (0, 0)) (kb_ BK175)) (below_size (kS_ HB GE173 GE175))); have n2_ := Aside0.mk (blk_below (g := gb173) (o := .cells #[.int .i8 ((rd_T75 l3 x11_2).f0), .int .i8 ((rd_T75 l3 x11_2).f1), .int .i8 ((rd_T75 l3 x11_2).f2), .int .i8 ((rd_T75 l3 x11_2).f3)] 75 (0, 0)) (kb_ BK173) hb); have n3_ := Aside0.mk (blk_below (g := gb175) (o := .cells #[.int .i64 ((rd_T79 x10_2 x11_2).f0), .int .i64 ((rd_T79 x10_2 x11_2).f1)] 79 (0, 0)) (kb_ BK175) hb); have n4_ := Aside0.mk (below_step (kS_ HB GE173 GE175) hb); clear HO_10; clear BK173; clear BK175; clear HB; have HO_10 := n0_; have HO210 := n1_; have BK173 := n2_; have BK175 := n3_; have HB := n4_; clear n0_ n1_ n2_ n3_ n4_; clear hb ho165))
         go_ret2
         exact ⟨_, by first | rfl | (simp [errW_none, errW_some] <;> rfl) | (simp [*, errW_none, errW_some] <;> rfl), by (with_reducible repeat (first | apply Kd.R_alloc | apply Kd.R_drewN | apply Kd.R_drew)); exact Kd.R_mono HO210.out (fun _ hk => trivial), kS_ HB GE173 GE175⟩
        subst c88
        have H1 : (if (wrap64 ((wrap64 (((rd_T75 l3 x11_2).f0))) - 2)) = (0 : Int) then ((spec_l00In.f (wrap64 (((rd_T75 l3 x11_2).f1))) 1 (wrap64 (((rd_T79 x10_2 x11_2).f0) - 1))).bind fun t192 => (if t192 = true then (if 0 ≤ ((rd_T75 l3 x11_2).f2) then (if ((rd_T75 l3 x11_2).f2) < (x10_2.length : Int) then ((some (x10_2.set (((rd_T75 l3 x11_2).f2) : Int).toNat (⟨((rd_T79 x10_2 x11_2).f0), ((rd_T79 x10_2 x11_2).f1)⟩ : S79) : List (S79))).bind fun y193 => (if 0 ≤ ((rd_T75 l3 x11_2).f3) then (if ((rd_T75 l3 x11_2).f3) < (x10_2.length : Int) then ((some ((y193.set (((rd_T75 l3 x11_2).f2) : Int).toNat (⟨wrap64 (((rd_T75 l3 x11_2).f1)), (rd_T79 y193 ((rd_T75 l3 x11_2).f2)).f1⟩ : S79)).set (((rd_T75 l3 x11_2).f3) : Int).toNat (⟨((rd_T79 x10_2 x11_2).f0), ((rd_T79 x10_2 x11_2).f1)⟩ : S79) : List (S79))).bind fun y195 => (spec_l04Sizes.l0 kj77 l2 l3 (y195.set (((rd_T75 l3 x11_2).f3) : Int).toNat (⟨wrap64 (((rd_T79 x10_2 x11_2).f0) - (wrap64 (((rd_T75 l3 x11_2).f1)))), (rd_T79 y195 ((rd_T75 l3 x11_2).f3)).f1⟩ : S79)) (wrap64 (x11_2 + 1)))) else (none)) else (none))) else (none)) else (none)) else (some ((([] : List (S79))), false)))) else (if (wrap64 ((wrap64 (((rd_T75 l3 x11_2).f0))) - 2)) = (1 : Int) then ((spec_l00In.f (wrap64 (((rd_T75 l3 x11_2).f1))) 1 (wrap64 (((rd_T79 x10_2 x11_2).f1) - 1))).bind fun t200 => (if t200 = true then (if 0 ≤ ((rd_T75 l3 x11_2).f2) then (if ((rd_T75 l3 x11_2).f2) < (x10_2.length : Int) then ((some (x10_2.set (((rd_T75 l3 x11_2).f2) : Int).toNat (⟨((rd_T79 x10_2 x11_2).f0), ((rd_T79 x10_2 x11_2).f1)⟩ : S79) : List (S79))).bind fun y201 => (if 0 ≤ ((rd_T75 l3 x11_2).f3) then (if ((rd_T75 l3 x11_2).f3) < (x10_2.length : Int) then ((some ((y201.set (((rd_T75 l3 x11_2).f2) : Int).toNat (⟨(rd_T79 y201 ((rd_T75 l3 x11_2).f2)).f0, wrap64 (((rd_T75 l3 x11_2).f1))⟩ : S79)).set (((rd_T75 l3 x11_2).f3) : Int).toNat (⟨((rd_T79 x10_2 x11_2).f0), ((rd_T79 x10_2 x11_2).f1)⟩ : S79) : List (S79))).bind fun y203 => (spec_l04Sizes.l0 kj77 l2 l3 (y203.set (((rd_T75 l3 x11_2).f3) : Int).toNat (⟨(rd_T79 y203 ((rd_T75 l3 x11_2).f3)).f0, wrap64 (((rd_T79 x10_2 x11_2).f1) - (wrap64 (((rd_T75 l3 x11_2).f1))))⟩ : S79)) (wrap64 (x11_2 + 1)))) else (none)) else (none))) else (none)) else (none)) else (some ((([] : List (S79))), false)))) else (none))) = some (r1, r2) := by rw [if_pos rfl] at H; exact H
        clear H
        have H := H1
        clear H1
        by_cases c89 : (wrap64 ((wrap64 (((rd_T75 l3 x11_2).f0))) - 2)) = (0 : Int)
        ·
         as_aux_lemma =>
         rw [if_pos c89] at H
         (try (have c89b0 : (wrap64 ((wrap64 (((rd_T75 l3 x11_2).f0))) - 2)) = (0 : Int) := c89))
         clear c89
         replace H := Option.bind_eq_some_iff.mp H
         obtain ⟨t192, A900, H⟩ := H
         replace H : (if t192 = true then (if 0 ≤ ((rd_T75 l3 x11_2).f2) then (if ((rd_T75 l3 x11_2).f2) < (x10_2.length : Int) then ((some (x10_2.set (((rd_T75 l3 x11_2).f2) : Int).toNat (⟨((rd_T79 x10_2 x11_2).f0), ((rd_T79 x10_2 x11_2).f1)⟩ : S79) : List (S79))).bind fun y193 => (if 0 ≤ ((rd_T75 l3 x11_2).f3) then (if ((rd_T75 l3 x11_2).f3) < (x10_2.length : Int) then ((some ((y193.set (((rd_T75 l3 x11_2).f2) : Int).toNat (⟨wrap64 (((rd_T75 l3 x11_2).f1)), (rd_T79 y193 ((rd_T75 l3 x11_2).f2)).f1⟩ : S79)).set (((rd_T75 l3 x11_2).f3) : Int).toNat (⟨((rd_T79 x10_2 x11_2).f0), ((rd_T79 x10_2 x11_2).f1)⟩ : S79) : List (S79))).bind fun y195 => (spec_l04Sizes.l0 kj77 l2 l3 (y195.set (((rd_T75 l3 x11_2).f3) : Int).toNat (⟨wrap64 (((rd_T79 x10_2 x11_2).f0) - (wrap64 (((rd_T75 l3 x11_2).f1)))), (rd_T79 y195 ((rd_T75 l3 x11_2).f3)).f1⟩ : S79)) (wrap64 (x11_2 + 1)))) else (none)) else (none))) else (none)) else (none)) else (some ((([] : List (S79))), false))) = some (r1, r2) := H
         have A90 := Aside0.mk A900
         clear A900
         by_cases c91 : t192 = true
         ·
          subst c91
          have H1 : (if 0 ≤ ((rd_T75 l3 x11_2).f2) then (if ((rd_T75 l3 x11_2).f2) < (x10_2.length : Int) then ((some (x10_2.set (((rd_T75 l3 x11_2).f2) : Int).toNat (⟨((rd_T79 x10_2 x11_2).f0), ((rd_T79 x10_2 x11_2).f1)⟩ : S79) : List (S79))).bind fun y193 => (if 0 ≤ ((rd_T75 l3 x11_2).f3) then (if ((rd_T75 l3 x11_2).f3) < (x10_2.length : Int) then ((some ((y193.set (((rd_T75 l3 x11_2).f2) : Int).toNat (⟨wrap64 (((rd_T75 l3 x11_2).f1)), (rd_T79 y193 ((rd_T75 l3 x11_2).f2)).f1⟩ : S79)).set (((rd_T75 l3 x11_2).f3) : Int).toNat (⟨((rd_T79 x10_2 x11_2).f0), ((rd_T79 x10_2 x11_2).f1)⟩ : S79) : List (S79))).bind fun y195 => (spec_l04Sizes.l0 kj77 l2 l3 (y195.set (((rd_T75 l3 x11_2).f3) : Int).toNat (⟨wrap64 (((rd_T79 x10_2 x11_2).f0) - (wrap64 (((rd_T75 l3 x11_2).f1)))), (rd_T79 y195 ((rd_T75 l3 x11_2).f3)).f1⟩ : S79)) (wrap64 (x11_2 + 1)))) else (none)) else (none))) else (none)) else (none)) = some (r1, r2) := by rw [if_pos rfl] at H; exact H
          clear H
          have H := H1
          clear H1
          by_cases c92 : 0 ≤ ((rd_T75 l3 x11_2).f2)
          rotate_left
          ·
           rw [if_neg c92] at H
           exact absurd H (by simp)
          rw [if_pos c92] at H
          have c92b0 : decide (0 ≤ ((rd_T75 l3 x11_2).f2)) = true := decide_eq_true c92
          clear c92
          by_cases c93 : ((rd_T75 l3 x11_2).f2) < (x10_2.length : Int)
          rotate_left
          ·
           rw [if_neg c93] at H
           exact absurd H (by simp)
          rw [if_pos c93] at H
          have c93b0 : decide (((rd_T75 l3 x11_2).f2) < (x10_2.length : Int)) = true := decide_eq_true c93
          clear c93
          obtain ⟨y193, hy193⟩ : ∃ y_ : List (S79), y_ = (x10_2.set (((rd_T75 l3 x11_2).f2) : Int).toNat (⟨((rd_T79 x10_2 x11_2).f0), ((rd_T79 x10_2 x11_2).f1)⟩ : S79)) := ⟨_, rfl⟩
          replace H : (if 0 ≤ ((rd_T75 l3 x11_2).f3) then (if ((rd_T75 l3 x11_2).f3) < (x10_2.length : Int) then ((some ((y193.set (((rd_T75 l3 x11_2).f2) : Int).toNat (⟨wrap64 (((rd_T75 l3 x11_2).f1)), (rd_T79 y193 ((rd_T75 l3 x11_2).f2)).f1⟩ : S79)).set (((rd_T75 l3 x11_2).f3) : Int).toNat (⟨((rd_T79 x10_2 x11_2).f0), ((rd_T79 x10_2 x11_2).f1)⟩ : S79) : List (S79))).bind fun y195 => (spec_l04Sizes.l0 kj77 l2 l3 (y195.set (((rd_T75 l3 x11_2).f3) : Int).toNat (⟨wrap64 (((rd_T79 x10_2 x11_2).f0) - (wrap64 (((rd_T75 l3 x11_2).f1)))), (rd_T79 y195 ((rd_T75 l3 x11_2).f3)).f1⟩ : S79)) (wrap64 (x11_2 + 1)))) else (none)) else (none)) = some (r1, r2) := by first | (rw [hy193]; with_reducible exact H) | (have H2_ := (Option.bind_some _ _).symm.trans H; rw [hy193]; with_reducible exact H2_) | (have H2_ := (Option.bind_some _ _).symm.trans H; with_reducible exact H2_) | with_reducible exact H | (rw [hy193]; exact H) | exact H
          have Ny193 := Aside0.mk hy193
          clear hy193
          obtain ⟨y194, hy194⟩ : ∃ y_ : List (S79), y_ = (y193.set (((rd_T75 l3 x11_2).f2) : Int).toNat (⟨wrap64 (((rd_T75 l3 x11_2).f1)), (rd_T79 y193 ((rd_T75 l3 x11_2).f2)).f1⟩ : S79)) := ⟨_, rfl⟩
          replace H : (if 0 ≤ ((rd_T75 l3 x11_2).f3) then (if ((rd_T75 l3 x11_2).f3) < (x10_2.length : Int) then ((some (y194.set (((rd_T75 l3 x11_2).f3) : Int).toNat (⟨((rd_T79 x10_2 x11_2).f0), ((rd_T79 x10_2 x11_2).f1)⟩ : S79) : List (S79))).bind fun y195 => (spec_l04Sizes.l0 kj77 l2 l3 (y195.set (((rd_T75 l3 x11_2).f3) : Int).toNat (⟨wrap64 (((rd_T79 x10_2 x11_2).f0) - (wrap64 (((rd_T75 l3 x11_2).f1)))), (rd_T79 y195 ((rd_T75 l3 x11_2).f3)).f1⟩ : S79)) (wrap64 (x11_2 + 1)))) else (none)) else (none)) = some (r1, r2) := by first | (rw [hy194]; with_reducible exact H) | (have H2_ := (Option.bind_some _ _).symm.trans H; rw [hy194]; with_reducible exact H2_) | (have H2_ := (Option.bind_some _ _).symm.trans H; with_reducible exact H2_) | with_reducible exact H | (rw [hy194]; exact H) | exact H
          have Ny194 := Aside0.mk hy194
          clear hy194
          by_cases c96 : 0 ≤ ((rd_T75 l3 x11_2).f3)
          rotate_left
          ·
           rw [if_neg c96] at H
           exact absurd H (by simp)
          rw [if_pos c96] at H
          have c96b0 : decide (0 ≤ ((rd_T75 l3 x11_2).f3)) = true := decide_eq_true c96
          clear c96
          by_cases c97 : ((rd_T75 l3 x11_2).f3) < (x10_2.length : Int)
          rotate_left
          ·
           rw [if_neg c97] at H
           exact absurd H (by simp)
          rw [if_pos c97] at H
          have c97b0 : decide (((rd_T75 l3 x11_2).f3) < (x10_2.length : Int)) = true := decide_eq_true c97
          clear c97
          obtain ⟨y195, hy195⟩ : ∃ y_ : List (S79), y_ = (y194.set (((rd_T75 l3 x11_2).f3) : Int).toNat (⟨((rd_T79 x10_2 x11_2).f0), ((rd_T79 x10_2 x11_2).f1)⟩ : S79)) := ⟨_, rfl⟩
          replace H : (spec_l04Sizes.l0 kj77 l2 l3 (y195.set (((rd_T75 l3 x11_2).f3) : Int).toNat (⟨wrap64 (((rd_T79 x10_2 x11_2).f0) - (wrap64 (((rd_T75 l3 x11_2).f1)))), (rd_T79 y195 ((rd_T75 l3 x11_2).f3)).f1⟩ : S79)) (wrap64 (x11_2 + 1))) = some (r1, r2) := by first | (rw [hy195]; with_reducible exact H) | (have H2_ := (Option.bind_some _ _).symm.trans H; rw [hy195]; with_reducible exact H2_) | (have H2_ := (Option.bind_some _ _).symm.trans H; with_reducible exact H2_) | with_reducible exact H | (rw [hy195]; exact H) | exact H
          have Ny195 := Aside0.mk hy195
          clear hy195
          obtain ⟨y196, hy196⟩ : ∃ y_ : List (S79), y_ = (y195.set (((rd_T75 l3 x11_2).f3) : Int).toNat (⟨wrap64 (((rd_T79 x10_2 x11_2).f0) - (wrap64 (((rd_T75 l3 x11_2).f1)))), (rd_T79 y195 ((rd_T75 l3 x11_2).f3)).f1⟩ : S79)) := ⟨_, rfl⟩
          replace H : (spec_l04Sizes.l0 kj77 l2 l3 y196 (wrap64 (x11_2 + 1))) = some (r1, r2) := by first | (rw [hy196]; with_reducible exact H) | (have H2_ := (Option.bind_some _ _).symm.trans H; rw [hy196]; with_reducible exact H2_) | (have H2_ := (Option.bind_some _ _).symm.trans H; with_reducible exact H2_) | with_reducible exact H | (rw [hy196]; exact H) | exact H
          have Ny196 := Aside0.mk hy196
          clear hy196
          have H' := Aside0.mk H
          clear H
          have hnb100 := NB173_175.out
          have hnc100 := NB175_173.out
          have hcz101_0 : wc.cell? ⟨gb173, 0, none⟩ = some (.int .i8 ((rd_T75 l3 x11_2).f0)) := (blk_cell BK173.out 0).trans rfl
          have hcz101_1 : wc.cell? ⟨gb173, 1, none⟩ = some (.int .i8 ((rd_T75 l3 x11_2).f1)) := (blk_cell BK173.out 1).trans rfl
          have hcz101_2 : wc.cell? ⟨gb173, 2, none⟩ = some (.int .i8 ((rd_T75 l3 x11_2).f2)) := (blk_cell BK173.out 2).trans rfl
          have hcz101_3 : wc.cell? ⟨gb173, 3, none⟩ = some (.int .i8 ((rd_T75 l3 x11_2).f3)) := (blk_cell BK173.out 3).trans rfl
          have hfz101_0 := blk_frozen BK173.out 0
          have hfz101_1 := blk_frozen BK173.out 1
          have hfz101_2 := blk_frozen BK173.out 2
          have hfz101_3 := blk_frozen BK173.out 3
          try go_wp2_with (first | ((with_reducible refine gate_callee (f := 71) rfl ?_); refine goesL_ (some 115) rfl rfl Try.func71 (by kernel_rfl) rfl #[.slice (some ⟨go19, 0, none⟩) x10_2.length co19, .int .i64 x11_2, .agg #[.int .i8 ((rd_T75 l3 x11_2).f0), .int .i8 ((rd_T75 l3 x11_2).f1), .int .i8 ((rd_T75 l3 x11_2).f2), .int .i8 ((rd_T75 l3 x11_2).f3)]] rfl (by (try simp only [List.map_toArray, List.map_cons, List.map_nil]); first | done | rfl | (simp only [List.length_drop, List.length_take]; rfl)) ?_; (with_reducible refine (spec_l04Given.calls _ _ x10_2 x11_2 ((rd_T75 l3 x11_2).f0) ((rd_T75 l3 x11_2).f1) ((rd_T75 l3 x11_2).f2) ((rd_T75 l3 x11_2).f3) true _ ?side1 ?side2 A87.out).mono ?_); (case side1 => repeat (first | exact (Kd.R_reads' HO_10.out).2.2 | (with_reducible refine Kd.C_alloc ?_ _) | (with_reducible refine Kd.C_drewN ?_ _) | (with_reducible refine Kd.C_drew ?_))); (case side2 => exact (Kd.R_reads' HO_10.out).2.1); rintro e w102 ⟨rfl, hb⟩; refine ⟨_, rfl, ?_⟩; have n0_ := Aside0.mk (Kd.R_below (kp_ HO_10) hb); have n1_ := Aside0.mk (blk_below (g := gb173) (o := .cells #[.int .i8 ((rd_T75 l3 x11_2).f0), .int .i8 ((rd_T75 l3 x11_2).f1), .int .i8 ((rd_T75 l3 x11_2).f2), .int .i8 ((rd_T75 l3 x11_2).f3)] 75 (0, 0)) (kb_ BK173) hb); have n2_ := Aside0.mk (blk_below (g := gb175) (o := .cells #[.int .i64 ((rd_T79 x10_2 x11_2).f0), .int .i64 ((rd_T79 x10_2 x11_2).f1)] 79 (0, 0)) (kb_ BK175) hb); have n3_ := Aside0.mk (below_step (kS_ HB GE173 GE175) hb); clear HO_10; clear BK173; clear BK175; clear HB; have HO_10 := n0_; have BK173 := n1_; have BK175 := n2_; have HB := n3_; clear n0_ n1_ n2_ n3_; (try clear hb); (try clear hb2); (try clear hk); (try clear hi); have hcz103_0 : w102.cell? ⟨gb173, 0, none⟩ = some (.int .i8 ((rd_T75 l3 x11_2).f0)) := (blk_cell BK173.out 0).trans rfl; have hcz103_1 : w102.cell? ⟨gb173, 1, none⟩ = some (.int .i8 ((rd_T75 l3 x11_2).f1)) := (blk_cell BK173.out 1).trans rfl; have hcz103_2 : w102.cell? ⟨gb173, 2, none⟩ = some (.int .i8 ((rd_T75 l3 x11_2).f2)) := (blk_cell BK173.out 2).trans rfl; have hcz103_3 : w102.cell? ⟨gb173, 3, none⟩ = some (.int .i8 ((rd_T75 l3 x11_2).f3)) := (blk_cell BK173.out 3).trans rfl; have hfz103_0 := blk_frozen BK173.out 0; have hfz103_1 := blk_frozen BK173.out 1; have hfz103_2 := blk_frozen BK173.out 2; have hfz103_3 := blk_frozen BK173.out 3))
          replace HO_10 := Aside0.mk (Kd.R_drew HO_10.out)
          replace BK173 := Aside0.mk (blk_drew BK173.out)
          replace BK175 := Aside0.mk (blk_drew BK175.out)
          replace HB := Aside0.mk (below_drew1 HB.out)
          refine start_ (n := 9) (S := fun w' => w'.cell? ⟨gb173, 0, none⟩ = some (.int .i8 ((rd_T75 l3 x11_2).f0)) ∧ w'.cell? ⟨gb173, 1, none⟩ = some (.int .i8 ((rd_T75 l3 x11_2).f1)) ∧ w'.cell? ⟨gb173, 2, none⟩ = some (.int .i8 ((rd_T75 l3 x11_2).f2)) ∧ w'.cell? ⟨gb173, 3, none⟩ = some (.int .i8 ((rd_T75 l3 x11_2).f3)) ∧ w'.cell? ⟨gb175, 0, none⟩ = some (.int .i64 ((rd_T79 x10_2 x11_2).f0)) ∧ w'.cell? ⟨gb175, 1, none⟩ = some (.int .i64 ((rd_T79 x10_2 x11_2).f1))) (ds := []) #[false, false, false, false, false, false, false, false, false] (by kernel_rfl) rfl rfl ⟨(blk_cell BK173.out 0).trans rfl, (blk_cell BK173.out 1).trans rfl, (blk_cell BK173.out 2).trans rfl, (blk_cell BK173.out 3).trans rfl, (blk_cell BK175.out 0).trans rfl, (blk_cell BK175.out 1).trans rfl⟩ (fun hHeld => ?_); refine with_tabW spec_l04Sizes.tab27 spec_l04Sizes.bits27 (fun HT_ HW_ => ?_)
          generalize w102.drew = w104 at HO_10 BK173 BK175 HB hHeld ⊢
          refine pu_ 0 122 (lA 9 1) ?_ ?_ HT_ ?_
          refine pu_ 3 125 (lA 9 9) ?_ ?_ HT_ ?_
          refine pu_ 4 126 (lA 9 25) ?_ ?_ HT_ ?_
          refine tk_ 1 123 (lA 9 27) ?_ ?_ HT_ HW_ hHeld ?_
          refine pu_ 2 124 (lA 9 31) ?_ ?_ HT_ ?_
          refine tk_ 5 127 (lA 9 63) ?_ ?_ HT_ HW_ hHeld ?_
          refine pu_ 6 128 (lA 9 127) ?_ ?_ HT_ ?_
          refine one_ (i := 7) (N := some 129) (lA 9 255) rfl rfl (one_of HT_.out (by kernel_rfl)) (by decide) (fun K hK => ?_)
          refine goes_ Try.func68 (by kernel_rfl) rfl #[.int .i64 (wrap64 (((rd_T75 l3 x11_2).f1))), .int .i64 1, .int .i64 (wrap64 (((rd_T79 x10_2 x11_2).f0) - 1))] (by rfl) rfl rfl (by (try simp only [List.map_toArray, List.map_cons, List.map_nil]); first | done | rfl | (simp only [List.length_drop, List.length_take]; rfl)) ?_
          with_reducible refine (spec_l00In.calls (wrap64 (((rd_T75 l3 x11_2).f1))) 1 (wrap64 (((rd_T79 x10_2 x11_2).f0) - 1)) true _ A90.out).mono ?_
          rintro e w' ⟨rfl, ⟨nd, rfl⟩⟩
          refine ⟨_, rfl, ?_⟩
          refine hK.out _ _ ⟨(blk_cell BK173.out 0).trans rfl, (blk_cell BK173.out 1).trans rfl, (blk_cell BK173.out 2).trans rfl, (blk_cell BK173.out 3).trans rfl, (blk_cell BK175.out 0).trans rfl, (blk_cell BK175.out 1).trans rfl⟩ (fun hHeld => ?_)
          clear hK K
          refine norm_ (a' := ?_) ?_ ?_
          rotate_left
          ·
           show Act.put _ (some 129) _ = _
           simp only [Act.put, List.setIfInBounds_toArray, List.set_cons_zero, List.set_cons_succ, i64_w, i32_w]
           rfl
          refine pu_ 8 130 (lA 9 511) ?_ ?_ HT_ ?_
          refine done_ (done_of HT_.out (by kernel_rfl)) ?_
          (try (rw [drewN_self w104]; generalize hq_ : World.drewN w104 _ = w104; have n0_ : Aside0 (Kd.R k79 79 w104 w.heap.size (fun k_ => k_ ≠ gb175) (.slice (some ⟨go19, 0, none⟩) x10_2.length co19) x10_2) := ⟨by rw [← hq_]; exact (kp_ HO_10)⟩; have n1_ : Aside0 (w104.heap[gb173]? = some (.cells #[.int .i8 ((rd_T75 l3 x11_2).f0), .int .i8 ((rd_T75 l3 x11_2).f1), .int .i8 ((rd_T75 l3 x11_2).f2), .int .i8 ((rd_T75 l3 x11_2).f3)] 75 (0, 0))) := ⟨by rw [← hq_]; exact (kb_ BK173)⟩; have n2_ : Aside0 (w104.heap[gb175]? = some (.cells #[.int .i64 ((rd_T79 x10_2 x11_2).f0), .int .i64 ((rd_T79 x10_2 x11_2).f1)] 79 (0, 0))) := ⟨by rw [← hq_]; exact (kb_ BK175)⟩; have n3_ : Aside0 (Below w.heap.size w w104) := ⟨by rw [← hq_]; exact (kS_ HB GE173 GE175)⟩; clear HO_10 BK173 BK175 HB hq_; have HO_10 := n0_; have BK173 := n1_; have BK175 := n2_; have HB := n3_; clear n0_ n1_ n2_ n3_))
          have hcz105_0 : w104.cell? ⟨gb173, 0, none⟩ = some (.int .i8 ((rd_T75 l3 x11_2).f0)) := (blk_cell BK173.out 0).trans rfl
          have hcz105_1 : w104.cell? ⟨gb173, 1, none⟩ = some (.int .i8 ((rd_T75 l3 x11_2).f1)) := (blk_cell BK173.out 1).trans rfl
          have hcz105_2 : w104.cell? ⟨gb173, 2, none⟩ = some (.int .i8 ((rd_T75 l3 x11_2).f2)) := (blk_cell BK173.out 2).trans rfl
          have hcz105_3 : w104.cell? ⟨gb173, 3, none⟩ = some (.int .i8 ((rd_T75 l3 x11_2).f3)) := (blk_cell BK173.out 3).trans rfl
          have hfz105_0 := blk_frozen BK173.out 0
          have hfz105_1 := blk_frozen BK173.out 1
          have hfz105_2 := blk_frozen BK173.out 2
          have hfz105_3 := blk_frozen BK173.out 3
          have hcz106_0 : w104.cell? ⟨gb175, 0, none⟩ = some (.int .i64 ((rd_T79 x10_2 x11_2).f0)) := (blk_cell BK175.out 0).trans rfl
          have hcz106_1 : w104.cell? ⟨gb175, 1, none⟩ = some (.int .i64 ((rd_T79 x10_2 x11_2).f1)) := (blk_cell BK175.out 1).trans rfl
          have hfz106_0 := blk_frozen BK175.out 0
          have hfz106_1 := blk_frozen BK175.out 1
          have p94 : 0 ≤ (((rd_T75 l3 x11_2).f2) : Int) := od_
          have q94 : (((rd_T75 l3 x11_2).f2) : Int) < ((x10_2.length : Int) : Int) := od_
          obtain ⟨ce94, hcl94, hM94, hcc94, hfr94⟩ := Kd.R_elem HO_10.out z79 (((rd_T75 l3 x11_2).f2) : Int) p94 q94
          obtain rfl := k79_openM hM94
          have hx94_0 : w104.cell? ⟨go19, (((rd_T75 l3 x11_2).f2) : Int).toNat * 2, none⟩ = some (.int .i64 ((rd_T79 x10_2 ((rd_T75 l3 x11_2).f2)).f0)) := hcc94 0 _ rfl
          have hx94_1 : w104.cell? ⟨go19, (((rd_T75 l3 x11_2).f2) : Int).toNat * 2 + 1, none⟩ = some (.int .i64 ((rd_T79 x10_2 ((rd_T75 l3 x11_2).f2)).f1)) := hcc94 1 _ rfl
          have hf94_0 : w104.frozen? ⟨go19, (((rd_T75 l3 x11_2).f2) : Int).toNat * 2, none⟩ = false := hfr94 0
          have hf94_1 : w104.frozen? ⟨go19, (((rd_T75 l3 x11_2).f2) : Int).toNat * 2 + 1, none⟩ = false := hfr94 1
          clear hcl94 hcc94 hfr94; (try clear hM94)
          replace p94 := eq_true p94
          replace q94 := eq_true q94
          have HX107 := Aside0.mk (show Kd.R k79 79 w104 w.heap.size (fun k_ => k_ ≠ gb175) (.slice (some ⟨go19, 0, none⟩) x10_2.length co19) x10_2 from (kp_ HO_10))
          obtain ⟨ce107, hcl107, hM107, hcc107, hfr107⟩ := Kd.R_elem HX107.out z79 (((rd_T75 l3 x11_2).f2) : Int) od_ (by have h_ : (((rd_T75 l3 x11_2).f2) : Int) < ((x10_2.length : Int) : Int) := od_; first | exact h_ | (have e_ := (Kd.R_reads' HO_10.out).1; omega) | simpa using h_)
          obtain rfl := k79_openM hM107
          have HP107 := Kd.R_seg HX107.out (((rd_T75 l3 x11_2).f2) : Int) od_ (by have h_ : (((rd_T75 l3 x11_2).f2) : Int) < ((x10_2.length : Int) : Int) := od_; first | exact h_ | (have e_ := (Kd.R_reads' HO_10.out).1; omega) | simpa using h_) (seg := [.int .i64 ((rd_T79 x10_2 x11_2).f0), .int .i64 ((rd_T79 x10_2 x11_2).f1)]) (j := 0) hcl107 hcc107 (show 2 ≤ 2 from by decide) (x' := (⟨((rd_T79 x10_2 x11_2).f0), ((rd_T79 x10_2 x11_2).f1)⟩ : S79)) (k79_mkM _ _ _ (⟨((rd_T79 x10_2 x11_2).f0), ((rd_T79 x10_2 x11_2).f1)⟩ : S79) ) (fun _ hk => hk)
          have hx107_0 := hcc107 0 _ rfl
          (try simp only [show (k79).sz = 2 from rfl, Nat.mul_one, Nat.add_zero] at hx107_0)
          have hf107_0 := hfr107 0
          (try simp only [show (k79).sz = 2 from rfl, Nat.mul_one, Nat.add_zero] at hf107_0)
          have hx107_1 := hcc107 1 _ rfl
          (try simp only [show (k79).sz = 2 from rfl, Nat.mul_one, Nat.add_zero] at hx107_1)
          have hf107_1 := hfr107 1
          (try simp only [show (k79).sz = 2 from rfl, Nat.mul_one, Nat.add_zero] at hf107_1)
          clear hcl107 hcc107 hfr107; (try clear hM107)
          try go_wp2_with (first | ((with_reducible refine gate_store (t := 79) (p := 136) rfl ?_); refine store_event (t := 79) (p := 136) (v := ?vo_w108) (w1 := ((w104.setCell ⟨go19, (((rd_T75 l3 x11_2).f2) : Int).toNat * 2, none⟩ (.int .i64 ((rd_T79 x10_2 x11_2).f0))).setCell ⟨go19, (((rd_T75 l3 x11_2).f2) : Int).toNat * 2 + 1, none⟩ (.int .i64 ((rd_T79 x10_2 x11_2).f1)))) ?hg ?ho ?hn ?hr ?_; (case ho => rfl); (case hg => rfl); (case hn => rfl); (case hr => first | (go_simp; done) | (go_simp; rfl)); intro w108 hw; have hg : w104.grownBy w108 (some go19) := (by rw [hw]; exact HP107.2); have hp_ : Kd.R k79 79 w108 w.heap.size (fun k_ => k_ ≠ gb175) (.slice (some ⟨go19, 0, none⟩) x10_2.length co19) y193 := (by rw [hw, Ny193.out]; exact HP107.1); clear HP107; have n0_ := Aside0.mk (hp_); have n1_ := Aside0.mk (blk_grown (g := gb173) (o := .cells #[.int .i8 ((rd_T75 l3 x11_2).f0), .int .i8 ((rd_T75 l3 x11_2).f1), .int .i8 ((rd_T75 l3 x11_2).f2), .int .i8 ((rd_T75 l3 x11_2).f3)] 75 (0, 0)) (kb_ BK173) hg (Kd.R_ne HO_10.out BK173.out (by decide))); have n2_ := Aside0.mk (blk_grown (g := gb175) (o := .cells #[.int .i64 ((rd_T79 x10_2 x11_2).f0), .int .i64 ((rd_T79 x10_2 x11_2).f1)] 79 (0, 0)) (kb_ BK175) hg (Kd.R_away HO_10.out (fun _ hk => hk))); have n3_ := Aside0.mk ((by rw [hw]; exact below_set (below_set (HB.out) GB19.out) GB19.out : Below w.heap.size w w108)); clear HO_10; clear BK173; clear BK175; clear HB; have HO_10 := n0_; have BK173 := n1_; have BK175 := n2_; have HB := n3_; clear n0_ n1_ n2_ n3_; clear hg hw hp_))
          replace HO_10 := Aside0.mk (Kd.R_drew HO_10.out)
          replace BK173 := Aside0.mk (blk_drew BK173.out)
          replace BK175 := Aside0.mk (blk_drew BK175.out)
          replace HB := Aside0.mk (below_drew1 HB.out)
          have p95 : 0 ≤ (((rd_T75 l3 x11_2).f2) : Int) := od_
          have q95 : (((rd_T75 l3 x11_2).f2) : Int) < ((x10_2.length : Int) : Int) := od_
          obtain ⟨ce95, hcl95, hM95, hcc95, hfr95⟩ := Kd.R_elem HO_10.out z79 (((rd_T75 l3 x11_2).f2) : Int) p95 q95
          obtain rfl := k79_openM hM95
          have hx95_0 : World.cell? _ ⟨go19, (((rd_T75 l3 x11_2).f2) : Int).toNat * 2, none⟩ = some (.int .i64 ((rd_T79 y193 ((rd_T75 l3 x11_2).f2)).f0)) := hcc95 0 _ rfl
          have hx95_1 : World.cell? _ ⟨go19, (((rd_T75 l3 x11_2).f2) : Int).toNat * 2 + 1, none⟩ = some (.int .i64 ((rd_T79 y193 ((rd_T75 l3 x11_2).f2)).f1)) := hcc95 1 _ rfl
          have hf95_0 : World.frozen? _ ⟨go19, (((rd_T75 l3 x11_2).f2) : Int).toNat * 2, none⟩ = false := hfr95 0
          have hf95_1 : World.frozen? _ ⟨go19, (((rd_T75 l3 x11_2).f2) : Int).toNat * 2 + 1, none⟩ = false := hfr95 1
          clear hcl95 hcc95 hfr95; (try clear hM95)
          replace p95 := eq_true p95
          replace q95 := eq_true q95
          obtain ⟨ce110, hcl110, hM110, hcc110, hfr110⟩ := Kd.R_elem HO_10.out z79 (((rd_T75 l3 x11_2).f2) : Int) od_ (by have h_ : (((rd_T75 l3 x11_2).f2) : Int) < ((x10_2.length : Int) : Int) := od_; first | exact h_ | (have e_ := (Kd.R_reads' HO_10.out).1; omega) | simpa using h_)
          obtain rfl := k79_openM hM110
          have HP110 := (Kd.R_seg HO_10.out (((rd_T75 l3 x11_2).f2) : Int) od_ (by have h_ : (((rd_T75 l3 x11_2).f2) : Int) < ((x10_2.length : Int) : Int) := od_; first | exact h_ | (have e_ := (Kd.R_reads' HO_10.out).1; omega) | simpa using h_) (seg := [.int .i64 (wrap64 (((rd_T75 l3 x11_2).f1)))]) (j := 0) hcl110 hcc110 (show 1 ≤ 2 from by decide) (x' := (⟨wrap64 (((rd_T75 l3 x11_2).f1)), (rd_T79 y193 ((rd_T75 l3 x11_2).f2)).f1⟩ : S79)) (k79_mkM _ _ _ (⟨wrap64 (((rd_T75 l3 x11_2).f1)), (rd_T79 y193 ((rd_T75 l3 x11_2).f2)).f1⟩ : S79) ) (fun _ hk => hk)).1
          rw [← Ny194.out] at HP110
          have HQ110 := Aside0.mk HP110
          clear hcl110 hcc110 hfr110; (try clear hM110); clear HP110
          refine start_ (n := 10) (S := fun w' => w'.cell? ⟨gb173, 0, none⟩ = some (.int .i8 ((rd_T75 l3 x11_2).f0)) ∧ w'.cell? ⟨gb173, 1, none⟩ = some (.int .i8 ((rd_T75 l3 x11_2).f1)) ∧ w'.cell? ⟨gb173, 2, none⟩ = some (.int .i8 ((rd_T75 l3 x11_2).f2)) ∧ w'.cell? ⟨gb173, 3, none⟩ = some (.int .i8 ((rd_T75 l3 x11_2).f3))) (ds := [9]) #[false, false, false, false, false, false, false, false, false, false] (by kernel_rfl) rfl rfl ⟨(blk_cell BK173.out 0).trans rfl, (blk_cell BK173.out 1).trans rfl, (blk_cell BK173.out 2).trans rfl, (blk_cell BK173.out 3).trans rfl⟩ (fun hHeld => ?_); refine with_tabW spec_l04Sizes.tab30 spec_l04Sizes.bits30 (fun HT_ HW_ => ?_)
          generalize w108.drew = w109 at HO_10 BK173 BK175 HB HQ110 hf95_0 hf95_1 hx95_0 hx95_1 hHeld ⊢
          refine pu_ 0 137 (lA 10 1) ?_ ?_ HT_ ?_
          refine pu_ 1 138 (lA 10 3) ?_ ?_ HT_ ?_
          refine pu_ 3 140 (lA 10 11) ?_ ?_ HT_ ?_
          refine pu_ 4 141 (lA 10 27) ?_ ?_ HT_ ?_
          refine tk_ 2 139 (lA 10 31) ?_ ?_ HT_ HW_ hHeld ?_
          refine pu_ 7 144 (lA 10 159) ?_ ?_ HT_ ?_
          refine tk_ 5 142 (lA 10 191) ?_ ?_ HT_ HW_ hHeld ?_
          refine pu_ 6 143 (lA 10 255) ?_ ?_ HT_ ?_
          refine pu_ 8 145 (lA 10 511) ?_ ?_ HT_ ?_
          refine last_ (i := 9) (N := none) (lA 10 1023) rfl rfl (one_of HT_.out (by kernel_rfl)) (by decide) (fun K hK => ?_)
          refine skip_ (w1 := ?_) (by rfl) rfl ?_ ?_
          rotate_left
          ·
           go_simp
           rfl
          refine hK.out _ _ ?_
          clear hK K
          refine done_ (done_of HT_.out (by kernel_rfl)) ?_
          have n0_ : Aside0 (Kd.R k79 79 (w109.setCell ⟨go19, (((rd_T75 l3 x11_2).f2) : Int).toNat * 2, none⟩ (.int .i64 (wrap64 (((rd_T75 l3 x11_2).f1))))) w.heap.size (fun k_ => k_ ≠ gb175) (.slice (some ⟨go19, 0, none⟩) x10_2.length co19) y194) := ⟨kp_ HQ110⟩
          have n1_ : Aside0 ((w109.setCell ⟨go19, (((rd_T75 l3 x11_2).f2) : Int).toNat * 2, none⟩ (.int .i64 (wrap64 (((rd_T75 l3 x11_2).f1))))).heap[gb173]? = some (.cells #[.int .i8 ((rd_T75 l3 x11_2).f0), .int .i8 ((rd_T75 l3 x11_2).f1), .int .i8 ((rd_T75 l3 x11_2).f2), .int .i8 ((rd_T75 l3 x11_2).f3)] 75 (0, 0))) := ⟨by (with_reducible repeat (first | refine blk_drewN ?_ _ | refine blk_drew ?_ | refine blk_alloc ?_ _)); refine blk_far ?_ (by have h_ := Kd.R_ne HO_10.out BK173.out (by decide); intro e_; exact h_ (by rw [e_]; rfl)) _; (with_reducible repeat (first | refine blk_drewN ?_ _ | refine blk_drew ?_ | refine blk_alloc ?_ _)); exact BK173.out⟩
          have n2_ : Aside0 ((w109.setCell ⟨go19, (((rd_T75 l3 x11_2).f2) : Int).toNat * 2, none⟩ (.int .i64 (wrap64 (((rd_T75 l3 x11_2).f1))))).heap[gb175]? = some (.cells #[.int .i64 ((rd_T79 x10_2 x11_2).f0), .int .i64 ((rd_T79 x10_2 x11_2).f1)] 79 (0, 0))) := ⟨by (with_reducible repeat (first | refine blk_drewN ?_ _ | refine blk_drew ?_ | refine blk_alloc ?_ _)); refine blk_far ?_ (by have h_ := Kd.R_away HO_10.out (fun _ hk => hk); intro e_; exact h_ (by rw [e_]; rfl)) _; (with_reducible repeat (first | refine blk_drewN ?_ _ | refine blk_drew ?_ | refine blk_alloc ?_ _)); exact BK175.out⟩
          have n3_ : Aside0 (Below w.heap.size w (w109.setCell ⟨go19, (((rd_T75 l3 x11_2).f2) : Int).toNat * 2, none⟩ (.int .i64 (wrap64 (((rd_T75 l3 x11_2).f1)))))) := ⟨by repeat (first | (with_reducible first | exact HB.out | apply below_alloc | apply pw_below_drewN | apply below_drew1 | refine below_set ?_ GB19.out | refine below_set ?_ GE173.out | refine below_set ?_ GE175.out) | exact HB.out)⟩
          (try clear HO_10)
          (try clear BK173)
          (try clear BK175)
          (try clear HB)
          generalize (w109.setCell ⟨go19, (((rd_T75 l3 x11_2).f2) : Int).toNat * 2, none⟩ (.int .i64 (wrap64 (((rd_T75 l3 x11_2).f1))))) = w111 at n0_ n1_ n2_ n3_ ⊢
          have HO_10 := n0_
          have BK173 := n1_
          have BK175 := n2_
          have HB := n3_
          clear n0_ n1_ n2_ n3_
          have hcz112_0 : w111.cell? ⟨gb173, 0, none⟩ = some (.int .i8 ((rd_T75 l3 x11_2).f0)) := (blk_cell BK173.out 0).trans rfl
          have hcz112_1 : w111.cell? ⟨gb173, 1, none⟩ = some (.int .i8 ((rd_T75 l3 x11_2).f1)) := (blk_cell BK173.out 1).trans rfl
          have hcz112_2 : w111.cell? ⟨gb173, 2, none⟩ = some (.int .i8 ((rd_T75 l3 x11_2).f2)) := (blk_cell BK173.out 2).trans rfl
          have hcz112_3 : w111.cell? ⟨gb173, 3, none⟩ = some (.int .i8 ((rd_T75 l3 x11_2).f3)) := (blk_cell BK173.out 3).trans rfl
          have hfz112_0 := blk_frozen BK173.out 0
          have hfz112_1 := blk_frozen BK173.out 1
          have hfz112_2 := blk_frozen BK173.out 2
          have hfz112_3 := blk_frozen BK173.out 3
          have hcz113_0 : w111.cell? ⟨gb175, 0, none⟩ = some (.int .i64 ((rd_T79 x10_2 x11_2).f0)) := (blk_cell BK175.out 0).trans rfl
          have hcz113_1 : w111.cell? ⟨gb175, 1, none⟩ = some (.int .i64 ((rd_T79 x10_2 x11_2).f1)) := (blk_cell BK175.out 1).trans rfl
          have hfz113_0 := blk_frozen BK175.out 0
          have hfz113_1 := blk_frozen BK175.out 1
          have p98 : 0 ≤ (((rd_T75 l3 x11_2).f3) : Int) := od_
          have q98 : (((rd_T75 l3 x11_2).f3) : Int) < ((x10_2.length : Int) : Int) := od_
          obtain ⟨ce98, hcl98, hM98, hcc98, hfr98⟩ := Kd.R_elem HO_10.out z79 (((rd_T75 l3 x11_2).f3) : Int) p98 q98
          obtain rfl := k79_openM hM98
          have hx98_0 : w111.cell? ⟨go19, (((rd_T75 l3 x11_2).f3) : Int).toNat * 2, none⟩ = some (.int .i64 ((rd_T79 y194 ((rd_T75 l3 x11_2).f3)).f0)) := hcc98 0 _ rfl
          have hx98_1 : w111.cell? ⟨go19, (((rd_T75 l3 x11_2).f3) : Int).toNat * 2 + 1, none⟩ = some (.int .i64 ((rd_T79 y194 ((rd_T75 l3 x11_2).f3)).f1)) := hcc98 1 _ rfl
          have hf98_0 : w111.frozen? ⟨go19, (((rd_T75 l3 x11_2).f3) : Int).toNat * 2, none⟩ = false := hfr98 0
          have hf98_1 : w111.frozen? ⟨go19, (((rd_T75 l3 x11_2).f3) : Int).toNat * 2 + 1, none⟩ = false := hfr98 1
          clear hcl98 hcc98 hfr98; (try clear hM98)
          replace p98 := eq_true p98
          replace q98 := eq_true q98
          have HX114 := Aside0.mk (show Kd.R k79 79 w111 w.heap.size (fun k_ => k_ ≠ gb175) (.slice (some ⟨go19, 0, none⟩) x10_2.length co19) y194 from (kp_ HO_10))
          obtain ⟨ce114, hcl114, hM114, hcc114, hfr114⟩ := Kd.R_elem HX114.out z79 (((rd_T75 l3 x11_2).f3) : Int) od_ (by have h_ : (((rd_T75 l3 x11_2).f3) : Int) < ((x10_2.length : Int) : Int) := od_; first | exact h_ | (have e_ := (Kd.R_reads' HO_10.out).1; omega) | simpa using h_)
          obtain rfl := k79_openM hM114
          have HP114 := Kd.R_seg HX114.out (((rd_T75 l3 x11_2).f3) : Int) od_ (by have h_ : (((rd_T75 l3 x11_2).f3) : Int) < ((x10_2.length : Int) : Int) := od_; first | exact h_ | (have e_ := (Kd.R_reads' HO_10.out).1; omega) | simpa using h_) (seg := [.int .i64 ((rd_T79 x10_2 x11_2).f0), .int .i64 ((rd_T79 x10_2 x11_2).f1)]) (j := 0) hcl114 hcc114 (show 2 ≤ 2 from by decide) (x' := (⟨((rd_T79 x10_2 x11_2).f0), ((rd_T79 x10_2 x11_2).f1)⟩ : S79)) (k79_mkM _ _ _ (⟨((rd_T79 x10_2 x11_2).f0), ((rd_T79 x10_2 x11_2).f1)⟩ : S79) ) (fun _ hk => hk)
          have hx114_0 := hcc114 0 _ rfl
          (try simp only [show (k79).sz = 2 from rfl, Nat.mul_one, Nat.add_zero] at hx114_0)
          have hf114_0 := hfr114 0
          (try simp only [show (k79).sz = 2 from rfl, Nat.mul_one, Nat.add_zero] at hf114_0)
          have hx114_1 := hcc114 1 _ rfl
          (try simp only [show (k79).sz = 2 from rfl, Nat.mul_one, Nat.add_zero] at hx114_1)
          have hf114_1 := hfr114 1
          (try simp only [show (k79).sz = 2 from rfl, Nat.mul_one, Nat.add_zero] at hf114_1)
          clear hcl114 hcc114 hfr114; (try clear hM114)
          try go_wp2_with (first | ((with_reducible refine gate_store (t := 79) (p := 150) rfl ?_); refine store_event (t := 79) (p := 150) (v := ?vo_w115) (w1 := ((w111.setCell ⟨go19, (((rd_T75 l3 x11_2).f3) : Int).toNat * 2, none⟩ (.int .i64 ((rd_T79 x10_2 x11_2).f0))).setCell ⟨go19, (((rd_T75 l3 x11_2).f3) : Int).toNat * 2 + 1, none⟩ (.int .i64 ((rd_T79 x10_2 x11_2).f1)))) ?hg ?ho ?hn ?hr ?_; (case ho => rfl); (case hg => rfl); (case hn => rfl); (case hr => first | (go_simp; done) | (go_simp; rfl)); intro w115 hw; have hg : w111.grownBy w115 (some go19) := (by rw [hw]; exact HP114.2); have hp_ : Kd.R k79 79 w115 w.heap.size (fun k_ => k_ ≠ gb175) (.slice (some ⟨go19, 0, none⟩) x10_2.length co19) y195 := (by rw [hw, Ny195.out]; exact HP114.1); clear HP114; have n0_ := Aside0.mk (hp_); have n1_ := Aside0.mk (blk_grown (g := gb173) (o := .cells #[.int .i8 ((rd_T75 l3 x11_2).f0), .int .i8 ((rd_T75 l3 x11_2).f1), .int .i8 ((rd_T75 l3 x11_2).f2), .int .i8 ((rd_T75 l3 x11_2).f3)] 75 (0, 0)) (kb_ BK173) hg (Kd.R_ne HO_10.out BK173.out (by decide))); have n2_ := Aside0.mk (blk_grown (g := gb175) (o := .cells #[.int .i64 ((rd_T79 x10_2 x11_2).f0), .int .i64 ((rd_T79 x10_2 x11_2).f1)] 79 (0, 0)) (kb_ BK175) hg (Kd.R_away HO_10.out (fun _ hk => hk))); have n3_ := Aside0.mk ((by rw [hw]; exact below_set (below_set (HB.out) GB19.out) GB19.out : Below w.heap.size w w115)); clear HO_10; clear BK173; clear BK175; clear HB; have HO_10 := n0_; have BK173 := n1_; have BK175 := n2_; have HB := n3_; clear n0_ n1_ n2_ n3_; clear hg hw hp_))
          replace HO_10 := Aside0.mk (Kd.R_drew HO_10.out)
          replace BK173 := Aside0.mk (blk_drew BK173.out)
          replace BK175 := Aside0.mk (blk_drew BK175.out)
          replace HB := Aside0.mk (below_drew1 HB.out)
          have p99 : 0 ≤ (((rd_T75 l3 x11_2).f3) : Int) := od_
          have q99 : (((rd_T75 l3 x11_2).f3) : Int) < ((x10_2.length : Int) : Int) := od_
          obtain ⟨ce99, hcl99, hM99, hcc99, hfr99⟩ := Kd.R_elem HO_10.out z79 (((rd_T75 l3 x11_2).f3) : Int) p99 q99
          obtain rfl := k79_openM hM99
          have hx99_0 : World.cell? _ ⟨go19, (((rd_T75 l3 x11_2).f3) : Int).toNat * 2, none⟩ = some (.int .i64 ((rd_T79 y195 ((rd_T75 l3 x11_2).f3)).f0)) := hcc99 0 _ rfl
          have hx99_1 : World.cell? _ ⟨go19, (((rd_T75 l3 x11_2).f3) : Int).toNat * 2 + 1, none⟩ = some (.int .i64 ((rd_T79 y195 ((rd_T75 l3 x11_2).f3)).f1)) := hcc99 1 _ rfl
          have hf99_0 : World.frozen? _ ⟨go19, (((rd_T75 l3 x11_2).f3) : Int).toNat * 2, none⟩ = false := hfr99 0
          have hf99_1 : World.frozen? _ ⟨go19, (((rd_T75 l3 x11_2).f3) : Int).toNat * 2 + 1, none⟩ = false := hfr99 1
          clear hcl99 hcc99 hfr99; (try clear hM99)
          replace p99 := eq_true p99
          replace q99 := eq_true q99
          obtain ⟨ce117, hcl117, hM117, hcc117, hfr117⟩ := Kd.R_elem HO_10.out z79 (((rd_T75 l3 x11_2).f3) : Int) od_ (by have h_ : (((rd_T75 l3 x11_2).f3) : Int) < ((x10_2.length : Int) : Int) := od_; first | exact h_ | (have e_ := (Kd.R_reads' HO_10.out).1; omega) | simpa using h_)
          obtain rfl := k79_openM hM117
          have HP117 := (Kd.R_seg HO_10.out (((rd_T75 l3 x11_2).f3) : Int) od_ (by have h_ : (((rd_T75 l3 x11_2).f3) : Int) < ((x10_2.length : Int) : Int) := od_; first | exact h_ | (have e_ := (Kd.R_reads' HO_10.out).1; omega) | simpa using h_) (seg := [.int .i64 (wrap64 (((rd_T79 x10_2 x11_2).f0) - (wrap64 (((rd_T75 l3 x11_2).f1)))))]) (j := 0) hcl117 hcc117 (show 1 ≤ 2 from by decide) (x' := (⟨wrap64 (((rd_T79 x10_2 x11_2).f0) - (wrap64 (((rd_T75 l3 x11_2).f1)))), (rd_T79 y195 ((rd_T75 l3 x11_2).f3)).f1⟩ : S79)) (k79_mkM _ _ _ (⟨wrap64 (((rd_T79 x10_2 x11_2).f0) - (wrap64 (((rd_T75 l3 x11_2).f1)))), (rd_T79 y195 ((rd_T75 l3 x11_2).f3)).f1⟩ : S79) ) (fun _ hk => hk)).1
          rw [← Ny196.out] at HP117
          have HQ117 := Aside0.mk HP117
          clear hcl117 hcc117 hfr117; (try clear hM117); clear HP117
          refine start_ (n := 14) (S := fun w' => w'.cell? ⟨gb173, 0, none⟩ = some (.int .i8 ((rd_T75 l3 x11_2).f0)) ∧ w'.cell? ⟨gb173, 1, none⟩ = some (.int .i8 ((rd_T75 l3 x11_2).f1)) ∧ w'.cell? ⟨gb173, 2, none⟩ = some (.int .i8 ((rd_T75 l3 x11_2).f2)) ∧ w'.cell? ⟨gb173, 3, none⟩ = some (.int .i8 ((rd_T75 l3 x11_2).f3)) ∧ w'.cell? ⟨gb175, 0, none⟩ = some (.int .i64 ((rd_T79 x10_2 x11_2).f0)) ∧ w'.cell? ⟨gb175, 1, none⟩ = some (.int .i64 ((rd_T79 x10_2 x11_2).f1))) (ds := [13]) #[false, false, false, false, false, false, false, false, false, false, false, false, false, false] (by kernel_rfl) rfl rfl ⟨(blk_cell BK173.out 0).trans rfl, (blk_cell BK173.out 1).trans rfl, (blk_cell BK173.out 2).trans rfl, (blk_cell BK173.out 3).trans rfl, (blk_cell BK175.out 0).trans rfl, (blk_cell BK175.out 1).trans rfl⟩ (fun hHeld => ?_); refine with_tabW spec_l04Sizes.tab32 spec_l04Sizes.bits32 (fun HT_ HW_ => ?_)
          generalize w115.drew = w116 at HO_10 BK173 BK175 HB HQ117 hf99_0 hf99_1 hx99_0 hx99_1 hHeld ⊢
          refine pu_ 0 151 (lA 14 1) ?_ ?_ HT_ ?_
          refine pu_ 1 152 (lA 14 3) ?_ ?_ HT_ ?_
          refine pu_ 3 154 (lA 14 11) ?_ ?_ HT_ ?_
          refine pu_ 4 155 (lA 14 27) ?_ ?_ HT_ ?_
          refine pu_ 5 156 (lA 14 59) ?_ ?_ HT_ ?_
          refine pu_ 7 158 (lA 14 187) ?_ ?_ HT_ ?_
          refine tk_ 2 153 (lA 14 191) ?_ ?_ HT_ HW_ hHeld ?_
          refine pu_ 11 162 (lA 14 2239) ?_ ?_ HT_ ?_
          refine tk_ 6 157 (lA 14 2303) ?_ ?_ HT_ HW_ hHeld ?_
          refine tk_ 8 159 (lA 14 2559) ?_ ?_ HT_ HW_ hHeld ?_
          refine pu_ 9 160 (lA 14 3071) ?_ ?_ HT_ ?_
          refine pu_ 10 161 (lA 14 4095) ?_ ?_ HT_ ?_
          refine pu_ 12 163 (lA 14 8191) ?_ ?_ HT_ ?_
          refine last_ (i := 13) (N := none) (lA 14 16383) rfl rfl (one_of HT_.out (by kernel_rfl)) (by decide) (fun K hK => ?_)
          refine skip_ (w1 := ?_) (by rfl) rfl ?_ ?_
          rotate_left
          ·
           go_simp
           rfl
          refine hK.out _ _ ?_
          clear hK K
          refine done_ (done_of HT_.out (by kernel_rfl)) ?_
          try go_wp2
          (try simp only [← hl10_2])
          go_roundg kj77
          case measure => have := HJ4.out; have := HK2.out; have := HJ77.out; omega
          case rel => exact ⟨(y196), (wrap64 (x11_2 + 1)), (by first | rfl | (simp; done) | (simp [*]; done)), H', ⟨by have := HJ4.out; have := HK2.out; have := HJ77.out; omega⟩, ⟨by (try simp only [hl10_2]); (with_reducible repeat (first | apply Kd.R_alloc | apply Kd.R_drewN | apply Kd.R_drew)); exact Kd.R_mono HQ117.out (fun _ hk => trivial)⟩, ⟨by repeat (first | (with_reducible first | exact HB.out | apply below_alloc | apply pw_below_drewN | apply below_drew1 | refine below_set ?_ GB19.out | refine below_set ?_ GE173.out | refine below_set ?_ GE175.out) | exact HB.out)⟩⟩
         ·
          replace c91 := Bool.eq_false_iff.mpr c91
          subst c91
          have H1 : (some ((([] : List (S79))), false)) = some (r1, r2) := by rw [if_neg (show ¬ (false = true) by decide)] at H; exact H
          clear H
          have H := H1
          clear H1
          obtain ⟨y197, hy197⟩ : ∃ y_ : List (S79), y_ = (([] : List (S79))) := ⟨_, rfl⟩
          replace H : (some (y197, false)) = some (r1, r2) := by first | (rw [hy197]; with_reducible exact H) | (have H2_ := (Option.bind_some _ _).symm.trans H; rw [hy197]; with_reducible exact H2_) | (have H2_ := (Option.bind_some _ _).symm.trans H; with_reducible exact H2_) | with_reducible exact H | (rw [hy197]; exact H) | exact H
          have Ny197 := Aside0.mk hy197
          clear hy197
          simp only [Option.some.injEq, Prod.mk.injEq] at H
          obtain ⟨rfl, rfl⟩ := H
          have hnb118 := NB173_175.out
          have hnc118 := NB175_173.out
          have hcz119_0 : wc.cell? ⟨gb173, 0, none⟩ = some (.int .i8 ((rd_T75 l3 x11_2).f0)) := (blk_cell BK173.out 0).trans rfl
          have hcz119_1 : wc.cell? ⟨gb173, 1, none⟩ = some (.int .i8 ((rd_T75 l3 x11_2).f1)) := (blk_cell BK173.out 1).trans rfl
          have hcz119_2 : wc.cell? ⟨gb173, 2, none⟩ = some (.int .i8 ((rd_T75 l3 x11_2).f2)) := (blk_cell BK173.out 2).trans rfl
          have hcz119_3 : wc.cell? ⟨gb173, 3, none⟩ = some (.int .i8 ((rd_T75 l3 x11_2).f3)) := (blk_cell BK173.out 3).trans rfl
          have hfz119_0 := blk_frozen BK173.out 0
          have hfz119_1 := blk_frozen BK173.out 1
          have hfz119_2 := blk_frozen BK173.out 2
          have hfz119_3 := blk_frozen BK173.out 3
          try go_wp2_with (first | ((with_reducible refine gate_callee (f := 71) rfl ?_); refine goesL_ (some 115) rfl rfl Try.func71 (by kernel_rfl) rfl #[.slice (some ⟨go19, 0, none⟩) x10_2.length co19, .int .i64 x11_2, .agg #[.int .i8 ((rd_T75 l3 x11_2).f0), .int .i8 ((rd_T75 l3 x11_2).f1), .int .i8 ((rd_T75 l3 x11_2).f2), .int .i8 ((rd_T75 l3 x11_2).f3)]] rfl (by (try simp only [List.map_toArray, List.map_cons, List.map_nil]); first | done | rfl | (simp only [List.length_drop, List.length_take]; rfl)) ?_; (with_reducible refine (spec_l04Given.calls _ _ x10_2 x11_2 ((rd_T75 l3 x11_2).f0) ((rd_T75 l3 x11_2).f1) ((rd_T75 l3 x11_2).f2) ((rd_T75 l3 x11_2).f3) true _ ?side1 ?side2 A87.out).mono ?_); (case side1 => repeat (first | exact (Kd.R_reads' HO_10.out).2.2 | (with_reducible refine Kd.C_alloc ?_ _) | (with_reducible refine Kd.C_drewN ?_ _) | (with_reducible refine Kd.C_drew ?_))); (case side2 => exact (Kd.R_reads' HO_10.out).2.1); rintro e w120 ⟨rfl, hb⟩; refine ⟨_, rfl, ?_⟩; have n0_ := Aside0.mk (Kd.R_below (kp_ HO_10) hb); have n1_ := Aside0.mk (blk_below (g := gb173) (o := .cells #[.int .i8 ((rd_T75 l3 x11_2).f0), .int .i8 ((rd_T75 l3 x11_2).f1), .int .i8 ((rd_T75 l3 x11_2).f2), .int .i8 ((rd_T75 l3 x11_2).f3)] 75 (0, 0)) (kb_ BK173) hb); have n2_ := Aside0.mk (blk_below (g := gb175) (o := .cells #[.int .i64 ((rd_T79 x10_2 x11_2).f0), .int .i64 ((rd_T79 x10_2 x11_2).f1)] 79 (0, 0)) (kb_ BK175) hb); have n3_ := Aside0.mk (below_step (kS_ HB GE173 GE175) hb); clear HO_10; clear BK173; clear BK175; clear HB; have HO_10 := n0_; have BK173 := n1_; have BK175 := n2_; have HB := n3_; clear n0_ n1_ n2_ n3_; (try clear hb); (try clear hb2); (try clear hk); (try clear hi); have hcz121_0 : w120.cell? ⟨gb173, 0, none⟩ = some (.int .i8 ((rd_T75 l3 x11_2).f0)) := (blk_cell BK173.out 0).trans rfl; have hcz121_1 : w120.cell? ⟨gb173, 1, none⟩ = some (.int .i8 ((rd_T75 l3 x11_2).f1)) := (blk_cell BK173.out 1).trans rfl; have hcz121_2 : w120.cell? ⟨gb173, 2, none⟩ = some (.int .i8 ((rd_T75 l3 x11_2).f2)) := (blk_cell BK173.out 2).trans rfl; have hcz121_3 : w120.cell? ⟨gb173, 3, none⟩ = some (.int .i8 ((rd_T75 l3 x11_2).f3)) := (blk_cell BK173.out 3).trans rfl; have hfz121_0 := blk_frozen BK173.out 0; have hfz121_1 := blk_frozen BK173.out 1; have hfz121_2 := blk_frozen BK173.out 2; have hfz121_3 := blk_frozen BK173.out 3))
          replace HO_10 := Aside0.mk (Kd.R_drew HO_10.out)
          replace BK173 := Aside0.mk (blk_drew BK173.out)
          replace BK175 := Aside0.mk (blk_drew BK175.out)
          replace HB := Aside0.mk (below_drew1 HB.out)
          refine start_ (n := 9) (S := fun w' => w'.cell? ⟨gb173, 0, none⟩ = some (.int .i8 ((rd_T75 l3 x11_2).f0)) ∧ w'.cell? ⟨gb173, 1, none⟩ = some (.int .i8 ((rd_T75 l3 x11_2).f1)) ∧ w'.cell? ⟨gb173, 2, none⟩ = some (.int .i8 ((rd_T75 l3 x11_2).f2)) ∧ w'.cell? ⟨gb173, 3, none⟩ = some (.int .i8 ((rd_T75 l3 x11_2).f3)) ∧ w'.cell? ⟨gb175, 0, none⟩ = some (.int .i64 ((rd_T79 x10_2 x11_2).f0)) ∧ w'.cell? ⟨gb175, 1, none⟩ = some (.int .i64 ((rd_T79 x10_2 x11_2).f1))) (ds := []) #[false, false, false, false, false, false, false, false, false] (by kernel_rfl) rfl rfl ⟨(blk_cell BK173.out 0).trans rfl, (blk_cell BK173.out 1).trans rfl, (blk_cell BK173.out 2).trans rfl, (blk_cell BK173.out 3).trans rfl, (blk_cell BK175.out 0).trans rfl, (blk_cell BK175.out 1).trans rfl⟩ (fun hHeld => ?_); refine with_tabW spec_l04Sizes.tab27 spec_l04Sizes.bits27 (fun HT_ HW_ => ?_)
          generalize w120.drew = w122 at HO_10 BK173 BK175 HB hHeld ⊢
          refine pu_ 0 122 (lA 9 1) ?_ ?_ HT_ ?_
          refine pu_ 3 125 (lA 9 9) ?_ ?_ HT_ ?_
          refine pu_ 4 126 (lA 9 25) ?_ ?_ HT_ ?_
          refine tk_ 1 123 (lA 9 27) ?_ ?_ HT_ HW_ hHeld ?_
          refine pu_ 2 124 (lA 9 31) ?_ ?_ HT_ ?_
          refine tk_ 5 127 (lA 9 63) ?_ ?_ HT_ HW_ hHeld ?_
          refine pu_ 6 128 (lA 9 127) ?_ ?_ HT_ ?_
          refine one_ (i := 7) (N := some 129) (lA 9 255) rfl rfl (one_of HT_.out (by kernel_rfl)) (by decide) (fun K hK => ?_)
          refine goes_ Try.func68 (by kernel_rfl) rfl #[.int .i64 (wrap64 (((rd_T75 l3 x11_2).f1))), .int .i64 1, .int .i64 (wrap64 (((rd_T79 x10_2 x11_2).f0) - 1))] (by rfl) rfl rfl (by (try simp only [List.map_toArray, List.map_cons, List.map_nil]); first | done | rfl | (simp only [List.length_drop, List.length_take]; rfl)) ?_
          with_reducible refine (spec_l00In.calls (wrap64 (((rd_T75 l3 x11_2).f1))) 1 (wrap64 (((rd_T79 x10_2 x11_2).f0) - 1)) false _ A90.out).mono ?_
          rintro e w' ⟨rfl, ⟨nd, rfl⟩⟩
          refine ⟨_, rfl, ?_⟩
          refine hK.out _ _ ⟨(blk_cell BK173.out 0).trans rfl, (blk_cell BK173.out 1).trans rfl, (blk_cell BK173.out 2).trans rfl, (blk_cell BK173.out 3).trans rfl, (blk_cell BK175.out 0).trans rfl, (blk_cell BK175.out 1).trans rfl⟩ (fun hHeld => ?_)
          clear hK K
          refine norm_ (a' := ?_) ?_ ?_
          rotate_left
          ·
           show Act.put _ (some 129) _ = _
           simp only [Act.put, List.setIfInBounds_toArray, List.set_cons_zero, List.set_cons_succ, i64_w, i32_w]
           rfl
          refine pu_ 8 130 (lA 9 511) ?_ ?_ HT_ ?_
          refine done_ (done_of HT_.out (by kernel_rfl)) ?_
          try go_wp2_with (first | ((with_reducible refine gate_dst (N := 131) rfl ?_); (try (refine gate_guard (by rfl) ?_; dsimp only)); refine Kd.R_lit k79 _ 79 ?hg (N := 131) ?hd (xs := ([] : List (S79))) (inner := []) (ok := fun _ => True) (okp := fun _ => True) ?hr ?hp (fun _ hk => hk) trivial (Below.refl _ _) (Nat.le_refl _) (by simp) ?_; (case hd => rfl); (case hg => rfl); (case hr => first | (go_simp; done) | (go_simp; rfl)); (case hp => exact (Reps.none _ _)); intro v198 w123 ho124 hb hg_ hnew_; clear hg_ hnew_; (first | rw [← Ny197.out] at ho124 | (simp only [Int.reduceToNat] at ho124; rw [← Ny197.out] at ho124)); have n0_ := Aside0.mk (Kd.R_elder' (kp_ HO_10) (Kd.R_base ho124) hb); have n1_ := Aside0.mk (Kd.R_lower (Kd.R_newB (Kd.R_new' ho124 (Kd.R_lt (kp_ HO_10))) (g := gb175) (o := .cells #[.int .i64 ((rd_T79 x10_2 x11_2).f0), .int .i64 ((rd_T79 x10_2 x11_2).f1)] 79 (0, 0)) (kb_ BK175)) (below_size (kS_ HB GE173 GE175))); have n2_ := Aside0.mk (blk_below (g := gb173) (o := .cells #[.int .i8 ((rd_T75 l3 x11_2).f0), .int .i8 ((rd_T75 l3 x11_2).f1), .int .i8 ((rd_T75 l3 x11_2).f2), .int .i8 ((rd_T75 l3 x11_2).f3)] 75 (0, 0)) (kb_ BK173) hb); have n3_ := Aside0.mk (blk_below (g := gb175) (o := .cells #[.int .i64 ((rd_T79 x10_2 x11_2).f0), .int .i64 ((rd_T79 x10_2 x11_2).f1)] 79 (0, 0)) (kb_ BK175) hb); have n4_ := Aside0.mk (below_step (kS_ HB GE173 GE175) hb); clear HO_10; clear BK173; clear BK175; clear HB; have HO_10 := n0_; have HO199 := n1_; have BK173 := n2_; have BK175 := n3_; have HB := n4_; clear n0_ n1_ n2_ n3_ n4_; clear hb ho124))
          go_ret2
          exact ⟨_, by first | rfl | (simp [errW_none, errW_some] <;> rfl) | (simp [*, errW_none, errW_some] <;> rfl), by (with_reducible repeat (first | apply Kd.R_alloc | apply Kd.R_drewN | apply Kd.R_drew)); exact Kd.R_mono HO199.out (fun _ hk => trivial), kS_ HB GE173 GE175⟩
        ·
         as_aux_lemma =>
         rw [if_neg c89] at H
         have c89b0 : ((wrap64 ((wrap64 (((rd_T75 l3 x11_2).f0))) - 2)) == (0 : Int)) = false := beq_eq_false_iff_ne.mpr c89
         have c89b1 : ((wrap64 ((wrap64 (((rd_T75 l3 x11_2).f0))) - 2)) != (0 : Int)) = true := bne_iff_ne.mpr c89
         by_cases c125 : (wrap64 ((wrap64 (((rd_T75 l3 x11_2).f0))) - 2)) = (1 : Int)
         rotate_left
         ·
          rw [if_neg c125] at H
          exact absurd H (by simp)
         rw [if_pos c125] at H
         (try (have c125b0 : (wrap64 ((wrap64 (((rd_T75 l3 x11_2).f0))) - 2)) = (1 : Int) := c125))
         clear c125
         replace H := Option.bind_eq_some_iff.mp H
         obtain ⟨t200, A1260, H⟩ := H
         replace H : (if t200 = true then (if 0 ≤ ((rd_T75 l3 x11_2).f2) then (if ((rd_T75 l3 x11_2).f2) < (x10_2.length : Int) then ((some (x10_2.set (((rd_T75 l3 x11_2).f2) : Int).toNat (⟨((rd_T79 x10_2 x11_2).f0), ((rd_T79 x10_2 x11_2).f1)⟩ : S79) : List (S79))).bind fun y201 => (if 0 ≤ ((rd_T75 l3 x11_2).f3) then (if ((rd_T75 l3 x11_2).f3) < (x10_2.length : Int) then ((some ((y201.set (((rd_T75 l3 x11_2).f2) : Int).toNat (⟨(rd_T79 y201 ((rd_T75 l3 x11_2).f2)).f0, wrap64 (((rd_T75 l3 x11_2).f1))⟩ : S79)).set (((rd_T75 l3 x11_2).f3) : Int).toNat (⟨((rd_T79 x10_2 x11_2).f0), ((rd_T79 x10_2 x11_2).f1)⟩ : S79) : List (S79))).bind fun y203 => (spec_l04Sizes.l0 kj77 l2 l3 (y203.set (((rd_T75 l3 x11_2).f3) : Int).toNat (⟨(rd_T79 y203 ((rd_T75 l3 x11_2).f3)).f0, wrap64 (((rd_T79 x10_2 x11_2).f1) - (wrap64 (((rd_T75 l3 x11_2).f1))))⟩ : S79)) (wrap64 (x11_2 + 1)))) else (none)) else (none))) else (none)) else (none)) else (some ((([] : List (S79))), false))) = some (r1, r2) := H
         have A126 := Aside0.mk A1260
         clear A1260
         by_cases c127 : t200 = true
         ·
          subst c127
          have H1 : (if 0 ≤ ((rd_T75 l3 x11_2).f2) then (if ((rd_T75 l3 x11_2).f2) < (x10_2.length : Int) then ((some (x10_2.set (((rd_T75 l3 x11_2).f2) : Int).toNat (⟨((rd_T79 x10_2 x11_2).f0), ((rd_T79 x10_2 x11_2).f1)⟩ : S79) : List (S79))).bind fun y201 => (if 0 ≤ ((rd_T75 l3 x11_2).f3) then (if ((rd_T75 l3 x11_2).f3) < (x10_2.length : Int) then ((some ((y201.set (((rd_T75 l3 x11_2).f2) : Int).toNat (⟨(rd_T79 y201 ((rd_T75 l3 x11_2).f2)).f0, wrap64 (((rd_T75 l3 x11_2).f1))⟩ : S79)).set (((rd_T75 l3 x11_2).f3) : Int).toNat (⟨((rd_T79 x10_2 x11_2).f0), ((rd_T79 x10_2 x11_2).f1)⟩ : S79) : List (S79))).bind fun y203 => (spec_l04Sizes.l0 kj77 l2 l3 (y203.set (((rd_T75 l3 x11_2).f3) : Int).toNat (⟨(rd_T79 y203 ((rd_T75 l3 x11_2).f3)).f0, wrap64 (((rd_T79 x10_2 x11_2).f1) - (wrap64 (((rd_T75 l3 x11_2).f1))))⟩ : S79)) (wrap64 (x11_2 + 1)))) else (none)) else (none))) else (none)) else (none)) = some (r1, r2) := by rw [if_pos rfl] at H; exact H
          clear H
          have H := H1
          clear H1
          by_cases c128 : 0 ≤ ((rd_T75 l3 x11_2).f2)
          rotate_left
          ·
           rw [if_neg c128] at H
           exact absurd H (by simp)
          rw [if_pos c128] at H
          have c128b0 : decide (0 ≤ ((rd_T75 l3 x11_2).f2)) = true := decide_eq_true c128
          clear c128
          by_cases c129 : ((rd_T75 l3 x11_2).f2) < (x10_2.length : Int)
          rotate_left
          ·
           rw [if_neg c129] at H
           exact absurd H (by simp)
          rw [if_pos c129] at H
          have c129b0 : decide (((rd_T75 l3 x11_2).f2) < (x10_2.length : Int)) = true := decide_eq_true c129
          clear c129
          obtain ⟨y201, hy201⟩ : ∃ y_ : List (S79), y_ = (x10_2.set (((rd_T75 l3 x11_2).f2) : Int).toNat (⟨((rd_T79 x10_2 x11_2).f0), ((rd_T79 x10_2 x11_2).f1)⟩ : S79)) := ⟨_, rfl⟩
          replace H : (if 0 ≤ ((rd_T75 l3 x11_2).f3) then (if ((rd_T75 l3 x11_2).f3) < (x10_2.length : Int) then ((some ((y201.set (((rd_T75 l3 x11_2).f2) : Int).toNat (⟨(rd_T79 y201 ((rd_T75 l3 x11_2).f2)).f0, wrap64 (((rd_T75 l3 x11_2).f1))⟩ : S79)).set (((rd_T75 l3 x11_2).f3) : Int).toNat (⟨((rd_T79 x10_2 x11_2).f0), ((rd_T79 x10_2 x11_2).f1)⟩ : S79) : List (S79))).bind fun y203 => (spec_l04Sizes.l0 kj77 l2 l3 (y203.set (((rd_T75 l3 x11_2).f3) : Int).toNat (⟨(rd_T79 y203 ((rd_T75 l3 x11_2).f3)).f0, wrap64 (((rd_T79 x10_2 x11_2).f1) - (wrap64 (((rd_T75 l3 x11_2).f1))))⟩ : S79)) (wrap64 (x11_2 + 1)))) else (none)) else (none)) = some (r1, r2) := by first | (rw [hy201]; with_reducible exact H) | (have H2_ := (Option.bind_some _ _).symm.trans H; rw [hy201]; with_reducible exact H2_) | (have H2_ := (Option.bind_some _ _).symm.trans H; with_reducible exact H2_) | with_reducible exact H | (rw [hy201]; exact H) | exact H
          have Ny201 := Aside0.mk hy201
          clear hy201
          obtain ⟨y202, hy202⟩ : ∃ y_ : List (S79), y_ = (y201.set (((rd_T75 l3 x11_2).f2) : Int).toNat (⟨(rd_T79 y201 ((rd_T75 l3 x11_2).f2)).f0, wrap64 (((rd_T75 l3 x11_2).f1))⟩ : S79)) := ⟨_, rfl⟩
          replace H : (if 0 ≤ ((rd_T75 l3 x11_2).f3) then (if ((rd_T75 l3 x11_2).f3) < (x10_2.length : Int) then ((some (y202.set (((rd_T75 l3 x11_2).f3) : Int).toNat (⟨((rd_T79 x10_2 x11_2).f0), ((rd_T79 x10_2 x11_2).f1)⟩ : S79) : List (S79))).bind fun y203 => (spec_l04Sizes.l0 kj77 l2 l3 (y203.set (((rd_T75 l3 x11_2).f3) : Int).toNat (⟨(rd_T79 y203 ((rd_T75 l3 x11_2).f3)).f0, wrap64 (((rd_T79 x10_2 x11_2).f1) - (wrap64 (((rd_T75 l3 x11_2).f1))))⟩ : S79)) (wrap64 (x11_2 + 1)))) else (none)) else (none)) = some (r1, r2) := by first | (rw [hy202]; with_reducible exact H) | (have H2_ := (Option.bind_some _ _).symm.trans H; rw [hy202]; with_reducible exact H2_) | (have H2_ := (Option.bind_some _ _).symm.trans H; with_reducible exact H2_) | with_reducible exact H | (rw [hy202]; exact H) | exact H
          have Ny202 := Aside0.mk hy202
          clear hy202
          by_cases c132 : 0 ≤ ((rd_T75 l3 x11_2).f3)
          rotate_left
          ·
           rw [if_neg c132] at H
           exact absurd H (by simp)
          rw [if_pos c132] at H
          have c132b0 : decide (0 ≤ ((rd_T75 l3 x11_2).f3)) = true := decide_eq_true c132
          clear c132
          by_cases c133 : ((rd_T75 l3 x11_2).f3) < (x10_2.length : Int)
          rotate_left
          ·
           rw [if_neg c133] at H
           exact absurd H (by simp)
          rw [if_pos c133] at H
          have c133b0 : decide (((rd_T75 l3 x11_2).f3) < (x10_2.length : Int)) = true := decide_eq_true c133
          clear c133
          obtain ⟨y203, hy203⟩ : ∃ y_ : List (S79), y_ = (y202.set (((rd_T75 l3 x11_2).f3) : Int).toNat (⟨((rd_T79 x10_2 x11_2).f0), ((rd_T79 x10_2 x11_2).f1)⟩ : S79)) := ⟨_, rfl⟩
          replace H : (spec_l04Sizes.l0 kj77 l2 l3 (y203.set (((rd_T75 l3 x11_2).f3) : Int).toNat (⟨(rd_T79 y203 ((rd_T75 l3 x11_2).f3)).f0, wrap64 (((rd_T79 x10_2 x11_2).f1) - (wrap64 (((rd_T75 l3 x11_2).f1))))⟩ : S79)) (wrap64 (x11_2 + 1))) = some (r1, r2) := by first | (rw [hy203]; with_reducible exact H) | (have H2_ := (Option.bind_some _ _).symm.trans H; rw [hy203]; with_reducible exact H2_) | (have H2_ := (Option.bind_some _ _).symm.trans H; with_reducible exact H2_) | with_reducible exact H | (rw [hy203]; exact H) | exact H
          have Ny203 := Aside0.mk hy203
          clear hy203
          obtain ⟨y204, hy204⟩ : ∃ y_ : List (S79), y_ = (y203.set (((rd_T75 l3 x11_2).f3) : Int).toNat (⟨(rd_T79 y203 ((rd_T75 l3 x11_2).f3)).f0, wrap64 (((rd_T79 x10_2 x11_2).f1) - (wrap64 (((rd_T75 l3 x11_2).f1))))⟩ : S79)) := ⟨_, rfl⟩
          replace H : (spec_l04Sizes.l0 kj77 l2 l3 y204 (wrap64 (x11_2 + 1))) = some (r1, r2) := by first | (rw [hy204]; with_reducible exact H) | (have H2_ := (Option.bind_some _ _).symm.trans H; rw [hy204]; with_reducible exact H2_) | (have H2_ := (Option.bind_some _ _).symm.trans H; with_reducible exact H2_) | with_reducible exact H | (rw [hy204]; exact H) | exact H
          have Ny204 := Aside0.mk hy204
          clear hy204
          have H' := Aside0.mk H
          clear H
          have hnb136 := NB173_175.out
          have hnc136 := NB175_173.out
          have hcz137_0 : wc.cell? ⟨gb173, 0, none⟩ = some (.int .i8 ((rd_T75 l3 x11_2).f0)) := (blk_cell BK173.out 0).trans rfl
          have hcz137_1 : wc.cell? ⟨gb173, 1, none⟩ = some (.int .i8 ((rd_T75 l3 x11_2).f1)) := (blk_cell BK173.out 1).trans rfl
          have hcz137_2 : wc.cell? ⟨gb173, 2, none⟩ = some (.int .i8 ((rd_T75 l3 x11_2).f2)) := (blk_cell BK173.out 2).trans rfl
          have hcz137_3 : wc.cell? ⟨gb173, 3, none⟩ = some (.int .i8 ((rd_T75 l3 x11_2).f3)) := (blk_cell BK173.out 3).trans rfl
          have hfz137_0 := blk_frozen BK173.out 0
          have hfz137_1 := blk_frozen BK173.out 1
          have hfz137_2 := blk_frozen BK173.out 2
          have hfz137_3 := blk_frozen BK173.out 3
          try go_wp2_with (first | ((with_reducible refine gate_callee (f := 71) rfl ?_); refine goesL_ (some 115) rfl rfl Try.func71 (by kernel_rfl) rfl #[.slice (some ⟨go19, 0, none⟩) x10_2.length co19, .int .i64 x11_2, .agg #[.int .i8 ((rd_T75 l3 x11_2).f0), .int .i8 ((rd_T75 l3 x11_2).f1), .int .i8 ((rd_T75 l3 x11_2).f2), .int .i8 ((rd_T75 l3 x11_2).f3)]] rfl (by (try simp only [List.map_toArray, List.map_cons, List.map_nil]); first | done | rfl | (simp only [List.length_drop, List.length_take]; rfl)) ?_; (with_reducible refine (spec_l04Given.calls _ _ x10_2 x11_2 ((rd_T75 l3 x11_2).f0) ((rd_T75 l3 x11_2).f1) ((rd_T75 l3 x11_2).f2) ((rd_T75 l3 x11_2).f3) true _ ?side1 ?side2 A87.out).mono ?_); (case side1 => repeat (first | exact (Kd.R_reads' HO_10.out).2.2 | (with_reducible refine Kd.C_alloc ?_ _) | (with_reducible refine Kd.C_drewN ?_ _) | (with_reducible refine Kd.C_drew ?_))); (case side2 => exact (Kd.R_reads' HO_10.out).2.1); rintro e w138 ⟨rfl, hb⟩; refine ⟨_, rfl, ?_⟩; have n0_ := Aside0.mk (Kd.R_below (kp_ HO_10) hb); have n1_ := Aside0.mk (blk_below (g := gb173) (o := .cells #[.int .i8 ((rd_T75 l3 x11_2).f0), .int .i8 ((rd_T75 l3 x11_2).f1), .int .i8 ((rd_T75 l3 x11_2).f2), .int .i8 ((rd_T75 l3 x11_2).f3)] 75 (0, 0)) (kb_ BK173) hb); have n2_ := Aside0.mk (blk_below (g := gb175) (o := .cells #[.int .i64 ((rd_T79 x10_2 x11_2).f0), .int .i64 ((rd_T79 x10_2 x11_2).f1)] 79 (0, 0)) (kb_ BK175) hb); have n3_ := Aside0.mk (below_step (kS_ HB GE173 GE175) hb); clear HO_10; clear BK173; clear BK175; clear HB; have HO_10 := n0_; have BK173 := n1_; have BK175 := n2_; have HB := n3_; clear n0_ n1_ n2_ n3_; (try clear hb); (try clear hb2); (try clear hk); (try clear hi); have hcz139_0 : w138.cell? ⟨gb173, 0, none⟩ = some (.int .i8 ((rd_T75 l3 x11_2).f0)) := (blk_cell BK173.out 0).trans rfl; have hcz139_1 : w138.cell? ⟨gb173, 1, none⟩ = some (.int .i8 ((rd_T75 l3 x11_2).f1)) := (blk_cell BK173.out 1).trans rfl; have hcz139_2 : w138.cell? ⟨gb173, 2, none⟩ = some (.int .i8 ((rd_T75 l3 x11_2).f2)) := (blk_cell BK173.out 2).trans rfl; have hcz139_3 : w138.cell? ⟨gb173, 3, none⟩ = some (.int .i8 ((rd_T75 l3 x11_2).f3)) := (blk_cell BK173.out 3).trans rfl; have hfz139_0 := blk_frozen BK173.out 0; have hfz139_1 := blk_frozen BK173.out 1; have hfz139_2 := blk_frozen BK173.out 2; have hfz139_3 := blk_frozen BK173.out 3))
          replace HO_10 := Aside0.mk (Kd.R_drew HO_10.out)
          replace BK173 := Aside0.mk (blk_drew BK173.out)
          replace BK175 := Aside0.mk (blk_drew BK175.out)
          replace HB := Aside0.mk (below_drew1 HB.out)
          refine start_ (n := 9) (S := fun w' => w'.cell? ⟨gb173, 0, none⟩ = some (.int .i8 ((rd_T75 l3 x11_2).f0)) ∧ w'.cell? ⟨gb173, 1, none⟩ = some (.int .i8 ((rd_T75 l3 x11_2).f1)) ∧ w'.cell? ⟨gb173, 2, none⟩ = some (.int .i8 ((rd_T75 l3 x11_2).f2)) ∧ w'.cell? ⟨gb173, 3, none⟩ = some (.int .i8 ((rd_T75 l3 x11_2).f3)) ∧ w'.cell? ⟨gb175, 0, none⟩ = some (.int .i64 ((rd_T79 x10_2 x11_2).f0)) ∧ w'.cell? ⟨gb175, 1, none⟩ = some (.int .i64 ((rd_T79 x10_2 x11_2).f1))) (ds := []) #[false, false, false, false, false, false, false, false, false] (by kernel_rfl) rfl rfl ⟨(blk_cell BK173.out 0).trans rfl, (blk_cell BK173.out 1).trans rfl, (blk_cell BK173.out 2).trans rfl, (blk_cell BK173.out 3).trans rfl, (blk_cell BK175.out 0).trans rfl, (blk_cell BK175.out 1).trans rfl⟩ (fun hHeld => ?_); refine with_tabW spec_l04Sizes.tab27 spec_l04Sizes.bits27 (fun HT_ HW_ => ?_)
          generalize w138.drew = w140 at HO_10 BK173 BK175 HB hHeld ⊢
          refine pu_ 0 122 (lA 9 1) ?_ ?_ HT_ ?_
          refine pu_ 3 125 (lA 9 9) ?_ ?_ HT_ ?_
          refine pu_ 4 126 (lA 9 25) ?_ ?_ HT_ ?_
          refine tk_ 1 123 (lA 9 27) ?_ ?_ HT_ HW_ hHeld ?_
          refine pu_ 2 124 (lA 9 31) ?_ ?_ HT_ ?_
          refine tk_ 5 127 (lA 9 63) ?_ ?_ HT_ HW_ hHeld ?_
          refine pu_ 6 128 (lA 9 127) ?_ ?_ HT_ ?_
          refine one_ (i := 7) (N := some 129) (lA 9 255) rfl rfl (one_of HT_.out (by kernel_rfl)) (by decide) (fun K hK => ?_)
          refine goes_ Try.func68 (by kernel_rfl) rfl #[.int .i64 (wrap64 (((rd_T75 l3 x11_2).f1))), .int .i64 1, .int .i64 (wrap64 (((rd_T79 x10_2 x11_2).f1) - 1))] (by rfl) rfl rfl (by (try simp only [List.map_toArray, List.map_cons, List.map_nil]); first | done | rfl | (simp only [List.length_drop, List.length_take]; rfl)) ?_
          with_reducible refine (spec_l00In.calls (wrap64 (((rd_T75 l3 x11_2).f1))) 1 (wrap64 (((rd_T79 x10_2 x11_2).f1) - 1)) true _ A126.out).mono ?_
          rintro e w' ⟨rfl, ⟨nd, rfl⟩⟩
          refine ⟨_, rfl, ?_⟩
          refine hK.out _ _ ⟨(blk_cell BK173.out 0).trans rfl, (blk_cell BK173.out 1).trans rfl, (blk_cell BK173.out 2).trans rfl, (blk_cell BK173.out 3).trans rfl, (blk_cell BK175.out 0).trans rfl, (blk_cell BK175.out 1).trans rfl⟩ (fun hHeld => ?_)
          clear hK K
          refine norm_ (a' := ?_) ?_ ?_
          rotate_left
          ·
           show Act.put _ (some 129) _ = _
           simp only [Act.put, List.setIfInBounds_toArray, List.set_cons_zero, List.set_cons_succ, i64_w, i32_w]
           rfl
          refine pu_ 8 130 (lA 9 511) ?_ ?_ HT_ ?_
          refine done_ (done_of HT_.out (by kernel_rfl)) ?_
          (try (rw [drewN_self w140]; generalize hq_ : World.drewN w140 _ = w140; have n0_ : Aside0 (Kd.R k79 79 w140 w.heap.size (fun k_ => k_ ≠ gb175) (.slice (some ⟨go19, 0, none⟩) x10_2.length co19) x10_2) := ⟨by rw [← hq_]; exact (kp_ HO_10)⟩; have n1_ : Aside0 (w140.heap[gb173]? = some (.cells #[.int .i8 ((rd_T75 l3 x11_2).f0), .int .i8 ((rd_T75 l3 x11_2).f1), .int .i8 ((rd_T75 l3 x11_2).f2), .int .i8 ((rd_T75 l3 x11_2).f3)] 75 (0, 0))) := ⟨by rw [← hq_]; exact (kb_ BK173)⟩; have n2_ : Aside0 (w140.heap[gb175]? = some (.cells #[.int .i64 ((rd_T79 x10_2 x11_2).f0), .int .i64 ((rd_T79 x10_2 x11_2).f1)] 79 (0, 0))) := ⟨by rw [← hq_]; exact (kb_ BK175)⟩; have n3_ : Aside0 (Below w.heap.size w w140) := ⟨by rw [← hq_]; exact (kS_ HB GE173 GE175)⟩; clear HO_10 BK173 BK175 HB hq_; have HO_10 := n0_; have BK173 := n1_; have BK175 := n2_; have HB := n3_; clear n0_ n1_ n2_ n3_))
          have hcz141_0 : w140.cell? ⟨gb173, 0, none⟩ = some (.int .i8 ((rd_T75 l3 x11_2).f0)) := (blk_cell BK173.out 0).trans rfl
          have hcz141_1 : w140.cell? ⟨gb173, 1, none⟩ = some (.int .i8 ((rd_T75 l3 x11_2).f1)) := (blk_cell BK173.out 1).trans rfl
          have hcz141_2 : w140.cell? ⟨gb173, 2, none⟩ = some (.int .i8 ((rd_T75 l3 x11_2).f2)) := (blk_cell BK173.out 2).trans rfl
          have hcz141_3 : w140.cell? ⟨gb173, 3, none⟩ = some (.int .i8 ((rd_T75 l3 x11_2).f3)) := (blk_cell BK173.out 3).trans rfl
          have hfz141_0 := blk_frozen BK173.out 0
          have hfz141_1 := blk_frozen BK173.out 1
          have hfz141_2 := blk_frozen BK173.out 2
          have hfz141_3 := blk_frozen BK173.out 3
          have hcz142_0 : w140.cell? ⟨gb175, 0, none⟩ = some (.int .i64 ((rd_T79 x10_2 x11_2).f0)) := (blk_cell BK175.out 0).trans rfl
          have hcz142_1 : w140.cell? ⟨gb175, 1, none⟩ = some (.int .i64 ((rd_T79 x10_2 x11_2).f1)) := (blk_cell BK175.out 1).trans rfl
          have hfz142_0 := blk_frozen BK175.out 0
          have hfz142_1 := blk_frozen BK175.out 1
          have p130 : 0 ≤ (((rd_T75 l3 x11_2).f2) : Int) := od_
          have q130 : (((rd_T75 l3 x11_2).f2) : Int) < ((x10_2.length : Int) : Int) := od_
          obtain ⟨ce130, hcl130, hM130, hcc130, hfr130⟩ := Kd.R_elem HO_10.out z79 (((rd_T75 l3 x11_2).f2) : Int) p130 q130
          obtain rfl := k79_openM hM130
          have hx130_0 : w140.cell? ⟨go19, (((rd_T75 l3 x11_2).f2) : Int).toNat * 2, none⟩ = some (.int .i64 ((rd_T79 x10_2 ((rd_T75 l3 x11_2).f2)).f0)) := hcc130 0 _ rfl
          have hx130_1 : w140.cell? ⟨go19, (((rd_T75 l3 x11_2).f2) : Int).toNat * 2 + 1, none⟩ = some (.int .i64 ((rd_T79 x10_2 ((rd_T75 l3 x11_2).f2)).f1)) := hcc130 1 _ rfl
          have hf130_0 : w140.frozen? ⟨go19, (((rd_T75 l3 x11_2).f2) : Int).toNat * 2, none⟩ = false := hfr130 0
          have hf130_1 : w140.frozen? ⟨go19, (((rd_T75 l3 x11_2).f2) : Int).toNat * 2 + 1, none⟩ = false := hfr130 1
          clear hcl130 hcc130 hfr130; (try clear hM130)
          replace p130 := eq_true p130
          replace q130 := eq_true q130
          have HX143 := Aside0.mk (show Kd.R k79 79 w140 w.heap.size (fun k_ => k_ ≠ gb175) (.slice (some ⟨go19, 0, none⟩) x10_2.length co19) x10_2 from (kp_ HO_10))
          obtain ⟨ce143, hcl143, hM143, hcc143, hfr143⟩ := Kd.R_elem HX143.out z79 (((rd_T75 l3 x11_2).f2) : Int) od_ (by have h_ : (((rd_T75 l3 x11_2).f2) : Int) < ((x10_2.length : Int) : Int) := od_; first | exact h_ | (have e_ := (Kd.R_reads' HO_10.out).1; omega) | simpa using h_)
          obtain rfl := k79_openM hM143
          have HP143 := Kd.R_seg HX143.out (((rd_T75 l3 x11_2).f2) : Int) od_ (by have h_ : (((rd_T75 l3 x11_2).f2) : Int) < ((x10_2.length : Int) : Int) := od_; first | exact h_ | (have e_ := (Kd.R_reads' HO_10.out).1; omega) | simpa using h_) (seg := [.int .i64 ((rd_T79 x10_2 x11_2).f0), .int .i64 ((rd_T79 x10_2 x11_2).f1)]) (j := 0) hcl143 hcc143 (show 2 ≤ 2 from by decide) (x' := (⟨((rd_T79 x10_2 x11_2).f0), ((rd_T79 x10_2 x11_2).f1)⟩ : S79)) (k79_mkM _ _ _ (⟨((rd_T79 x10_2 x11_2).f0), ((rd_T79 x10_2 x11_2).f1)⟩ : S79) ) (fun _ hk => hk)
          have hx143_0 := hcc143 0 _ rfl
          (try simp only [show (k79).sz = 2 from rfl, Nat.mul_one, Nat.add_zero] at hx143_0)
          have hf143_0 := hfr143 0
          (try simp only [show (k79).sz = 2 from rfl, Nat.mul_one, Nat.add_zero] at hf143_0)
          have hx143_1 := hcc143 1 _ rfl
          (try simp only [show (k79).sz = 2 from rfl, Nat.mul_one, Nat.add_zero] at hx143_1)
          have hf143_1 := hfr143 1
          (try simp only [show (k79).sz = 2 from rfl, Nat.mul_one, Nat.add_zero] at hf143_1)
          clear hcl143 hcc143 hfr143; (try clear hM143)
          try go_wp2_with (first | ((with_reducible refine gate_store (t := 79) (p := 136) rfl ?_); refine store_event (t := 79) (p := 136) (v := ?vo_w144) (w1 := ((w140.setCell ⟨go19, (((rd_T75 l3 x11_2).f2) : Int).toNat * 2, none⟩ (.int .i64 ((rd_T79 x10_2 x11_2).f0))).setCell ⟨go19, (((rd_T75 l3 x11_2).f2) : Int).toNat * 2 + 1, none⟩ (.int .i64 ((rd_T79 x10_2 x11_2).f1)))) ?hg ?ho ?hn ?hr ?_; (case ho => rfl); (case hg => rfl); (case hn => rfl); (case hr => first | (go_simp; done) | (go_simp; rfl)); intro w144 hw; have hg : w140.grownBy w144 (some go19) := (by rw [hw]; exact HP143.2); have hp_ : Kd.R k79 79 w144 w.heap.size (fun k_ => k_ ≠ gb175) (.slice (some ⟨go19, 0, none⟩) x10_2.length co19) y201 := (by rw [hw, Ny201.out]; exact HP143.1); clear HP143; have n0_ := Aside0.mk (hp_); have n1_ := Aside0.mk (blk_grown (g := gb173) (o := .cells #[.int .i8 ((rd_T75 l3 x11_2).f0), .int .i8 ((rd_T75 l3 x11_2).f1), .int .i8 ((rd_T75 l3 x11_2).f2), .int .i8 ((rd_T75 l3 x11_2).f3)] 75 (0, 0)) (kb_ BK173) hg (Kd.R_ne HO_10.out BK173.out (by decide))); have n2_ := Aside0.mk (blk_grown (g := gb175) (o := .cells #[.int .i64 ((rd_T79 x10_2 x11_2).f0), .int .i64 ((rd_T79 x10_2 x11_2).f1)] 79 (0, 0)) (kb_ BK175) hg (Kd.R_away HO_10.out (fun _ hk => hk))); have n3_ := Aside0.mk ((by rw [hw]; exact below_set (below_set (HB.out) GB19.out) GB19.out : Below w.heap.size w w144)); clear HO_10; clear BK173; clear BK175; clear HB; have HO_10 := n0_; have BK173 := n1_; have BK175 := n2_; have HB := n3_; clear n0_ n1_ n2_ n3_; clear hg hw hp_))
          replace HO_10 := Aside0.mk (Kd.R_drew HO_10.out)
          replace BK173 := Aside0.mk (blk_drew BK173.out)
          replace BK175 := Aside0.mk (blk_drew BK175.out)
          replace HB := Aside0.mk (below_drew1 HB.out)
          have p131 : 0 ≤ (((rd_T75 l3 x11_2).f2) : Int) := od_
          have q131 : (((rd_T75 l3 x11_2).f2) : Int) < ((x10_2.length : Int) : Int) := od_
          obtain ⟨ce131, hcl131, hM131, hcc131, hfr131⟩ := Kd.R_elem HO_10.out z79 (((rd_T75 l3 x11_2).f2) : Int) p131 q131
          obtain rfl := k79_openM hM131
          have hx131_0 : World.cell? _ ⟨go19, (((rd_T75 l3 x11_2).f2) : Int).toNat * 2, none⟩ = some (.int .i64 ((rd_T79 y201 ((rd_T75 l3 x11_2).f2)).f0)) := hcc131 0 _ rfl
          have hx131_1 : World.cell? _ ⟨go19, (((rd_T75 l3 x11_2).f2) : Int).toNat * 2 + 1, none⟩ = some (.int .i64 ((rd_T79 y201 ((rd_T75 l3 x11_2).f2)).f1)) := hcc131 1 _ rfl
          have hf131_0 : World.frozen? _ ⟨go19, (((rd_T75 l3 x11_2).f2) : Int).toNat * 2, none⟩ = false := hfr131 0
          have hf131_1 : World.frozen? _ ⟨go19, (((rd_T75 l3 x11_2).f2) : Int).toNat * 2 + 1, none⟩ = false := hfr131 1
          clear hcl131 hcc131 hfr131; (try clear hM131)
          replace p131 := eq_true p131
          replace q131 := eq_true q131
          obtain ⟨ce146, hcl146, hM146, hcc146, hfr146⟩ := Kd.R_elem HO_10.out z79 (((rd_T75 l3 x11_2).f2) : Int) od_ (by have h_ : (((rd_T75 l3 x11_2).f2) : Int) < ((x10_2.length : Int) : Int) := od_; first | exact h_ | (have e_ := (Kd.R_reads' HO_10.out).1; omega) | simpa using h_)
          obtain rfl := k79_openM hM146
          have HP146 := (Kd.R_seg HO_10.out (((rd_T75 l3 x11_2).f2) : Int) od_ (by have h_ : (((rd_T75 l3 x11_2).f2) : Int) < ((x10_2.length : Int) : Int) := od_; first | exact h_ | (have e_ := (Kd.R_reads' HO_10.out).1; omega) | simpa using h_) (seg := [.int .i64 (wrap64 (((rd_T75 l3 x11_2).f1)))]) (j := 1) hcl146 hcc146 (show 2 ≤ 2 from by decide) (x' := (⟨(rd_T79 y201 ((rd_T75 l3 x11_2).f2)).f0, wrap64 (((rd_T75 l3 x11_2).f1))⟩ : S79)) (k79_mkM _ _ _ (⟨(rd_T79 y201 ((rd_T75 l3 x11_2).f2)).f0, wrap64 (((rd_T75 l3 x11_2).f1))⟩ : S79) ) (fun _ hk => hk)).1
          rw [← Ny202.out] at HP146
          have HQ146 := Aside0.mk HP146
          clear hcl146 hcc146 hfr146; (try clear hM146); clear HP146
          refine start_ (n := 10) (S := fun w' => w'.cell? ⟨gb173, 0, none⟩ = some (.int .i8 ((rd_T75 l3 x11_2).f0)) ∧ w'.cell? ⟨gb173, 1, none⟩ = some (.int .i8 ((rd_T75 l3 x11_2).f1)) ∧ w'.cell? ⟨gb173, 2, none⟩ = some (.int .i8 ((rd_T75 l3 x11_2).f2)) ∧ w'.cell? ⟨gb173, 3, none⟩ = some (.int .i8 ((rd_T75 l3 x11_2).f3))) (ds := [9]) #[false, false, false, false, false, false, false, false, false, false] (by kernel_rfl) rfl rfl ⟨(blk_cell BK173.out 0).trans rfl, (blk_cell BK173.out 1).trans rfl, (blk_cell BK173.out 2).trans rfl, (blk_cell BK173.out 3).trans rfl⟩ (fun hHeld => ?_); refine with_tabW spec_l04Sizes.tab30 spec_l04Sizes.bits30 (fun HT_ HW_ => ?_)
          generalize w144.drew = w145 at HO_10 BK173 BK175 HB HQ146 hf131_0 hf131_1 hx131_0 hx131_1 hHeld ⊢
          refine pu_ 0 137 (lA 10 1) ?_ ?_ HT_ ?_
          refine pu_ 1 138 (lA 10 3) ?_ ?_ HT_ ?_
          refine pu_ 3 140 (lA 10 11) ?_ ?_ HT_ ?_
          refine pu_ 4 141 (lA 10 27) ?_ ?_ HT_ ?_
          refine tk_ 2 139 (lA 10 31) ?_ ?_ HT_ HW_ hHeld ?_
          refine pu_ 7 144 (lA 10 159) ?_ ?_ HT_ ?_
          refine tk_ 5 142 (lA 10 191) ?_ ?_ HT_ HW_ hHeld ?_
          refine pu_ 6 143 (lA 10 255) ?_ ?_ HT_ ?_
          refine pu_ 8 145 (lA 10 511) ?_ ?_ HT_ ?_
          refine last_ (i := 9) (N := none) (lA 10 1023) rfl rfl (one_of HT_.out (by kernel_rfl)) (by decide) (fun K hK => ?_)
          refine skip_ (w1 := ?_) (by rfl) rfl ?_ ?_
          rotate_left
          ·
           go_simp
           rfl
          refine hK.out _ _ ?_
          clear hK K
          refine done_ (done_of HT_.out (by kernel_rfl)) ?_
          have n0_ : Aside0 (Kd.R k79 79 (w145.setCell ⟨go19, (((rd_T75 l3 x11_2).f2) : Int).toNat * 2 + 1, none⟩ (.int .i64 (wrap64 (((rd_T75 l3 x11_2).f1))))) w.heap.size (fun k_ => k_ ≠ gb175) (.slice (some ⟨go19, 0, none⟩) x10_2.length co19) y202) := ⟨kp_ HQ146⟩
          have n1_ : Aside0 ((w145.setCell ⟨go19, (((rd_T75 l3 x11_2).f2) : Int).toNat * 2 + 1, none⟩ (.int .i64 (wrap64 (((rd_T75 l3 x11_2).f1))))).heap[gb173]? = some (.cells #[.int .i8 ((rd_T75 l3 x11_2).f0), .int .i8 ((rd_T75 l3 x11_2).f1), .int .i8 ((rd_T75 l3 x11_2).f2), .int .i8 ((rd_T75 l3 x11_2).f3)] 75 (0, 0))) := ⟨by (with_reducible repeat (first | refine blk_drewN ?_ _ | refine blk_drew ?_ | refine blk_alloc ?_ _)); refine blk_far ?_ (by have h_ := Kd.R_ne HO_10.out BK173.out (by decide); intro e_; exact h_ (by rw [e_]; rfl)) _; (with_reducible repeat (first | refine blk_drewN ?_ _ | refine blk_drew ?_ | refine blk_alloc ?_ _)); exact BK173.out⟩
          have n2_ : Aside0 ((w145.setCell ⟨go19, (((rd_T75 l3 x11_2).f2) : Int).toNat * 2 + 1, none⟩ (.int .i64 (wrap64 (((rd_T75 l3 x11_2).f1))))).heap[gb175]? = some (.cells #[.int .i64 ((rd_T79 x10_2 x11_2).f0), .int .i64 ((rd_T79 x10_2 x11_2).f1)] 79 (0, 0))) := ⟨by (with_reducible repeat (first | refine blk_drewN ?_ _ | refine blk_drew ?_ | refine blk_alloc ?_ _)); refine blk_far ?_ (by have h_ := Kd.R_away HO_10.out (fun _ hk => hk); intro e_; exact h_ (by rw [e_]; rfl)) _; (with_reducible repeat (first | refine blk_drewN ?_ _ | refine blk_drew ?_ | refine blk_alloc ?_ _)); exact BK175.out⟩
          have n3_ : Aside0 (Below w.heap.size w (w145.setCell ⟨go19, (((rd_T75 l3 x11_2).f2) : Int).toNat * 2 + 1, none⟩ (.int .i64 (wrap64 (((rd_T75 l3 x11_2).f1)))))) := ⟨by repeat (first | (with_reducible first | exact HB.out | apply below_alloc | apply pw_below_drewN | apply below_drew1 | refine below_set ?_ GB19.out | refine below_set ?_ GE173.out | refine below_set ?_ GE175.out) | exact HB.out)⟩
          (try clear HO_10)
          (try clear BK173)
          (try clear BK175)
          (try clear HB)
          generalize (w145.setCell ⟨go19, (((rd_T75 l3 x11_2).f2) : Int).toNat * 2 + 1, none⟩ (.int .i64 (wrap64 (((rd_T75 l3 x11_2).f1))))) = w147 at n0_ n1_ n2_ n3_ ⊢
          have HO_10 := n0_
          have BK173 := n1_
          have BK175 := n2_
          have HB := n3_
          clear n0_ n1_ n2_ n3_
          have hcz148_0 : w147.cell? ⟨gb173, 0, none⟩ = some (.int .i8 ((rd_T75 l3 x11_2).f0)) := (blk_cell BK173.out 0).trans rfl
          have hcz148_1 : w147.cell? ⟨gb173, 1, none⟩ = some (.int .i8 ((rd_T75 l3 x11_2).f1)) := (blk_cell BK173.out 1).trans rfl
          have hcz148_2 : w147.cell? ⟨gb173, 2, none⟩ = some (.int .i8 ((rd_T75 l3 x11_2).f2)) := (blk_cell BK173.out 2).trans rfl
          have hcz148_3 : w147.cell? ⟨gb173, 3, none⟩ = some (.int .i8 ((rd_T75 l3 x11_2).f3)) := (blk_cell BK173.out 3).trans rfl
          have hfz148_0 := blk_frozen BK173.out 0
          have hfz148_1 := blk_frozen BK173.out 1
          have hfz148_2 := blk_frozen BK173.out 2
          have hfz148_3 := blk_frozen BK173.out 3
          have hcz149_0 : w147.cell? ⟨gb175, 0, none⟩ = some (.int .i64 ((rd_T79 x10_2 x11_2).f0)) := (blk_cell BK175.out 0).trans rfl
          have hcz149_1 : w147.cell? ⟨gb175, 1, none⟩ = some (.int .i64 ((rd_T79 x10_2 x11_2).f1)) := (blk_cell BK175.out 1).trans rfl
          have hfz149_0 := blk_frozen BK175.out 0
          have hfz149_1 := blk_frozen BK175.out 1
          have p134 : 0 ≤ (((rd_T75 l3 x11_2).f3) : Int) := od_
          have q134 : (((rd_T75 l3 x11_2).f3) : Int) < ((x10_2.length : Int) : Int) := od_
          obtain ⟨ce134, hcl134, hM134, hcc134, hfr134⟩ := Kd.R_elem HO_10.out z79 (((rd_T75 l3 x11_2).f3) : Int) p134 q134
          obtain rfl := k79_openM hM134
          have hx134_0 : w147.cell? ⟨go19, (((rd_T75 l3 x11_2).f3) : Int).toNat * 2, none⟩ = some (.int .i64 ((rd_T79 y202 ((rd_T75 l3 x11_2).f3)).f0)) := hcc134 0 _ rfl
          have hx134_1 : w147.cell? ⟨go19, (((rd_T75 l3 x11_2).f3) : Int).toNat * 2 + 1, none⟩ = some (.int .i64 ((rd_T79 y202 ((rd_T75 l3 x11_2).f3)).f1)) := hcc134 1 _ rfl
          have hf134_0 : w147.frozen? ⟨go19, (((rd_T75 l3 x11_2).f3) : Int).toNat * 2, none⟩ = false := hfr134 0
          have hf134_1 : w147.frozen? ⟨go19, (((rd_T75 l3 x11_2).f3) : Int).toNat * 2 + 1, none⟩ = false := hfr134 1
          clear hcl134 hcc134 hfr134; (try clear hM134)
          replace p134 := eq_true p134
          replace q134 := eq_true q134
          have HX150 := Aside0.mk (show Kd.R k79 79 w147 w.heap.size (fun k_ => k_ ≠ gb175) (.slice (some ⟨go19, 0, none⟩) x10_2.length co19) y202 from (kp_ HO_10))
          obtain ⟨ce150, hcl150, hM150, hcc150, hfr150⟩ := Kd.R_elem HX150.out z79 (((rd_T75 l3 x11_2).f3) : Int) od_ (by have h_ : (((rd_T75 l3 x11_2).f3) : Int) < ((x10_2.length : Int) : Int) := od_; first | exact h_ | (have e_ := (Kd.R_reads' HO_10.out).1; omega) | simpa using h_)
          obtain rfl := k79_openM hM150
          have HP150 := Kd.R_seg HX150.out (((rd_T75 l3 x11_2).f3) : Int) od_ (by have h_ : (((rd_T75 l3 x11_2).f3) : Int) < ((x10_2.length : Int) : Int) := od_; first | exact h_ | (have e_ := (Kd.R_reads' HO_10.out).1; omega) | simpa using h_) (seg := [.int .i64 ((rd_T79 x10_2 x11_2).f0), .int .i64 ((rd_T79 x10_2 x11_2).f1)]) (j := 0) hcl150 hcc150 (show 2 ≤ 2 from by decide) (x' := (⟨((rd_T79 x10_2 x11_2).f0), ((rd_T79 x10_2 x11_2).f1)⟩ : S79)) (k79_mkM _ _ _ (⟨((rd_T79 x10_2 x11_2).f0), ((rd_T79 x10_2 x11_2).f1)⟩ : S79) ) (fun _ hk => hk)
          have hx150_0 := hcc150 0 _ rfl
          (try simp only [show (k79).sz = 2 from rfl, Nat.mul_one, Nat.add_zero] at hx150_0)
          have hf150_0 := hfr150 0
          (try simp only [show (k79).sz = 2 from rfl, Nat.mul_one, Nat.add_zero] at hf150_0)
          have hx150_1 := hcc150 1 _ rfl
          (try simp only [show (k79).sz = 2 from rfl, Nat.mul_one, Nat.add_zero] at hx150_1)
          have hf150_1 := hfr150 1
          (try simp only [show (k79).sz = 2 from rfl, Nat.mul_one, Nat.add_zero] at hf150_1)
          clear hcl150 hcc150 hfr150; (try clear hM150)
          try go_wp2_with (first | ((with_reducible refine gate_store (t := 79) (p := 150) rfl ?_); refine store_event (t := 79) (p := 150) (v := ?vo_w151) (w1 := ((w147.setCell ⟨go19, (((rd_T75 l3 x11_2).f3) : Int).toNat * 2, none⟩ (.int .i64 ((rd_T79 x10_2 x11_2).f0))).setCell ⟨go19, (((rd_T75 l3 x11_2).f3) : Int).toNat * 2 + 1, none⟩ (.int .i64 ((rd_T79 x10_2 x11_2).f1)))) ?hg ?ho ?hn ?hr ?_; (case ho => rfl); (case hg => rfl); (case hn => rfl); (case hr => first | (go_simp; done) | (go_simp; rfl)); intro w151 hw; have hg : w147.grownBy w151 (some go19) := (by rw [hw]; exact HP150.2); have hp_ : Kd.R k79 79 w151 w.heap.size (fun k_ => k_ ≠ gb175) (.slice (some ⟨go19, 0, none⟩) x10_2.length co19) y203 := (by rw [hw, Ny203.out]; exact HP150.1); clear HP150; have n0_ := Aside0.mk (hp_); have n1_ := Aside0.mk (blk_grown (g := gb173) (o := .cells #[.int .i8 ((rd_T75 l3 x11_2).f0), .int .i8 ((rd_T75 l3 x11_2).f1), .int .i8 ((rd_T75 l3 x11_2).f2), .int .i8 ((rd_T75 l3 x11_2).f3)] 75 (0, 0)) (kb_ BK173) hg (Kd.R_ne HO_10.out BK173.out (by decide))); have n2_ := Aside0.mk (blk_grown (g := gb175) (o := .cells #[.int .i64 ((rd_T79 x10_2 x11_2).f0), .int .i64 ((rd_T79 x10_2 x11_2).f1)] 79 (0, 0)) (kb_ BK175) hg (Kd.R_away HO_10.out (fun _ hk => hk))); have n3_ := Aside0.mk ((by rw [hw]; exact below_set (below_set (HB.out) GB19.out) GB19.out : Below w.heap.size w w151)); clear HO_10; clear BK173; clear BK175; clear HB; have HO_10 := n0_; have BK173 := n1_; have BK175 := n2_; have HB := n3_; clear n0_ n1_ n2_ n3_; clear hg hw hp_))
          replace HO_10 := Aside0.mk (Kd.R_drew HO_10.out)
          replace BK173 := Aside0.mk (blk_drew BK173.out)
          replace BK175 := Aside0.mk (blk_drew BK175.out)
          replace HB := Aside0.mk (below_drew1 HB.out)
          have p135 : 0 ≤ (((rd_T75 l3 x11_2).f3) : Int) := od_
          have q135 : (((rd_T75 l3 x11_2).f3) : Int) < ((x10_2.length : Int) : Int) := od_
          obtain ⟨ce135, hcl135, hM135, hcc135, hfr135⟩ := Kd.R_elem HO_10.out z79 (((rd_T75 l3 x11_2).f3) : Int) p135 q135
          obtain rfl := k79_openM hM135
          have hx135_0 : World.cell? _ ⟨go19, (((rd_T75 l3 x11_2).f3) : Int).toNat * 2, none⟩ = some (.int .i64 ((rd_T79 y203 ((rd_T75 l3 x11_2).f3)).f0)) := hcc135 0 _ rfl
          have hx135_1 : World.cell? _ ⟨go19, (((rd_T75 l3 x11_2).f3) : Int).toNat * 2 + 1, none⟩ = some (.int .i64 ((rd_T79 y203 ((rd_T75 l3 x11_2).f3)).f1)) := hcc135 1 _ rfl
          have hf135_0 : World.frozen? _ ⟨go19, (((rd_T75 l3 x11_2).f3) : Int).toNat * 2, none⟩ = false := hfr135 0
          have hf135_1 : World.frozen? _ ⟨go19, (((rd_T75 l3 x11_2).f3) : Int).toNat * 2 + 1, none⟩ = false := hfr135 1
          clear hcl135 hcc135 hfr135; (try clear hM135)
          replace p135 := eq_true p135
          replace q135 := eq_true q135
          obtain ⟨ce153, hcl153, hM153, hcc153, hfr153⟩ := Kd.R_elem HO_10.out z79 (((rd_T75 l3 x11_2).f3) : Int) od_ (by have h_ : (((rd_T75 l3 x11_2).f3) : Int) < ((x10_2.length : Int) : Int) := od_; first | exact h_ | (have e_ := (Kd.R_reads' HO_10.out).1; omega) | simpa using h_)
          obtain rfl := k79_openM hM153
          have HP153 := (Kd.R_seg HO_10.out (((rd_T75 l3 x11_2).f3) : Int) od_ (by have h_ : (((rd_T75 l3 x11_2).f3) : Int) < ((x10_2.length : Int) : Int) := od_; first | exact h_ | (have e_ := (Kd.R_reads' HO_10.out).1; omega) | simpa using h_) (seg := [.int .i64 (wrap64 (((rd_T79 x10_2 x11_2).f1) - (wrap64 (((rd_T75 l3 x11_2).f1)))))]) (j := 1) hcl153 hcc153 (show 2 ≤ 2 from by decide) (x' := (⟨(rd_T79 y203 ((rd_T75 l3 x11_2).f3)).f0, wrap64 (((rd_T79 x10_2 x11_2).f1) - (wrap64 (((rd_T75 l3 x11_2).f1))))⟩ : S79)) (k79_mkM _ _ _ (⟨(rd_T79 y203 ((rd_T75 l3 x11_2).f3)).f0, wrap64 (((rd_T79 x10_2 x11_2).f1) - (wrap64 (((rd_T75 l3 x11_2).f1))))⟩ : S79) ) (fun _ hk => hk)).1
          rw [← Ny204.out] at HP153
          have HQ153 := Aside0.mk HP153
          clear hcl153 hcc153 hfr153; (try clear hM153); clear HP153
          refine start_ (n := 14) (S := fun w' => w'.cell? ⟨gb173, 0, none⟩ = some (.int .i8 ((rd_T75 l3 x11_2).f0)) ∧ w'.cell? ⟨gb173, 1, none⟩ = some (.int .i8 ((rd_T75 l3 x11_2).f1)) ∧ w'.cell? ⟨gb173, 2, none⟩ = some (.int .i8 ((rd_T75 l3 x11_2).f2)) ∧ w'.cell? ⟨gb173, 3, none⟩ = some (.int .i8 ((rd_T75 l3 x11_2).f3)) ∧ w'.cell? ⟨gb175, 0, none⟩ = some (.int .i64 ((rd_T79 x10_2 x11_2).f0)) ∧ w'.cell? ⟨gb175, 1, none⟩ = some (.int .i64 ((rd_T79 x10_2 x11_2).f1))) (ds := [13]) #[false, false, false, false, false, false, false, false, false, false, false, false, false, false] (by kernel_rfl) rfl rfl ⟨(blk_cell BK173.out 0).trans rfl, (blk_cell BK173.out 1).trans rfl, (blk_cell BK173.out 2).trans rfl, (blk_cell BK173.out 3).trans rfl, (blk_cell BK175.out 0).trans rfl, (blk_cell BK175.out 1).trans rfl⟩ (fun hHeld => ?_); refine with_tabW spec_l04Sizes.tab32 spec_l04Sizes.bits32 (fun HT_ HW_ => ?_)
          generalize w151.drew = w152 at HO_10 BK173 BK175 HB HQ153 hf135_0 hf135_1 hx135_0 hx135_1 hHeld ⊢
          refine pu_ 0 151 (lA 14 1) ?_ ?_ HT_ ?_
          refine pu_ 1 152 (lA 14 3) ?_ ?_ HT_ ?_
          refine pu_ 3 154 (lA 14 11) ?_ ?_ HT_ ?_
          refine pu_ 4 155 (lA 14 27) ?_ ?_ HT_ ?_
          refine pu_ 5 156 (lA 14 59) ?_ ?_ HT_ ?_
          refine pu_ 7 158 (lA 14 187) ?_ ?_ HT_ ?_
          refine tk_ 2 153 (lA 14 191) ?_ ?_ HT_ HW_ hHeld ?_
          refine pu_ 11 162 (lA 14 2239) ?_ ?_ HT_ ?_
          refine tk_ 6 157 (lA 14 2303) ?_ ?_ HT_ HW_ hHeld ?_
          refine tk_ 8 159 (lA 14 2559) ?_ ?_ HT_ HW_ hHeld ?_
          refine pu_ 9 160 (lA 14 3071) ?_ ?_ HT_ ?_
          refine pu_ 10 161 (lA 14 4095) ?_ ?_ HT_ ?_
          refine pu_ 12 163 (lA 14 8191) ?_ ?_ HT_ ?_
          refine last_ (i := 13) (N := none) (lA 14 16383) rfl rfl (one_of HT_.out (by kernel_rfl)) (by decide) (fun K hK => ?_)
          refine skip_ (w1 := ?_) (by rfl) rfl ?_ ?_
          rotate_left
          ·
           go_simp
           rfl
          refine hK.out _ _ ?_
          clear hK K
          refine done_ (done_of HT_.out (by kernel_rfl)) ?_
          try go_wp2
          (try simp only [← hl10_2])
          go_roundg kj77
          case measure => have := HJ4.out; have := HK2.out; have := HJ77.out; omega
          case rel => exact ⟨(y204), (wrap64 (x11_2 + 1)), (by first | rfl | (simp; done) | (simp [*]; done)), H', ⟨by have := HJ4.out; have := HK2.out; have := HJ77.out; omega⟩, ⟨by (try simp only [hl10_2]); (with_reducible repeat (first | apply Kd.R_alloc | apply Kd.R_drewN | apply Kd.R_drew)); exact Kd.R_mono HQ153.out (fun _ hk => trivial)⟩, ⟨by repeat (first | (with_reducible first | exact HB.out | apply below_alloc | apply pw_below_drewN | apply below_drew1 | refine below_set ?_ GB19.out | refine below_set ?_ GE173.out | refine below_set ?_ GE175.out) | exact HB.out)⟩⟩
         ·
          replace c127 := Bool.eq_false_iff.mpr c127
          subst c127
          have H1 : (some ((([] : List (S79))), false)) = some (r1, r2) := by rw [if_neg (show ¬ (false = true) by decide)] at H; exact H
          clear H
          have H := H1
          clear H1
          obtain ⟨y205, hy205⟩ : ∃ y_ : List (S79), y_ = (([] : List (S79))) := ⟨_, rfl⟩
          replace H : (some (y205, false)) = some (r1, r2) := by first | (rw [hy205]; with_reducible exact H) | (have H2_ := (Option.bind_some _ _).symm.trans H; rw [hy205]; with_reducible exact H2_) | (have H2_ := (Option.bind_some _ _).symm.trans H; with_reducible exact H2_) | with_reducible exact H | (rw [hy205]; exact H) | exact H
          have Ny205 := Aside0.mk hy205
          clear hy205
          simp only [Option.some.injEq, Prod.mk.injEq] at H
          obtain ⟨rfl, rfl⟩ := H
          have hnb154 := NB173_175.out
          have hnc154 := NB175_173.out
          have hcz155_0 : wc.cell? ⟨gb173, 0, none⟩ = some (.int .i8 ((rd_T75 l3 x11_2).f0)) := (blk_cell BK173.out 0).trans rfl
          have hcz155_1 : wc.cell? ⟨gb173, 1, none⟩ = some (.int .i8 ((rd_T75 l3 x11_2).f1)) := (blk_cell BK173.out 1).trans rfl
          have hcz155_2 : wc.cell? ⟨gb173, 2, none⟩ = some (.int .i8 ((rd_T75 l3 x11_2).f2)) := (blk_cell BK173.out 2).trans rfl
          have hcz155_3 : wc.cell? ⟨gb173, 3, none⟩ = some (.int .i8 ((rd_T75 l3 x11_2).f3)) := (blk_cell BK173.out 3).trans rfl
          have hfz155_0 := blk_frozen BK173.out 0
          have hfz155_1 := blk_frozen BK173.out 1
          have hfz155_2 := blk_frozen BK173.out 2
          have hfz155_3 := blk_frozen BK173.out 3
          try go_wp2_with (first | ((with_reducible refine gate_callee (f := 71) rfl ?_); refine goesL_ (some 115) rfl rfl Try.func71 (by kernel_rfl) rfl #[.slice (some ⟨go19, 0, none⟩) x10_2.length co19, .int .i64 x11_2, .agg #[.int .i8 ((rd_T75 l3 x11_2).f0), .int .i8 ((rd_T75 l3 x11_2).f1), .int .i8 ((rd_T75 l3 x11_2).f2), .int .i8 ((rd_T75 l3 x11_2).f3)]] rfl (by (try simp only [List.map_toArray, List.map_cons, List.map_nil]); first | done | rfl | (simp only [List.length_drop, List.length_take]; rfl)) ?_; (with_reducible refine (spec_l04Given.calls _ _ x10_2 x11_2 ((rd_T75 l3 x11_2).f0) ((rd_T75 l3 x11_2).f1) ((rd_T75 l3 x11_2).f2) ((rd_T75 l3 x11_2).f3) true _ ?side1 ?side2 A87.out).mono ?_); (case side1 => repeat (first | exact (Kd.R_reads' HO_10.out).2.2 | (with_reducible refine Kd.C_alloc ?_ _) | (with_reducible refine Kd.C_drewN ?_ _) | (with_reducible refine Kd.C_drew ?_))); (case side2 => exact (Kd.R_reads' HO_10.out).2.1); rintro e w156 ⟨rfl, hb⟩; refine ⟨_, rfl, ?_⟩; have n0_ := Aside0.mk (Kd.R_below (kp_ HO_10) hb); have n1_ := Aside0.mk (blk_below (g := gb173) (o := .cells #[.int .i8 ((rd_T75 l3 x11_2).f0), .int .i8 ((rd_T75 l3 x11_2).f1), .int .i8 ((rd_T75 l3 x11_2).f2), .int .i8 ((rd_T75 l3 x11_2).f3)] 75 (0, 0)) (kb_ BK173) hb); have n2_ := Aside0.mk (blk_below (g := gb175) (o := .cells #[.int .i64 ((rd_T79 x10_2 x11_2).f0), .int .i64 ((rd_T79 x10_2 x11_2).f1)] 79 (0, 0)) (kb_ BK175) hb); have n3_ := Aside0.mk (below_step (kS_ HB GE173 GE175) hb); clear HO_10; clear BK173; clear BK175; clear HB; have HO_10 := n0_; have BK173 := n1_; have BK175 := n2_; have HB := n3_; clear n0_ n1_ n2_ n3_; (try clear hb); (try clear hb2); (try clear hk); (try clear hi); have hcz157_0 : w156.cell? ⟨gb173, 0, none⟩ = some (.int .i8 ((rd_T75 l3 x11_2).f0)) := (blk_cell BK173.out 0).trans rfl; have hcz157_1 : w156.cell? ⟨gb173, 1, none⟩ = some (.int .i8 ((rd_T75 l3 x11_2).f1)) := (blk_cell BK173.out 1).trans rfl; have hcz157_2 : w156.cell? ⟨gb173, 2, none⟩ = some (.int .i8 ((rd_T75 l3 x11_2).f2)) := (blk_cell BK173.out 2).trans rfl; have hcz157_3 : w156.cell? ⟨gb173, 3, none⟩ = some (.int .i8 ((rd_T75 l3 x11_2).f3)) := (blk_cell BK173.out 3).trans rfl; have hfz157_0 := blk_frozen BK173.out 0; have hfz157_1 := blk_frozen BK173.out 1; have hfz157_2 := blk_frozen BK173.out 2; have hfz157_3 := blk_frozen BK173.out 3))
          replace HO_10 := Aside0.mk (Kd.R_drew HO_10.out)
          replace BK173 := Aside0.mk (blk_drew BK173.out)
          replace BK175 := Aside0.mk (blk_drew BK175.out)
          replace HB := Aside0.mk (below_drew1 HB.out)
          refine start_ (n := 9) (S := fun w' => w'.cell? ⟨gb173, 0, none⟩ = some (.int .i8 ((rd_T75 l3 x11_2).f0)) ∧ w'.cell? ⟨gb173, 1, none⟩ = some (.int .i8 ((rd_T75 l3 x11_2).f1)) ∧ w'.cell? ⟨gb173, 2, none⟩ = some (.int .i8 ((rd_T75 l3 x11_2).f2)) ∧ w'.cell? ⟨gb173, 3, none⟩ = some (.int .i8 ((rd_T75 l3 x11_2).f3)) ∧ w'.cell? ⟨gb175, 0, none⟩ = some (.int .i64 ((rd_T79 x10_2 x11_2).f0)) ∧ w'.cell? ⟨gb175, 1, none⟩ = some (.int .i64 ((rd_T79 x10_2 x11_2).f1))) (ds := []) #[false, false, false, false, false, false, false, false, false] (by kernel_rfl) rfl rfl ⟨(blk_cell BK173.out 0).trans rfl, (blk_cell BK173.out 1).trans rfl, (blk_cell BK173.out 2).trans rfl, (blk_cell BK173.out 3).trans rfl, (blk_cell BK175.out 0).trans rfl, (blk_cell BK175.out 1).trans rfl⟩ (fun hHeld => ?_); refine with_tabW spec_l04Sizes.tab27 spec_l04Sizes.bits27 (fun HT_ HW_ => ?_)
          generalize w156.drew = w158 at HO_10 BK173 BK175 HB hHeld ⊢
          refine pu_ 0 122 (lA 9 1) ?_ ?_ HT_ ?_
          refine pu_ 3 125 (lA 9 9) ?_ ?_ HT_ ?_
          refine pu_ 4 126 (lA 9 25) ?_ ?_ HT_ ?_
          refine tk_ 1 123 (lA 9 27) ?_ ?_ HT_ HW_ hHeld ?_
          refine pu_ 2 124 (lA 9 31) ?_ ?_ HT_ ?_
          refine tk_ 5 127 (lA 9 63) ?_ ?_ HT_ HW_ hHeld ?_
          refine pu_ 6 128 (lA 9 127) ?_ ?_ HT_ ?_
          refine one_ (i := 7) (N := some 129) (lA 9 255) rfl rfl (one_of HT_.out (by kernel_rfl)) (by decide) (fun K hK => ?_)
          refine goes_ Try.func68 (by kernel_rfl) rfl #[.int .i64 (wrap64 (((rd_T75 l3 x11_2).f1))), .int .i64 1, .int .i64 (wrap64 (((rd_T79 x10_2 x11_2).f1) - 1))] (by rfl) rfl rfl (by (try simp only [List.map_toArray, List.map_cons, List.map_nil]); first | done | rfl | (simp only [List.length_drop, List.length_take]; rfl)) ?_
          with_reducible refine (spec_l00In.calls (wrap64 (((rd_T75 l3 x11_2).f1))) 1 (wrap64 (((rd_T79 x10_2 x11_2).f1) - 1)) false _ A126.out).mono ?_
          rintro e w' ⟨rfl, ⟨nd, rfl⟩⟩
          refine ⟨_, rfl, ?_⟩
          refine hK.out _ _ ⟨(blk_cell BK173.out 0).trans rfl, (blk_cell BK173.out 1).trans rfl, (blk_cell BK173.out 2).trans rfl, (blk_cell BK173.out 3).trans rfl, (blk_cell BK175.out 0).trans rfl, (blk_cell BK175.out 1).trans rfl⟩ (fun hHeld => ?_)
          clear hK K
          refine norm_ (a' := ?_) ?_ ?_
          rotate_left
          ·
           show Act.put _ (some 129) _ = _
           simp only [Act.put, List.setIfInBounds_toArray, List.set_cons_zero, List.set_cons_succ, i64_w, i32_w]
           rfl
          refine pu_ 8 130 (lA 9 511) ?_ ?_ HT_ ?_
          refine done_ (done_of HT_.out (by kernel_rfl)) ?_
          try go_wp2_with (first | ((with_reducible refine gate_dst (N := 131) rfl ?_); (try (refine gate_guard (by rfl) ?_; dsimp only)); refine Kd.R_lit k79 _ 79 ?hg (N := 131) ?hd (xs := ([] : List (S79))) (inner := []) (ok := fun _ => True) (okp := fun _ => True) ?hr ?hp (fun _ hk => hk) trivial (Below.refl _ _) (Nat.le_refl _) (by simp) ?_; (case hd => rfl); (case hg => rfl); (case hr => first | (go_simp; done) | (go_simp; rfl)); (case hp => exact (Reps.none _ _)); intro v206 w159 ho160 hb hg_ hnew_; clear hg_ hnew_; (first | rw [← Ny205.out] at ho160 | (simp only [Int.reduceToNat] at ho160; rw [← Ny205.out] at ho160)); have n0_ := Aside0.mk (Kd.R_elder' (kp_ HO_10) (Kd.R_base ho160) hb); have n1_ := Aside0.mk (Kd.R_lower (Kd.R_newB (Kd.R_new' ho160 (Kd.R_lt (kp_ HO_10))) (g := gb175) (o := .cells #[.int .i64 ((rd_T79 x10_2 x11_2).f0), .int .i64 ((rd_T79 x10_2 x11_2).f1)] 79 (0, 0)) (kb_ BK175)) (below_size (kS_ HB GE173 GE175))); have n2_ := Aside0.mk (blk_below (g := gb173) (o := .cells #[.int .i8 ((rd_T75 l3 x11_2).f0), .int .i8 ((rd_T75 l3 x11_2).f1), .int .i8 ((rd_T75 l3 x11_2).f2), .int .i8 ((rd_T75 l3 x11_2).f3)] 75 (0, 0)) (kb_ BK173) hb); have n3_ := Aside0.mk (blk_below (g := gb175) (o := .cells #[.int .i64 ((rd_T79 x10_2 x11_2).f0), .int .i64 ((rd_T79 x10_2 x11_2).f1)] 79 (0, 0)) (kb_ BK175) hb); have n4_ := Aside0.mk (below_step (kS_ HB GE173 GE175) hb); clear HO_10; clear BK173; clear BK175; clear HB; have HO_10 := n0_; have HO207 := n1_; have BK173 := n2_; have BK175 := n3_; have HB := n4_; clear n0_ n1_ n2_ n3_ n4_; clear hb ho160))
          go_ret2
          exact ⟨_, by first | rfl | (simp [errW_none, errW_some] <;> rfl) | (simp [*, errW_none, errW_some] <;> rfl), by (with_reducible repeat (first | apply Kd.R_alloc | apply Kd.R_drewN | apply Kd.R_drew)); exact Kd.R_mono HO207.out (fun _ hk => trivial), kS_ HB GE173 GE175⟩
end Go.Proofs.Ytedbgfjllladkaa.PA
