/- Written by a program of this session out of the translation: pure functions, and that Go's functions come to them. -/
import Derived.Test.YtjkjelfhdhcplaaPAx0
import Derived.Test.YtjkjelfhdhcplaaPAxf65
import Derived.Test.YtjkjelfhdhcplaaPAxf68
namespace Go.Proofs.Ytjkjelfhdhcplaa.PA
open Go.RowKit Go.Proofs.YtjkjelfhdhcplaaW.PrintWords Go.Proofs.YtjkjelfhdhcplaaW.PrintLast Go.Proofs.YtjkjelfhdhcplaaW.PrintMore
attribute [local go_sem] max2_int min2_int max_two min_two max_three min_three max_four min_four   -- for this text's walks alone
set_option linter.unusedVariables false
set_option linter.unusedSimpArgs false

/-! ### slices_Repeat_int_int: function 51 -/
theorem slices_Repeat_int_int.info3 : (Try.prog.info? 3).map (fun i => (i.zero, i.size, i.bytes)) = some (some (.int .i64 0), 1, 8) := by kernel_rfl
theorem slices_Repeat_int_int.wraps_u64' (n : Int) (h0 : 0 ≤ n) (h1 : n < 2 ^ 64) : IntKind.u64.wrap n = n := by rw [IntKind.wrap_u64]; omega
theorem slices_Repeat_int_int.and_low (n : Int) (h0 : 0 ≤ n) (h1 : n < 4294967296) : Go.bits .and .u64 n 4294967295 = n := by
  have := bits_mask .u64 64 (by decide) slices_Repeat_int_int.wraps_u64' 32 (by decide) n h0 (by omega)
  rw [show (2 : Int) ^ 32 - 1 = 4294967295 from rfl] at this
  rw [this]; omega
theorem slices_Repeat_int_int.mul_one_ (n : Int) (h0 : 0 ≤ n) (h1 : n < 4294967296) : bits_Mul.f 1 n = some (0, n) := by
  have d1 : (1 : Int) / 4294967296 = 0 := by decide
  have d2 : n / 4294967296 = 0 := by omega
  have d3 : (0 : Int) / 4294967296 = 0 := by decide
  have e1 := slices_Repeat_int_int.and_low 1 (by omega) (by omega)
  have e2 := slices_Repeat_int_int.and_low n h0 h1
  have e0 := slices_Repeat_int_int.and_low 0 (by omega) (by omega)
  have w0 := slices_Repeat_int_int.wraps_u64' 0 (by omega) (by omega)
  have wn := slices_Repeat_int_int.wraps_u64' n h0 (by omega)
  unfold bits_Mul.f bits_Mul64.f
  rw [d1, d2, e1, e2]
  simp only [Int.zero_mul, Int.mul_zero, Int.one_mul, w0, wn, d2, d3, Int.zero_add, Int.add_zero, e0, Option.bind_some]
section
open Kd
theorem slices_Repeat_int_int.run_copyAt {α : Type} {enc : α → Value} {h1 : ∀ x, (enc x).oneCell' = true} (d : α) {P : Program} {W : World} (base : Nat) (t t' ty e g cap b0 m c cd q : Nat) (ok : Nat → Prop) (xs : List α)
    (ht : P.underlying t = some (.slice e)) (hinfo : (P.info? e).map (·.size) = some 1) (HO : (scalar enc h1).R e W base ok (.slice (some ⟨g, 0, none⟩) xs.length cap) xs) (hb : b0 ≤ xs.length) (hm : m ≤ xs.length) (hq : q = Nat.min m (xs.length - b0)) :
    ∃ w1, (Builtin.copy_ #[t, t'] ty #[.slice (some ⟨g, b0, none⟩) (xs.length - b0) cd, .slice (some ⟨g, 0, none⟩) m c]).run P W = .ok (goInt ((q : Nat) : Int)) w1 ∧ (scalar enc h1).R e w1 base ok (.slice (some ⟨g, 0, none⟩) xs.length cap) (xs.take b0 ++ xs.take q ++ xs.drop (b0 + q)) ∧ W.grownBy w1 (some g) := by
  have hR := reads_of_C (enc := enc) (d := d) (h1 := h1) (R_reads' HO).2.2
  have hown := own_of_R HO
  have hmin : q = min m (xs.length - b0) := hq
  rcases Nat.eq_zero_or_pos q with h0 | hp
  · refine ⟨W, ?_, ?_, World.grownBy.refl W _⟩
    · rw [h0]; exact run_copy_none W t t' ty e _ _ _ _ m c ht hinfo (by omega)
    · rw [h0, List.take_zero, List.append_nil, Nat.add_zero, List.take_append_drop]; exact HO
  · obtain ⟨ad, hA, hc⟩ := hR.2.2 (by omega)
    obtain rfl : (⟨g, 0, none⟩ : Addr) = ad := by injection hA
    rcases hown.2 with ⟨_, hx0⟩ | ⟨g', cap', cur, hv, hbb, hh, hnc, hcm, hcs, htake⟩
    · omega
    injection hv with hv1 hv2 hv3
    injection hv1 with hv1
    injection hv1 with hv1
    subst hv1 hv3
    have hcs1 : cur.size = cap := by omega
    have hkl : (encs enc (xs.take q)).length = q := by rw [encs_length, List.length_take]; omega
    have hsrc : ∀ j u, (encs enc (xs.take q))[j]? = some u → W.cell? ((⟨g, 0, none⟩ : Addr).add j) = some u := by
      intro j u hu
      have hj : j < (xs.take q).length := by
        rcases Nat.lt_or_ge j (xs.take q).length with h | h
        · exact h
        · rw [List.getElem?_eq_none (by rw [encs_length]; exact h)] at hu
          cases hu
      have hjm : j < q := by rw [List.length_take] at hj; omega
      rw [encs_get (d := d) _ j hj] at hu
      rw [hc j (by omega), ← hu]
      simp [List.getD_eq_getElem?_getD, hjm]
    have hr := run_copy_cells (P := P) W t t' ty e g b0 (xs.length - b0) cd ⟨g, 0, none⟩ m c (encs enc (xs.take q)) ht hinfo (by rw [hkl]; exact hq) hsrc
      (fun j hj => by rw [cell_of_row W g _ cur e (0, 0) hh]; simp; omega) (fun j _ => blk_frozen hh _) (by intro u hu; simp only [encs, List.mem_map] at hu; obtain ⟨q, _, rfl⟩ := hu; exact h1 q)
    obtain ⟨cur', h3, h4, h5⟩ := setCells_row (encs enc (xs.take q)) b0 W cur hh (by rw [hkl]; omega)
    obtain ⟨s1, s2, s3, s4⟩ := setCells_same g (encs enc (xs.take q)) b0 W
    refine ⟨_, by rw [hr, hkl], ?_, ⟨s1, s2, s3, by rw [s4]; exact Nat.le_refl _, fun k _ hk => setCells_far _ _ k (fun he => hk (by rw [he]))⟩⟩
    have hln : (xs.take b0 ++ xs.take q ++ xs.drop (b0 + q)).length = xs.length := by
      simp only [List.length_append, List.length_take, List.length_drop]; omega
    have htk : cur.toList.take xs.length = encs enc xs := by rw [← htake, Nat.mul_one]
    refine R_of_own (v := .slice (some ⟨g, 0, none⟩) xs.length cap) ?_ HO.1
    rw [hln]
    refine ⟨by rw [encs_length, hln, Nat.mul_one], .inr ⟨g, cap, cur', rfl, hbb, h3, hnc, hcm, by rw [h4, hcs], ?_⟩⟩
    have hd : encs enc (xs.drop (b0 + q)) = (encs enc xs).drop (b0 + q) := by simp [encs, List.map_drop]
    have he : encs enc (xs.take b0) = (encs enc xs).take b0 := by simp [encs, List.map_take]
    have hcl : cur.toList.length = cap := by rw [Array.length_toList]; exact hcs1
    have hL : (cur.toList.take b0 ++ encs enc (xs.take q)).length = b0 + q := by rw [List.length_append, hkl, List.length_take]; omega
    rw [h5, hkl, encs_append, encs_append, hd, he, ← htk, Nat.mul_one, List.take_append, hL, List.take_of_length_le (by rw [hL]; omega), List.take_take, Nat.min_eq_left hb, List.drop_take]
end
theorem slices_Repeat_int_int.rep_round (x : Int) (m q N : Nat) (hm : m ≤ N) (hq : q ≤ m) (hq2 : q ≤ N - m) :
    List.take m (List.replicate m x ++ List.replicate (N - m) 0) ++ List.take q (List.replicate m x ++ List.replicate (N - m) 0) ++ List.drop (m + q) (List.replicate m x ++ List.replicate (N - m) 0) = List.replicate (m + q) x ++ List.replicate (N - (m + q)) 0 := by
  rw [List.take_append_of_le_length (by simp), List.take_append_of_le_length (by simp; omega), List.take_replicate, List.take_replicate, Nat.min_self, Nat.min_eq_left hq, List.replicate_append_replicate]
  congr 1
  rw [List.drop_append, List.drop_of_length_le (by simp)]
  simp
  omega
theorem slices_Repeat_int_int.copy_run_ {P : Program} {w w1 : World} {a : Act} {oi : Oper} {s x : Operand} {t t' : TypeId} {v y r : Value}
    (ho : oi.op = .call { callee := .builtin .copy, args := #[s, x], argTypes := #[t, t'] }) (hs : a.eval s = v) (hx : a.eval x = y)
    (hr : (Builtin.copy_ #[t, t'] oi.type #[v, y]).run P w = .ok r w1) : (execOp a.eval oi).run P w = .ok (.value r) w1 := by
  unfold execOp
  simp only [ho, resolve, invoke, builtin, Sem.run_bind, Sem.run_pure, Result.andThen_ok, List.map_toArray, List.map_cons, List.map_nil, hs, hx, hr]
theorem slices_Repeat_int_int.rep_meas (m N g : Nat) (h : m < N) (hg : N - m ≤ g) : g - 1 < g := by omega
theorem slices_Repeat_int_int.rep_le (m N g : Nat) (h : m < N) (hg : N - m ≤ g) (h1 : N = 0 ∨ 1 ≤ m) : m + min m (N - m) ≤ N ∧ N - (m + min m (N - m)) ≤ g - 1 ∧ 1 ≤ m + min m (N - m) ∧ min m (N - m) ≤ m ∧ min m (N - m) ≤ N - m ∧ 1 ≤ min m (N - m) := by
  have h2 : 1 ≤ m := by omega
  have a1 := Nat.min_le_left m (N - m)
  have a2 := Nat.min_le_right m (N - m)
  have a3 : 1 ≤ min m (N - m) := Nat.le_min.2 ⟨h2, by omega⟩
  generalize min m (N - m) = q at a1 a2 a3 ⊢
  omega
theorem slices_Repeat_int_int.rep_wrap (m : Nat) (n : Int) (q : Nat) (h0 : 0 ≤ n) (h1 : n < 1048576) (h : m + q ≤ n.toNat) : wrap64 ((m : Int) + (q : Int)) = ((m + q : Nat) : Int) := by
  have h2 : ((m + q : Nat) : Int) ≤ n := by omega
  have h3 : (0 : Int) ≤ ((m + q : Nat) : Int) := Int.natCast_nonneg _
  rw [← Int.natCast_add]
  generalize ((m + q : Nat) : Int) = z at h2 h3 ⊢
  have h4 : z < 1048576 := Int.lt_of_le_of_lt h2 h1
  clear h h0 h1 h2
  unfold wrap64
  omega
theorem slices_Repeat_int_int.tab9 : rtab .any (opsOf Try.f51 9) = (true, [([], []), ([], []), ([], []), ([1, 2], [1, 2]), ([], []), ([], []), ([4, 5], [4, 5]), ([3, 6], [3, 6]), ([0, 7], [0, 7]), ([8, 7, 0, 1, 2, 3, 4, 5, 6, 7, 8], [0, 2, 5, 8])]) := by kernel_rfl
theorem slices_Repeat_int_int.bits9 : waitsOk ([([], []), ([], []), ([], []), ([1, 2], [1, 2]), ([], []), ([], []), ([4, 5], [4, 5]), ([3, 6], [3, 6]), ([0, 7], [0, 7]), ([8, 7, 0, 1, 2, 3, 4, 5, 6, 7, 8], [0, 2, 5, 8])] : List (List Nat × List Nat)) [0, 0, 0, 6, 0, 0, 48, 126, 255, 511] = true := by kernel_rfl
def slices_Repeat_int_int.f (l0 : List Int) (n : Int) : Option (List Int) := if l0.length = 1 ∧ 0 ≤ n ∧ n < 1048576 then some (List.replicate n.toNat (rd l0 0)) else none
set_option maxHeartbeats 4000000 in
set_option maxRecDepth 100000 in
theorem slices_Repeat_int_int.calls (A0 : Option Addr) (c0 : Nat) (l0 : List Int) (n : Int) (r : List Int) (w : World) (hr0 : Kd.C (Kd.int .i64) w A0 l0.length l0) (hc0 : l0.length ≤ c0) (h : slices_Repeat_int_int.f l0 n = some r) :
    Calls Try.prog 51 #[.slice A0 l0.length c0, .int .i64 n] w fun e w' => ∃ v0_ : Value, e = .returned (v0_) ∧ Kd.R (Kd.int .i64) 3 w' w.heap.size (fun _ => True) v0_ r ∧ Below w.heap.size w w' := by
  unfold slices_Repeat_int_int.f at h
  split at h
  case isFalse => cases h
  rename_i hh
  obtain ⟨hl, hn0, hn1⟩ := hh
  obtain rfl := Option.some.inj h
  clear h
  obtain ⟨x, rfl⟩ : ∃ x, l0 = [x] := List.length_eq_one_iff.1 hl
  have HR0 := Aside0.mk hr0
  have HL := Aside0.mk hn1
  have HN := Aside0.mk hn0
  have A1 := Aside0.mk (slices_Repeat_int_int.mul_one_ n hn0 (by omega))
  have cn : decide (n < 0) = false := decide_eq_false (by omega)
  have cm : decide (n > 9223372036854775807) = false := decide_eq_false (by omega)
  have wu : IntKind.u64.wrap n = n := slices_Repeat_int_int.wraps_u64' n hn0 (by omega)
  have wi : IntKind.i64.wrap n = n := by rw [IntKind.wrap_i64]; omega
  have HB := Aside0.mk (Below.refl w.heap.size w)
  clear hr0 hl hn0 hn1
  go_enter Try.func51, Try.ntmps51
  go_wp2_with (first
    | (go_at_call 65; (with_reducible refine (bits_Mul.calls 1 n 0 n _ A1.out).mono ?_); rintro e w' ⟨rfl, ⟨nd, rfl⟩⟩)
    | ((with_reducible refine gate_dst (N := 30) rfl ?_); go_loud (refine Kd.R_make (Kd.int .i64) _ 3 rfl (N := 30) rfl 63 _ _ rfl n rfl rfl Try.underlying63 (.int .i64 0) 8 slices_Repeat_int_int.info3 rfl (by decide) (by omega) 0 (ok := fun _ => True) (okp := fun _ => True) rfl (fun _ hk => hk) trivial HN.out (by have := HL.out; omega) (Below.refl _ _) (Nat.le_refl _) ?_; intro v1 w2 ho1 hb hg_ hnew_; clear hg_ hnew_; have HO := Aside0.mk (Kd.R_lower ho1 (below_size (by repeat (first | (with_reducible first | exact HB.out | apply below_alloc | apply pw_below_drewN | apply below_drew1) | exact HB.out)))); have HB2 := Aside0.mk (below_step (by repeat (first | (with_reducible first | exact HB.out | apply below_alloc | apply pw_below_drewN | apply below_drew1) | exact HB.out)) hb); clear ho1 hb))
    | ((with_reducible refine gate_builtin (b := .copy) (xs := #[.tmp 31, .tmp 32]) rfl ?_); go_loud (refine Kd.R_copy (enc := Value.int .i64) (h1 := fun _ => rfl) (0 : Int) (w0 := w) w.heap.size rfl (.tmp 31) (.tmp 32) 63 63 3 rfl Try.underlying63 (by kernel_rfl) v1 (List.replicate n.toNat 0) [x] A0 1 c0 (fun _ => True) rfl rfl HO.out (Kd.C_below HR0.out HB2.out) HB2.out HB2.out.size ?_; intro w3 ho3 hb3 hg3; have HO3 := Aside0.mk ho3; have HB3 := Aside0.mk hb3; clear ho3 hb3 hg3)))
  have HO4 : Aside0 (Kd.R (Kd.int .i64) 3 w3 w.heap.size (fun _ => True) v1 (List.replicate (min 1 n.toNat) x ++ List.replicate (n.toNat - min 1 n.toNat) 0)) := ⟨by
    have h_ := HO3.out
    have e_ : List.take (min 1 (List.replicate n.toNat (0 : Int)).length) [x] ++ List.drop (min 1 (List.replicate n.toNat (0 : Int)).length) (List.replicate n.toNat 0) = List.replicate (min 1 n.toNat) x ++ List.replicate (n.toNat - min 1 n.toNat) 0 := by
      rw [List.length_replicate, List.drop_replicate]
      rcases Nat.eq_zero_or_pos n.toNat with h | h
      · rw [h]; rfl
      · rw [show min 1 n.toNat = 1 by omega]; rfl
    rw [e_] at h_
    exact h_⟩
  clear HO3
  go_loopg [8] n.toNat (fun gg v8 wr => ∃ m : Nat, m ≤ n.toNat ∧ n.toNat - m ≤ gg ∧ (n.toNat = 0 ∨ 1 ≤ m) ∧ v8 = .int .i64 m ∧ Aside0 (Kd.R (Kd.int .i64) 3 wr w.heap.size (fun _ => True) v1 (List.replicate m x ++ List.replicate (n.toNat - m) 0)) ∧ Aside0 (Below w.heap.size w wr))
  case atStart => exact ⟨min 1 n.toNat, by omega, by omega, by omega, by first | rfl | (rw [List.length_replicate]) | (simp; done) | (simp; omega), HO4, HB3⟩
  case round =>
    obtain ⟨m, hm, hg, hm1, rfl, HOm, HBm⟩ := hrel
    obtain ⟨Am, cm_, em⟩ := Kd.R_slice HOm.out
    have el : (List.replicate m x ++ List.replicate (n.toNat - m) (0 : Int)).length = n.toNat := by simp; omega
    rw [el] at em
    subst em
    by_cases hlt : m < n.toNat
    · have c1 : decide ((m : Int) < ((n.toNat : Nat) : Int)) = true := decide_eq_true (by omega)
      go_wp2
      obtain ⟨g1, rfl, hcap⟩ : ∃ g1, Am = some (⟨g1, 0, none⟩ : Addr) ∧ n.toNat ≤ cm_ := by
        rcases (Kd.own_of_R HOm.out).2 with ⟨_, h0⟩ | ⟨g', cap', cur, hv, hbb, hh, hnc, hcm, hcs, htake⟩
        · exfalso; omega
        · injection hv with hv1 hv2 hv3
          subst hv3
          refine ⟨g', hv1, ?_⟩
          omega
      have hmx : (m : Int) ≤ max n 0 := by omega
      have hcm : ¬ cm_ = m := by omega
      have hmc : m ≤ cm_ := by omega
      have hmn : ¬ ((m : Int) < 0) := by omega
      have hmn2 : m ≤ n.toNat := hm
      have HOd : Aside0 (Kd.R (Kd.int .i64) 3 wr.drew w.heap.size (fun _ => True) (Value.slice (some ⟨g1, 0, none⟩) n.toNat cm_) (List.replicate m x ++ List.replicate (n.toNat - m) 0)) := ⟨by (with_reducible apply Kd.R_drew); exact HOm.out⟩
      have HBd : Aside0 (Below w.heap.size w wr.drew) := ⟨by (with_reducible apply below_drew1); exact HBm.out⟩
      refine start_ (n := 10) (S := fun _ => True) (ds := [7]) #[false, false, false, false, false, false, false, false, false, false] (by kernel_rfl) rfl rfl trivial (fun hHeld => ?_); refine with_tabW slices_Repeat_int_int.tab9 slices_Repeat_int_int.bits9 (fun HT_ HW_ => ?_)
      generalize wr.drew = w46 at HOd HBd ⊢
      refine pure_ (i := 0) (N := some 38) (v := ?_) (a' := ?_) #[true, false, false, false, false, false, false, false, false, false] rfl rfl (any_of HT_.out (by kernel_rfl)) (fun _ _ _ h => h) (Or.inl ⟨by rfl, ?_⟩) ?_ ?_
      rotate_left
      · intro w'
        go_simp
        with_reducible rfl
      rotate_left
      · simp only [Act.put, List.setIfInBounds_toArray, List.set_cons_zero, List.set_cons_succ, i64_w, i32_w]
        rfl
      refine pure_ (i := 1) (N := some 39) (v := ?_) (a' := ?_) #[true, true, false, false, false, false, false, false, false, false] rfl rfl (any_of HT_.out (by kernel_rfl)) (fun _ _ _ h => h) (Or.inl ⟨by rfl, ?_⟩) ?_ ?_
      rotate_left
      · intro w'
        go_simp
        with_reducible rfl
      rotate_left
      · simp only [Act.put, List.setIfInBounds_toArray, List.set_cons_zero, List.set_cons_succ, i64_w, i32_w]
        rfl
      refine pure_ (i := 2) (N := some 40) (v := ?_) (a' := ?_) #[true, true, true, false, false, false, false, false, false, false] rfl rfl (any_of HT_.out (by kernel_rfl)) (fun _ _ _ h => h) (Or.inl ⟨by rfl, ?_⟩) ?_ ?_
      rotate_left
      · intro w'
        go_simp
        with_reducible rfl
      rotate_left
      · simp only [Act.put, List.setIfInBounds_toArray, List.set_cons_zero, List.set_cons_succ, i64_w, i32_w]
        rfl
      refine pure_ (i := 3) (N := some 41) (v := ?_) (a' := ?_) #[true, true, true, true, false, false, false, false, false, false] rfl rfl (any_of HT_.out (by kernel_rfl)) (fun _ _ _ h => h) (Or.inl ⟨by rfl, ?_⟩) ?_ ?_
      rotate_left
      · intro w'
        go_simp
        with_reducible rfl
      rotate_left
      · simp only [Act.put, List.setIfInBounds_toArray, List.set_cons_zero, List.set_cons_succ, i64_w, i32_w]
        rfl
      refine pure_ (i := 4) (N := some 42) (v := ?_) (a' := ?_) #[true, true, true, true, true, false, false, false, false, false] rfl rfl (any_of HT_.out (by kernel_rfl)) (fun _ _ _ h => h) (Or.inl ⟨by rfl, ?_⟩) ?_ ?_
      rotate_left
      · intro w'
        go_simp
        with_reducible rfl
      rotate_left
      · simp only [Act.put, List.setIfInBounds_toArray, List.set_cons_zero, List.set_cons_succ, i64_w, i32_w]
        rfl
      refine pure_ (i := 5) (N := some 43) (v := ?_) (a' := ?_) #[true, true, true, true, true, true, false, false, false, false] rfl rfl (any_of HT_.out (by kernel_rfl)) (fun _ _ _ h => h) (Or.inl ⟨by rfl, ?_⟩) ?_ ?_
      rotate_left
      · intro w'
        go_simp
        with_reducible rfl
      rotate_left
      · simp only [Act.put, List.setIfInBounds_toArray, List.set_cons_zero, List.set_cons_succ, i64_w, i32_w]
        rfl
      refine pure_ (i := 6) (N := some 44) (v := ?_) (a' := ?_) #[true, true, true, true, true, true, true, false, false, false] rfl rfl (any_of HT_.out (by kernel_rfl)) (fun _ _ _ h => h) (Or.inl ⟨by rfl, ?_⟩) ?_ ?_
      rotate_left
      · intro w'
        go_simp
        with_reducible rfl
      rotate_left
      · simp only [Act.put, List.setIfInBounds_toArray, List.set_cons_zero, List.set_cons_succ, i64_w, i32_w]
        rfl
      refine last_ (i := 7) (N := some 45) #[true, true, true, true, true, true, true, true, false, false] rfl rfl (one_of HT_.out (by kernel_rfl)) (by decide) (fun K hK => ?_)
      obtain ⟨w4, hr4, hO4, hG4⟩ := slices_Repeat_int_int.run_copyAt (0 : Int) (P := Try.prog) (t := 63) (t' := 63) (ty := 3) w.heap.size 3 g1 cm_ m m cm_ (cm_ - m) (min m (n.toNat - m)) (fun _ => True) (List.replicate m x ++ List.replicate (n.toNat - m) 0) rfl (by kernel_rfl) (by rw [el]; exact HOd.out) (by rw [el]; omega) (by rw [el]; omega) (by rw [el]; try rfl)
      rw [el] at hr4 hO4
      have HO5 := Aside0.mk hO4
      have HB5 : Aside0 (Below w.heap.size w w4) := ⟨HBd.out.grown hG4 HBd.out.size (fun k hk => own_base (Kd.own_of_R HOd.out) k hk)⟩
      clear hO4 hG4
      refine value_ (w1 := w4) (v := .int .i64 ((min m (n.toNat - m) : Nat) : Int)) (by rfl) rfl (slices_Repeat_int_int.copy_run_ rfl rfl rfl hr4) ?_
      refine hK.out _ _ ?_
      clear hK K
      refine norm_ (a' := ?_) ?_ ?_
      rotate_left
      · simp only [Act.put, List.setIfInBounds_toArray, List.set_cons_zero, List.set_cons_succ, i64_w, i32_w]
        rfl
      refine pure_ (i := 8) (N := some 46) (v := ?_) (a' := ?_) #[true, true, true, true, true, true, true, true, true, false] rfl rfl (any_of HT_.out (by kernel_rfl)) (fun _ _ _ h => h) (Or.inl ⟨by rfl, ?_⟩) ?_ ?_
      rotate_left
      · intro w'
        go_simp
        with_reducible rfl
      rotate_left
      · simp only [Act.put, List.setIfInBounds_toArray, List.set_cons_zero, List.set_cons_succ, i64_w, i32_w]
        rfl
      refine pure_ (i := 9) (N := some 8) (v := ?_) (a' := ?_) #[true, true, true, true, true, true, true, true, true, true] rfl rfl (any_of HT_.out (by kernel_rfl)) (fun _ _ _ h => h) (Or.inl ⟨by rfl, ?_⟩) ?_ ?_
      rotate_left
      · intro w'
        go_simp
        with_reducible rfl
      rotate_left
      · simp only [Act.put, List.setIfInBounds_toArray, List.set_cons_zero, List.set_cons_succ, i64_w, i32_w]
        rfl
      refine done_ (done_of HT_.out (by kernel_rfl)) ?_
      try go_wp2
      go_roundg (gk - 1)
      case measure => exact slices_Repeat_int_int.rep_meas m n.toNat gk hlt hg
      case rel =>
        obtain ⟨r1, r2, r3, r4, r5, r6⟩ := slices_Repeat_int_int.rep_le m n.toNat gk hlt hg hm1
        refine ⟨m + min m (n.toNat - m), r1, r2, .inr r3, congrArg _ (slices_Repeat_int_int.rep_wrap m n _ HN.out HL.out r1), ⟨?_⟩, HB5⟩
        have h_ := HO5.out
        rw [slices_Repeat_int_int.rep_round x m (min m (n.toNat - m)) n.toNat hm r4 r5] at h_
        exact h_
    · have c1 : decide ((m : Int) < ((n.toNat : Nat) : Int)) = false := decide_eq_false (by omega)
      go_wp2
      go_ret
      refine ⟨_, rfl, ?_, HBm.out⟩
      have h_ := HOm.out
      rw [show n.toNat - m = 0 by omega, List.replicate_zero, List.append_nil, show m = n.toNat by omega] at h_
      exact h_

end Go.Proofs.Ytjkjelfhdhcplaa.PA
