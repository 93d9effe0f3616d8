/- Pure functions, and that Go's functions come to them. -/
import Derived.Test.YtmglnofmmgokkaaPAx0
namespace Go.Proofs.Ytmglnofmmgokkaa.PA
open Go.RowKit Go.Proofs.YtmglnofmmgokkaaW.PrintWords Go.Proofs.YtmglnofmmgokkaaW.PrintLast Go.Proofs.YtmglnofmmgokkaaW.PrintMore
set_option linter.unusedVariables false
set_option linter.unusedSimpArgs false

/-! ### impl_Corner_61: function 61 -/
section
variable {α : Type} {d : Kd α} {P : Program} {ops : Array Oper} {rest : List Oper} {o : Oper} {a : Act} {Q : Exit → Act → World → Prop} {W : World}
/-- Cells of a row's block behind the row are written: the row stays. -/
theorem impl_Corner_61.tail_ {e base g n cap : Nat} {ok : Nat → Prop} {xs : List α} (h : d.R e W base ok (.slice (some ⟨g, 0, none⟩) n cap) xs) (seg : List Value) (q : Nat) (h1 : n * d.sz ≤ q) (h2 : q + seg.length ≤ cap * d.sz) :
  d.R e (W.setCells g q seg) base ok (.slice (some ⟨g, 0, none⟩) n cap) xs ∧ W.grownBy (W.setCells g q seg) (some g) := by
 obtain ⟨hn, hnc, _⟩ := Kd.R_reads' h
 obtain ⟨hok, inner, ho, hr⟩ := h
 obtain ⟨ho1, ho2⟩ := ho
 rcases ho2 with ⟨hv, _⟩ | ⟨g', cap', cur, hv, hb, hh, hnc', hcm, hcs, ht⟩
 ·
  cases hv
 injection hv with ha _ hc
 injection ha with ha
 injection ha with hg
 subst hg; subst hc
 have hfit : q + seg.length ≤ cur.size := by omega
 obtain ⟨cur', h3, h4, h5⟩ := setCells_row seg q W cur hh hfit
 obtain ⟨s1, s2, s3, s4⟩ := setCells_same g seg q W
 have hfar : ∀ k, k ≠ g → (W.setCells g q seg).heap[k]? = W.heap[k]? := fun k hk => setCells_far seg _ k hk
 have G : W.grownBy (W.setCells g q seg) (some g) := ⟨s1, s2, s3, by rw [s4]; exact Nat.le_refl _, fun k _ hk => hfar k (fun he => hk (by rw [he]))⟩
 refine ⟨⟨hok, inner, ⟨ho1, .inr ⟨g, cap, cur', by rw [hn], hb, h3, hnc', hcm, by rw [h4, hcs], ?_⟩⟩, hr.imp_ (fun _ _ hk => Kd.M_grown hk G (fun k hk2 => hk2.2))⟩, G⟩
 have hq : xs.length * d.sz ≤ q := by rw [← hn]; exact h1
 have hcl : cur.toList.length = cur.size := Array.length_toList
 rw [← ht, h5, List.append_assoc, List.take_append_of_le_length (by rw [List.length_take]; omega), List.take_take, Nat.min_eq_left hq]
/-- 'clear' of what lies behind a row of the call's own, in its block. -/
theorem impl_Corner_61.clear_ev (hgd : o.guard = none) (hN : o.dst = none) (x : Operand) (t e : TypeId) (ho : o.op = .call { callee := .builtin .clear, args := #[x], argTypes := #[t] }) (ht : P.underlying t = some (.slice e)) {z : Value} (hz : (P.info? e).bind (·.zero) = some z)
  (hzs : z.cells.size = d.sz) (hz1 : z.cells.all (·.oneCell') = true) {base g n cap q m c : Nat} {ok : Nat → Prop} {xs : List α} (hx : a.eval x = .slice (some ⟨g, q, none⟩) (m + 1) c) (hq : q = n * d.sz) (hm : n + (m + 1) ≤ cap)
  (HO : d.R e W base ok (.slice (some ⟨g, 0, none⟩) n cap) xs)
  (h : ∀ w1, d.R e w1 base ok (.slice (some ⟨g, 0, none⟩) n cap) xs → W.grownBy w1 (some g) → wpList P ops Q rest a w1) : wpList P ops Q (o :: rest) a W := by
 have hlen : (Builtin.zeroCells z.cells (m + 1)).toList.length = (m + 1) * d.sz := by simp [Builtin.zeroCells, hzs]
 have hone : ∀ v ∈ (Builtin.zeroCells z.cells (m + 1)).toList, v.oneCell' = true := by
  intro v hv
  simp only [Builtin.zeroCells, Array.toList_map, List.mem_map] at hv
  obtain ⟨j, hj, rfl⟩ := hv
  have hj' : j < (m + 1) * z.cells.size := by simpa using hj
  have hpos : 0 < z.cells.size := by
   rcases Nat.eq_zero_or_pos z.cells.size with h0 | h0
   ·
    rw [h0] at hj'; omega
   ·
    exact h0
  have hlt := Nat.mod_lt j hpos
  rw [getElem!_pos z.cells _ hlt]
  exact (Array.all_eq_true_iff_forall_mem.1 hz1) _ (Array.getElem_mem hlt)
 have hfit : q + (Builtin.zeroCells z.cells (m + 1)).toList.length ≤ cap * d.sz := by
  rw [hlen, hq, ← Nat.add_mul]
  exact Nat.mul_le_mul_right _ hm
 obtain ⟨h1, h2⟩ := impl_Corner_61.tail_ HO (Builtin.zeroCells z.cells (m + 1)).toList q (by omega) hfit
 obtain ⟨i, hi, hzz⟩ := Option.bind_eq_some_iff.1 hz
 have hrun : ∀ ty, (Builtin.clear_ #[t] ty #[.slice (some ⟨g, q, none⟩) (m + 1) c]).run P W = .ok (.tuple #[]) (W.setCells g q (Builtin.zeroCells z.cells (m + 1)).toList) := by
  intro ty
  obtain ⟨_, inner, ⟨_, ho2⟩, _⟩ := HO
  rcases ho2 with ⟨hv, _⟩ | ⟨g', cap', cur, hv, hb, hh, hnc', hcm, hcs, _⟩
  ·
   cases hv
  injection hv with ha _ hc
  injection ha with ha
  injection ha with hg
  subst hg; subst hc
  have hst := run_storeCells_cells (P := P) g q (Builtin.zeroCells z.cells (m + 1)).toList 0 W (fun j hj => by rw [cell_of_row W g _ cur e (0, 0) hh]; simp; omega) (fun j _ => blk_frozen hh _) hone
  simp only [Nat.add_zero] at hst
  simp [Builtin.clear_, run_underlying ht, zeroValue, typeInfo, hi, hzz, hst]
 refine wpList_plain hgd fun K hK => ?_
 unfold Oper.wp execOp
 simp only [ho, resolve, invoke, builtin, Sem.run_bind, Sem.run_pure, Result.andThen_ok, List.map_toArray, List.map_cons, List.map_nil, hx, hrun]
 show K (a.put o.dst _) _
 rw [hN]
 exact hK a _ (h _ h1 h2)
end
theorem impl_Corner_61.cut3_ {P : Program} (t e : TypeId) {i : TypeInfo} (ht : P.underlying t = some (.slice e)) (hi : P.info? e = some i) (A : Option Addr) (n c : Nat) (lo hi' : Int) (h0 : 0 ≤ lo) (h1 : lo ≤ hi') (h2 : hi' ≤ (n : Int)) (hc : n ≤ c) :
  ∃ V : Value, ∀ W : World, (Instr.slice t (.slice A n c) (some (.int .i64 lo)) (some (.int .i64 hi')) (some (.int .i64 (n : Int)))).run P W = .ok V W := by
 have hel : P.elem t = e := by simp [Program.elem, ht]
 have hu : P.underlying t = some (.slice (P.elem t)) := by rw [hel]; exact ht
 refine ⟨sliced A lo.toNat hi'.toNat n i.size, fun W => ?_⟩
 rw [run_slice_lhm W t A n c hu .i64 .i64 .i64 lo hi' (n : Int) h0 h1 h2 (by omega), hel]
 simp [sizeOf, typeInfo, hi, Result.andThen]
theorem impl_Corner_61.cut4_ {P : Program} (t e : TypeId) {i : TypeInfo} (ht : P.underlying t = some (.slice e)) (hi : P.info? e = some i) {size : Nat} (hsz : i.size = size) (g n c : Nat) (hc : n + 1 ≤ c) :
  ∀ W : World, (Instr.slice t (.slice (some ⟨g, 0, none⟩) n c) (some (.int .i64 (n : Int))) (some (.int .i64 ((n + 1 : Nat) : Int))) none).run P W = .ok (.slice (some ⟨g, n * size, none⟩) 1 (c - n)) W := by
 intro W
 have hel : P.elem t = e := by simp [Program.elem, ht]
 have hu : P.underlying t = some (.slice (P.elem t)) := by rw [hel]; exact ht
 rw [run_slice_lh W t (some ⟨g, 0, none⟩) n c hu .i64 .i64 (n : Int) ((n + 1 : Nat) : Int) (by omega) (by omega) (by omega), hel]
 have hne : ¬ c = n := by omega
 have hadd : (⟨g, 0, none⟩ : Addr).add (n * i.size) = ⟨g, n * i.size, none⟩ := by unfold Addr.add; split <;> simp_all
 subst hsz
 simp [sizeOf, typeInfo, hi, sliced, Result.andThen, hne, hadd]
theorem impl_Corner_61.slice3_ev {P : Program} {ops : Array Oper} {rest : List Oper} {o : Oper} {a : Act} {Q : Exit → Act → World → Prop} {W : World} (hgd : o.guard = none) {N : Tmp} (_hd : o.dst = some N) (t e : TypeId) (ht : P.underlying t = some (.slice e)) (x l h m : Operand) (ho : o.op = .slice t x (some l) (some h) (some m))
  {X lo hi mx V : Value} (hx : a.eval x = X) (hl : a.eval l = lo) (hh : a.eval h = hi) (hm : a.eval m = mx) (hr : (Instr.slice t X (some lo) (some hi) (some mx)).run P W = .ok V W) (hk : wpList P ops Q rest (a.put o.dst V) W) : wpList P ops Q (o :: rest) a W := by
 refine Kd.event_run hgd ?_ hk
 simp [execOp, ho, Instr.sliceAt, run_underlying ht, hx, hl, hh, hm, hr]
def impl_Corner_61.f (l0 : List (S34)) (a1 : Int) (a2 : Int) : Option ((List (S34))) := if a2 = wrap64 (a1 + 1) then (if 0 ≤ a1 then (if a1 ≤ a2 then (if a2 ≤ (l0.length : Int) then (if a1 = a2 then (some l0) else (if a1 ≤ (l0.length : Int) then (if 0 ≤ (wrap64 (a1 + 1)) then (if (wrap64 (a1 + 1)) ≤ (l0.length : Int) then (some (l0.eraseIdx (a1 : Int).toNat)) else (none)) else (none)) else (none))) else (none)) else (none)) else (none)) else none
def impl_Corner_61.T5 : Bool × List (List Nat × List Nat) := (true, [([], []), ([], []), ([0, 1], [0, 1]), ([], []), ([], []), ([3, 4], [3, 4]), ([2, 5], [2, 5]), ([6, 6, 0, 1, 2, 3, 4, 5, 6], [0, 3, 6])])
def impl_Corner_61.B5 : List Nat := [0, 0, 3, 0, 0, 24, 63, 127]
theorem impl_Corner_61.tab5 : rtab .any (opsOf Try.f61 5) = impl_Corner_61.T5 := by kernel_rfl
theorem impl_Corner_61.bits5 : waitsOk impl_Corner_61.T5.2 impl_Corner_61.B5 = true := by kernel_rfl
set_option maxHeartbeats 8000000 in
set_option maxRecDepth 100000 in
theorem impl_Corner_61.calls (P0_ : Nat → Prop) (u9000_ : Value) (l0 : List (S34)) (a1 : Int) (a2 : Int) (r : List (S34)) (w0 w : World) (hB : Below w0.heap.size w0 w) (ho0 : Kd.R k34 34 w w0.heap.size P0_ u9000_ l0) (h : impl_Corner_61.f l0 a1 a2 = some r) :
  Calls Try.prog 61 #[u9000_, .int .i64 a1, .int .i64 a2] w fun e w' => ∃ v0_ : Value, e = .returned (v0_) ∧ Kd.R k34 34 w' w0.heap.size (fun k_ => (P0_ k_ ∨ w.heap.size ≤ k_)) v0_ r ∧ Below w0.heap.size w0 w' ∧ Kept w w' (fun k_ => P0_ k_) := by
 by_cases ce : a2 = wrap64 (a1 + 1)
 rotate_left
 ·
  unfold impl_Corner_61.f at h
  rw [if_neg ce] at h
  exact absurd h (by simp)
 unfold impl_Corner_61.f at h
 rw [if_pos ce] at h
 have HO0 := Aside0.mk (show Kd.R k34 34 w w0.heap.size (fun k_ => (P0_ k_ ∨ w.heap.size ≤ k_)) u9000_ l0 from Kd.R_mono ho0 (fun k_ hk => (.inl hk)))
 have HK := Aside0.mk (Kept.refl w (fun k_ => P0_ k_))
 have HW0 := Aside0.mk hB.size
 have HB := Aside0.mk hB
 clear hB
 have H : (if 0 ≤ a1 then (if a1 ≤ a2 then (if a2 ≤ (l0.length : Int) then (if a1 = a2 then (some l0) else (if a1 ≤ (l0.length : Int) then (if 0 ≤ (wrap64 (a1 + 1)) then (if (wrap64 (a1 + 1)) ≤ (l0.length : Int) then (some (l0.eraseIdx (a1 : Int).toNat)) else (none)) else (none)) else (none))) else (none)) else (none)) else (none)) = some r := h
 clear h
 obtain ⟨(c4 : 0 ≤ a1), H⟩ := gd_ H
 have c4b0 := eq_true c4
 have c4b1 : decide (0 ≤ a1) = true := decide_eq_true c4
 clear c4
 obtain ⟨(c5 : a1 ≤ a2), H⟩ := gd_ H
 have c5b0 := eq_true c5
 have c5b1 : decide (a1 ≤ a2) = true := decide_eq_true c5
 clear c5
 obtain ⟨(c6 : a2 ≤ (l0.length : Int)), H⟩ := gd_ H
 have c6b0 := eq_true c6
 have c6b1 : decide (a2 ≤ (l0.length : Int)) = true := decide_eq_true c6
 clear c6
 obtain ⟨y245, hy245⟩ : ∃ y_ : List (S34), y_ = ((l0.take (a2 : Int).toNat).drop (a1 : Int).toNat) := ⟨_, rfl⟩
 replace H : (if a1 = a2 then (some l0) else (if a1 ≤ (l0.length : Int) then (if 0 ≤ (wrap64 (a1 + 1)) then (if (wrap64 (a1 + 1)) ≤ (l0.length : Int) then (some (l0.eraseIdx (a1 : Int).toNat)) else (none)) else (none)) else (none))) = some r := by first | (rw [hy245]; with_reducible exact H) | (have H2_ := (Option.bind_some _ _).symm.trans H; rw [hy245]; with_reducible exact H2_) | (have H2_ := (Option.bind_some _ _).symm.trans H; with_reducible exact H2_) | with_reducible exact H | (rw [hy245]; exact H) | exact H
 have Ny245 := Aside0.mk hy245
 clear hy245
 by_cases c7 : a1 = a2
 ·
  exfalso
  rw [← c7] at ce
  unfold wrap64 at ce
  omega
 rw [if_neg c7] at H
 have c7b0 : (a1 == a2) = false := beq_eq_false_iff_ne.mpr c7
 have c7b1 : (a1 != a2) = true := bne_iff_ne.mpr c7
 have c10b0 := eq_true (od_ : 0 ≤ a1)
 obtain ⟨(c11 : a1 ≤ (l0.length : Int)), H⟩ := gd_ H
 have c11b0 := eq_true c11
 have c11b1 : decide (a1 ≤ (l0.length : Int)) = true := decide_eq_true c11
 clear c11
 obtain ⟨y249, hy249⟩ : ∃ y_ : List (S34), y_ = (l0.take (a1 : Int).toNat) := ⟨_, rfl⟩
 replace H : (if 0 ≤ (wrap64 (a1 + 1)) then (if (wrap64 (a1 + 1)) ≤ (l0.length : Int) then (some (l0.eraseIdx (a1 : Int).toNat)) else (none)) else (none)) = some r := by first | (rw [hy249]; with_reducible exact H) | (have H2_ := (Option.bind_some _ _).symm.trans H; rw [hy249]; with_reducible exact H2_) | (have H2_ := (Option.bind_some _ _).symm.trans H; with_reducible exact H2_) | with_reducible exact H | (rw [hy249]; exact H) | exact H
 have Ny249 := Aside0.mk hy249
 clear hy249
 have hji12 : (wrap64 (a1 + 1)) = a2 := ce.symm
 replace H : (if 0 ≤ (a2) then (if (a2) ≤ (l0.length : Int) then (some (l0.eraseIdx (a1 : Int).toNat)) else (none)) else (none)) = some r := by first | (rw [hji12] at H; exact H) | (simp only [hji12] at H ⊢; exact H)
 have hji12w : (IntKind.i64.wrap (a1 + 1)) = a2 := (i64_w _).trans hji12
 obtain ⟨(c13 : 0 ≤ (a2)), H⟩ := gd_ H
 have c13b0 := eq_true c13
 have c13b1 : decide (0 ≤ (a2)) = true := decide_eq_true c13
 clear c13
 obtain ⟨(c14 : (a2) ≤ (l0.length : Int)), H⟩ := gd_ H
 have c14b0 := eq_true c14
 have c14b1 : decide ((a2) ≤ (l0.length : Int)) = true := decide_eq_true c14
 clear c14
 obtain ⟨y253, hy253⟩ : ∃ y_ : List (S34), y_ = (l0.drop ((a2) : Int).toNat) := ⟨_, rfl⟩
 replace H : (some (l0.eraseIdx (a1 : Int).toNat)) = some r := by first | (rw [hy253]; with_reducible exact H) | (have H2_ := (Option.bind_some _ _).symm.trans H; rw [hy253]; with_reducible exact H2_) | (have H2_ := (Option.bind_some _ _).symm.trans H; with_reducible exact H2_) | with_reducible exact H | (rw [hy253]; exact H) | exact H
 have Ny253 := Aside0.mk hy253
 clear hy253
 obtain ⟨y257, hy257⟩ : ∃ y_ : List (S34), y_ = (l0.eraseIdx (a1 : Int).toNat) := ⟨_, rfl⟩
 replace H : (some y257) = some r := by first | (rw [hy257]; with_reducible exact H) | (have H2_ := (Option.bind_some _ _).symm.trans H; rw [hy257]; with_reducible exact H2_) | (have H2_ := (Option.bind_some _ _).symm.trans H; with_reducible exact H2_) | with_reducible exact H | (rw [hy257]; exact H) | exact H
 have Ny257 := Aside0.mk hy257
 clear hy257
 obtain rfl := Option.some.inj H
 obtain ⟨Ao15, co15, eo15⟩ := Kd.R_slice HO0.out
 subst eo15
 have q16 : (a2 : Int) ≤ ((l0.length : Int) : Int) := od_
 obtain ⟨i016, hi016, _, hsz16, _⟩ := info_parts info34
 have hroom16 : l0.length ≤ co15 := (Kd.R_reads' HO0.out).2.1
 have hC16 : Kd.C k34 _ Ao15 l0.length l0 := (Kd.R_reads' HO0.out).2.2
 have ql16 : (a1 : Int) ≤ (a2 : Int) := od_
 have q016 : (0 : Int) ≤ (a1 : Int) := od_
 have KR := Aside0.mk (Kd.R_reads' HO0.out).2.1
 have KB := Aside0.mk (Kd.R_reads' HO0.out).2.2.2.1
 obtain ⟨V3, hcut3⟩ : ∃ V : Value, ∀ W : World, (Instr.slice 25 (.slice Ao15 l0.length co15) (some (.int .i64 a1)) (some (.int .i64 a2)) (some (.int .i64 (l0.length : Int)))).run Try.prog W = .ok V W := impl_Corner_61.cut3_ (P := Try.prog) 25 34 Try.underlying25 hi016 Ao15 l0.length co15 a1 a2 q016 ql16 q16 hroom16
 have hr16 := Kd.C_mid (lo := (a1 : Int).toNat) (hi := (a2 : Int).toNat) (c := co15) hC16 (by omega) (by omega) hroom16
 obtain ⟨A16, hA16⟩ : ∃ A1, A1 = (if co15 = (a1 : Int).toNat then Ao15 else (Ao15 : Option Addr).map (·.add ((a1 : Int).toNat * 2))) := ⟨_, rfl⟩
 obtain ⟨c16, hc16⟩ : ∃ c1, c1 = co15 - (a1 : Int).toNat := ⟨_, rfl⟩
 have hy16 : y245.length = (a2 : Int).toNat - (a1 : Int).toNat := (by rw [Ny245.out, List.length_drop, List.length_take] <;> omega)
 rw [show ((l0).take (a2 : Int).toNat).drop (a1 : Int).toNat = y245 from Ny245.out.symm] at hr16
 replace hr16 : Kd.C k34 _ A16 y245.length y245 := (by rw [hA16]; exact hr16)
 have HR248 := Aside0.mk hr16
 have HC248 := Aside0.mk (show y245.length ≤ c16 from by rw [hy16, hc16]; exact Nat.sub_le_sub_right (Nat.le_trans (by omega) hroom16) _)
 clear hr16 hC16 hroom16 hi016 hsz16 hc16
 have KY16 := Aside0.mk hy16
 have KA16 := Aside0.mk hA16
 clear hy16 hA16
 have KL16 := Aside0.mk (show (a2 : Int).toNat ≤ l0.length from by omega)
 have KM16 := Aside0.mk (show (a1 : Int).toNat ≤ (a2 : Int).toNat from by omega)
 replace q16 := eq_true q16
 have CE := Aside0.mk ce
 clear ce
 go_enter Try.func61, Try.ntmps61
 go_wp2_with (first | ((with_reducible refine gate_dst (N := 13) rfl ?_); refine impl_Corner_61.slice3_ev rfl rfl 25 34 Try.underlying25 _ _ _ _ rfl rfl rfl rfl rfl (hcut3 _) ?_))
 have n0_ := Aside0.mk (Kd.R_drew HO0.out)
 have n1_ := Aside0.mk (Kd.C_drew HR248.out)
 have n2_ := Aside0.mk (Kept.drew HK.out)
 have n3_ := Aside0.mk (below_drew1 HB.out)
 clear HO0
 clear HR248
 clear HK
 clear HB
 have HO0 := n0_
 have HR248 := n1_
 have HK := n2_
 have HB := n3_
 clear n0_ n1_ n2_ n3_
 have q18 : (a1 : Int) ≤ ((l0.length : Int) : Int) := od_
 obtain ⟨i018, hi018, _, hsz18, _⟩ := info_parts info34
 have hroom18 : l0.length ≤ co15 := (Kd.R_reads' HO0.out).2.1
 have hC18 : Kd.C k34 _ Ao15 l0.length l0 := (Kd.R_reads' HO0.out).2.2
 have hcut18 := cut_to (P := Try.prog) 25 34 .i64 Try.underlying25 hi018 Ao15 l0.length co15 a1 od_ q18 hroom18
 have hr18 := Kd.C_take (m := (a1 : Int).toNat) hC18 (by omega)
 have hy18 : y249.length = (a1 : Int).toNat := (by rw [Ny249.out, List.length_take]; omega)
 rw [← Ny249.out] at hr18
 rw [← hy18] at hcut18
 have HR252 := Aside0.mk hr18
 have HC252 := Aside0.mk (show y249.length ≤ co15 from by omega)
 clear hr18 hC18 hroom18 hi018 hsz18
 have KY18 := Aside0.mk hy18
 clear hy18
 have KL18 := Aside0.mk (show (a1 : Int).toNat ≤ l0.length from by omega)
 replace q18 := eq_true q18
 have q19 : ((a2) : Int) ≤ ((l0.length : Int) : Int) := od_
 obtain ⟨i019, hi019, _, hsz19, _⟩ := info_parts info34
 have hroom19 : l0.length ≤ co15 := (Kd.R_reads' HO0.out).2.1
 have hC19 : Kd.C k34 _ Ao15 l0.length l0 := (Kd.R_reads' HO0.out).2.2
 have q019 : (0 : Int) ≤ ((a2) : Int) := od_
 have hcut19 := cut_from (P := Try.prog) 25 34 .i64 Try.underlying25 hi019 2 hsz19 Ao15 l0.length co15 (a2) q019 q19
 have hr19 := Kd.C_drop (m := ((a2) : Int).toNat) (c := co15) hC19 (by omega) hroom19
 obtain ⟨A19, hA19⟩ : ∃ A1, A1 = (if co15 = ((a2) : Int).toNat then Ao15 else (Ao15 : Option Addr).map (·.add (((a2) : Int).toNat * 2))) := ⟨_, rfl⟩
 obtain ⟨c19, hc19⟩ : ∃ c1, c1 = co15 - ((a2) : Int).toNat := ⟨_, rfl⟩
 have hy19 : y253.length = l0.length - ((a2) : Int).toNat := (by rw [Ny253.out, List.length_drop] <;> omega)
 rw [show (l0).drop ((a2) : Int).toNat = y253 from Ny253.out.symm] at hr19
 replace hr19 : Kd.C k34 _ A19 y253.length y253 := (by rw [hA19]; exact hr19)
 rw [← hy19, ← hA19, ← hc19] at hcut19
 have HR256 := Aside0.mk hr19
 have HC256 := Aside0.mk (show y253.length ≤ c19 from by rw [hy19, hc19]; exact Nat.sub_le_sub_right hroom19 _)
 clear hr19 hC19 hroom19 hi019 hsz19 hc19
 have KY19 := Aside0.mk hy19
 have KA19 := Aside0.mk hA19
 clear hy19 hA19
 have KL19 := Aside0.mk (show ((a2) : Int).toNat ≤ l0.length from by omega)
 replace q19 := eq_true q19
 obtain ⟨go21, co21, eo21, gb21, gl21, cl21, HG21⟩ := Kd.R_form HO0.out (by have hj_ : 0 ≤ (a1 : Int) := od_; have hl_ : (a2 : Int) ≤ (l0.length : Int) := od_; have hh_ : (a1 : Int) ≤ (l0.length : Int) := od_; rw [← hji12] at hl_; unfold wrap64 at hl_; omega)
 (first | cases eo21 | (injection eo21 with ea_ en_ ec_; (first | subst ea_ | (injection ea_ with ea_; subst ea_)); subst ec_; clear en_))
 have GB21 := Aside0.mk gb21
 have GG21 := Aside0.mk HG21
 clear gb21 gl21 HG21
 have HMgo21 := Aside0.mk (show (P0_ go21 ∨ w.heap.size ≤ go21) from (HO0.out.1 _ rfl))
 refine start_ (n := 8) (S := fun w' => True) (ds := []) #[false, false, false, false, false, false, false, false] (by kernel_rfl) rfl rfl trivial (fun hHeld => ?_); refine with_tabW impl_Corner_61.tab5 impl_Corner_61.bits5 (fun HT_ HW_ => ?_)
 generalize w.drew = w17 at HO0 HR248 HK HB GG21 HR252 HR256 hHeld ⊢
 refine pu_ 0 20 (lA 8 1) ?_ ?_ HT_ ?_
 refine pu_ 1 21 (lA 8 3) ?_ ?_ HT_ ?_
 refine pu_ 2 22 (lA 8 7) ?_ ?_ HT_ ?_
 refine pu_ 3 23 (lA 8 15) ?_ ?_ HT_ ?_
 refine pu_ 4 24 (lA 8 31) ?_ ?_ HT_ ?_
 refine pu_ 5 25 (lA 8 63) ?_ ?_ HT_ ?_
 refine one_ (i := 6) (N := some 26) #[true, true, true, true, true, true, true, false] rfl rfl (one_of HT_.out (by kernel_rfl)) (by decide) (fun K hK => ?_)
 have hj_ : 0 ≤ (a1 : Int) := od_
 have hl_ : (a2 : Int) ≤ (l0.length : Int) := od_
 have hh_ : (a1 : Int) ≤ (l0.length : Int) := od_
 have hb_ := (Kd.R_reads' HO0.out).2.2.2.1
 have h0_ : (0 : Int) ≤ (a2 : Int) := od_
 have hy1_ := KY18.out
 have hk_ : (a2 : Int).toNat = y249.length + 1 := (by have hw_ : (a2 : Int) = a1 + 1 := (by have h00_ := h0_; rw [← hji12] at h00_ ⊢; unfold wrap64 at h00_ ⊢; omega); rw [hw_]; omega)
 refine Kd.R_delete_step k34 (w0 := w0) w0.heap.size (by rfl) (.tmp 22) (.tmp 25) 25 34 rfl Try.underlying25 (by kernel_rfl) (g := go21) (n := l0.length) (c := co15) (k := y249.length) rfl rfl ?hA ?hm (kp_ HO0) ?hk (kB_ HB) (below_size (kB_ HB)) ?_
 (case hA => have ha_ := KA19.out; rw [hk_] at ha_; exact ha_)
 (case hm => have ha_ := KY19.out; omega)
 (case hk => omega)
 intro w20 ho hb hg
 clear hj_ hl_ hh_ hb_ hk_ h0_
 rw [hy1_, ← Ny257.out] at ho
 clear hy1_
 have hn_ : l0.length - 1 = y257.length := (by have := (Kd.R_reads' ho).1; omega)
 rw [hn_] at ho ⊢
 clear hn_
 have n0_ := Aside0.mk (ho)
 have n1_ := Aside0.mk (hb)
 have n2_ := Aside0.mk (Kept.of_grown (S := (fun k_ => P0_ k_)) hg (by repeat (first | (with_reducible first | exact HK.out | apply Kept.alloc | apply Kept.drewN | apply Kept.drew) | exact HK.out)) (fun k_ e_ => (HO0.out.1 k_ e_)))
 clear HO0
 clear HB
 clear HK
 have HO0 := n0_
 have HB := n1_
 have HK := n2_
 clear n0_ n1_ n2_
 clear ho hb hg
 refine hK.out _ _ trivial (fun hHeld => ?_)
 clear hK K
 refine norm_ (a' := ?_) ?_ ?_
 rotate_left
 ·
  show Act.put _ (some 26) _ = _
  simp only [Act.put, List.setIfInBounds_toArray, List.set_cons_zero, List.set_cons_succ, i64_w, i32_w]
  rfl
 refine pu_ 7 0 (lA 8 255) ?_ ?_ HT_ ?_
 refine done_ (done_of HT_.out (by kernel_rfl)) ?_
 have hL : l0.length = y257.length + 1 := by
  have h1_ : 0 ≤ (a1 : Int) := od_
  have h2_ : (a2 : Int) ≤ (l0.length : Int) := od_
  have h3_ : (0 : Int) ≤ (a2 : Int) := od_
  have h4_ : a1.toNat < l0.length := by rw [CE.out] at h2_ h3_; unfold wrap64 at h2_ h3_; have hb_ := KB.out; have h5_ : (a1 : Int) ≤ (l0.length : Int) := od_; omega
  rw [Ny257.out, List.length_eraseIdx, if_pos h4_]
  omega
 have hK1 : y257.length + 1 ≤ co15 := by have := KR.out; omega
 obtain ⟨i4, hi4, _, hsz4, _⟩ := info_parts info34
 have hcut4 := impl_Corner_61.cut4_ (P := Try.prog) 25 34 Try.underlying25 hi4 hsz4 go21 y257.length co15 hK1
 rw [show ((y257.length + 1 : Nat) : Int) = (l0.length : Int) by rw [hL]] at hcut4
 go_wp2_with (first
  | ((with_reducible refine gate_ (.call { callee := .builtin .clear, args := #[.tmp 31], argTypes := #[25] }) rfl ?_); refine impl_Corner_61.clear_ev (d := k34) rfl rfl (.tmp 31) 25 34 rfl Try.underlying25 (z := .agg #[.int .i16 0, .int .i16 0]) (by kernel_rfl) (by rfl) (by simp [Value.cells, Value.oneCell']) (base := w0.heap.size) (g := go21) (n := y257.length) (cap := co15) (m := 0) (q := y257.length * 2) (c := co15 - y257.length) (xs := y257) (ok := fun k_ => (P0_ k_ ∨ w.heap.size ≤ k_)) rfl rfl (by omega) ((kp_ HO0)) ?_; intro w40 ho hg; have n0_ := Aside0.mk ho; have n1_ := Aside0.mk (((kB_ HB) : Below w0.heap.size w0 _).grown hg (below_size ((kB_ HB))) (fun k hk => by injection hk with hk; subst hk; exact Kd.R_base HO0.out _ (by simp [Value.ownBlock]))); have n2_ := Aside0.mk (Kept.of_grown (S := (fun k_ => P0_ k_)) hg ((by repeat (first | (with_reducible first | exact HK.out | apply Kept.alloc | apply Kept.drewN | apply Kept.drew) | exact HK.out))) (fun k_ e_ => (HO0.out.1 k_ e_))); clear HO0 HB HK; have HO0 := n0_; have HB := n1_; have HK := n2_; clear n0_ n1_ n2_; clear ho hg))
 go_ret
 exact ⟨_, rfl, (kp_ HO0), (kB_ HB), (by repeat (first | (with_reducible first | exact HK.out | apply Kept.alloc | apply Kept.drewN | apply Kept.drew) | exact HK.out))⟩
end Go.Proofs.Ytmglnofmmgokkaa.PA
