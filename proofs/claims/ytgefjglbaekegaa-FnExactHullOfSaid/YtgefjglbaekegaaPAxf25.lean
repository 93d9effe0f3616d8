/- Written by a program of this session out of the translation: pure functions, and that Go's functions come to them. -/
import Derived.Test.YtgefjglbaekegaaPAx0
import Derived.Test.YtgefjglbaekegaaPAxe0
import Derived.Lib.SlicesCompact
namespace Go.Proofs.Ytgefjglbaekegaa.PA
open Go.RowKit Go.Proofs.YtgefjglbaekegaaW.PrintWords Go.Proofs.YtgefjglbaekegaaW.PrintLast Go.Proofs.YtgefjglbaekegaaW.PrintMore
attribute [local go_sem] max2_int min2_int max_two min_two max_three min_three max_four min_four   -- for this text's walks alone
attribute [local go_sem high] eqA37
set_option linter.unusedVariables false
set_option linter.unusedSimpArgs false

/-! ### impl_Corner_25: function 25 -/
section
variable {α : Type} {d : Kd α} {P : Program} {ops : Array Oper} {rest : List Oper} {o : Oper} {a : Act} {Q : Exit → Act → World → Prop} {W : World}
/-- Cells of a row's block behind the row are written: the row stays. -/
theorem impl_Corner_25.tail_ {e base g n cap : Nat} {ok : Nat → Prop} {xs : List α} (h : d.R e W base ok (.slice (some ⟨g, 0, none⟩) n cap) xs) (seg : List Value) (q : Nat) (h1 : n * d.sz ≤ q) (h2 : q + seg.length ≤ cap * d.sz) :
    d.R e (W.setCells g q seg) base ok (.slice (some ⟨g, 0, none⟩) n cap) xs ∧ W.grownBy (W.setCells g q seg) (some g) := by
  obtain ⟨hn, hnc, _⟩ := Kd.R_reads' h
  obtain ⟨hok, inner, ho, hr⟩ := h
  obtain ⟨ho1, ho2⟩ := ho
  rcases ho2 with ⟨hv, _⟩ | ⟨g', cap', cur, hv, hb, hh, hnc', hcm, hcs, ht⟩
  · cases hv
  injection hv with ha _ hc
  injection ha with ha
  injection ha with hg
  subst hg; subst hc
  have hfit : q + seg.length ≤ cur.size := by omega
  obtain ⟨cur', h3, h4, h5⟩ := setCells_row seg q W cur hh hfit
  obtain ⟨s1, s2, s3, s4⟩ := setCells_same g seg q W
  have hfar : ∀ k, k ≠ g → (W.setCells g q seg).heap[k]? = W.heap[k]? := fun k hk => setCells_far seg _ k hk
  have G : W.grownBy (W.setCells g q seg) (some g) := ⟨s1, s2, s3, by rw [s4]; exact Nat.le_refl _, fun k _ hk => hfar k (fun he => hk (by rw [he]))⟩
  refine ⟨⟨hok, inner, ⟨ho1, .inr ⟨g, cap, cur', by rw [hn], hb, h3, hnc', hcm, by rw [h4, hcs], ?_⟩⟩, hr.imp_ (fun _ _ hk => Kd.M_grown hk G (fun k hk2 => hk2.2))⟩, G⟩
  have hq : xs.length * d.sz ≤ q := by rw [← hn]; exact h1
  have hcl : cur.toList.length = cur.size := Array.length_toList
  rw [← ht, h5, List.append_assoc, List.take_append_of_le_length (by rw [List.length_take]; omega), List.take_take, Nat.min_eq_left hq]
/-- 'clear' of what lies behind a row of the call's own, in its block. -/
theorem impl_Corner_25.clear_ev (hgd : o.guard = none) (hN : o.dst = none) (x : Operand) (t e : TypeId) (ho : o.op = .call { callee := .builtin .clear, args := #[x], argTypes := #[t] }) (ht : P.underlying t = some (.slice e)) {z : Value} (hz : (P.info? e).bind (·.zero) = some z)
    (hzs : z.cells.size = d.sz) (hz1 : z.cells.all (·.oneCell') = true) {base g n cap q m c : Nat} {ok : Nat → Prop} {xs : List α} (hx : a.eval x = .slice (some ⟨g, q, none⟩) (m + 1) c) (hq : q = n * d.sz) (hm : n + (m + 1) ≤ cap)
    (HO : d.R e W base ok (.slice (some ⟨g, 0, none⟩) n cap) xs)
    (h : ∀ w1, d.R e w1 base ok (.slice (some ⟨g, 0, none⟩) n cap) xs → W.grownBy w1 (some g) → wpList P ops Q rest a w1) : wpList P ops Q (o :: rest) a W := by
  have hlen : (Builtin.zeroCells z.cells (m + 1)).toList.length = (m + 1) * d.sz := by simp [Builtin.zeroCells, hzs]
  have hone : ∀ v ∈ (Builtin.zeroCells z.cells (m + 1)).toList, v.oneCell' = true := by
    intro v hv
    simp only [Builtin.zeroCells, Array.toList_map, List.mem_map] at hv
    obtain ⟨j, hj, rfl⟩ := hv
    have hj' : j < (m + 1) * z.cells.size := by simpa using hj
    have hpos : 0 < z.cells.size := by
      rcases Nat.eq_zero_or_pos z.cells.size with h0 | h0
      · rw [h0] at hj'; omega
      · exact h0
    have hlt := Nat.mod_lt j hpos
    rw [getElem!_pos z.cells _ hlt]
    exact (Array.all_eq_true_iff_forall_mem.1 hz1) _ (Array.getElem_mem hlt)
  have hfit : q + (Builtin.zeroCells z.cells (m + 1)).toList.length ≤ cap * d.sz := by
    rw [hlen, hq, ← Nat.add_mul]
    exact Nat.mul_le_mul_right _ hm
  obtain ⟨h1, h2⟩ := impl_Corner_25.tail_ HO (Builtin.zeroCells z.cells (m + 1)).toList q (by omega) hfit
  obtain ⟨i, hi, hzz⟩ := Option.bind_eq_some_iff.1 hz
  have hrun : ∀ ty, (Builtin.clear_ #[t] ty #[.slice (some ⟨g, q, none⟩) (m + 1) c]).run P W = .ok (.tuple #[]) (W.setCells g q (Builtin.zeroCells z.cells (m + 1)).toList) := by
    intro ty
    obtain ⟨_, inner, ⟨_, ho2⟩, _⟩ := HO
    rcases ho2 with ⟨hv, _⟩ | ⟨g', cap', cur, hv, hb, hh, hnc', hcm, hcs, _⟩
    · cases hv
    injection hv with ha _ hc
    injection ha with ha
    injection ha with hg
    subst hg; subst hc
    have hst := run_storeCells_cells (P := P) g q (Builtin.zeroCells z.cells (m + 1)).toList 0 W (fun j hj => by rw [cell_of_row W g _ cur e (0, 0) hh]; simp; omega) (fun j _ => blk_frozen hh _) hone
    simp only [Nat.add_zero] at hst
    simp [Builtin.clear_, run_underlying ht, zeroValue, typeInfo, hi, hzz, hst]
  refine wpList_plain hgd fun K hK => ?_
  unfold Oper.wp execOp
  simp only [ho, resolve, invoke, builtin, Sem.run_bind, Sem.run_pure, Result.andThen_ok, List.map_toArray, List.map_cons, List.map_nil, hx, hrun]
  show K (a.put o.dst _) _
  rw [hN]
  exact hK a _ (h _ h1 h2)
end
namespace CC
instance : Inhabited S37 := ⟨z37⟩
instance : DecidableEq S37 := fun a b => decidable_of_iff (a.f0 = b.f0 ∧ a.f1 = b.f1) ⟨fun h => by cases a; cases b; simp_all, fun h => h ▸ ⟨rfl, rfl⟩⟩
theorem getb (xs : List S37) (i : Nat) : xs.toArray[i]! = rd_T37 xs (i : Int) := by
  simp only [getElem!_def, List.getElem?_toArray, rd_T37, Int.toNat_natCast, List.getD_eq_getElem?_getD]
  cases xs[i]? <;> rfl
theorem eqb (a b : S37) : (a.f0 == b.f0 && (a.f1 == b.f1)) = decide (a = b) := by
  by_cases h : a = b
  · subst h; simp
  · rw [decide_eq_false h, Bool.and_eq_false_iff]
    by_cases e : a.f0 = b.f0
    · right
      rw [beq_eq_false_iff_ne]
      intro e2
      exact h (by cases a; cases b; simp_all)
    · left; rw [beq_eq_false_iff_ne]; exact e
theorem setb (xs : List S37) (i : Nat) (v : S37) : (xs.set i v).toArray = xs.toArray.setIfInBounds i v := by simp
/-- The two cells of place i. -/
theorem cells {W : World} {base g n cap : Nat} {ok : Nat → Prop} {xs : List S37} (h : Kd.R k37 37 W base ok (.slice (some ⟨g, 0, none⟩) n cap) xs) (i : Nat) (hi : i < xs.length) :
    (W.cell? ⟨g, i * 2, none⟩ = some (.int .i16 (rd_T37 xs (i : Int)).f0) ∧ W.cell? ⟨g, i * 2 + 1, none⟩ = some (.int .i16 (rd_T37 xs (i : Int)).f1)) ∧ (W.frozen? ⟨g, i * 2, none⟩ = false ∧ W.frozen? ⟨g, i * 2 + 1, none⟩ = false) := by
  have hn := (Kd.R_reads' h).1
  obtain ⟨c, hl, hM, hc, hf⟩ := Kd.R_elem h z37 (i : Int) (by omega) (by omega)
  obtain rfl := k37_openM hM
  rw [Int.toNat_natCast] at hc hf
  exact ⟨⟨hc 0 _ rfl, hc 1 _ rfl⟩, hf 0, hf 1⟩
/-- A place is written anew. -/
theorem put {W : World} {base g n cap : Nat} {ok : Nat → Prop} {xs : List S37} (h : Kd.R k37 37 W base ok (.slice (some ⟨g, 0, none⟩) n cap) xs) (i : Nat) (hi : i < xs.length) (x : S37) :
    Kd.R k37 37 (W.setCells g (i * 2) [.int .i16 x.f0, .int .i16 x.f1]) base ok (.slice (some ⟨g, 0, none⟩) n cap) (xs.set i x) ∧ W.grownBy (W.setCells g (i * 2) [.int .i16 x.f0, .int .i16 x.f1]) (some g) := by
  have hn := (Kd.R_reads' h).1
  obtain ⟨c, hl, hM, hc, hf⟩ := Kd.R_elem h z37 (i : Int) (by omega) (by omega)
  obtain rfl := k37_openM hM
  have := Kd.R_seg h (i : Int) (by omega) (by omega) (seg := [.int .i16 x.f0, .int .i16 x.f1]) (j := 0) hl hc (show 2 ≤ 2 from by decide) (x' := x) (k37_mkM _ _ _ x) (fun _ hk => hk)
  rw [Int.toNat_natCast] at this
  exact this
end CC
def impl_Corner_25.f (l0 : List (S37)) : Option (List (S37)) := if l0.length < 1048576 then some (Lib.compact l0) else none
set_option maxHeartbeats 8000000 in
set_option maxRecDepth 100000 in
theorem impl_Corner_25.calls (P0_ : Nat → Prop) (u9000_ : Value) (l0 : List (S37)) (r : List (S37)) (w0 w : World) (hB : Below w0.heap.size w0 w) (ho0 : Kd.R k37 37 w w0.heap.size P0_ u9000_ l0) (h : impl_Corner_25.f l0 = some r) :
    Calls Try.prog 25 #[u9000_] w fun e w' => ∃ v0_ : Value, e = .returned (v0_) ∧ Kd.R k37 37 w' w0.heap.size (fun k_ => (P0_ k_ ∨ w.heap.size ≤ k_)) v0_ r ∧ Below w0.heap.size w0 w' ∧ Kept w w' (fun k_ => P0_ k_) := by
  have hu := Try.underlying37
  have mixed : Try.prog.follows Departure.mixedOrders = true := by kernel_rfl
  unfold impl_Corner_25.f at h
  by_cases hlen : l0.length < 1048576
  rotate_left
  · rw [if_neg hlen] at h; exact absurd h (by simp)
  rw [if_pos hlen] at h
  obtain rfl := Option.some.inj h
  clear h
  have HO := Aside0.mk (show Kd.R k37 37 w w0.heap.size (fun k_ => (P0_ k_ ∨ w.heap.size ≤ k_)) u9000_ l0 from Kd.R_mono ho0 (fun k_ hk => (.inl hk)))
  have HP0 := Aside0.mk (show ∀ k, u9000_.ownBlock = some k → P0_ k from ho0.1)
  have HK := Aside0.mk (Kept.refl w (fun k_ => P0_ k_))
  have HB := Aside0.mk hB
  have hsame : (∀ j, j < l0.length → Lib.keeps l0.toArray j = true) → Lib.compact l0 = l0 := Lib.compact_all l0
  have HS := Aside0.mk hsame
  clear hB ho0 hsame
  by_cases h2 : l0.length < 2
  · obtain ⟨A, c, eA⟩ := Kd.R_slice HO.out
    subst eA
    have c1 : decide ((l0.length : Int) < 2) = true := decide_eq_true (by omega)
    have e := HS.out (fun j hj => Lib.keeps_lt_one _ j (by omega))
    rw [e]
    clear e HS
    go_enter Try.func25, Try.ntmps25
    go_wp2
    go_ret
    exact ⟨_, rfl, HO.out, HB.out, HK.out⟩
  · obtain ⟨g, cap, eA, hgb, hgl, _⟩ := Kd.R_form HO.out (by omega)
    subst eA
    have c1 : decide ((l0.length : Int) < 2) = false := decide_eq_false (by omega)
    have HG := Aside0.mk (show w0.heap.size ≤ g from hgb)
    have HPg := Aside0.mk (HP0.out g rfl)
    clear hgb hgl HP0
    go_enter Try.func25, Try.ntmps25
    go_wp2
    go_loopg [3] l0.length (fun gg s3 wr => ∃ k : Nat, 1 ≤ k ∧ k ≤ l0.length ∧ l0.length - k ≤ gg ∧ s3 = .int .i64 k ∧ Aside0 (∀ j, j < k → Lib.keeps l0.toArray j = true) ∧ Aside0 (Kd.R k37 37 wr w0.heap.size (fun k_ => (P0_ k_ ∨ w.heap.size ≤ k_)) (.slice (some ⟨g, 0, none⟩) l0.length cap) l0) ∧ Aside0 (Kept w wr (fun k_ => P0_ k_)) ∧ Aside0 (Below w0.heap.size w0 wr))
    case atStart => exact ⟨1, Nat.le_refl _, by omega, by omega, rfl, ⟨Lib.keeps_lt_one _⟩, ⟨by (with_reducible repeat (first | apply Kd.R_alloc | apply Kd.R_drewN | apply Kd.R_drew)); exact HO.out⟩, ⟨by repeat (first | (with_reducible first | exact HK.out | apply Kept.alloc | apply Kept.drewN | apply Kept.drew) | exact HK.out)⟩, ⟨by repeat (first | (with_reducible first | exact HB.out | apply below_alloc | apply pw_below_drewN | apply below_drew1) | exact HB.out)⟩⟩
    case round =>
      clear HO HK HB
      obtain ⟨k, hk1, hk, hg, rfl, A, HO, HK, HB⟩ := hrel
      by_cases hlt : k < l0.length
      · have hltz : decide ((k : Int) < (l0.length : Int)) = true := decide_eq_true (by omega)
        have hcap : l0.length ≤ cap := (Kd.R_reads' HO.out).2.1
        have hcapk : ¬ cap = k := by omega
        obtain ⟨⟨a1, a2⟩, _⟩ := CC.cells HO.out k hlt
        obtain ⟨⟨b1, b2⟩, _⟩ := CC.cells HO.out (k - 1) (by omega)
        have B := Aside0.mk (show l0.toArray[k]! = rd_T37 l0 (k : Int) ∧ l0.toArray[k - 1]! = rd_T37 l0 ((k - 1 : Nat) : Int) from ⟨CC.getb l0 k, CC.getb l0 (k - 1)⟩)
        generalize rd_T37 l0 (k : Int) = x at a1 a2 B
        generalize rd_T37 l0 ((k - 1 : Nat) : Int) = y at b1 b2 B
        by_cases hxy : x = y
        · have hq : (x.f0 == y.f0 && (x.f1 == y.f1)) = true := by rw [CC.eqb]; exact decide_eq_true hxy
          go_wp2_with fail
          go_region_o
          have HO1 := Aside0.mk (Kd.R_drew HO.out)
          have HK1 := Aside0.mk (Kept.drew HK.out)
          have HB1 := Aside0.mk (below_drew1 HB.out)
          have BE := Aside0.mk (show l0.toArray[k]! = l0.toArray[k - 1]! by rw [B.out.1, B.out.2, hxy])
          clear a1 a2 b1 b2 HO HK HB B hq hxy
          go_wp2
          go_loopg [3, 5] l0.length (fun gg s3 s5 wq => ∃ (kk k2 : Nat) (xs : List S37), s3 = .int .i64 kk ∧ s5 = .int .i64 k2 ∧ 1 ≤ k2 ∧ k + k2 ≤ l0.length ∧ l0.length - (k + k2) ≤ gg ∧ Aside0 (Lib.CompInv l0.toArray (k + k2) kk xs.toArray) ∧ Aside0 (Kd.R k37 37 wq w0.heap.size (fun k_ => (P0_ k_ ∨ w.heap.size ≤ k_)) (.slice (some ⟨g, 0, none⟩) l0.length cap) xs) ∧ Aside0 (Kept w wq (fun k_ => P0_ k_)) ∧ Aside0 (Below w0.heap.size w0 wq))
          case atStart => exact ⟨k, 1, l0, rfl, rfl, Nat.le_refl _, by omega, by omega, ⟨Lib.CompInv.start A.out (Lib.keeps_neg (by omega) BE.out)⟩, HO1, HK1, HB1⟩
          case round =>
            clear HO1 HK1 HB1 A BE
            obtain ⟨kk, k2, xs, rfl, rfl, h1, hle, hg2, I, HO, HK, HB⟩ := hrel
            have hkk := I.out.lt
            have hxl : xs.length = l0.length := (Kd.R_reads' HO.out).1.symm
            have hcapk2 : ¬ cap = kk := by omega
            by_cases hlt2 : k + k2 < l0.length
            · have hz2 : decide ((k2 : Int) < ((l0.length - k : Nat) : Int)) = true := decide_eq_true (by omega)
              obtain ⟨⟨m1, m2⟩, _⟩ := CC.cells HO.out (k + k2) (by omega)
              obtain ⟨⟨p1, p2⟩, _⟩ := CC.cells HO.out (k + k2 - 1) (by omega)
              obtain ⟨⟨o1, o2⟩, o3, o4⟩ := CC.cells HO.out kk (by omega)
              rw [show (k + k2) * 2 = k * 2 + k2 * 2 by omega] at m1 m2
              rw [show (k + k2 - 1) * 2 = k * 2 + (k2 - 1) * 2 by omega] at p1 p2
              have B := Aside0.mk (show l0.toArray[k + k2]! = rd_T37 xs ((k + k2 : Nat) : Int) ∧ l0.toArray[k + k2 - 1]! = rd_T37 xs ((k + k2 - 1 : Nat) : Int) from ⟨by rw [← CC.getb xs, I.out.high (k + k2) (by omega)], by rw [← CC.getb xs, I.out.high (k + k2 - 1) (by omega)]⟩)
              generalize rd_T37 xs ((k + k2 : Nat) : Int) = u at m1 m2 B
              generalize rd_T37 xs ((k + k2 - 1 : Nat) : Int) = v at p1 p2 B
              generalize rd_T37 xs ((kk : Nat) : Int) = z at o1 o2
              have HU := Aside0.mk (CC.put (Kd.R_drew HO.out) kk (by omega) u)
              by_cases huv : u = v
              · have hq : (u.f0 == v.f0 && (u.f1 == v.f1)) = true := by rw [CC.eqb]; exact decide_eq_true huv
                have BE := Aside0.mk (show l0.toArray[k + k2]! = l0.toArray[k + k2 - 1]! by rw [B.out.1, B.out.2, huv])
                clear hkk hcapk2
                go_wp2_with fail
                go_region_o
                have HO1 := Aside0.mk (Kd.R_drew HO.out)
                have HK1 := Aside0.mk (Kept.drew HK.out)
                have HB1 := Aside0.mk (below_drew1 HB.out)
                clear m1 m2 p1 p2 o1 o2 o3 o4 HO HK HB B hq huv HU
                go_wp2
                go_roundg (l0.length - (k + (k2 + 1)))
                case measure => omega
                case rel => exact ⟨kk, k2 + 1, xs, rfl, by go_num, by omega, by omega, Nat.le_refl _, ⟨I.out.skip (Lib.keeps_neg (by omega) BE.out)⟩, HO1, HK1, HB1⟩
              · have hq : (u.f0 == v.f0 && (u.f1 == v.f1)) = false := by rw [CC.eqb]; exact decide_eq_false huv
                have BE := Aside0.mk (show l0.toArray[k + k2]! ≠ l0.toArray[k + k2 - 1]! by rw [B.out.1, B.out.2]; exact huv)
                have hkl : (kk : Int) < (l0.length : Int) := by omega
                go_wp2_with fail
                go_region_o
                obtain ⟨hr1, hg1⟩ := CC.put HO.out kk (by omega) u
                have HO1 := Aside0.mk (Kd.R_drew hr1)
                have HK1 := Aside0.mk (Kept.drew (Kept.of_grown (S := (fun k_ => P0_ k_)) hg1 HK.out (fun k_ e_ => by injection e_ with e_; rw [← e_]; exact .inl HPg.out)))
                have HB1 := Aside0.mk (below_drew1 (HB.out.grown hg1 (below_size HB.out) (fun k_ e_ => by injection e_ with e_; rw [← e_]; exact HG.out)))
                have I1 := Aside0.mk (I.out.keep (show k + k2 < l0.toArray.size by simpa using hlt2) (Lib.keeps_pos BE.out))
                clear hr1 hg1 p1 p2 hq huv HU HO HK HB
                go_wp2
                clear m1 m2 o1 o2 o3 o4
                go_roundg (l0.length - (k + (k2 + 1)))
                case measure => omega
                case rel => exact ⟨kk + 1, k2 + 1, xs.set kk u, by go_num, by go_num, by omega, by omega, Nat.le_refl _, ⟨by
                  have := I1.out
                  rw [B.out.1, ← CC.setb] at this
                  exact this⟩, HO1, HK1, HB1⟩
            · have hz2 : decide ((k2 : Int) < ((l0.length - k : Nat) : Int)) = false := decide_eq_false (by omega)
              have hend : k + k2 = l0.length := by omega
              obtain ⟨m, hm⟩ : ∃ m, l0.length - kk = m + 1 := ⟨l0.length - kk - 1, by omega⟩
              have HT := Aside0.mk (Kd.R_take (m := kk) HO.out (by omega))
              have hcm : kk + (m + 1) ≤ cap := by omega
              have EC := Aside0.mk (show xs.take kk = Lib.compact l0 by
                have hI := I.out
                rw [hend] at hI
                have hl := hI.len
                unfold Lib.compact
                apply List.ext_getElem?
                intro j
                rw [List.getElem?_take]
                by_cases hj : j < kk
                · rw [if_pos hj, hI.low j hj, CC.getb]
                  rw [List.getElem?_eq_getElem (by omega)]
                  simp [rd_T37, show j < xs.length by omega]
                · rw [if_neg hj, List.getElem?_eq_none (by rw [hl]; omega)])
              have hkc : (kk : Int) ≤ (cap : Int) := by omega
              clear HO I
              go_wp2_with (first
                | ((with_reducible refine gate_ (.call { callee := .builtin .clear, args := #[.tmp 56], argTypes := #[24] }) rfl ?_); refine impl_Corner_25.clear_ev (d := k37) rfl rfl (.tmp 56) 24 37 rfl Try.underlying24 (z := .agg #[.int .i16 0, .int .i16 0]) (by kernel_rfl) (by rfl) (by simp [Value.cells, Value.oneCell']) (base := w0.heap.size) (g := g) (n := kk) (cap := cap) (m := m) (q := kk * 2) (c := cap - kk) (xs := xs.take kk) (ok := fun k_ => (P0_ k_ ∨ w.heap.size ≤ k_)) (by rw [← hm]; rfl) rfl hcm HT.out ?_; intro w40 ho hg; have HO1 := Aside0.mk ho; have HK1 := Aside0.mk (Kept.of_grown (S := (fun k_ => P0_ k_)) hg HK.out (fun k_ e_ => by injection e_ with e_; rw [← e_]; exact .inl HPg.out)); have HB1 := Aside0.mk (HB.out.grown hg (below_size HB.out) (fun k_ e_ => by injection e_ with e_; rw [← e_]; exact HG.out)); clear ho hg))
              go_ret
              exact ⟨_, rfl, by rw [← EC.out]; exact HO1.out, HB1.out, HK1.out⟩
        · have hq : (x.f0 == y.f0 && (x.f1 == y.f1)) = false := by rw [CC.eqb]; exact decide_eq_false hxy
          have BE := Aside0.mk (show l0.toArray[k]! ≠ l0.toArray[k - 1]! by rw [B.out.1, B.out.2]; exact hxy)
          go_wp2_with fail
          go_region_o
          have HO1 := Aside0.mk (Kd.R_drew HO.out)
          have HK1 := Aside0.mk (Kept.drew HK.out)
          have HB1 := Aside0.mk (below_drew1 HB.out)
          clear a1 a2 b1 b2 HO HK HB B hq hxy
          go_wp2
          go_roundg (l0.length - (k + 1))
          case measure => omega
          case rel => exact ⟨k + 1, by omega, by omega, Nat.le_refl _, by go_num, ⟨fun j hj => by
            by_cases e : j = k
            · subst e; exact Lib.keeps_pos BE.out
            · exact A.out j (by omega)⟩, HO1, HK1, HB1⟩
      · have hltz : decide ((k : Int) < (l0.length : Int)) = false := decide_eq_false (by omega)
        obtain rfl : k = l0.length := by omega
        have E := Aside0.mk (HS.out A.out)
        clear HS A
        go_wp2
        go_ret
        exact ⟨_, rfl, by rw [E.out]; exact HO.out, HB.out, HK.out⟩

end Go.Proofs.Ytgefjglbaekegaa.PA
