/- The region of the law FnLays that lays the list's first stone a second time: append(append([]Stone{}, list...), list[0]). -/
import Derived.Test.YtllfeehchiikoaaPAx0
namespace Go.Proofs.Ytllfeehchiikoaa.PA
open Go.RowKit Go.Proofs.YtllfeehchiikoaaW.PrintWords Go.Proofs.YtllfeehchiikoaaW.PrintLast Go.Proofs.YtllfeehchiikoaaW.PrintMore
set_option linter.unusedVariables false
set_option linter.unusedSimpArgs false

abbrev Hd := Option Addr × Nat × Nat
def kH : Kd Hd := Kd.scalar (fun h => Value.slice h.1 h.2.1 h.2.2) (fun _ => rfl)

theorem choose_row {α : Type} : ∀ (n : Nat) (P : Nat → α → Prop), (∀ j, j < n → ∃ h, P j h) → ∃ hs : List α, hs.length = n ∧ ∀ j h, hs[j]? = some h → P j h
 | 0, _, _ => ⟨[], rfl, fun j h e => by simp at e⟩
 | n + 1, P, H => by
  obtain ⟨hs, hl, hp⟩ := choose_row n P (fun j hj => H j (by omega))
  obtain ⟨h, hh⟩ := H n (by omega)
  refine ⟨hs ++ [h], by simp [hl], fun j y e => ?_⟩
  by_cases c : j < n
  · rw [List.getElem?_append_left (by omega)] at e
    exact hp j y e
  · have : j = n := by
      have := (List.getElem?_eq_some_iff.1 e).1
      simp [hl] at this
      omega
    subst this
    rw [List.getElem?_append_right (by omega), hl, Nat.sub_self] at e
    simp only [List.getElem?_cons_zero, Option.some.injEq] at e
    subst e
    exact hh

theorem hdrs {w : World} {A : Option Addr} {n : Nat} {xs : List (List (S43))} (h : Kd.C (Kd.slice 43 k43) w A n xs) :
    ∃ hs : List Hd, Kd.C kH w A n hs ∧ hs.length = xs.length ∧ ∀ (j : Nat) x y, xs[j]? = some x → hs[j]? = some y → y.2.1 = x.length ∧ x.length ≤ y.2.2 ∧ Kd.C k43 w y.1 x.length x := by
  obtain ⟨h1, h2, h3⟩ := h
  rcases Nat.eq_zero_or_pos n with hn | hn
  · subst hn
    obtain rfl : xs = [] := List.eq_nil_of_length_eq_zero h1
    exact ⟨[], ⟨rfl, by simp, fun h => absurd h (Nat.lt_irrefl 0)⟩, rfl, fun j x y e => by simp at e⟩
  · obtain ⟨ad, e, hc⟩ := h3 hn
    obtain ⟨hs, hl, hp⟩ := choose_row (α := Hd) n (fun j y => ∀ x, xs[j]? = some x → y.2.1 = x.length ∧ x.length ≤ y.2.2 ∧ Kd.C k43 w y.1 x.length x ∧ w.cell? (ad.add j) = some (.slice y.1 y.2.1 y.2.2)) (fun j hj => by
      obtain ⟨c, hs, ⟨B, cc, rfl, hle, hB⟩, hcell⟩ := hc j (xs[j]'(by omega)) (List.getElem?_eq_getElem _)
      refine ⟨(B, (xs[j]'(by omega)).length, cc), fun x hx => ?_⟩
      rw [List.getElem?_eq_getElem (by omega)] at hx
      obtain rfl := Option.some.inj hx
      refine ⟨rfl, hle, hB, ?_⟩
      have h5 := hcell 0 _ rfl
      have h6 : j * (Kd.slice 43 k43).sz + 0 = j := by show j * 1 + 0 = j; omega
      rw [h6] at h5
      exact h5)
    refine ⟨hs, ⟨hl, h2, fun _ => ⟨ad, e, fun j y hy => ?_⟩⟩, by omega, fun j x y hx hy => ?_⟩
    · have hj := (List.getElem?_eq_some_iff.1 hy).1
      obtain ⟨_, _, _, h4⟩ := hp j y hy (xs[j]'(by omega)) (List.getElem?_eq_getElem _)
      refine ⟨[.slice y.1 y.2.1 y.2.2], rfl, rfl, fun i u hu => ?_⟩
      rcases i with _ | i
      · have h6 : j * kH.sz + 0 = j := by show j * 1 + 0 = j; omega
        rw [h6]
        simp only [List.getElem?_cons_zero, Option.some.injEq] at hu
        subst hu
        exact h4
      · simp at hu
    · obtain ⟨a, b, c, _⟩ := hp j y hy x hx
      exact ⟨a, b, c⟩

theorem unhdrs {w : World} {A : Option Addr} {n : Nat} {xs : List (List (S43))} {hs : List Hd} (h : Kd.C kH w A n hs) (hl : hs.length = xs.length)
    (hh : ∀ (j : Nat) x y, xs[j]? = some x → hs[j]? = some y → y.2.1 = x.length ∧ x.length ≤ y.2.2 ∧ Kd.C k43 w y.1 x.length x) : Kd.C (Kd.slice 43 k43) w A n xs := by
  obtain ⟨h1, h2, h3⟩ := h
  refine ⟨by omega, h2, fun hn => ?_⟩
  obtain ⟨ad, e, hc⟩ := h3 hn
  refine ⟨ad, e, fun j x hx => ?_⟩
  have hj := (List.getElem?_eq_some_iff.1 hx).1
  have hy : hs[j]? = some (hs[j]'(by omega)) := List.getElem?_eq_getElem _
  obtain ⟨c, hs1, hs2, hcell⟩ := hc j _ hy
  obtain ⟨a1, a2, a3⟩ := hh j x _ hx hy
  refine ⟨c, hs1, ⟨(hs[j]'(by omega)).1, (hs[j]'(by omega)).2.2, ?_, a2, a3⟩, hcell⟩
  rw [← a1]
  exact hs2

structure IsOp (o : Oper) (d : Tmp) (op : Op) : Prop where
  dst : o.dst = some d
  guard : o.guard = none
  is : o.op = op

theorem ev_put (a : Act) (d n : Nat) (v : Value) (h : d < a.tmps.size) : (a.put (some d) v).eval (.tmp n) = if n = d then v else a.eval (.tmp n) := by
  show (a.tmps.setIfInBounds d v).getD n undef = if n = d then v else a.tmps.getD n undef
  rw [Array.getD_eq_getD_getElem?, Array.getD_eq_getD_getElem?, Array.getElem?_setIfInBounds]
  by_cases c : n = d
  · subst c
    simp [h]
  · rw [if_neg (fun e => c e.symm), if_neg c]
theorem size_put (a : Act) (d : Nat) (v : Value) : (a.put (some d) v).tmps.size = a.tmps.size := by simp [Act.put]
theorem put_comm (a : Act) (d e : Nat) (v u : Value) (h : d ≠ e) : (a.put (some d) v).put (some e) u = (a.put (some e) u).put (some d) v := by
  show Act.mk ((a.tmps.setIfInBounds d v).setIfInBounds e u) a.defers = Act.mk ((a.tmps.setIfInBounds e u).setIfInBounds d v) a.defers
  rw [Array.setIfInBounds_comm _ _ h]
theorem IsOp.wants {o : Oper} {d : Tmp} {op : Op} (h : IsOp o d op) (y : Nat → Option Bool) : Region.wanted o y = true := by
  unfold Region.wanted
  rw [h.guard]

def T50 : Bool × List (List Nat × List Nat) := (true, [([], []), ([], []), ([0, 1], [0, 1]), ([], []), ([3], [3]), ([4], [4]), ([5], [5]), ([2, 6, 2], [2, 6]), ([7, 7, 0, 1, 2, 3, 4, 5, 6, 7], [7])])
def B50 : List Nat := [0, 0, 3, 0, 8, 24, 56, 127, 255]

section
variable {ops : Array Oper} {Q : Exit → Act → World → Prop} {o0 o1 o2 o3 o4 o5 o6 o7 o8 : Oper}

theorem twice_tail (hops : ops = #[o0, o1, o2, o3, o4, o5, o6, o7, o8])
    (i7 : IsOp o7 362 (.call { callee := .builtin .append, args := #[.tmp 357, .tmp 361], argTypes := #[27, 27] })) (i8 : IsOp o8 38 (.assign (.tmp 362)))
    (hT : Aside0 (rtab .any ops = T50)) {w W : World} {a' : Act} {S : World → Prop} (hSa : ∀ w', Below w.heap.size w w' → S w')
    {xs : List (List (S43))} {hs : List Hd} {h0 : Hd} {v2 : Value} {A6 : Option Addr} {c6 : Nat}
    (hl : hs.length = xs.length) (hh : ∀ (j : Nat) x y, xs[j]? = some x → hs[j]? = some y → y.2.1 = x.length ∧ x.length ≤ y.2.2 ∧ Kd.C k43 w y.1 x.length x)
    (hp : 0 < xs.length) (h00 : hs[0]? = some h0) (hm : (xs.length + 1) * 24 ≤ 140737488355328)
    (e357 : a'.eval (.tmp 357) = v2) (e361 : a'.eval (.tmp 361) = .slice A6 1 c6) (hN : 362 < a'.tmps.size)
    (HO : Kd.R kH 36 W w.heap.size (fun _ => True) v2 hs) (H6 : Kd.C kH W A6 1 [h0]) (HB : Below w.heap.size w W)
    (h : ∀ v7 A' c' w', v7 = .slice A' (xs.length + 1) c' → Kd.C (Kd.slice 43 k43) w' A' (xs.length + 1) (xs ++ [xs.getD 0 []]) → xs.length + 1 ≤ c' → Below w.heap.size w w' → Q .normal ((a'.put (some 362) v7).put (some 38) v7) w') :
    wpAnyLast Try.prog .any ops Q S [] 2 (lA 9 127) a' W := by
  subst hops
  refine one_ (i := 7) (oi := o7) (N := o7.dst) (lA 9 255) rfl rfl (one_of hT.out (by kernel_rfl)) (by decide) (fun K hK => ?_)
  refine Kd.R_append_rows_step kH (Rr := fun x cs => kH.M W w.heap.size (fun _ => False) x cs) (w0 := w) w.heap.size (i7.wants _) (.tmp 357) (.tmp 361) 27 36 (.slice none 0 0) 24 i7.is Try.underlying27 info36 rfl (by decide) (by omega) v2 hs [h0] A6 1 c6 (fun _ => True) (fun _ => False) e357 e361 HO H6 (fun _ _ h => h) (fun _ h => h.elim) (fun _ _ => trivial) HB HB.size (by rw [hl]; exact hm) ?_
  intro v7 w1 ho hb hg hat
  refine hK.out _ _ (hSa _ hb) (fun _ => ?_)
  rw [i7.dst]
  obtain ⟨A', c', rfl⟩ := Kd.R_slice ho
  have hlen : (hs ++ [h0]).length = xs.length + 1 := by simp [hl]
  obtain ⟨_, hcc, hC⟩ := Kd.R_reads' ho
  rw [hlen] at hcc hC ⊢
  have hk : Kd.C (Kd.slice 43 k43) w1 A' (xs.length + 1) (xs ++ [xs.getD 0 []]) := by
    refine unhdrs hC (by simp [hl]) (fun j x y hx hy => ?_)
    have key : ∀ (i : Nat) x y, xs[i]? = some x → hs[i]? = some y → y.2.1 = x.length ∧ x.length ≤ y.2.2 ∧ Kd.C k43 w1 y.1 x.length x := by
      intro i x y hx hy
      obtain ⟨a1, a2, a3⟩ := hh i x y hx hy
      exact ⟨a1, a2, Kd.C_below a3 hb⟩
    by_cases c : j < xs.length
    · rw [List.getElem?_append_left c] at hx
      rw [List.getElem?_append_left (by omega)] at hy
      exact key j x y hx hy
    · have hj := (List.getElem?_eq_some_iff.1 hx).1
      simp only [List.length_append, List.length_cons, List.length_nil] at hj
      have hje : j = xs.length := by omega
      subst hje
      rw [List.getElem?_append_right (Nat.le_refl _), Nat.sub_self] at hx
      rw [List.getElem?_append_right (by omega), hl, Nat.sub_self] at hy
      simp only [List.getElem?_cons_zero, Option.some.injEq] at hx hy
      subst hx hy
      exact key 0 _ _ (by rw [List.getD_eq_getElem?_getD, List.getElem?_eq_getElem hp]; rfl) h00
  have he : (a'.put (some 362) (.slice A' (xs.length + 1) c')).eval (.tmp 362) = .slice A' (xs.length + 1) c' := by
    rw [ev_put _ _ _ _ hN, if_pos rfl]
  refine one_ (i := 8) (oi := o8) (N := some 38) (lA 9 511) rfl i8.dst (one_of hT.out (by kernel_rfl)) (by decide) (fun K2 hK2 => ?_)
  refine value_ (v := .slice A' (xs.length + 1) c') (w1 := w1) (i8.wants _) i8.dst (by unfold execOp; rw [i8.is]; simp only [he]; rfl) ?_
  refine hK2.out _ _ (hSa _ hb) (fun _ => ?_)
  refine done_ (done_of hT.out (by kernel_rfl)) ?_
  exact h _ A' c' w1 rfl hk hcc hb

theorem row_one {W : World} {v : Value} {base : Nat} {ok : Nat → Prop} {h0 : Hd} (h : Kd.R kH 36 W base ok v [h0]) : ∃ A c, v = .slice A 1 c ∧ Kd.C kH W A 1 [h0] := by
  obtain ⟨A, c, rfl⟩ := Kd.R_slice h
  exact ⟨A, c, rfl, (Kd.R_reads' h).2.2⟩

theorem step0 (i0 : IsOp o0 355 (.buildSlice 27 0 #[])) {a' : Act} {W : World} {K : Act → World → Prop}
    (h : ∀ v0 w1, Kd.R kH 36 w1 W.heap.size (fun _ => True) v0 [] → Below W.heap.size W w1 → K (a'.put o0.dst v0) w1) :
    if Region.wanted o0 (yielded ops a'.tmps) = true then Oper.wp Try.prog o0 a' W K Q else K (a'.put o0.dst undef) W := by
  refine Kd.R_lit_step kH (w0 := W) W.heap.size 36 (i0.wants _) i0.dst (xs := ([] : List Hd)) (inner := []) (ok := fun _ => True) (okp := fun _ => True) ?_ (Reps.none _ _) (fun _ h => h) trivial (Below.refl _ _) (Nat.le_refl _) (by simp) (fun v1 w1 hr hb _ _ => h v1 w1 hr hb)
  unfold execOp
  rw [i0.is]
  first | (go_simp; done) | (go_simp; rfl)

theorem step6 (i6 : IsOp o6 361 (.buildSlice 27 1 #[(0, .tmp 360)])) {a' : Act} {W : World} {K : Act → World → Prop} {h0 : Hd} (e : a'.eval (.tmp 360) = .slice h0.1 h0.2.1 h0.2.2)
    (h : ∀ v6 w1, Kd.R kH 36 w1 W.heap.size (fun _ => True) v6 [h0] → Below W.heap.size W w1 → K (a'.put o6.dst v6) w1) :
    if Region.wanted o6 (yielded ops a'.tmps) = true then Oper.wp Try.prog o6 a' W K Q else K (a'.put o6.dst undef) W := by
  refine Kd.R_lit_step kH (w0 := W) W.heap.size 36 (i6.wants _) i6.dst (xs := [h0]) (inner := [.slice h0.1 h0.2.1 h0.2.2]) (ok := fun _ => True) (okp := fun _ => True) ?_ ⟨rfl, fun j p hj => ?_⟩ (fun _ h => h) trivial (Below.refl _ _) (Nat.le_refl _) (by simp) (fun v1 w1 hr hb _ _ => h v1 w1 hr hb)
  · unfold execOp
    rw [i6.is]
    have e' : a'.tmps[360]?.getD undef = .slice h0.1 h0.2.1 h0.2.2 := by rw [← Array.getD_eq_getD_getElem?]; exact e
    first | (go_simp; done) | (go_simp; rfl)
  · rcases j with _ | j
    · obtain rfl := Option.some.inj hj
      rfl
    · simp at hj

theorem step2 (i2 : IsOp o2 357 (.call { callee := .builtin .append, args := #[.tmp 355, .tmp 356], argTypes := #[27, 27] })) {a' : Act} {w W : World} {K : Act → World → Prop} {v0 : Value} {A : Option Addr} {c : Nat} {hs : List Hd} {n : Nat}
    (e0 : a'.eval (.tmp 355) = v0) (e1 : a'.eval (.tmp 356) = .slice A n c) (HO : Kd.R kH 36 W w.heap.size (fun _ => True) v0 []) (HC : Kd.C kH W A n hs) (hl : hs.length = n) (hm : (n + 1) * 24 ≤ 140737488355328) (HB : Below w.heap.size w W)
    (h : ∀ v2 w1, Kd.R kH 36 w1 w.heap.size (fun _ => True) v2 hs → Below w.heap.size w w1 → W.grownBy w1 v0.ownBlock → (v2.ownBlock = v0.ownBlock ∨ ∃ b, v2.ownBlock = some b ∧ W.heap.size ≤ b) → K (a'.put o2.dst v2) w1) :
    if Region.wanted o2 (yielded ops a'.tmps) = true then Oper.wp Try.prog o2 a' W K Q else K (a'.put o2.dst undef) W :=
  Kd.R_append_rows_step kH (Rr := fun x cs => kH.M W w.heap.size (fun _ => False) x cs) (w0 := w) w.heap.size (i2.wants _) (.tmp 355) (.tmp 356) 27 36 (.slice none 0 0) 24 i2.is Try.underlying27 info36 rfl (by decide) (by omega) v0 [] hs A n c (fun _ => True) (fun _ => False) e0 e1 HO HC (fun _ _ h => h) (fun _ h => h.elim) (fun _ _ => trivial) HB HB.size (by simp; omega) h

theorem twice_region (hops : ops = #[o0, o1, o2, o3, o4, o5, o6, o7, o8])
    (i0 : IsOp o0 355 (.buildSlice 27 0 #[])) (i1 : IsOp o1 356 (.move (.tmp 6)))
    (i2 : IsOp o2 357 (.call { callee := .builtin .append, args := #[.tmp 355, .tmp 356], argTypes := #[27, 27] }))
    (i3 : IsOp o3 358 (.move (.tmp 6))) (i4 : IsOp o4 359 (.indexAddr 27 (.tmp 358) (.const (.int .i64 0)))) (i5 : IsOp o5 360 (.load 36 (.tmp 359)))
    (i6 : IsOp o6 361 (.buildSlice 27 1 #[(0, .tmp 360)]))
    (i7 : IsOp o7 362 (.call { callee := .builtin .append, args := #[.tmp 357, .tmp 361], argTypes := #[27, 27] })) (i8 : IsOp o8 38 (.assign (.tmp 362)))
    (hT : rtab .any ops = T50) (hW : waitsOk T50.2 B50 = true) {w : World} {a : Act} {A : Option Addr} {c : Nat} {xs : List (List (S43))}
    (e6 : a.eval (.tmp 6) = .slice A xs.length c) (hN : 362 < a.tmps.size) (hc : xs.length ≤ c) (hC : Kd.C (Kd.slice 43 k43) w A xs.length xs) (hm : (xs.length + 1) * 24 ≤ 140737488355328) (hp : 0 < xs.length)
    (hQ : ∀ d v c a w, Q (.panic c) (a.put (some d) v) w → Q (.panic c) a w)
    (h : ∀ (v0 v1 v2 v3 v4 v5 v6 v7 : Value) A' c' w', v7 = .slice A' (xs.length + 1) c' → Kd.C (Kd.slice 43 k43) w' A' (xs.length + 1) (xs ++ [xs.getD 0 []]) → xs.length + 1 ≤ c' → Below w.heap.size w w' →
      Q .normal (((((((((a.put (some 356) v1).put (some 358) v3).put (some 359) v4).put (some 360) v5).put (some 355) v0).put (some 361) v6).put (some 357) v2).put (some 362) v7).put (some 38) v7) w') :
    (Code.region 50 ops true).wp Try.prog Q a w := by
  obtain ⟨hs, hH, hl, hh⟩ := hdrs hC
  obtain ⟨h0, h00⟩ : ∃ h0, hs[0]? = some h0 := ⟨hs[0]'(by omega), List.getElem?_eq_getElem _⟩
  obtain ⟨ad, hA, hcell⟩ := hH.2.2 hp
  obtain ⟨cs, _, hcs, hcell0⟩ := hcell 0 h0 h00
  have hcell0 := hcell0 0 _ (by rw [show cs = [Value.slice h0.1 h0.2.1 h0.2.2] from hcs]; rfl)
  have hz : ad.add (0 * kH.sz + 0) = ad.add 0 := by show ad.add (0 * 1 + 0) = _; rfl
  rw [hz] at hcell0
  subst hA
  have hlt := World.block_lt_of_cell? _ _ hcell0
  have hheld : ∀ w', Below w.heap.size w w' → w'.cell? (ad.add 0) = some (.slice h0.1 h0.2.1 h0.2.2) := fun w' hb => (hb.cell hlt).trans hcell0
  have n355 : 355 < a.tmps.size := by omega
  have n356 : 356 < a.tmps.size := by omega
  have n357 : 357 < a.tmps.size := by omega
  have n358 : 358 < a.tmps.size := by omega
  have n359 : 359 < a.tmps.size := by omega
  have n360 : 360 < a.tmps.size := by omega
  have n361 : 361 < a.tmps.size := by omega
  refine start_ (n := 9) (S := fun w' => Below w.heap.size w w') (ds := []) #[false, false, false, false, false, false, false, false, false] (by kernel_rfl) (by rw [hops]; rfl) rfl (below_drew1 (Below.refl _ _)) (fun hHeld => ?_)
  refine with_tabW hT hW (fun HT_ HW_ => ?_)
  have hD : Below w.heap.size w w.drew := below_drew1 (Below.refl _ _)
  generalize w.drew = W at hHeld hD ⊢
  have tail := fun {W' : World} {a' : Act} {v2 : Value} {A6 : Option Addr} {c6 : Nat} => twice_tail (Q := Q) (S := fun w' => Below w.heap.size w w') hops i7 i8 HT_ (fun _ hb => hb) hl hh hp h00 hm (W := W') (a' := a') (v2 := v2) (A6 := A6) (c6 := c6)
  subst hops
  refine pu_ (oi := o1) 1 356 (lA 9 2) (.slice (some ad) xs.length c) _ HT_ ?_ (hi := rfl) (hN := i1.dst) (hw := i1.wants _) (hy := fun w' => by unfold execOp; rw [i1.is]; simp only [e6]; rfl) (ha := rfl) (hQ := fun c a w => by rw [i1.dst]; exact hQ _ _ c a w)
  have f6 : (a.put (some 356) (.slice (some ad) xs.length c)).eval (.tmp 6) = .slice (some ad) xs.length c := by rw [ev_put _ _ _ _ n356, if_neg (by decide), e6]
  refine pu_ (oi := o3) 3 358 (lA 9 10) (.slice (some ad) xs.length c) _ HT_ ?_ (hi := rfl) (hN := i3.dst) (hw := i3.wants _) (hy := fun w' => by unfold execOp; rw [i3.is]; simp only [f6]; rfl) (ha := rfl) (hQ := fun c a w => by rw [i3.dst]; exact hQ _ _ c a w)
  have f358 : ((a.put (some 356) (.slice (some ad) xs.length c)).put (some 358) (.slice (some ad) xs.length c)).eval (.tmp 358) = .slice (some ad) xs.length c := by rw [ev_put _ _ _ _ (by rw [size_put]; exact n358), if_pos rfl]
  refine pu_ (oi := o4) 4 359 (lA 9 26) (.pointer (some (ad.add 0))) _ HT_ ?_ (hi := rfl) (hN := i4.dst) (hw := i4.wants _) (hy := fun w' => by
    unfold execOp
    rw [i4.is]
    simp only [f358]
    show Sem.run Try.prog (do let l_ ← Instr.indexAt 27 (Value.slice (some ad) xs.length c) (Value.int .i64 0); pure (Next.value l_)) w' = _
    have p_ : (0 ≤ (0 : Int)) = True := eq_true (by omega)
    have q_ : ((0 : Int) < (xs.length : Int)) = True := eq_true (by omega)
    go_simp) (ha := rfl) (hQ := fun c a w => by rw [i4.dst]; exact hQ _ _ c a w)
  have f359 : (((a.put (some 356) (.slice (some ad) xs.length c)).put (some 358) (.slice (some ad) xs.length c)).put (some 359) (.pointer (some (ad.add 0)))).eval (.tmp 359) = .pointer (some (ad.add 0)) := by rw [ev_put _ _ _ _ (by rw [size_put, size_put]; exact n359), if_pos rfl]
  refine tk_ (oi := o5) 5 360 (lA 9 58) (.slice h0.1 h0.2.1 h0.2.2) _ HT_ HW_ hHeld ?_ (hi := rfl) (hN := i5.dst) (hw := i5.wants _) (hy := fun w' hs_ => by
    unfold execOp
    rw [i5.is]
    simp only [f359]
    have he_ : w'.cell? ad = some (.slice h0.1 h0.2.1 h0.2.2) := by have h_ := hheld w' hs_; rwa [Addr.add_zero'] at h_
    go_simp) (ha := rfl) (hQ := fun c a w => by rw [i5.dst]; exact hQ _ _ c a w)
  obtain ⟨b, hb⟩ : ∃ b, b = (((a.put (some 356) (.slice (some ad) xs.length c)).put (some 358) (.slice (some ad) xs.length c)).put (some 359) (.pointer (some (ad.add 0)))).put (some 360) (.slice h0.1 h0.2.1 h0.2.2) := ⟨_, rfl⟩
  have bN : b.tmps.size = a.tmps.size := by rw [hb, size_put, size_put, size_put, size_put]
  have b360 : b.eval (.tmp 360) = .slice h0.1 h0.2.1 h0.2.2 := by rw [hb, ev_put _ _ _ _ (by rw [size_put, size_put, size_put]; exact n360), if_pos rfl]
  have b356 : b.eval (.tmp 356) = .slice (some ad) xs.length c := by
    rw [hb, ev_put _ _ _ _ (by rw [size_put, size_put, size_put]; exact n360), if_neg (by decide), ev_put _ _ _ _ (by rw [size_put, size_put]; exact n359), if_neg (by decide), ev_put _ _ _ _ (by rw [size_put]; exact n358), if_neg (by decide), ev_put _ _ _ _ n356, if_pos rfl]
  have fin := fun v0 v2 v6 v7 => h v0 (.slice (some ad) xs.length c) v2 (.slice (some ad) xs.length c) (.pointer (some (ad.add 0))) (.slice h0.1 h0.2.1 h0.2.2) v6 v7
  rw [← hb] at fin ⊢
  clear hb h f6 f358 f359
  have hHC : ∀ w', Below w.heap.size w w' → Kd.C kH w' (some ad) xs.length hs := fun w' h_ => Kd.C_below hH h_
  refine two_ (oi := o0) (oj := o6) (i := 0) (j := 6) (Ni := o0.dst) (Nj := o6.dst) (lA 9 59) (lA 9 122) rfl rfl rfl rfl (two_of HT_.out (by kernel_rfl)) (by decide) (by decide) (fun K hK => ?_) (fun K hK => ?_)
  · refine step0 i0 (W := W) (fun v0 w1 hR0 hb1 => ?_)
    have hB1 := below_step hD hb1
    refine hK.out _ _ hB1 (fun _ => ?_)
    rw [i0.dst]
    have e355 : (b.put (some 355) v0).eval (.tmp 355) = v0 := by rw [ev_put _ _ _ _ (by rw [bN]; exact n355), if_pos rfl]
    have e356 : (b.put (some 355) v0).eval (.tmp 356) = .slice (some ad) xs.length c := by rw [ev_put _ _ _ _ (by rw [bN]; exact n355), if_neg (by decide), b356]
    have e360 : (b.put (some 355) v0).eval (.tmp 360) = .slice h0.1 h0.2.1 h0.2.2 := by rw [ev_put _ _ _ _ (by rw [bN]; exact n355), if_neg (by decide), b360]
    refine two_ (oi := o2) (oj := o6) (i := 2) (j := 6) (Ni := o2.dst) (Nj := o6.dst) (lA 9 63) (lA 9 123) rfl rfl rfl rfl (two_of HT_.out (by kernel_rfl)) (by decide) (by decide) (fun K2 hK2 => ?_) (fun K2 hK2 => ?_)
    · refine step2 i2 e355 e356 (Kd.R_lower hR0 (below_size hD)) (hHC _ hB1) hl hm hB1 (fun v2 w2 hR2 hb2 hg2 hat2 => ?_)
      refine hK2.out _ _ hb2 (fun _ => ?_)
      rw [i2.dst]
      refine one_ (i := 6) (oi := o6) (N := o6.dst) (lA 9 127) rfl rfl (one_of HT_.out (by kernel_rfl)) (by decide) (fun K3 hK3 => ?_)
      refine step6 i6 (h0 := h0) (W := w2) (by rw [ev_put _ _ _ _ (by rw [size_put, bN]; exact n357), if_neg (by decide), e360]) (fun v6 w3 hR6 hb3 => ?_)
      have hB3 := below_step hb2 hb3
      refine hK3.out _ _ hB3 (fun _ => ?_)
      rw [i6.dst]
      obtain ⟨A6, c6, rfl, hC6⟩ := row_one hR6
      refine tail (v2 := v2) (A6 := A6) (c6 := c6) ?_ ?_ ?_ (Kd.R_below hR2 hb3) hC6 hB3 (fun v7 A' c' w' e1 e2 e3 e4 => ?_)
      · rw [ev_put _ _ _ _ (by rw [size_put, size_put, bN]; exact n361), if_neg (by decide), ev_put _ _ _ _ (by rw [size_put, bN]; exact n357), if_pos rfl]
      · rw [ev_put _ _ _ _ (by rw [size_put, size_put, bN]; exact n361), if_pos rfl]
      · rw [size_put, size_put, size_put, bN]; exact hN
      · have := fin v0 v2 (.slice A6 1 c6) v7 A' c' w' e1 e2 e3 e4
        rw [put_comm _ 361 357 _ _ (by decide)] at this
        exact this
    · refine step6 i6 (h0 := h0) (W := w1) e360 (fun v6 w2 hR6 hb2 => ?_)
      have hB2 := below_step hB1 hb2
      refine hK2.out _ _ hB2 (fun _ => ?_)
      rw [i6.dst]
      have hR0' := Kd.R_below hR0 hb2
      have hR6' := Kd.R_new' hR6 (Kd.R_lt hR0)
      refine one_ (i := 2) (oi := o2) (N := o2.dst) (lA 9 127) rfl rfl (one_of HT_.out (by kernel_rfl)) (by decide) (fun K3 hK3 => ?_)
      refine step2 i2 (by rw [ev_put _ _ _ _ (by rw [size_put, bN]; exact n361), if_neg (by decide), e355]) (by rw [ev_put _ _ _ _ (by rw [size_put, bN]; exact n361), if_neg (by decide), e356]) (Kd.R_lower hR0' (below_size hD)) (hHC _ hB2) hl hm hB2 (fun v2 w3 hR2 hb3 hg3 hat3 => ?_)
      refine hK3.out _ _ hb3 (fun _ => ?_)
      rw [i2.dst]
      obtain ⟨A6, c6, rfl, hC6⟩ := row_one (Kd.R_after hR6' hg3 hat3)
      refine tail (v2 := v2) (A6 := A6) (c6 := c6) ?_ ?_ ?_ hR2 hC6 hb3 (fun v7 A' c' w' e1 e2 e3 e4 => fin v0 v2 (.slice A6 1 c6) v7 A' c' w' e1 e2 e3 e4)
      · rw [ev_put _ _ _ _ (by rw [size_put, size_put, bN]; exact n357), if_pos rfl]
      · rw [ev_put _ _ _ _ (by rw [size_put, size_put, bN]; exact n357), if_neg (by decide), ev_put _ _ _ _ (by rw [size_put, bN]; exact n361), if_pos rfl]
      · rw [size_put, size_put, size_put, bN]; exact hN
  · refine step6 i6 (h0 := h0) (W := W) b360 (fun v6 w1 hR6 hb1 => ?_)
    have hB1 := below_step hD hb1
    refine hK.out _ _ hB1 (fun _ => ?_)
    rw [i6.dst]
    refine one_ (i := 0) (oi := o0) (N := o0.dst) (lA 9 123) rfl rfl (one_of HT_.out (by kernel_rfl)) (by decide) (fun K2 hK2 => ?_)
    refine step0 i0 (W := w1) (fun v0 w2 hR0 hb2 => ?_)
    have hB2 := below_step hB1 hb2
    refine hK2.out _ _ hB2 (fun _ => ?_)
    rw [i0.dst]
    have hR6' := Kd.R_elder' hR6 (Kd.R_base hR0) hb2
    refine one_ (i := 2) (oi := o2) (N := o2.dst) (lA 9 127) rfl rfl (one_of HT_.out (by kernel_rfl)) (by decide) (fun K3 hK3 => ?_)
    refine step2 i2 (v0 := v0) (by rw [ev_put _ _ _ _ (by rw [size_put, bN]; exact n355), if_pos rfl]) (by rw [ev_put _ _ _ _ (by rw [size_put, bN]; exact n355), if_neg (by decide), ev_put _ _ _ _ (by rw [bN]; exact n361), if_neg (by decide), b356]) (Kd.R_lower hR0 (below_size hB1)) (hHC _ hB2) hl hm hB2 (fun v2 w3 hR2 hb3 hg3 hat3 => ?_)
    refine hK3.out _ _ hb3 (fun _ => ?_)
    rw [i2.dst]
    obtain ⟨A6, c6, rfl, hC6⟩ := row_one (Kd.R_after hR6' hg3 hat3)
    refine tail (v2 := v2) (A6 := A6) (c6 := c6) ?_ ?_ ?_ hR2 hC6 hb3 (fun v7 A' c' w' e1 e2 e3 e4 => ?_)
    · rw [ev_put _ _ _ _ (by rw [size_put, size_put, bN]; exact n357), if_pos rfl]
    · rw [ev_put _ _ _ _ (by rw [size_put, size_put, bN]; exact n357), if_neg (by decide), ev_put _ _ _ _ (by rw [size_put, bN]; exact n355), if_neg (by decide), ev_put _ _ _ _ (by rw [bN]; exact n361), if_pos rfl]
    · rw [size_put, size_put, size_put, bN]; exact hN
    · have := fin v0 v2 (.slice A6 1 c6) v7 A' c' w' e1 e2 e3 e4
      rw [put_comm _ 355 361 _ _ (by decide)] at this
      exact this

theorem twice_is {ys : List (List (S43))} (hops : ops = #[o0, o1, o2, o3, o4, o5, o6, o7, o8]) (hT : rtab .any ops = T50) {w : World} {a : Act} {A : Option Addr} {c : Nat} {xs : List (List (S43))}
    (hC : Kd.C (Kd.slice 43 k43) w A xs.length xs) (hm : xs.length < 5864062014805) (hp : 0 < xs.length) (hy : ys = xs ++ [xs.getD 0 []])
    (h : ∀ (v0 v1 v2 v3 v4 v5 v6 : Value) A' c' w' a', Kd.C (Kd.slice 43 k43) w' A' ys.length ys → ys.length ≤ c' → Below w.heap.size w w' →
      (((((((((a.put (some 356) v1).put (some 358) v3).put (some 359) v4).put (some 360) v5).put (some 355) v0).put (some 361) v6).put (some 357) v2).put (some 362) (.slice A' ys.length c')).put (some 38) (.slice A' ys.length c')) = a' → Q .normal a' w')
    (e6 : a.eval (.tmp 6) = .slice A xs.length c := by rfl) (hN : 362 < a.tmps.size := by first | decide | simp) (hc : xs.length ≤ c)
    (i0 : IsOp o0 355 (.buildSlice 27 0 #[]) := by exact ⟨rfl, rfl, rfl⟩) (i1 : IsOp o1 356 (.move (.tmp 6)) := by exact ⟨rfl, rfl, rfl⟩)
    (i2 : IsOp o2 357 (.call { callee := .builtin .append, args := #[.tmp 355, .tmp 356], argTypes := #[27, 27] }) := by exact ⟨rfl, rfl, rfl⟩)
    (i3 : IsOp o3 358 (.move (.tmp 6)) := by exact ⟨rfl, rfl, rfl⟩) (i4 : IsOp o4 359 (.indexAddr 27 (.tmp 358) (.const (.int .i64 0))) := by exact ⟨rfl, rfl, rfl⟩) (i5 : IsOp o5 360 (.load 36 (.tmp 359)) := by exact ⟨rfl, rfl, rfl⟩)
    (i6 : IsOp o6 361 (.buildSlice 27 1 #[(0, .tmp 360)]) := by exact ⟨rfl, rfl, rfl⟩)
    (i7 : IsOp o7 362 (.call { callee := .builtin .append, args := #[.tmp 357, .tmp 361], argTypes := #[27, 27] }) := by exact ⟨rfl, rfl, rfl⟩) (i8 : IsOp o8 38 (.assign (.tmp 362)) := by exact ⟨rfl, rfl, rfl⟩)
    (hQ : ∀ d v c a w, Q (.panic c) (a.put (some d) v) w → Q (.panic c) a w := by exact fun _ _ _ _ _ h => h) :
    (Code.region 50 ops true).wp Try.prog Q a w := by
  have hl : ys.length = xs.length + 1 := by rw [hy]; simp
  refine twice_region hops i0 i1 i2 i3 i4 i5 i6 i7 i8 hT (by kernel_rfl) e6 hN hc hC (by omega) hp hQ (fun v0 v1 v2 v3 v4 v5 v6 v7 A' c' w' e1 e2 e3 e4 => ?_)
  subst e1
  rw [← hl] at e2 e3 ⊢
  rw [← hy] at e2
  exact h v0 v1 v2 v3 v4 v5 v6 A' c' w' _ e2 e3 e4 rfl
end
end Go.Proofs.Ytllfeehchiikoaa.PA
