/- The program's ValueOf answers what the reference's ValueOf answers, at all plates, lists of kinds and of cuts; no condition. -/
import Derived.Test.YtedbgfjllladkaaCutsKit
import Derived.Test.YtedbgfjllladkaaPAxf8
namespace Go.Proofs.Ytedbgfjllladkaa.Pure
set_option linter.unusedSimpArgs false
set_option linter.unusedVariables false
open Go.RowKit Go.Proofs.Ytedbgfjllladkaa.PA Go.Proofs.Ytedbgfjllladkaa.Base Go.Proofs.Ytedbgfjllladkaa.KindsKit Go.Proofs.Ytedbgfjllladkaa.CutsKit Go.Proofs.YtedbgfjllladkaaW.PrintWords Go.Proofs.YtedbgfjllladkaaW.PrintLast Go.Proofs.YtedbgfjllladkaaW.PrintMore

def F64 (x : Int) : Prop := -9223372036854775808 ≤ x ∧ x ≤ 9223372036854775807
theorem wrapF (x : Int) : F64 (wrap64 x) := by unfold F64 wrap64; omega
theorem wrapAdd (x y : Int) : wrap64 (wrap64 x + wrap64 y) = wrap64 (x + y) := by unfold wrap64; omega
theorem wrapAddL (x y : Int) : wrap64 (wrap64 x + y) = wrap64 (x + y) := by unfold wrap64; omega
theorem wrapId {x : Int} (h : F64 x) : wrap64 x = x := w64 h.1 h.2
theorem wrapMod (x q : Int) : wrap64 (x + q * 18446744073709551616) = wrap64 x := by unfold wrap64; omega
theorem wrapEx (x : Int) : ∃ q : Int, wrap64 x = x + q * 18446744073709551616 := by
  refine ⟨-((x + 9223372036854775808) / 18446744073709551616), ?_⟩
  unfold wrap64; omega
/-- The sum over kinds of how many times what each is worth. -/
def dot : List Int → List S57 → Int
  | [], _ => 0
  | _, [] => 0
  | x :: xs, k :: ks => x * wrap64 k.f2 + dot xs ks
theorem dot_set : ∀ (xs : List Int) (ks : List S57) (a : Nat) (h : a < xs.length) (h2 : a < ks.length), ∃ q : Int, dot (xs.set a (wrap64 (xs[a] + 1))) ks = dot xs ks + wrap64 ks[a].f2 + q * 18446744073709551616
  | x :: xs, k :: ks, 0, h, h2 => by
    obtain ⟨q, hq⟩ := wrapEx (x + 1)
    refine ⟨q * wrap64 k.f2, ?_⟩
    simp only [List.set_cons_zero, List.getElem_cons_zero, dot, hq]
    generalize wrap64 k.f2 = v
    generalize dot xs ks = d
    grind
  | x :: xs, k :: ks, a + 1, h, h2 => by
    obtain ⟨q, hq⟩ := dot_set xs ks a (by simpa using h) (by simpa using h2)
    refine ⟨q, ?_⟩
    simp only [List.set_cons_succ, List.getElem_cons_succ, dot, hq]
    omega
  | [], _, _, h, _ => by simp at h
  | _ :: _, [], _, _, h => by simp at h
theorem dot_zero : ∀ (n : Nat) (ks : List S57), dot (List.replicate n 0) ks = 0
  | 0, _ => by simp [dot]
  | n + 1, [] => by simp [List.replicate_succ, dot]
  | n + 1, k :: ks => by simp [List.replicate_succ, dot, dot_zero n ks]
theorem dotted (ks : List S57) (c : List Int) (hl : c.length = ks.length) (hn : ks.length ≤ 1048576) : ∀ (d i : Nat) (x : Int), i + d = c.length → F64 x →
    Ev (fun k => spec_ValueOf.l0 k ks c x (i : Int)) (wrap64 (x + dot (c.drop i) (ks.drop i)), 0)
  | 0, i, x, h, hx => by
    refine Ev.step (fun k => by rw [spec_ValueOf.l0]) ?_
    refine Ev.neg (by omega) (Ev.fin ?_)
    rw [List.drop_of_length_le (by omega)]
    simp only [dot, Int.add_zero, wrapId hx]
  | d + 1, i, x, h, hx => by
    have h0 : i < c.length := by omega
    have h1 : i < ks.length := by omega
    have wi : Aside0 (wrap64 ((i : Int) + 1) = ((i + 1 : Nat) : Int)) := ⟨w64 (x := (i : Int) + 1) (by omega) (by omega)⟩
    refine Ev.step (fun k => by rw [spec_ValueOf.l0]) ?_
    refine Ev.pos (by omega) ?_
    refine Ev.pos (by omega) ?_
    refine Ev.pos (by omega) ?_
    rw [wi.out, rdK ks i h1, rd_nat c i h0]
    refine Ev.to (dotted ks c hl hn d (i + 1) _ (by omega) (wrapF _)) ?_
    rw [drop_at c i h0, drop_at ks i h1]
    simp only [dot]
    generalize c[i] * wrap64 ks[i].f2 = p
    generalize dot (c.drop (i + 1)) (ks.drop (i + 1)) = e
    congr 1
    unfold wrap64
    omega
theorem pieces (ks : List S57) (hkl : ks.length ≤ 1048576) (l : List S75) (hl : l.length ≤ 1048576) (s : List S79) (hs : s.length = l.length) (hp : ∀ (j : Nat) (h : j < l.length), l[j].f0 = 1 → 0 ≤ l[j].f2 ∧ l[j].f2 < (ks.length : Int)) : ∀ (d i : Nat) (x : List Int) (y : Int), i + d = l.length → x.length = ks.length → y = wrap64 (dot x ks) →
    ∃ R : List Int, Ev (fun k => spec_PiecesOf.l0 k l x (i : Int)) (R, 0) ∧ R.length = ks.length ∧ Ev (fun k => impl_summed.l0 (fun c0 c1 c2 c3 s0 s1 => impl_ValueOf_1.f c0 c1 c2 c3 s0 s1 ks) k s y l (l.length : Int) (i : Int)) (wrap64 (dot R ks), 0)
  | 0, i, x, y, h, hx, hy => by
    refine ⟨x, ?_, hx, ?_⟩
    · refine Ev.step (fun k => by rw [spec_PiecesOf.l0]) ?_
      exact Ev.neg (by omega) (Ev.fin rfl)
    · refine Ev.step (fun k => by rw [impl_summed.l0]) ?_
      exact Ev.neg (by omega) (Ev.fin (by rw [hy]))
  | d + 1, i, x, y, h, hx, hy => by
    have hi : i < l.length := by omega
    have hC := rdC l i hi
    have wi : Aside0 (wrap64 ((i : Int) + 1) = ((i + 1 : Nat) : Int)) := ⟨w64 (x := (i : Int) + 1) (by omega) (by omega)⟩
    have IMPL : ∀ (v : Int) (R : Int × Int), impl_ValueOf_1.f l[i].f0 l[i].f1 l[i].f2 l[i].f3 (rd_T79 s (i : Int)).f0 (rd_T79 s (i : Int)).f1 ks = some v → Ev (fun k => impl_summed.l0 (fun c0 c1 c2 c3 s0 s1 => impl_ValueOf_1.f c0 c1 c2 c3 s0 s1 ks) k s (wrap64 (y + v)) l (l.length : Int) ((i + 1 : Nat) : Int)) R → Ev (fun k => impl_summed.l0 (fun c0 c1 c2 c3 s0 s1 => impl_ValueOf_1.f c0 c1 c2 c3 s0 s1 ks) k s y l (l.length : Int) (i : Int)) R := by
      intro v R hv hR
      refine Ev.step (fun k => by rw [impl_summed.l0]) ?_
      refine Ev.pos (by omega) ?_
      refine Ev.pos (by omega) ?_
      refine Ev.pos (by omega) ?_
      refine Ev.pos (by omega) ?_
      rw [hC, wi.out]
      exact Ev.nobind hv hR
    by_cases q : l[i].f0 = 1
    · obtain ⟨p0, p1⟩ := hp i hi q
      obtain ⟨n, hn⟩ := Int.eq_ofNat_of_zero_le p0
      have hn1 : n < ks.length := by omega
      have hn2 : n < x.length := by omega
      have hk : rd_T57 ks l[i].f2 = ks[n] := by rw [hn]; exact rdK ks n hn1
      have hxn : rd x l[i].f2 = x[n] := by rw [hn]; exact rd_nat x n hn2
      have hN : (l[i].f2 : Int).toNat = n := by omega
      obtain ⟨Q, hQ⟩ := dot_set x ks n hn2 hn1
      obtain ⟨R, e1, e2, e3⟩ := pieces ks hkl l hl s hs hp d (i + 1) (x.set n (wrap64 (x[n] + 1))) (wrap64 (y + wrap64 ks[n].f2)) (by omega) (by simpa using hx) (by rw [hQ, wrapMod, hy, wrapAddL])
      refine ⟨R, ?_, e2, IMPL (wrap64 ks[n].f2) _ (by unfold impl_ValueOf_1.f; rw [if_pos q, if_pos p0, if_pos p1, hk]) e3⟩
      refine Ev.step (fun k => by rw [spec_PiecesOf.l0]) ?_
      refine Ev.pos (by omega) ?_
      refine Ev.pos (by omega) ?_
      rw [hC, wi.out]
      refine Ev.pos q ?_
      refine Ev.pos p0 ?_
      refine Ev.pos (by omega) ?_
      rw [hxn, hN]
      exact e1
    · obtain ⟨R, e1, e2, e3⟩ := pieces ks hkl l hl s hs hp d (i + 1) x (wrap64 (y + 0)) (by omega) hx (by rw [Int.add_zero, hy, wrapId (wrapF _)])
      refine ⟨R, ?_, e2, IMPL 0 _ (by unfold impl_ValueOf_1.f; rw [if_neg q]) e3⟩
      refine Ev.step (fun k => by rw [spec_PiecesOf.l0]) ?_
      refine Ev.pos (by omega) ?_
      refine Ev.pos (by omega) ?_
      rw [hC, wi.out]
      exact Ev.neg q e1
theorem bothValueOf (p q : Int) (ks : List S57) (l : List S75) (hks : ∀ x ∈ ks, B8 x.f0 ∧ B8 x.f1) (hkl : ks.length ≤ 1048576) (hll : l.length ≤ 1048576) (hc : ∀ c ∈ l, okC c) :
    ∃ R : Int × Int, Ev (fun k => spec_ValueOf.f k p q ks l) R ∧ Ev (fun k => impl_ValueOf.f k p q ks l) R := by
  obtain ⟨r, e1, e2, e3⟩ := sizes p q ks l hks hkl hll hc
  by_cases h : r.2 = true
  · obtain ⟨h1, h2, h3⟩ := e3 h
    have hn : ((ks.length : Int)).toNat = ks.length := Int.toNat_natCast _
    obtain ⟨R, g1, g2, g3⟩ := pieces ks hkl l hll r.1 h1 (fun j hj => h3 j hj (by omega)) l.length 0 (List.replicate ks.length 0) 0 (by omega) (by simp) (by rw [dot_zero]; exact (w64 (by omega) (by omega)).symm)
    have D := dotted ks R g2 hkl R.length 0 0 (by omega) ⟨by omega, by omega⟩
    refine ⟨(wrap64 (dot R ks), 0), ?_, ?_⟩
    · have P : Ev (fun k => spec_PiecesOf.f k p q ks l) (R, 0) := by
        unfold spec_PiecesOf.f
        refine Ev.bind e1 (Ev.pos h ?_)
        refine Ev.pos (by omega) ?_
        refine Ev.pos (by omega) ?_
        rw [hn]
        exact g1
      unfold spec_ValueOf.f
      refine Ev.bind P (Ev.pos rfl ?_)
      exact Ev.to D (by simp)
    · unfold impl_ValueOf.f impl_summed.f
      exact Ev.bind (Ev.bind e2 (Ev.pos h g3)) (Ev.fin rfl)
  · refine ⟨(0, 1), ?_, ?_⟩
    · have P : Ev (fun k => spec_PiecesOf.f k p q ks l) ([], 1) := by
        unfold spec_PiecesOf.f
        exact Ev.bind e1 (Ev.neg h (Ev.fin rfl))
      unfold spec_ValueOf.f
      exact Ev.bind P (Ev.neg (by decide) (Ev.fin rfl))
    · unfold impl_ValueOf.f impl_summed.f
      exact Ev.bind (Ev.bind e2 (Ev.neg h (Ev.fin rfl))) (Ev.fin rfl)
theorem FnExactValueOf : laws_FnExactValueOf.Pure := by
  intro a0 a1 l2 l3 u0 u1 u2 u3
  refine Ev.rounds (g := fun k => laws_FnExactValueOf.f k a0 a1 l2 l3) ?_
  unfold laws_FnExactValueOf.f
  refine Ev.nobind (szKinds l2 u2.1) ?_
  refine Ev.ite (fun _ => Ev.fin rfl) (fun h0 => ?_)
  obtain ⟨hl2, e0⟩ := few l2.length 0 h0
  rw [e0]
  refine Ev.nobind (szCuts l3 _ (by omega) (by omega) u3.1) ?_
  refine Ev.ite (fun _ => Ev.fin rfl) (fun h1 => ?_)
  have hl3 : l3.length ≤ 1048576 := by split at h1 <;> omega
  have tk := toKinds l2 hl2
  have tc := toCuts l3 hl3
  have hk : (l2.map conv).length ≤ 1048576 := by simpa using hl2
  have hc : (l3.map convC).length ≤ 1048576 := by simpa using hl3
  obtain ⟨R, hs, hi⟩ := bothValueOf a0 a1 (l2.map conv) (l3.map convC) (okKs l2 u2.2) hk hc (okCs l3 u3.2)
  have hRR : (R.2 != R.2) = false := by simp
  refine Ev.bind tk ?_
  refine Ev.bind tc ?_
  refine Ev.bind hs ?_
  refine Ev.bind tk ?_
  refine Ev.bind tc ?_
  refine Ev.bind hi ?_
  refine Ev.pos rfl ?_
  rw [hRR]
  refine Ev.step (fun k => by rw [laws_FnExactValueOf.j0]) ?_
  refine Ev.neg (by decide) ?_
  refine Ev.bind tk ?_
  refine Ev.bind (eqKinds _ hk) ?_
  refine Ev.pos rfl ?_
  refine Ev.bind tc ?_
  refine Ev.bind (eqCuts _ hc) ?_
  exact Ev.pos rfl (Ev.fin rfl)

end Go.Proofs.Ytedbgfjllladkaa.Pure
