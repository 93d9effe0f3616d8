/- The program's ReadStone answers what the reference's ReadStone answers, at all texts; the listed variables hold what the program's text lays. -/
import Derived.Test.YtgbfbnlmnodpaaaDoorReadKit
import Derived.Test.YtgbfbnlmnodpaaaDoorStonesMarks
import Derived.Test.YtgbfbnlmnodpaaaDoorPAxf10
import Derived.Test.YtgbfbnlmnodpaaaDoorPAxf11
import Derived.Test.YtgbfbnlmnodpaaaDoorPAxf18
import Derived.Test.YtgbfbnlmnodpaaaDoorPAxf19
import Derived.Test.YtgbfbnlmnodpaaaDoorPAxf23
import Derived.Test.YtgbfbnlmnodpaaaDoorPAxf26
import Derived.Test.YtgbfbnlmnodpaaaDoorPAxf4
namespace Go.Proofs.YtgbfbnlmnodpaaaDoor.Pure
set_option linter.unusedSimpArgs false
set_option linter.unusedVariables false
open Go.RowKit Go.Proofs.YtgbfbnlmnodpaaaDoor.PA Go.Proofs.YtgbfbnlmnodpaaaDoor.Base Go.Proofs.YtgbfbnlmnodpaaaDoor.ReadKit Go.Proofs.YtgbfbnlmnodpaaaDoor.PlainRead Go.Proofs.YtgbfbnlmnodpaaaDoor.StonesKit Go.Proofs.YtgbfbnlmnodpaaaDoorW.PrintWords Go.Proofs.YtgbfbnlmnodpaaaDoorW.PrintLast Go.Proofs.YtgbfbnlmnodpaaaDoorW.PrintMore

theorem rdS_place {s : List UInt8} {x : Int} (h : rdS s = some x) : -1000 ≤ x ∧ x ≤ 1000 := ⟨(rdS_iff.1 h).1, (rdS_iff.1 h).2.1⟩
theorem itoa_comma (x : Int) : (44 : UInt8) ∉ Lib.itoa x := by
  have key : ∀ u, (44 : UInt8) ∉ Lib.decDigits u := fun u h => by
    have := (canon_dec u).1.dig _ h
    unfold isD at this
    have e : (44 : UInt8).toNat = 44 := rfl
    omega
  unfold Lib.itoa
  split
  · intro h
    rw [List.mem_cons] at h
    rcases h with h | h
    · exact absurd h (by decide)
    · exact key _ h
  · exact key _
/-- A corner, out of its two numerals. -/
def two (p q : List UInt8) : Option S48 := match rdS p, rdS q with
  | some x, some y => some ⟨x, y⟩
  | _, _ => none
/-- A corner, out of its word's parts. -/
def cor (l : List (List UInt8)) : Option S48 := match l with
  | [p, q] => two p q
  | _ => none
def rdW (w : ByteArray) : Option S48 := cor (parts 44 [] w.data.toList)
theorem two_none_l {p q : List UInt8} (h : rdS p = none) : two p q = none := by unfold two; rw [h]
theorem two_none_r {p q : List UInt8} (h : rdS q = none) : two p q = none := by
  unfold two
  rw [h]
  cases rdS p <;> rfl
theorem two_some {p q : List UInt8} {x y : Int} (h1 : rdS p = some x) (h2 : rdS q = some y) : two p q = some ⟨x, y⟩ := by unfold two; rw [h1, h2]
theorem cor_hit (p q : List UInt8) : cor (p :: parts 44 [] q) = two p q := by
  rcases index_one 44 q with ⟨h1, h2⟩ | ⟨a, b, h1, h2, h3⟩
  · rw [parts_none 44 q [] h2]; rfl
  · have hn : rdS q = none := by
      cases e : rdS q with
      | none => rfl
      | some y =>
        have := (rdS_iff.1 e).2.2
        exact absurd (by rw [← this, h1]; simp) (itoa_comma y)
    rw [two_none_r hn, h1, parts_hit 44 b a [] h2]
    cases e : parts 44 [] b with
    | nil =>
      have := (parts_len 44 b []).1
      rw [e] at this
      exact absurd this (by decide)
    | cons r t => rfl
def run : List ByteArray → List S48 → List S48 × Int
  | [], acc => if okS acc = true then (acc, 0) else ([], 5)
  | w :: ws, acc => match rdW w with
    | some c => run ws (acc ++ [c])
    | none => ([], 5)
theorem run_cons {w : ByteArray} {ws : List ByteArray} {acc : List S48} {c : S48} (h : rdW w = some c) : run (w :: ws) acc = run ws (acc ++ [c]) := by rw [run, h]
theorem run_bad {w : ByteArray} {ws : List ByteArray} {acc : List S48} (h : rdW w = none) : run (w :: ws) acc = ([], 5) := by rw [run, h]
theorem specSigned (s : ByteArray) (hs : s.size ≤ 1048576) : Ev (fun k => spec_l01Signed.f k s) (sgn s.data.toList) := by
  have hz := ba_size s
  have htl : s.toList = s.data.toList := Lib.toList_data s
  have num_abs : ∀ l : List UInt8, wrap64 (-(num l).1) = -(num l).1 := fun l => by
    have hb : 0 ≤ (num l).1 ∧ (num l).1 ≤ 9999999999 ∨ (num l).2 = false ∧ (num l).1 = 0 := num_bound l
    apply w64 <;> omega
  unfold spec_l01Signed.f sgn
  rw [htl]
  have minus : ∀ b : Bool, b = true → 1 ≤ s.data.toList.length → Ev (fun k => spec_l01Signed.j0 k s b) (-(num s.data.toList.tail).1, (num s.data.toList.tail).2 && decide ((num s.data.toList.tail).1 > 0)) := by
    intro b hb h1
    subst hb
    refine Ev.step (fun k => by rw [spec_l01Signed.j0]) ?_
    refine Ev.pos rfl (Ev.pos (by omega) ?_)
    have e : s.extract 1 s.size = mk s.data.toList.tail := by
      rw [ext_mk, ← List.drop_one, List.take_of_length_le (by rw [List.length_drop]; omega)]
    have hn := specNumber (mk s.data.toList.tail)
    rw [data_mk] at hn
    rw [e]
    refine Ev.bind hn ?_
    have hw := num_abs s.data.toList.tail
    generalize num s.data.toList.tail = v at hw ⊢
    obtain ⟨n, ok⟩ := v
    rw [hw]
    cases ok with
    | true => exact Ev.pos rfl (Ev.fin rfl)
    | false => exact Ev.neg (fun h => by cases h) (Ev.fin rfl)
  have plain : ∀ b : Bool, b = false → Ev (fun k => spec_l01Signed.j0 k s b) (num s.data.toList) := by
    intro b hb
    subst hb
    refine Ev.step (fun k => by rw [spec_l01Signed.j0]) ?_
    exact Ev.neg (by decide) (Ev.bind (specNumber s) (Ev.fin rfl))
  refine Ev.ite (fun h => ?_) (fun h => ?_)
  · rw [if_neg (by rw [h]; decide)]
    exact plain false rfl
  · have hp := List.length_pos_iff.2 h
    have hb0 : bt s 0 = ((s.data.toList[0]).toNat : Int) := bt_get s 0 hp
    have hh : s.data.toList.head? = some (s.data.toList[0]) := by
      rw [List.head?_eq_getElem?, List.getElem?_eq_getElem hp]
    have c45 : (45 : UInt8).toNat = 45 := rfl
    refine Ev.pos (by omega) ?_
    rw [hb0, hh]
    by_cases e : s.data.toList[0] = 45
    · rw [if_pos (by rw [e])]
      exact minus _ (by rw [e, c45]; rfl) hp
    · rw [if_neg (fun q => e (Option.some.inj q))]
      refine plain _ ?_
      rw [beq_eq_false_iff_ne]
      intro q
      exact e (UInt8.toNat_inj.1 (by omega))
theorem wrap_place {x : Int} (h : -1000 ≤ x ∧ x ≤ 1000) : IntKind.i16.wrap x = x := w16 (by omega) (by omega)
theorem fit_snoc {acc : List S48} {x y : Int} (h : Fit acc) (hx : -1000 ≤ x ∧ x ≤ 1000) (hy : -1000 ≤ y ∧ y ≤ 1000) : Fit (acc ++ [⟨x, y⟩]) := by
  intro c hc
  rw [List.mem_append, List.mem_singleton] at hc
  rcases hc with hc | hc
  · exact h c hc
  · rw [hc]
    exact ⟨⟨by show -32768 ≤ x; omega, by show x ≤ 32767; omega⟩, ⟨by show -32768 ≤ y; omega, by show y ≤ 32767; omega⟩⟩
theorem rdE (xs : List ByteArray) (i : Nat) (h : i < xs.length) : rdOf ByteArray.empty xs (i : Int) = xs[i] := by
  unfold rdOf
  rw [Int.toNat_natCast, List.getD_eq_getElem?_getD, List.getElem?_eq_getElem h]; rfl
section
variable {ws : List ByteArray} (hl : ws.length ≤ 1048577) (hw : ∀ w ∈ ws, w.size ≤ 1048576)
include hl hw
theorem specLoop : ∀ (d i : Nat) (acc : List S48), i + d = ws.length → acc.length = i → Fit acc → Ev (fun k => spec_ReadStone.l0 k ws acc (i : Int)) (run (ws.drop i) acc)
  | 0, i, acc, h, ha, hf => by
    refine Ev.step (fun k => by rw [spec_ReadStone.l0]) ?_
    rw [List.drop_of_length_le (by omega), run]
    refine Ev.neg (by omega) (Ev.bind (specOk hf) ?_)
    exact Ev.ite (fun e => by rw [if_pos e]; exact Ev.fin rfl) (fun e => by rw [if_neg e]; exact Ev.fin rfl)
  | d + 1, i, acc, h, ha, hf => by
    have hi : i < ws.length := by omega
    have hs := hw ws[i] (List.getElem_mem hi)
    have ih := fun acc => specLoop d (i + 1) acc (by omega)
    refine Ev.step (fun k => by rw [spec_ReadStone.l0]) ?_
    rw [rdE ws i hi, drop_at ws i hi, w64 (x := (i : Int) + 1) (by omega) (by omega)]
    refine Ev.pos (by omega) (Ev.pos (by omega) (Ev.bind (a := words 44 ws[i]) (specSplit 44 ws[i] hs) ?_))
    have hsz := words_size 44 ws[i]
    have hrd : rdW ws[i] = cor (parts 44 [] ws[i].data.toList) := rfl
    have hpl := (parts_len 44 ws[i].data.toList []).1
    unfold words at hsz ⊢
    generalize parts 44 [] ws[i].data.toList = P at hsz hrd hpl ⊢
    match P, hsz, hrd, hpl with
    | [], _, _, hpl => exact absurd hpl (by decide)
    | [p], _, hrd, _ =>
      rw [run_bad hrd]
      exact Ev.neg (by show ¬ ((1 : Nat) : Int) = 2; omega) (Ev.fin rfl)
    | p :: q :: r :: t, _, hrd, _ =>
      rw [run_bad hrd]
      refine Ev.neg ?_ (Ev.fin rfl)
      simp only [List.map_cons, List.length_cons]
      omega
    | [p, q], hsz, hrd, _ =>
      have e0 : rdOf ByteArray.empty ([p, q].map mk) 0 = mk p := rfl
      have e1 : rdOf ByteArray.empty ([p, q].map mk) 1 = mk q := rfl
      have hp : (mk p).size ≤ 1048576 := Nat.le_trans (hsz (mk p) (by simp)) hs
      have hq : (mk q).size ≤ 1048576 := Nat.le_trans (hsz (mk q) (by simp)) hs
      have s0 := specSigned (mk p) hp
      have s1 := specSigned (mk q) hq
      rw [data_mk] at s0 s1
      have hrd : rdW ws[i] = two p q := hrd
      rw [e0, e1]
      refine Ev.pos (by show ((2 : Nat) : Int) = 2; rfl) (Ev.pos (by show (0 : Int) < ((2 : Nat) : Int); omega) (Ev.bind s0 (Ev.pos (by show (1 : Int) < ((2 : Nat) : Int); omega) (Ev.bind s1 ?_))))
      have n0 : ∀ h : ¬ ((sgn p).2 = true ∧ -1000 ≤ (sgn p).1 ∧ (sgn p).1 ≤ 1000), rdW ws[i] = none := fun h => by
        rw [hrd]; exact two_none_l (by unfold rdS; rw [if_neg h])
      have n1 : ∀ h : ¬ ((sgn q).2 = true ∧ -1000 ≤ (sgn q).1 ∧ (sgn q).1 ≤ 1000), rdW ws[i] = none := fun h => by
        rw [hrd]; exact two_none_r (by unfold rdS; rw [if_neg h])
      refine Ev.ite (fun a0 => Ev.ite (fun a1 => ?_) (fun a1 => ?_)) (fun a0 => ?_)
      · refine Ev.nobind (specPlace _) (Ev.ite (fun b0 => ?_) (fun b0 => ?_))
        · refine Ev.nobind (specPlace _) (Ev.ite (fun b1 => ?_) (fun b1 => ?_))
          · have b0 := inB_iff.1 b0
            have b1 := inB_iff.1 b1
            have r0 : rdS p = some (sgn p).1 := by unfold rdS; rw [if_pos ⟨a0, b0⟩]
            have r1 : rdS q = some (sgn q).1 := by unfold rdS; rw [if_pos ⟨a1, b1⟩]
            rw [two_some r0 r1] at hrd
            rw [run_cons hrd, wrap_place b0, wrap_place b1]
            refine Ev.pos (by omega) ?_
            exact ih _ (by rw [List.length_append, ha]; rfl) (fit_snoc hf b0 b1)
          · rw [run_bad (n1 fun h => b1 (inB_iff.2 h.2))]; exact Ev.fin rfl
        · rw [run_bad (n0 fun h => b0 (inB_iff.2 h.2))]; exact Ev.fin rfl
      · rw [run_bad (n1 fun h => a1 h.1)]; exact Ev.fin rfl
      · rw [run_bad (n0 fun h => a0 h.1)]; exact Ev.fin rfl
theorem implLoop : ∀ (d i : Nat) (acc : List S48), i + d = ws.length → acc.length = i → Fit acc → Ev (fun k => impl_ReadStone.l0 k acc ws (ws.length : Int) (i : Int)) (run (ws.drop i) acc)
  | 0, i, acc, h, ha, hf => by
    refine Ev.step (fun k => by rw [impl_ReadStone.l0]) ?_
    rw [List.drop_of_length_le (by omega), run]
    refine Ev.neg (by omega) (Ev.bind (implOk hf) ?_)
    exact Ev.ite (fun e => by rw [if_pos e]; exact Ev.fin rfl) (fun e => by rw [if_neg e]; exact Ev.fin rfl)
  | d + 1, i, acc, h, ha, hf => by
    have hi : i < ws.length := by omega
    have hs := hw ws[i] (List.getElem_mem hi)
    have hz := ba_size ws[i]
    have ih := fun acc => implLoop d (i + 1) acc (by omega)
    refine Ev.step (fun k => by rw [impl_ReadStone.l0]) ?_
    rw [rdE ws i hi, drop_at ws i hi, w64 (x := (i : Int) + 1) (by omega) (by omega)]
    refine Ev.pos (by omega) (Ev.pos (by omega) (Ev.pos (by omega) ?_))
    have hcut : strings_Cut.f ws[i] (⟨#[44]⟩ : ByteArray) = some (mk (Lib.cut ws[i].data.toList [44]).1, mk (Lib.cut ws[i].data.toList [44]).2.1, (Lib.cut ws[i].data.toList [44]).2.2) := by
      unfold strings_Cut.f
      rw [if_pos (by omega)]
      rfl
    refine Ev.nobind hcut ?_
    rcases cut_parts 44 ws[i].data.toList with ⟨h1, h2⟩ | ⟨p, q, h1, h2, h3⟩
    · have hrd : rdW ws[i] = none := by unfold rdW; rw [h2]; rfl
      rw [h1, run_bad hrd]
      have z1 : (mk ws[i].data.toList).size ≤ 1048576 := by rw [mk_data]; exact hs
      obtain ⟨n1, e1, _⟩ := readD (a := mk ws[i].data.toList) (lo := -1000) (hi := 1000) (o := rdS ws[i].data.toList) (by omega) (by omega) z1 (fun x => by rw [data_mk]; exact rdS_iff)
      obtain ⟨n2, e2, _⟩ := readD (a := mk []) (lo := -1000) (hi := 1000) (o := rdS []) (by omega) (by omega) (by decide) (fun x => by rw [data_mk]; exact rdS_iff)
      exact Ev.nobind e1 (Ev.nobind e2 (Ev.neg (fun h => by cases h) (Ev.fin rfl)))
    · have hrd : rdW ws[i] = two p q := by unfold rdW; rw [h2]; exact cor_hit p q
      have hlen : p.length + q.length + 1 = ws[i].size := by rw [hz, h3, List.length_append, List.length_cons]; omega
      have z1 : (mk p).size ≤ 1048576 := by rw [ba_size, data_mk]; omega
      have z2 : (mk q).size ≤ 1048576 := by rw [ba_size, data_mk]; omega
      obtain ⟨n1, e1, g1⟩ := readD (a := mk p) (lo := -1000) (hi := 1000) (o := rdS p) (by omega) (by omega) z1 (fun x => by rw [data_mk]; exact rdS_iff)
      obtain ⟨n2, e2, g2⟩ := readD (a := mk q) (lo := -1000) (hi := 1000) (o := rdS q) (by omega) (by omega) z2 (fun x => by rw [data_mk]; exact rdS_iff)
      rw [h1]
      refine Ev.nobind e1 (Ev.nobind e2 (Ev.pos rfl ?_))
      cases r0 : rdS p with
      | none =>
        rw [run_bad (hrd.trans (two_none_l r0))]
        exact Ev.neg (fun h => by cases h) (Ev.fin rfl)
      | some x =>
        refine Ev.pos rfl ?_
        cases r1 : rdS q with
        | none =>
          rw [run_bad (hrd.trans (two_none_r r1))]
          exact Ev.neg (fun h => by cases h) (Ev.fin rfl)
        | some y =>
          have b0 := rdS_place r0
          have b1 := rdS_place r1
          rw [run_cons (hrd.trans (two_some r0 r1))]
          refine Ev.pos rfl (Ev.pos (by omega) ?_)
          show Ev (fun k => impl_ReadStone.l0 k (acc ++ [⟨IntKind.i16.wrap n1, IntKind.i16.wrap n2⟩]) ws (ws.length : Int) ((i : Int) + 1)) _
          rw [g1 x r0, g2 y r1, wrap_place b0, wrap_place b1]
          exact ih _ (by rw [List.length_append, ha]; rfl) (fit_snoc hf b0 b1)
omit hl hw in
theorem run_len : ∀ (d i : Nat) (acc : List S48), i + d = ws.length → acc.length = i → (run (ws.drop i) acc).1.length ≤ 8
  | 0, i, acc, h, ha => by
    rw [List.drop_of_length_le (by omega), run]
    split
    · rename_i e; exact (okS_len e).2
    · simp
  | d + 1, i, acc, h, ha => by
    rw [drop_at ws i (by omega), run]
    split
    · exact run_len d (i + 1) _ (by omega) (by rw [List.length_append, ha]; rfl)
    · simp
end
def res (s : ByteArray) : List S48 × Int := run (words 32 s) []
theorem fit_nil : Fit ([] : List S48) := fun c hc => by cases hc
theorem specRes {s : ByteArray} (h : s.size ≤ 1048576) : Ev (fun k => spec_ReadStone.f k s) (res s) := by
  unfold spec_ReadStone.f res
  have hl := words_len 32 s
  have hw := words_size 32 s
  refine Ev.bind (a := words 32 s) (specSplit 32 s h) ?_
  exact specLoop (by omega) (fun w hm => Nat.le_trans (hw w hm) h) (words 32 s).length 0 [] (by omega) rfl fit_nil
theorem implRes {s : ByteArray} (h : s.size ≤ 1048576) : Ev (fun k => impl_ReadStone.f k s) (res s) := by
  unfold impl_ReadStone.f res
  have hl := words_len 32 s
  have hw := words_size 32 s
  refine Ev.nobind (implSplit 32 s h) ?_
  exact implLoop (by omega) (fun w hm => Nat.le_trans (hw w hm) h) (words 32 s).length 0 [] (by omega) rfl fit_nil
theorem FnExactReadStone : laws_FnExactReadStone.Pure := by
  intro a0 w0
  refine Ev.rounds (g := fun k => laws_FnExactReadStone.f k a0) ?_
  unfold laws_FnExactReadStone.f
  refine Ev.ite (fun _ => Ev.fin rfl) (fun h0 => ?_)
  have h : a0.size ≤ 1048576 := by omega
  have hl := words_len 32 a0
  have hw := words_size 32 a0
  have hj : (res a0).1.length ≤ 8 := run_len (words 32 a0).length 0 [] (Nat.zero_add _) rfl
  have hs := specRes h
  have hi := implRes h
  generalize res a0 = v at hj hs hi
  have hj2 : v.1.length ≤ 1048576 := by omega
  have hq := eqStone v.1 hj2
  refine Ev.bind hs (Ev.bind hi (Ev.bind hq (Ev.pos rfl ?_)))
  refine Ev.step (fun k => by rw [laws_FnExactReadStone.j0]) ?_
  refine Ev.neg (by simp) ?_
  refine Ev.bind (markStone v.1 hj2) (Ev.bind (heldStone v.1.length hj2) ?_)
  refine Ev.neg (by omega) (Ev.pos rfl ?_)
  refine Ev.bind hi (Ev.bind hq (Ev.pos rfl ?_))
  refine Ev.step (fun k => by rw [laws_FnExactReadStone.j1]) ?_
  refine Ev.neg (by simp) (Ev.bind (heldStone v.1.length hj2) ?_)
  refine Ev.neg (by omega) ?_
  exact Ev.pos rfl (Ev.fin rfl)

end Go.Proofs.YtgbfbnlmnodpaaaDoor.Pure
