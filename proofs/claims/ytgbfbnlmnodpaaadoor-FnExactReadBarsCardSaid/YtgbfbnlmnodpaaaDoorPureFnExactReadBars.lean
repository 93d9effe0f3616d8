/- The program's ReadBars answers what the reference's ReadBars answers, at all texts; the listed variables hold what the program's text lays. -/
import Derived.Test.YtgbfbnlmnodpaaaDoorReadKit
import Derived.Test.YtgbfbnlmnodpaaaDoorPAxf15
import Derived.Test.YtgbfbnlmnodpaaaDoorPAxf16
import Derived.Test.YtgbfbnlmnodpaaaDoorPAxf17
import Derived.Test.YtgbfbnlmnodpaaaDoorPAxf18
import Derived.Test.YtgbfbnlmnodpaaaDoorPAxf19
import Derived.Test.YtgbfbnlmnodpaaaDoorPAxf3
import Derived.Test.YtgbfbnlmnodpaaaDoorPAxf5
import Derived.Test.YtgbfbnlmnodpaaaDoorPAxf6
import Derived.Test.YtgbfbnlmnodpaaaDoorPAxf8
import Derived.Test.YtgbfbnlmnodpaaaDoorPAxf9
import Derived.Test.YtgbfbnlmnodpaaaDoorPAxgLaw
namespace Go.Proofs.YtgbfbnlmnodpaaaDoor.Pure
set_option linter.unusedSimpArgs false
set_option linter.unusedVariables false
open Go.RowKit Go.Proofs.YtgbfbnlmnodpaaaDoor.PA Go.Proofs.YtgbfbnlmnodpaaaDoor.Base Go.Proofs.YtgbfbnlmnodpaaaDoor.ReadKit Go.Proofs.YtgbfbnlmnodpaaaDoor.PlainRead Go.Proofs.YtgbfbnlmnodpaaaDoorW.PrintWords Go.Proofs.YtgbfbnlmnodpaaaDoorW.PrintLast Go.Proofs.YtgbfbnlmnodpaaaDoorW.PrintMore

/-! ### the law's own functions -/
theorem rdL (xs : List (List Int)) (i : Nat) (h : i < xs.length) : rd_L2 xs (i : Int) = xs[i] := by
  simp [rd_L2, h]
theorem markRow (l : List Int) (j : Int) (h : l.length ≤ 1048577) (h0 : 0 ≤ j) (h1 : j ≤ 1000000000000000) : Ev (fun k => laws_markInt64S.f k l j) (j + (l.length : Int), marks (fun j => j) l.length j) := by
  unfold laws_markInt64S.f
  exact Ev.to (mark_loop (fun j => j) (fun k x j i => laws_markInt64S.l0 k x j i) (fun k x j i => by rw [laws_markInt64S.l0]) l.length 0 j l (by omega) (by omega) h0 (by omega)) (by simp)
theorem heldRow (n : Nat) (j : Int) (h : n ≤ 1048577) (h0 : 0 ≤ j) (h1 : j ≤ 1000000000000000) : Ev (fun k => laws_heldInt64S.f k (marks (fun j => j) n j) j) (j + (n : Int)) := by
  unfold laws_heldInt64S.f
  have hn := marks_length (fun j => j) n j
  exact held_loop (fun j => j) (marks (fun j => j) n j) (fun k j' i => laws_heldInt64S.l0 k (marks (fun j => j) n j) j' i) (by omega) (fun k j i => by rw [laws_heldInt64S.l0]) n 0 j (by omega) h0 (by omega) (by simp)
theorem eqRow (l : List Int) (h : l.length ≤ 1048577) : Ev (fun k => laws_eqInt64S.f k l l) true := by
  unfold laws_eqInt64S.f
  refine Ev.pos rfl (Ev.to (eq_loop (x0 := l) (x1 := l) (laws_eqInt64S.l0 · l l ·) (by omega) rfl (fun k i => by rw [laws_eqInt64S.l0]) l.length 0 (by omega)) (by simp))
def marksS : List Nat → Int → List (List Int)
  | [], _ => []
  | n :: ns, j => marks (fun j => j) n j :: marksS ns (j + (n : Int))
theorem marksS_length : ∀ (ns : List Nat) (j : Int), (marksS ns j).length = ns.length
  | [], _ => rfl
  | n :: ns, j => by rw [marksS, List.length_cons, List.length_cons, marksS_length ns]
def small (ns : List Nat) : Prop := ∀ n ∈ ns, n ≤ 1048577
theorem sum_le : ∀ (ns : List Nat), small ns → ns.sum ≤ ns.length * 1048577
  | [], _ => Nat.zero_le _
  | n :: ns, h => by
    have := sum_le ns (fun m hm => h m (List.mem_cons_of_mem _ hm))
    have := h n List.mem_cons_self
    rw [List.sum_cons, List.length_cons]
    omega
theorem markLoop (d : Nat) : ∀ (i : Nat) (j : Int) (x : List (List Int)), i + d = x.length → x.length ≤ 1048577 → small ((x.drop i).map (·.length)) → 0 ≤ j → j ≤ 1000000000000000 - 1048577 * (d : Int) →
    Ev (fun k => laws_markInt64SS.l0 k x j (i : Int)) (j + ((((x.drop i).map (·.length)).sum : Nat) : Int), x.take i ++ marksS ((x.drop i).map (·.length)) j) := by
  induction d with
  | zero =>
    intro i j x h hx hs h0 h1
    refine Ev.step (fun k => by rw [laws_markInt64SS.l0]) (Ev.neg (by omega) (Ev.fin ?_))
    rw [List.drop_of_length_le (by omega), List.take_of_length_le (by omega)]
    simp [marksS]
  | succ d ih =>
    intro i j x h hx hs h0 h1
    have hi : i < x.length := by omega
    rw [drop_at x i hi, List.map_cons] at hs
    have hn : x[i].length ≤ 1048577 := hs _ List.mem_cons_self
    refine Ev.step (fun k => by rw [laws_markInt64SS.l0]) (Ev.pos (by omega) (Ev.pos (by omega) ?_))
    rw [rdL x i hi, w64 (x := (i : Int) + 1) (by omega) (by omega), Int.toNat_natCast]
    refine Ev.bind (markRow x[i] j hn h0 (by omega)) ?_
    have hd : (x.set i (marks (fun j => j) x[i].length j)).drop (i + 1) = x.drop (i + 1) := List.drop_set_of_lt (by omega)
    have ht : (x.set i (marks (fun j => j) x[i].length j)).take (i + 1) = x.take i ++ [marks (fun j => j) x[i].length j] := by
      rw [List.take_succ_eq_append_getElem (by rw [List.length_set]; exact hi), List.take_set_of_le (by omega), List.getElem_set_self]
    have ih := ih (i + 1) (j + (x[i].length : Int)) (x.set i (marks (fun j => j) x[i].length j)) (by rw [List.length_set]; omega) (by rw [List.length_set]; exact hx) (by rw [hd]; exact fun n hn => hs n (List.mem_cons_of_mem _ hn)) (by omega) (by omega)
    rw [hd, ht] at ih
    refine Ev.to ih ?_
    rw [drop_at x i hi, List.map_cons, List.sum_cons, marksS, List.append_assoc]
    simp only [Prod.mk.injEq, List.singleton_append, and_true]
    omega
theorem markRows (x : List (List Int)) (hx : x.length ≤ 1048577) (hs : small (x.map (·.length))) : Ev (fun k => laws_markInt64SS.f k x 1) (1 + (((x.map (·.length)).sum : Nat) : Int), marksS (x.map (·.length)) 1) := by
  unfold laws_markInt64SS.f
  have := markLoop x.length 0 1 x (by omega) hx (by simpa using hs) (by omega) (by omega)
  simpa using this
theorem heldLoop (y : List (List Int)) (hy : y.length ≤ 1048577) (ns : List Nat) : ∀ (i : Nat) (j : Int), i + ns.length = y.length → y.drop i = marksS ns j → small ns → 0 ≤ j → j ≤ 1000000000000000 - 1048577 * (ns.length : Int) → Ev (fun k => laws_heldInt64SS.l0 k y j (i : Int)) (j + ((ns.sum : Nat) : Int)) := by
  induction ns with
  | nil =>
    intro i j h hd hs h0 h1
    rw [List.length_nil] at h
    refine Ev.step (fun k => by rw [laws_heldInt64SS.l0]) (Ev.neg (by omega) (Ev.fin (by simp)))
  | cons n ns ih =>
    intro i j h hd hs h0 h1
    rw [List.length_cons] at h h1
    have hi : i < y.length := by omega
    have hn := hs n List.mem_cons_self
    rw [drop_at y i hi, marksS] at hd
    obtain ⟨e1, e2⟩ := List.cons.inj hd
    refine Ev.step (fun k => by rw [laws_heldInt64SS.l0]) (Ev.pos (by omega) (Ev.pos (by omega) ?_))
    rw [rdL y i hi, w64 (x := (i : Int) + 1) (by omega) (by omega), e1]
    refine Ev.bind (heldRow n j hn h0 (by omega)) (Ev.neg (by omega) ?_)
    refine Ev.to (ih (i + 1) (j + (n : Int)) (by omega) e2 (fun m hm => hs m (List.mem_cons_of_mem _ hm)) (by omega) (by omega)) ?_
    rw [List.sum_cons]
    omega
theorem heldRows (ns : List Nat) (hl : ns.length ≤ 1048577) (hs : small ns) : Ev (fun k => laws_heldInt64SS.f k (marksS ns 1) 1) (1 + ((ns.sum : Nat) : Int)) := by
  unfold laws_heldInt64SS.f
  have hm := marksS_length ns 1
  exact heldLoop (marksS ns 1) (by omega) ns 0 1 (by omega) rfl hs (by omega) (by omega)
theorem eqRows (x : List (List Int)) (hx : x.length ≤ 1048577) (hs : small (x.map (·.length))) : Ev (fun k => laws_eqInt64SS.f k x x) true := by
  unfold laws_eqInt64SS.f
  refine Ev.pos rfl ?_
  have key : ∀ (d i : Nat), i + d = x.length → Ev (fun k => laws_eqInt64SS.l0 k x x (i : Int)) true := by
    intro d
    induction d with
    | zero =>
      intro i h
      exact Ev.step (fun k => by rw [laws_eqInt64SS.l0]) (Ev.neg (by omega) (Ev.fin rfl))
    | succ d ih =>
      intro i h
      have hi : i < x.length := by omega
      have hn : x[i].length ≤ 1048577 := hs _ (List.mem_map.2 ⟨_, List.getElem_mem hi, rfl⟩)
      refine Ev.step (fun k => by rw [laws_eqInt64SS.l0]) (Ev.pos (by omega) (Ev.pos (by omega) (Ev.pos (by omega) ?_)))
      rw [rdL x i hi, w64 (x := (i : Int) + 1) (by omega) (by omega)]
      exact Ev.bind (eqRow x[i] hn) (Ev.pos rfl (ih (i + 1) (by omega)))
  exact key x.length 0 (by omega)
/-! ### what a text says -/
def row : List ByteArray → List Int → Option (List Int)
  | [], acc => some acc
  | w :: ws, acc => match rdN w.data.toList with
    | some x => row ws (acc ++ [x])
    | none => none
theorem row_cons {w : ByteArray} {ws : List ByteArray} {acc : List Int} {x : Int} (h : rdN w.data.toList = some x) : row (w :: ws) acc = row ws (acc ++ [x]) := by rw [row, h]
theorem row_bad {w : ByteArray} {ws : List ByteArray} {acc : List Int} (h : rdN w.data.toList = none) : row (w :: ws) acc = none := by rw [row, h]
theorem row_len : ∀ (ws : List ByteArray) (acc b : List Int), row ws acc = some b → b.length = acc.length + ws.length
  | [], acc, b, h => by
    rw [row] at h
    rw [Option.some.inj h]; rfl
  | w :: ws, acc, b, h => by
    cases e : rdN w.data.toList with
    | none => rw [row_bad e] at h; cases h
    | some x =>
      rw [row_cons e] at h
      have := row_len ws _ b h
      rw [List.length_append] at this
      simp only [List.length_cons, List.length_nil] at this ⊢
      omega
def run : List ByteArray → List (List Int) → List (List Int) × Int
  | [], acc => (acc, 0)
  | l :: ls, acc => match row (words 32 l) [] with
    | some b => run ls (acc ++ [b])
    | none => ([], 5)
theorem run_cons {l : ByteArray} {ls : List ByteArray} {acc : List (List Int)} {b : List Int} (h : row (words 32 l) [] = some b) : run (l :: ls) acc = run ls (acc ++ [b]) := by rw [run, h]
theorem run_bad {l : ByteArray} {ls : List ByteArray} {acc : List (List Int)} (h : row (words 32 l) [] = none) : run (l :: ls) acc = ([], 5) := by rw [run, h]
theorem run_small : ∀ (ls : List ByteArray) (acc : List (List Int)), (∀ l ∈ ls, l.size ≤ 1048576) → small (acc.map (·.length)) → small ((run ls acc).1.map (·.length)) ∧ (run ls acc).1.length ≤ acc.length + ls.length
  | [], acc, _, h => ⟨h, Nat.le_refl _⟩
  | l :: ls, acc, hl, h => by
    cases e : row (words 32 l) [] with
    | none => rw [run_bad e]; exact ⟨fun n hn => by simp at hn, Nat.zero_le _⟩
    | some b =>
      rw [run_cons e]
      have hb := row_len _ _ _ e
      have hw := words_len 32 l
      have hs := hl l List.mem_cons_self
      rw [List.length_nil, Nat.zero_add] at hb
      have := run_small ls (acc ++ [b]) (fun x hx => hl x (List.mem_cons_of_mem _ hx)) (fun n hn => by
        rw [List.map_append, List.mem_append] at hn
        rcases hn with hn | hn
        · exact h n hn
        · rw [List.map_cons, List.map_nil, List.mem_singleton] at hn
          omega)
      rw [List.length_append] at this
      refine ⟨this.1, ?_⟩
      have := this.2
      simp only [List.length_cons, List.length_nil] at this ⊢
      omega
theorem rdE (xs : List ByteArray) (i : Nat) (h : i < xs.length) : rdOf ByteArray.empty xs (i : Int) = xs[i] := by
  unfold rdOf
  rw [Int.toNat_natCast, List.getD_eq_getElem?_getD, List.getElem?_eq_getElem h]; rfl
theorem specRow {lines : List ByteArray} {n i : Nat} {acc : List (List Int)} {ws : List ByteArray} (hl : ws.length ≤ 1048577) (hi : i ≤ 1048577) (ha : acc.length ≤ 1048577) {R : List (List Int) × Int} {ls : List ByteArray}
    (hR : ∀ b, Ev (fun k => spec_ReadBars.l0 k lines (n : Int) (acc ++ [b]) ((i + 1 : Nat) : Int)) (run ls (acc ++ [b]))) :
    ∀ (d j : Nat) (r : List Int), j + d = ws.length → r.length = j → Ev (fun k => spec_ReadBars.l1 k lines (n : Int) acc (i : Int) ws r (j : Int)) (match row (ws.drop j) r with | some b => run ls (acc ++ [b]) | none => ([], 5))
  | 0, j, r, h, hr => by
    refine Ev.step (fun k => by rw [spec_ReadBars.l1]) ?_
    rw [List.drop_of_length_le (by omega), row, w64 (x := (i : Int) + 1) (by omega) (by omega)]
    exact Ev.neg (by omega) (Ev.pos (by omega) (hR r))
  | d + 1, j, r, h, hr => by
    have hj : j < ws.length := by omega
    refine Ev.step (fun k => by rw [spec_ReadBars.l1]) ?_
    rw [rdE ws j hj, drop_at ws j hj, w64 (x := (j : Int) + 1) (by omega) (by omega)]
    refine Ev.pos (by omega) (Ev.pos (by omega) (Ev.bind (specNumber ws[j]) (Ev.ite (fun e => Ev.ite (fun e2 => ?_) (fun e2 => ?_)) (fun e => ?_))))
    · have hn : rdN ws[j].data.toList = none := by unfold rdN; rw [if_neg (fun q => by have := q.2; omega)]
      rw [row_bad hn]; exact Ev.fin rfl
    · have hn : rdN ws[j].data.toList = some (num ws[j].data.toList).1 := by unfold rdN; rw [if_pos ⟨e, by omega⟩]
      rw [row_cons hn]
      exact Ev.pos (by omega) (specRow hl hi ha hR (R := R) d (j + 1) _ (by omega) (by rw [List.length_append, hr]; rfl))
    · have hn : rdN ws[j].data.toList = none := by unfold rdN; rw [if_neg (fun q => e q.1)]
      rw [row_bad hn]; exact Ev.fin rfl
theorem specLoop {T : List ByteArray} {z : ByteArray} (hl : T.length ≤ 1048576) (hw : ∀ w ∈ T, w.size ≤ 1048576) : ∀ (d i : Nat) (acc : List (List Int)), i + d = T.length → acc.length = i → Ev (fun k => spec_ReadBars.l0 k (T ++ [z]) (T.length : Int) acc (i : Int)) (run (T.drop i) acc)
  | 0, i, acc, h, ha => by
    refine Ev.step (fun k => by rw [spec_ReadBars.l0]) ?_
    rw [List.drop_of_length_le (by omega), run]
    exact Ev.neg (by omega) (Ev.fin rfl)
  | d + 1, i, acc, h, ha => by
    have hi : i < T.length := by omega
    have hs := hw T[i] (List.getElem_mem hi)
    have hwl := words_len 32 T[i]
    have hln : (T ++ [z]).length = T.length + 1 := by simp
    have hg : (T ++ [z])[i]'(by omega) = T[i] := List.getElem_append_left hi
    refine Ev.step (fun k => by rw [spec_ReadBars.l0]) ?_
    rw [rdE (T ++ [z]) i (by omega), hg, drop_at T i hi]
    refine Ev.pos (by omega) (Ev.pos (by omega) (Ev.pos (by omega) (Ev.bind (a := words 32 T[i]) (specSplit 32 T[i] hs) ?_)))
    have := specRow (lines := T ++ [z]) (n := T.length) (i := i) (acc := acc) (ws := words 32 T[i]) (by omega) (by omega) (by omega) (R := ([], 5)) (ls := T.drop (i + 1)) (fun b => specLoop hl hw d (i + 1) _ (by omega) (by rw [List.length_append, ha]; rfl)) (words 32 T[i]).length 0 [] (by omega) rfl
    exact this
theorem implRow {lines : List ByteArray} {n i : Nat} {acc : List (List Int)} {ws : List ByteArray} (hl : ws.length ≤ 1048577) (hw : ∀ w ∈ ws, w.size ≤ 1048576) (hi : i ≤ 1048577) (ha : acc.length ≤ 1048577) {ls : List ByteArray}
    (hR : ∀ b, Ev (fun k => impl_ReadBars.l0 k (acc ++ [b]) lines (n : Int) ((i + 1 : Nat) : Int)) (run ls (acc ++ [b]))) :
    ∀ (d j : Nat) (r : List Int), j + d = ws.length → r.length = j → Ev (fun k => impl_ReadBars.l1 k acc r lines (n : Int) (i : Int) ws (ws.length : Int) (j : Int)) (match row (ws.drop j) r with | some b => run ls (acc ++ [b]) | none => ([], 5))
  | 0, j, r, h, hr => by
    refine Ev.step (fun k => by rw [impl_ReadBars.l1]) ?_
    rw [List.drop_of_length_le (by omega), row, w64 (x := (i : Int) + 1) (by omega) (by omega)]
    exact Ev.neg (by omega) (Ev.pos (by omega) (hR r))
  | d + 1, j, r, h, hr => by
    have hj : j < ws.length := by omega
    refine Ev.step (fun k => by rw [impl_ReadBars.l1]) ?_
    rw [rdE ws j hj, drop_at ws j hj, w64 (x := (j : Int) + 1) (by omega) (by omega)]
    refine Ev.pos (by omega) (Ev.pos (by omega) (Ev.pos (by omega) ?_))
    obtain ⟨n1, e1, g1⟩ := readD (a := ws[j]) (lo := 0) (hi := 13) (o := rdN ws[j].data.toList) (by omega) (by omega) (hw _ (List.getElem_mem hj)) (fun x => rdN_iff)
    refine Ev.nobind e1 ?_
    cases e : rdN ws[j].data.toList with
    | none => rw [row_bad e]; exact Ev.neg (fun h => by cases h) (Ev.fin rfl)
    | some x =>
      rw [row_cons e]
      refine Ev.pos rfl (Ev.pos (by omega) ?_)
      show Ev (fun k => impl_ReadBars.l1 k acc (r ++ [n1]) lines (n : Int) (i : Int) ws (ws.length : Int) ((j : Int) + 1)) _
      rw [g1 x e]
      exact implRow hl hw hi ha hR d (j + 1) _ (by omega) (by rw [List.length_append, hr]; rfl)
theorem implLoop {T : List ByteArray} (hl : T.length ≤ 1048577) (hw : ∀ w ∈ T, w.size ≤ 1048576) : ∀ (d i : Nat) (acc : List (List Int)), i + d = T.length → acc.length = i → Ev (fun k => impl_ReadBars.l0 k acc T (T.length : Int) (i : Int)) (run (T.drop i) acc)
  | 0, i, acc, h, ha => by
    refine Ev.step (fun k => by rw [impl_ReadBars.l0]) ?_
    rw [List.drop_of_length_le (by omega), run]
    exact Ev.neg (by omega) (Ev.fin rfl)
  | d + 1, i, acc, h, ha => by
    have hi : i < T.length := by omega
    have hs := hw T[i] (List.getElem_mem hi)
    have hwl := words_len 32 T[i]
    have hws := words_size 32 T[i]
    refine Ev.step (fun k => by rw [impl_ReadBars.l0]) ?_
    rw [rdE T i hi, drop_at T i hi]
    refine Ev.pos (by omega) (Ev.pos (by omega) (Ev.pos (by omega) (Ev.nobind (implSplit 32 T[i] hs) ?_)))
    exact implRow (lines := T) (n := T.length) (i := i) (acc := acc) (ws := words 32 T[i]) (by omega) (fun w hm => Nat.le_trans (hws w hm) hs) (by omega) (by omega) (ls := T.drop (i + 1)) (fun b => implLoop hl hw d (i + 1) _ (by omega) (by rw [List.length_append, ha]; rfl)) (words 32 T[i]).length 0 [] (by omega) rfl
/-! ### the last line -/
theorem parts_end (c : UInt8) : ∀ (l acc : List UInt8), parts c acc (l ++ [c]) = parts c acc l ++ [[]]
  | [], acc => by simp [parts]
  | b :: l, acc => by
    rw [List.cons_append, parts, parts]
    split
    · rw [parts_end c l, List.cons_append]
    · exact parts_end c l _
theorem parts_open (c b : UInt8) (h : ¬ b = c) : ∀ (l acc : List UInt8), ∃ p q, parts c acc (l ++ [b]) = p ++ [q ++ [b]]
  | [], acc => ⟨[], acc, by rw [List.nil_append, parts, if_neg h, parts]; rfl⟩
  | a :: l, acc => by
    rw [List.cons_append, parts]
    split
    · obtain ⟨p, q, e⟩ := parts_open c b h l []
      exact ⟨acc :: p, q, by rw [e]; rfl⟩
    · exact parts_open c b h l _
theorem suffix_snoc (m : List UInt8) (b : UInt8) : Lib.hasSuffix (m ++ [b]) [10] = (b == 10) := by
  unfold Lib.hasSuffix List.isSuffixOf
  rw [List.reverse_append]
  simp [List.isPrefixOf]
  exact Bool.beq_comm
def res (s : ByteArray) : List (List Int) × Int := if s.data.toList = [] then ([], 0) else if Lib.hasSuffix s.data.toList [10] = true then run (words 10 (mk (Lib.trimSuffix s.data.toList [10]))) [] else ([], 5)
theorem split_end {s : ByteArray} (h : s.data.toList ≠ []) : ∃ m b, s.data.toList = m ++ [b] := by
  rcases List.eq_nil_or_concat s.data.toList with h0 | ⟨m, b, h0⟩
  · exact absurd h0 h
  · exact ⟨m, b, by rw [h0, List.concat_eq_append]⟩
theorem trim_snoc (m : List UInt8) : Lib.trimSuffix (m ++ [10]) [10] = m := by
  unfold Lib.trimSuffix
  rw [suffix_snoc, if_pos (by decide)]
  simp
theorem specRes {s : ByteArray} (h : s.size ≤ 1048576) : Ev (fun k => spec_ReadBars.f k s) (res s) := by
  have hl := words_len 10 s
  have hw := words_size 10 s
  have hz := ba_size s
  -- the lines: those before the last, and the last
  have go : ∀ (T : List ByteArray) (z : ByteArray), words 10 s = T ++ [z] → Ev (fun k => spec_ReadBars.f k s) (if z.data.toList = [] then run T [] else ([], 5)) := by
    intro T z e
    rw [e] at hl hw
    have hln : (T ++ [z]).length = T.length + 1 := by simp
    have hlast : wrap64 (((T ++ [z]).length : Int) - 1) = (T.length : Int) := by rw [w64 (by omega) (by omega)]; omega
    unfold spec_ReadBars.f
    refine Ev.bind (a := T ++ [z]) (e ▸ specSplit 10 s h) ?_
    rw [hlast, rdE (T ++ [z]) T.length (by omega), List.getElem_concat_length rfl]
    have hzl : z.toList = z.data.toList := Lib.toList_data z
    rw [hzl]
    refine Ev.pos (by omega) (Ev.pos (by omega) (Ev.ite (fun c => ?_) (fun c => ?_)))
    · rw [if_pos c]
      exact specLoop (by omega) (fun w hm => Nat.le_trans (hw w (List.mem_append_left _ hm)) h) T.length 0 [] (by omega) rfl
    · rw [if_neg c]; exact Ev.fin rfl
  by_cases h0 : s.data.toList = []
  · have e : words 10 s = [] ++ [mk []] := by unfold words; rw [h0]; rfl
    have := go [] (mk []) e
    unfold res
    rw [if_pos h0]
    exact this
  · obtain ⟨m, b, hm⟩ := split_end h0
    unfold res
    rw [if_neg h0, hm, suffix_snoc]
    by_cases hb : b = 10
    · subst hb
      rw [if_pos (by decide), trim_snoc]
      have e : words 10 s = words 10 (mk m) ++ [mk []] := by
        unfold words
        rw [hm, parts_end, List.map_append, data_mk]; rfl
      exact go _ _ e
    · rw [if_neg (by rw [beq_iff_eq]; exact hb)]
      obtain ⟨p, q, hp⟩ := parts_open 10 b hb m []
      have e : words 10 s = p.map mk ++ [mk (q ++ [b])] := by
        unfold words
        rw [hm, hp, List.map_append]; rfl
      have := go _ _ e
      rw [if_neg (by rw [data_mk]; simp)] at this
      exact this
theorem trim_size (s : ByteArray) : (mk (Lib.trimSuffix s.data.toList [10])).size ≤ s.size := by
  rw [ba_size, ba_size, data_mk]
  unfold Lib.trimSuffix
  split
  · rw [List.length_take]; omega
  · exact Nat.le_refl _
theorem implRes {s : ByteArray} (h : s.size ≤ 1048576) : Ev (fun k => impl_ReadBars.f k s) (res s) := by
  have hz := ba_size s
  have htl : s.toList = s.data.toList := Lib.toList_data s
  unfold impl_ReadBars.f res
  rw [htl]
  refine Ev.nobind rfl (Ev.ite (fun e => ?_) (fun e => ?_))
  · rw [if_pos e]; exact Ev.fin rfl
  · rw [if_neg e]
    have hc : strings_CutSuffix.f s (⟨#[10]⟩ : ByteArray) = some (mk (Lib.trimSuffix s.data.toList [10]), Lib.hasSuffix s.data.toList [10]) := by
      unfold strings_CutSuffix.f
      rw [if_pos (by omega)]; rfl
    refine Ev.nobind hc (Ev.ite (fun c => ?_) (fun c => ?_))
    · rw [if_pos c]
      have ht := trim_size s
      have hl := words_len 10 (mk (Lib.trimSuffix s.data.toList [10]))
      have hw := words_size 10 (mk (Lib.trimSuffix s.data.toList [10]))
      refine Ev.nobind (implSplit 10 (mk (Lib.trimSuffix s.data.toList [10])) (by omega)) ?_
      exact implLoop (T := words 10 (mk (Lib.trimSuffix s.data.toList [10]))) (by omega) (fun w hm => Nat.le_trans (hw w hm) (by omega)) (words 10 (mk (Lib.trimSuffix s.data.toList [10]))).length 0 [] (by omega) rfl
    · rw [if_neg c]; exact Ev.fin rfl
theorem res_small {s : ByteArray} (h : s.size ≤ 1048576) : small ((res s).1.map (·.length)) ∧ (res s).1.length ≤ 1048577 := by
  unfold res
  split
  · exact ⟨fun n hn => by simp at hn, Nat.zero_le _⟩
  · split
    · have ht := trim_size s
      have hl := words_len 10 (mk (Lib.trimSuffix s.data.toList [10]))
      have hw := words_size 10 (mk (Lib.trimSuffix s.data.toList [10]))
      have := run_small (words 10 (mk (Lib.trimSuffix s.data.toList [10]))) [] (fun w hm => Nat.le_trans (hw w hm) (by omega)) (fun n hn => by simp at hn)
      rw [List.length_nil] at this
      exact ⟨this.1, by omega⟩
    · exact ⟨fun n hn => by simp at hn, Nat.zero_le _⟩
theorem FnExactReadBars : laws_FnExactReadBars.Pure := by
  intro a0 w0
  refine Ev.rounds (g := fun k => laws_FnExactReadBars.f k a0) ?_
  unfold laws_FnExactReadBars.f
  refine Ev.ite (fun _ => Ev.fin rfl) (fun h0 => ?_)
  have h : a0.size ≤ 1048576 := by omega
  obtain ⟨hsm, hj⟩ := res_small h
  have hs := specRes h
  have hi := implRes h
  generalize res a0 = v at hsm hj hs hi
  have hq := eqRows v.1 hj hsm
  have hl : (v.1.map (·.length)).length ≤ 1048577 := by rw [List.length_map]; exact hj
  have hh := heldRows (v.1.map (·.length)) hl hsm
  refine Ev.bind hs (Ev.bind hi (Ev.bind hq (Ev.pos rfl ?_)))
  refine Ev.step (fun k => by rw [laws_FnExactReadBars.j0]) ?_
  refine Ev.neg (by simp) ?_
  refine Ev.bind (markRows v.1 hj hsm) (Ev.bind hh ?_)
  refine Ev.neg (by omega) (Ev.pos rfl ?_)
  refine Ev.bind hi (Ev.bind hq (Ev.pos rfl ?_))
  refine Ev.step (fun k => by rw [laws_FnExactReadBars.j1]) ?_
  refine Ev.neg (by simp) (Ev.bind hh ?_)
  refine Ev.neg (by omega) ?_
  exact Ev.pos rfl (Ev.fin rfl)

end Go.Proofs.YtgbfbnlmnodpaaaDoor.Pure
