/- What the reference's HullOf comes to. -/
import Derived.Test.YtgefjglbaekegaaGeoAll
import Derived.Test.YtgefjglbaekegaaSeamKit
import Derived.Test.YtgefjglbaekegaaPAxf14
import Derived.Test.YtgefjglbaekegaaPAxf16
import Derived.Test.YtgefjglbaekegaaPAxf5
import Derived.Test.YtgefjglbaekegaaPAxgSpec
namespace Go.Proofs.Ytgefjglbaekegaa.HullSpec
set_option linter.unusedSimpArgs false
set_option linter.unusedVariables false
open Go.RowKit Go.Proofs.Ytgefjglbaekegaa.PA Go.Proofs.Ytgefjglbaekegaa.Base Go.Proofs.Ytgefjglbaekegaa.StonesKit Go.Proofs.Ytgefjglbaekegaa.Geo Go.Proofs.Ytgefjglbaekegaa.SeamKit Go.Proofs.Ytgefjglbaekegaa.HullWrap Go.Proofs.YtgefjglbaekegaaW.PrintWords Go.Proofs.YtgefjglbaekegaaW.PrintLast Go.Proofs.YtgefjglbaekegaaW.PrintMore

theorem placed_sm {c : S37} : placed c = true ↔ Sm c := by
  unfold placed Sm
  rw [Bool.and_eq_true, inB_iff, inB_iff]
theorem specLess (a b : S37) : spec_l03Before.f a.f0 a.f1 b.f0 b.f1 = some (lt a b) := by
  unfold spec_l03Before.f lt
  by_cases h1 : a.f0 < b.f0
  · rw [if_pos h1, decide_eq_true h1, Bool.true_or]
  · rw [if_neg h1, decide_eq_false h1, Bool.false_or]
    by_cases h2 : a.f0 = b.f0
    · rw [if_pos h2, decide_eq_true h2, Bool.true_and]
    · rw [if_neg h2, decide_eq_false h2, Bool.false_and]
theorem beq_c (a b : S37) : ((a.f0 == b.f0 && (a.f1 == b.f1)) = true) ↔ a = b := by
  rw [Bool.and_eq_true, beq_iff_eq, beq_iff_eq]
  exact ⟨fun h => HullGeo.ext h.1 h.2, fun h => h ▸ ⟨rfl, rfl⟩⟩
def endR (vs : List S37) : List S37 × Int := if vs.length < 3 then ([], 4) else if vs.length > 8 then ([], 3) else (vs, 0)
def hullRes (l : List S37) : List S37 × Int := if l.length > 100 then ([], 2) else if l.all placed = true then (if l = [] then ([], 4) else endR (round l)) else ([], 2)
theorem nxt_mem : ∀ (T : List S37) (o n : S37), T.foldl (fun n c => upd o c n) n = n ∨ T.foldl (fun n c => upd o c n) n ∈ T
  | [], o, n => Or.inl rfl
  | c :: T, o, n => by
    rw [List.foldl_cons]
    have hu : upd o c n = n ∨ upd o c n = c := by
      unfold upd
      split
      · exact Or.inl rfl
      · split
        · exact Or.inr rfl
        · exact Or.inl rfl
    rcases nxt_mem T o (upd o c n) with h | h
    · rcases hu with hu | hu
      · left; rw [h, hu]
      · right; rw [h, hu]; exact List.mem_cons_self
    · exact Or.inr (List.mem_cons_of_mem _ h)
theorem scan3 {l out : List S37} {f now : S37} (hl : l.length ≤ 100) (hS : ∀ c ∈ l, Sm c) (hn : Sm now) (r : List S37 × Int)
    (h : Ev (fun k => spec_HullOf.l3 k l out (l.length : Int) f.f0 f.f1 now.f0 now.f1 (nxt l now).f0 (nxt l now).f1) r) : Ev (fun k => spec_HullOf.l3 k l out 0 f.f0 f.f1 now.f0 now.f1 now.f0 now.f1) r := by
  refine fold_cps0 l (fun c n => upd now c n) (fun k (n : S37) i => spec_HullOf.l3 k l out i f.f0 f.f1 now.f0 now.f1 n.f0 n.f1) r (fun _ n => Sm n) now hn (fun n i hi hv => ?_) (fun n i hi hv hr => ?_) (fun _ => h)
  · show Sm (upd now l[i] n)
    unfold upd
    split
    · exact hv
    · split
      · exact hS _ (List.getElem_mem hi)
      · exact hv
  · have hc := hS _ (List.getElem_mem hi)
    have hr : Ev (fun k => spec_HullOf.l3 k l out ((i + 1 : Nat) : Int) f.f0 f.f1 now.f0 now.f1 (upd now l[i] n).f0 (upd now l[i] n).f1) r := hr
    refine Ev.step (fun k => by rw [spec_HullOf.l3]) (Ev.pos (by omega) (Ev.pos (by omega) ?_))
    rw [rdC l i hi, w64 (x := (i : Int) + 1) (by omega) (by omega)]
    unfold upd at hr
    refine Ev.ite (fun e => ?_) (fun e => ?_)
    · rw [if_pos ((beq_c _ _).1 e)] at hr; exact hr
    · have e' : ¬ l[i] = now := fun g => e ((beq_c _ _).2 g)
      rw [if_neg e'] at hr
      refine Ev.nobind (specSide now n l[i]) (Ev.ite (fun q => ?_) (fun q => ?_))
      · rw [if_pos (show better now n l[i] from Or.inl ((beq_c _ _).1 q))] at hr; exact hr
      · have q' : ¬ n = now := fun g => q ((beq_c _ _).2 g)
        rw [sd_cr hn hv hc]
        refine Ev.ite (fun z => ?_) (fun z => ?_)
        · rw [if_pos (show better now n l[i] from Or.inr (Or.inl z))] at hr; exact hr
        · refine Ev.ite (fun y => ?_) (fun y => ?_)
          · refine Ev.nobind (specBetween hv hn hc) (Ev.ite (fun x => ?_) (fun x => ?_))
            · rw [if_pos (show better now n l[i] from Or.inr (Or.inr ⟨y, of_decide_eq_true x⟩))] at hr; exact hr
            · rw [if_neg (fun (g : better now n l[i]) => by
                rcases g with g | g | g
                · exact q' g
                · exact z g
                · exact x (decide_eq_true g.2))] at hr
              exact hr
          · rw [if_neg (fun (g : better now n l[i]) => by
              rcases g with g | g | g
              · exact q' g
              · exact z g
              · exact y g.1)] at hr
            exact hr
theorem wrap2 {l : List S37} {f : S37} (hl : l.length ≤ 100) (hS : ∀ c ∈ l, Sm c) (hf : f ∈ l) (hk : ∀ c ∈ l, c = f ∨ key f < key c) : ∀ (d : Nat) (now : S37) (out : List S37), out.length + d = l.length → Pth l f (out ++ [now]) → Ev (fun k => spec_HullOf.l2 k l out f.f0 f.f1 now.f0 now.f1) (endR (wrapL l f d now out))
  | 0, now, out, h, hp => by
    have := nodup_le hp.nd hp.mem
    rw [List.length_append, List.length_singleton] at this
    omega
  | d + 1, now, out, h, hp => by
    have hnow : now ∈ l := hp.mem _ (List.mem_append_right _ List.mem_cons_self)
    obtain ⟨a, b, hs⟩ := side_at hS hk hp out.length (by simp)
    rw [at_snoc] at hs
    have hlast : HullWrap.at_ (out ++ [now]) ((out ++ [now]).length - 1) = now := by
      rw [List.length_append, List.length_singleton, Nat.add_sub_cancel, at_snoc]
    refine Ev.step (fun k => by rw [spec_HullOf.l2]) (Ev.pos (by omega) ?_)
    rw [show (⟨now.f0, now.f1⟩ : S37) = now from rfl]
    refine scan3 hl hS (hS _ hnow) _ ?_
    refine Ev.step (fun k => by rw [spec_HullOf.l3]) (Ev.neg (by omega) ?_)
    have hlen : ((out ++ [now]).length : Int) = (out.length : Int) + 1 := by rw [List.length_append, List.length_singleton]; omega
    rw [wrapL]
    refine Ev.ite (fun e => ?_) (fun e => ?_)
    · have e' := (beq_c _ _).1 e
      rw [if_pos e']
      unfold endR
      refine Ev.ite (fun q => ?_) (fun q => ?_)
      · rw [if_pos (show (out ++ [now]).length < 3 by omega)]; exact Ev.fin rfl
      · rw [if_neg (show ¬ (out ++ [now]).length < 3 by omega)]
        refine Ev.ite (fun z => ?_) (fun z => ?_)
        · rw [if_pos (show (out ++ [now]).length > 8 by omega)]; exact Ev.fin rfl
        · rw [if_neg (show ¬ (out ++ [now]).length > 8 by omega)]; exact Ev.fin rfl
    · have e' : ¬ nxt l now = f := fun g => e ((beq_c _ _).2 g)
      rw [if_neg e']
      rcases nxt_is hs with q | q
      · exfalso
        have := q.2 f hf
        exact e' (q.1.trans this.symm)
      · exact wrap2 hl hS hf hk d _ _ (by rw [List.length_append, List.length_singleton]; omega) (path_snoc hp (by rw [hlast]; exact q) e')
theorem specHull {l : List S37} (hf : Fit l) : Ev (fun k => spec_HullOf.f k l) (hullRes l) := by
  unfold spec_HullOf.f hullRes
  refine Ev.ite (fun e => ?_) (fun e => ?_)
  · rw [if_pos (by omega)]; exact Ev.fin rfl
  · rw [if_neg (by omega)]
    have hl : l.length ≤ 100 := by omega
    rw [← all_range l z37 placed]
    refine rangeAll_ev0 (fun k i => spec_HullOf.l0 k l i) l.length (fun i => placed (l.getD i z37)) _ _ ?_ ?_ ?_
    · intro i hi hp r' hr
      refine Ev.step (fun k => by rw [spec_HullOf.l0]) (Ev.pos (by omega) (Ev.pos (by omega) ?_))
      rw [rdC l i hi, w64 (x := (i : Int) + 1) (by omega) (by omega)]
      refine Ev.nobind (specCorner (hf _ (List.getElem_mem hi))) (Ev.pos ?_ hr)
      simpa [List.getD_eq_getElem?_getD, hi] using hp
    · intro i hi hp
      refine Ev.step (fun k => by rw [spec_HullOf.l0]) (Ev.pos (by omega) (Ev.pos (by omega) ?_))
      rw [rdC l i hi]
      refine Ev.nobind (specCorner (hf _ (List.getElem_mem hi))) (Ev.neg ?_ (Ev.fin rfl))
      have : placed l[i] = false := by simpa [List.getD_eq_getElem?_getD, hi] using hp
      rw [this]; decide
    · intro hall
      rw [all_range l z37 placed, List.all_eq_true] at hall
      have hS : ∀ c ∈ l, Sm c := fun c hc => placed_sm.1 (hall c hc)
      refine Ev.step (fun k => by rw [spec_HullOf.l0]) (Ev.neg (by omega) (Ev.ite (fun z => ?_) (fun z => ?_)))
      · rw [if_pos (List.eq_nil_of_length_eq_zero (by omega))]; exact Ev.fin rfl
      · have hne : l ≠ [] := fun g => z (by rw [g]; rfl)
        rw [if_neg hne]
        refine Ev.pos (by omega) ?_
        have h0 : 0 < l.length := by omega
        have r0 : rd_T37 l 0 = l[0] := rdC l 0 h0
        rw [r0]
        obtain ⟨x, t, ht⟩ : ∃ x t, l = x :: t := by
          cases l with
          | nil => exact absurd rfl hne
          | cons x t => exact ⟨x, t, rfl⟩
        have hx : l[0] = x := by simp [ht]
        have key1 : Ev (fun k => spec_HullOf.l1 k l ((1 : Nat) : Int) l[0].f0 l[0].f1) (endR (round l)) := by
          refine fold_cps l (fun c m => if lt c m = true then c else m) (fun k (m : S37) i => spec_HullOf.l1 k l i m.f0 m.f1) _ (fun _ _ => True) (fun _ _ _ _ => trivial) (fun m i hi _ hr => ?_) (l.length - 1) 1 l[0] (by omega) trivial (fun _ => ?_)
          · have hr : Ev (fun k => spec_HullOf.l1 k l ((i + 1 : Nat) : Int) (if lt l[i] m = true then l[i] else m).f0 (if lt l[i] m = true then l[i] else m).f1) (endR (round l)) := hr
            refine Ev.step (fun k => by rw [spec_HullOf.l1]) (Ev.pos (by omega) (Ev.pos (by omega) ?_))
            rw [rdC l i hi, w64 (x := (i : Int) + 1) (by omega) (by omega)]
            refine Ev.nobind (specLess _ _) (Ev.ite (fun q => ?_) (fun q => ?_))
            · rw [if_pos q] at hr; exact hr
            · rw [if_neg q] at hr; exact hr
          · have hfi : (l.drop 1).foldl (fun m c => if lt c m = true then c else m) l[0] = first l := by
              rw [hx, ht]; rfl
            obtain ⟨h1, h2⟩ := first_is hS hne
            show Ev (fun k => spec_HullOf.l1 k l (l.length : Int) ((l.drop 1).foldl (fun m c => if lt c m = true then c else m) l[0]).f0 ((l.drop 1).foldl (fun m c => if lt c m = true then c else m) l[0]).f1) _
            rw [hfi]
            refine Ev.step (fun k => by rw [spec_HullOf.l1]) (Ev.neg (by omega) ?_)
            refine wrap2 hl hS h1 h2 l.length (first l) [] (by simp) ⟨by simp, rfl, by simp, fun y hy => ?_, fun i hi => ?_⟩
            · rw [List.nil_append, List.mem_singleton] at hy
              rw [hy]; exact h1
            · simp at hi
        exact key1
/-- What is told as a hull is a stone. -/
theorem hull_ok {l vs : List S37} (h : hullRes l = (vs, 0)) : okS vs = true ∧ vs.length ≤ l.length ∧ (∀ x ∈ vs, x ∈ l) ∧ Hul l (first l) vs ∧ (∀ c ∈ l, Sm c) := by
  unfold hullRes at h
  split at h
  · simp at h
  · split at h
    · rename_i h1 h2
      have hS : ∀ c ∈ l, Sm c := fun c hc => placed_sm.1 (List.all_eq_true.1 h2 c hc)
      split at h
      · simp at h
      · rename_i hne
        unfold endR at h
        split at h
        · simp at h
        · split at h
          · simp at h
          · rename_i h3 h4
            simp only [Prod.mk.injEq, and_true] at h
            have hm : ∃ c ∈ l, c ≠ first l := by
              by_cases c : ∃ c ∈ l, c ≠ first l
              · exact c
              · rw [round_one hS hne c] at h3; simp at h3
            have hh := round_is hS hne hm
            rw [h] at hh h3 h4
            refine ⟨?_, nodup_le hh.path.nd hh.path.mem, hh.path.mem, hh, hS⟩
            unfold okS
            rw [Bool.and_eq_true, Bool.and_eq_true, inB_iff]
            refine ⟨⟨by omega, ?_⟩, ?_⟩
            · rw [List.all_eq_true]
              exact fun c hc => placed_sm.2 (hS c (hh.path.mem c hc))
            · unfold convB
              rw [List.all_eq_true]
              intro i hi
              rw [List.all_eq_true]
              intro j hj
              rw [List.mem_range] at hi hj
              unfold cvx
              rw [Bool.or_eq_true, Bool.or_eq_true, decide_eq_true_eq, decide_eq_true_eq, decide_eq_true_eq]
              by_cases e1 : j = i
              · exact Or.inl (Or.inl e1)
              · by_cases e2 : j = (i + 1) % vs.length
                · exact Or.inl (Or.inr e2)
                · right
                  have hn : (i + 1) % vs.length < vs.length := Nat.mod_lt _ (by omega)
                  have sm : ∀ {q : Nat}, q < vs.length → Sm (StonesKit.at_ vs q) := fun hq => hS _ (hh.path.mem _ (at_mem hq))
                  rw [sd_cr (sm hi) (sm hn) (sm hj)]
                  exact hh.convex hi hj e1 e2
    · simp at h
end Go.Proofs.Ytgefjglbaekegaa.HullSpec
