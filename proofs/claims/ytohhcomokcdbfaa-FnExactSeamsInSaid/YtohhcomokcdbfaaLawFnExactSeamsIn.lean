/- Written by a program of this session out of the translation: pure functions, and that Go's functions come to them. -/
import Derived.Test.YtohhcomokcdbfaaRows
import Derived.Test.YtohhcomokcdbfaaPAxf4
import Derived.Test.YtohhcomokcdbfaaPureFnExactSeamsIn
import Derived.Test.YtohhcomokcdbfaaOpens
import Derived.WalkKit
import Derived.ProofKit
import Derived.OpenShut
import Derived.ShutString
import Derived.ChangeOld
import Derived.Below
import Derived.SizedLaws
import Derived.Lib.SmallJoins
import Derived.Test.YtohhcomokcdbfaaWSized
namespace Go.Proofs.Ytohhcomokcdbfaa.fnExactSeamsIn
open Go.ChangeShapes Go.WideShapes Go.ChangeAt Go.RowKit
open Go.ChangeMaps (open_string shut_string)
open Go.Proofs.YtohhcomokcdbfaaW Go.Proofs.YtohhcomokcdbfaaW.PrintWords Go.Proofs.Ytohhcomokcdbfaa.PA
set_option linter.unusedVariables false
theorem own : ownKnob Try.prog.godebug = none := by kernel_rfl
theorem laidOut : laidOutB Try.prog = true := by kernel_rfl
def IsRow (k : IntKind) (w : World) (a : Option Addr) (len cap : Nat) (zs : List Int) : Prop :=
  (a = none ∧ len = 0 ∧ cap = 0 ∧ zs = []) ∨
  ∃ x, a = some x ∧ len ≤ cap ∧ cap ≤ maxLen ∧ zs.length = cap ∧ (∀ i, i < zs.length → w.cell? (x.add i) = some (.int k (zs.getD i 0))) ∧ ∀ n ∈ zs, (Lit.int k n).wf = true
set_option maxRecDepth 100000 in
theorem lifted (os : Os) (started : os.Started) (H : Type) (enc : TypeId × Value → H) :
    ReturnsInHanded {} Try.checked os 4 .any (Rows.fnExactSeamsInSpec.pre6 enc Try.prog Try.f4 Rows.fnExactSeamsInRow.domain false) (Rows.fnExactSeamsInSpec.post enc Try.prog Try.f4 false true false false) := by
  refine returnsInHanded_of_change_sized (C := Try.checked) own started (by kernel_rfl) Try.func4
    (ChangeSpec.witness6 (enc := enc) (C := Try.checked) false ⟨#[], #[.agg #[.int .i16 0, .int .i16 0], .slice none 0 0], []⟩ 8 (by kernel_rfl) (by kernel_rfl) (by kernel_rfl) (by kernel_rfl)) ?_
  intro W base args ds gs before hval0 hW hcnd hsz0 _
  have hsz : (DataW.weightsEach Try.prog (Try.f4.params.toList ++ Rows.fnExactSeamsInSpec.plain.varTypes Try.prog) (ds ++ gs)).all (· ≤ reachBytes) = true := hsz0
  have hval : ∀ (j : Nat) t v, Try.f4.params[j]? = some t → args[j]? = some v → Value.okWide Try.prog W .any base t v := hval0
  have hW' := hW
  obtain ⟨p, q, hA0, hV, rfl, hfz, hnd⟩ := hW
  have hA : DataW.TrodAll enc Try.prog W 0 (fun _ => true) true Try.f4.params.toList args.toList ds p := hA0
  rw [Try.params4] at hA hval hsz
  obtain ⟨v0, vs0, d0, ds0, p0, q0, hargs, rfl, rfl, h0, r0⟩ := trodAll_cons hA
  obtain ⟨v1, vs1, d1, ds1, p1, q1, rfl, rfl, rfl, h1, r1⟩ := trodAll_cons r0
  obtain ⟨rfl, rfl, rfl⟩ := trodAll_nil r1
  obtain rfl : args = #[v0, v1] := by cases args; simp_all
  obtain ⟨rfl, rfl⟩ := trodVars_none hV
  have k0 := h0
  have lt0 : ∀ x ∈ p0, x.block < W.heap.size := by obtain ⟨m, hm⟩ := k0; exact DataW.trod_lt m _ _ _ hm
  obtain ⟨u0_0, u0_1, y0_0, y0_1, nn0, rfl, hd0, hp0, t0_0, t0_1⟩ := Joins.open_agg2 Try.underlying33 (by kernel_rfl) (by kernel_rfl) (hval 0 33 v0 rfl rfl) h0
  obtain ⟨a0_0, e0_0, w0_0⟩ := Opens.opn_int Try.underlying31 _ _ _ t0_0
  cases e0_0
  obtain ⟨a0_1, e0_1, w0_1⟩ := Opens.opn_int Try.underlying31 _ _ _ t0_1
  cases e0_1
  obtain ⟨a1, len1, cap1, rfl⟩ := okWide_slice Try.underlying34 (hval 1 34 v1 rfl rfl)
  have k1 := h1
  have lt1 : ∀ x ∈ p1, x.block < W.heap.size := by obtain ⟨m, hm⟩ := k1; exact DataW.trod_lt m _ _ _ hm
  obtain ⟨l1, w1, y1⟩ : ∃ l : List (List (S57)), (Kd.slice 22 (Kd.slice 57 k57)).K W l [.slice a1 len1 cap1] ∧ l.length ≤ maxLen ∧ ∀ x0 ∈ l, x0.length ≤ maxLen ∧ ∀ x1 ∈ x0, (Lit.int .i16 x1.f0).wf = true ∧ (Lit.int .i16 x1.f1).wf = true := by
    obtain ⟨fuel, hf⟩ := h1
    exact (Opens.opn_slice Try.underlying34 (by kernel_rfl) (Opens.opn_slice Try.underlying22 (by kernel_rfl) (fun fuel cs x h => by obtain ⟨n0, n1, rfl, w0, w1⟩ := Opens.opn_cells2 Try.underlying57 (by kernel_rfl) rfl rfl (by kernel_rfl) (by kernel_rfl) Try.underlying31 Try.underlying31 h; exact ⟨⟨n0, n1⟩, k57_mk _ _, w0, w1⟩))) fuel _ _ (by simpa [Value.cells] using hf)
  clear hA0 hval0 hsz0 hsz
  refine (PA.laws_FnExactSeamsIn.walk Pure.FnExactSeamsIn a0_0 a0_1 a1 len1 cap1 l1 W w0_0 w0_1 w1 y1).mono fun e W' ⟨he, bel⟩ => ?_
  subst he
  exact ⟨_, rfl, _, _, _, [], _, [], hW', trodAll_mk1 (shut_bool Try.underlying4 _), (trodAll_cons_mk (Below.trod laidOut (by kernel_rfl) (of_decide_eq_true (by kernel_rfl)) k0 bel lt0) (trodAll_cons_mk (Below.trod laidOut (by kernel_rfl) (of_decide_eq_true (by kernel_rfl)) k1 bel lt1) trodAll_mk0)), rfl, bel.frame _, fun h => by cases h⟩
theorem over : Rows.fnExactSeamsInRow.holds Try.pinned (OpenSpec.ofChange Rows.fnExactSeamsInSpec) :=
  OpenClaim.holds_of_wide 4 Try.f4 rfl rfl rfl rfl rfl rfl rfl ⟨rfl, rfl, rfl, rfl, rfl⟩ rfl rfl rfl rfl rfl (by kernel_rfl) Try.func4 (by kernel_rfl)
    (of_decide_eq_true (by kernel_rfl)) (by unfold Func.isWrapper; first | (rw [if_pos (by decide +kernel)]; kernel_rfl) | (rw [if_neg (by decide +kernel)]; exact ⟨rfl, rfl⟩))
    (fun os started H enc _ => lifted os started H enc)
theorem proved : Rows.FnExactSeamsInSaid := over
#print axioms proved
end Go.Proofs.Ytohhcomokcdbfaa.fnExactSeamsIn
namespace Go.Proofs.Ytohhcomokcdbfaa
/-- The row, under a short name, for the claim. -/
theorem fnExactSeamsIn_holds : Rows.FnExactSeamsInSaid := fnExactSeamsIn.proved
end Go.Proofs.Ytohhcomokcdbfaa
