/-
  No cell of these rows narrows 'for every input' (looked for: loops, veiled, ifaces, maps, wideKeys, modest, calm, conditions, laid).
  DERIVED. THE GIVEN ROWS OF THIS SEAT. 4 by the template 'for every input the law returns true; each argument reads behind the call as it read before'; 0 by the template 'total and deterministic' (their statements: YtabflbpcdkhnaaaTotals.lean).
  GIVEN WITH THE SEED: the statements are not yours to turn. If you find one false, say at which input.
  Laid BY PROGRAM, IN A SANDBOX (cutbox-rows.mjs): the forced cells as the released guide's own fill.sh prints them over the translation 956c9615bad85a4d… (all of the seat's roots in one cut). By AI agents, Wed Nov 11 2026. No macro, syntax, notation, axiom, sorry.
-/
import Derived.Test.YtabflbpcdkhnaaaChecked
import GoSem.Claim
import GoSem.ClaimJoined
import GoSem.ClaimMapViews
import Derived.JoinedTies
import Derived.KernelRfl
namespace Go.Proofs.Ytabflbpcdkhnaaa
/- THE CELL 'sum', in the pinned program and in every row, IS THE sha256 OF THE DUMP (.gsa) THAT YtabflbpcdkhnaaaProg.lean LOADS. Nothing in Lean hashes anything: it is a label: what it is worth is what the hold of that sum in a sandbox is worth. -/
noncomputable def Try.pinned : Pinned := { name := "ytabflbpcdkhnaaa", sum := "956c9615bad85a4d0b7ed170a1a1cdc9796df97e7f81a3644e84f7f007c3f0f7", checked := Try.checked }
namespace Rows
def none {H : Type} : Left H := { results := [], args := [] }

/-- 'laws.FnExactBarUse': WHATEVER THE INPUT: true; the input reads as it did. -/
def fnExactBarUseSpec : ChangeSpec := { name := "fnExactBarUse", fn := fun _ => fun
  | [d1, d2, d3] => { results := [.lit (.bool true)], args := [d1, d2, d3] }
  | _ => none }
def fnExactBarUseRow : OpenClaim := { program := "ytabflbpcdkhnaaa", sum := "956c9615bad85a4d0b7ed170a1a1cdc9796df97e7f81a3644e84f7f007c3f0f7", func := "loop.example/g01322/laws.FnExactBarUse", spec := "fnExactBarUse", unfollowed := true, recurses := true, apart := false }
def FnExactBarUseSaid : Prop := fnExactBarUseRow.holds Try.pinned (OpenSpec.ofChange fnExactBarUseSpec)

/-- ITS FALSE NEIGHBOUR: 'it returns false'. Refute it at one input. -/
def fnExactBarUseWrong : ChangeSpec := { name := "fnExactBarUse", fn := fun _ => fun
  | [d1, d2, d3] => { results := [.lit (.bool false)], args := [d1, d2, d3] }
  | _ => none }
def FnExactBarUseWrongFalsely : Prop := fnExactBarUseRow.holds Try.pinned (OpenSpec.ofChange fnExactBarUseWrong)

/-- 'laws.FnExactBestLengths': WHATEVER THE INPUT: true; the input reads as it did. -/
def fnExactBestLengthsSpec : ChangeSpec := { name := "fnExactBestLengths", fn := fun _ => fun
  | [d1, d2, d3] => { results := [.lit (.bool true)], args := [d1, d2, d3] }
  | _ => none }
def fnExactBestLengthsRow : OpenClaim := { program := "ytabflbpcdkhnaaa", sum := "956c9615bad85a4d0b7ed170a1a1cdc9796df97e7f81a3644e84f7f007c3f0f7", func := "loop.example/g01322/laws.FnExactBestLengths", spec := "fnExactBestLengths", unfollowed := true, recurses := true, apart := false }
def FnExactBestLengthsSaid : Prop := fnExactBestLengthsRow.holds Try.pinned (OpenSpec.ofChange fnExactBestLengthsSpec)

/-- ITS FALSE NEIGHBOUR: 'it returns false'. Refute it at one input. -/
def fnExactBestLengthsWrong : ChangeSpec := { name := "fnExactBestLengths", fn := fun _ => fun
  | [d1, d2, d3] => { results := [.lit (.bool false)], args := [d1, d2, d3] }
  | _ => none }
def FnExactBestLengthsWrongFalsely : Prop := fnExactBestLengthsRow.holds Try.pinned (OpenSpec.ofChange fnExactBestLengthsWrong)

/-- 'laws.FnExactCheckBars': WHATEVER THE INPUT: true; the input reads as it did. -/
def fnExactCheckBarsSpec : ChangeSpec := { name := "fnExactCheckBars", fn := fun _ => fun
  | [d1, d2, d3, d4] => { results := [.lit (.bool true)], args := [d1, d2, d3, d4] }
  | _ => none }
def fnExactCheckBarsRow : OpenClaim := { program := "ytabflbpcdkhnaaa", sum := "956c9615bad85a4d0b7ed170a1a1cdc9796df97e7f81a3644e84f7f007c3f0f7", func := "loop.example/g01322/laws.FnExactCheckBars", spec := "fnExactCheckBars", unfollowed := true, recurses := true, apart := false }
def FnExactCheckBarsSaid : Prop := fnExactCheckBarsRow.holds Try.pinned (OpenSpec.ofChange fnExactCheckBarsSpec)

/-- ITS FALSE NEIGHBOUR: 'it returns false'. Refute it at one input. -/
def fnExactCheckBarsWrong : ChangeSpec := { name := "fnExactCheckBars", fn := fun _ => fun
  | [d1, d2, d3, d4] => { results := [.lit (.bool false)], args := [d1, d2, d3, d4] }
  | _ => none }
def FnExactCheckBarsWrongFalsely : Prop := fnExactCheckBarsRow.holds Try.pinned (OpenSpec.ofChange fnExactCheckBarsWrong)

/-- 'laws.FnExactWasteOf': WHATEVER THE INPUT: true; the input reads as it did. -/
def fnExactWasteOfSpec : ChangeSpec := { name := "fnExactWasteOf", fn := fun _ => fun
  | [d1, d2, d3, d4] => { results := [.lit (.bool true)], args := [d1, d2, d3, d4] }
  | _ => none }
def fnExactWasteOfRow : OpenClaim := { program := "ytabflbpcdkhnaaa", sum := "956c9615bad85a4d0b7ed170a1a1cdc9796df97e7f81a3644e84f7f007c3f0f7", func := "loop.example/g01322/laws.FnExactWasteOf", spec := "fnExactWasteOf", unfollowed := true, recurses := true, apart := false }
def FnExactWasteOfSaid : Prop := fnExactWasteOfRow.holds Try.pinned (OpenSpec.ofChange fnExactWasteOfSpec)

/-- ITS FALSE NEIGHBOUR: 'it returns false'. Refute it at one input. -/
def fnExactWasteOfWrong : ChangeSpec := { name := "fnExactWasteOf", fn := fun _ => fun
  | [d1, d2, d3, d4] => { results := [.lit (.bool false)], args := [d1, d2, d3, d4] }
  | _ => none }
def FnExactWasteOfWrongFalsely : Prop := fnExactWasteOfRow.holds Try.pinned (OpenSpec.ofChange fnExactWasteOfWrong)

/- THE SECOND FORM. 'bulk': how many values and letters a reading holds, each counted each time it is reached (what is shared counts as often as it is met; a slice's spare places count too). A statement '..UptoSaid' is the law's where the arguments, and the package variables that the reading takes, are together of bulk at most 1048576: NARROWER than '..Said'. Prove '..Said' where nothing that the law and all that it calls make is longer than what came in: it says more and counts as full. Else prove '..UptoSaid'. A law counts once. -/
mutual
def uptoBulk {H : Type} : DataW H → Nat
  | .lit (.string bytes) => bytes.length + 1
  | .lit _ => 1
  | .nil => 1
  | .ptr d => uptoBulk d + 1
  | .slice elems spare => uptoBulkAll elems + uptoBulkAll spare + 1
  | .agg parts => uptoBulkAll parts + 1
  | .iface _ d => uptoBulk d + 1
  | .map entries => uptoBulkEntries entries + 1
  | .held _ => 1
def uptoBulkAll {H : Type} : List (DataW H) → Nat
  | [] => 0
  | d :: r => uptoBulk d + uptoBulkAll r
def uptoBulkEntries {H : Type} : List (Lit × DataW H) → Nat
  | [] => 0
  | x :: r => uptoBulkEntry x + uptoBulkEntries r
def uptoBulkEntry {H : Type} : Lit × DataW H → Nat
  | (.string bytes, d) => bytes.length + uptoBulk d + 1
  | (_, d) => uptoBulk d + 1
 end
def uptoSmall : (H : Type) → List (DataW H) → Bool := fun _ ds => decide (uptoBulkAll ds ≤ 1048576)
def OpenSpec.upto (s : _root_.Go.ChangeSpec) : _root_.Go.OpenSpec := { _root_.Go.OpenSpec.ofChange s with cond := some uptoSmall }

/-- 'laws.FnExactBarUse', WHERE WHAT IT READS IS OF BULK AT MOST 1048576: true; the input reads as it did. -/
def fnExactBarUseUptoRow : OpenClaim := { program := "ytabflbpcdkhnaaa", sum := "956c9615bad85a4d0b7ed170a1a1cdc9796df97e7f81a3644e84f7f007c3f0f7", func := "loop.example/g01322/laws.FnExactBarUse", spec := "fnExactBarUse", unfollowed := true, recurses := true, apart := false, narrowed := true }
def FnExactBarUseUptoSaid : Prop := fnExactBarUseUptoRow.holds Try.pinned (OpenSpec.upto fnExactBarUseSpec)

/-- 'laws.FnExactBestLengths', WHERE WHAT IT READS IS OF BULK AT MOST 1048576: true; the input reads as it did. -/
def fnExactBestLengthsUptoRow : OpenClaim := { program := "ytabflbpcdkhnaaa", sum := "956c9615bad85a4d0b7ed170a1a1cdc9796df97e7f81a3644e84f7f007c3f0f7", func := "loop.example/g01322/laws.FnExactBestLengths", spec := "fnExactBestLengths", unfollowed := true, recurses := true, apart := false, narrowed := true }
def FnExactBestLengthsUptoSaid : Prop := fnExactBestLengthsUptoRow.holds Try.pinned (OpenSpec.upto fnExactBestLengthsSpec)

/-- 'laws.FnExactCheckBars', WHERE WHAT IT READS IS OF BULK AT MOST 1048576: true; the input reads as it did. -/
def fnExactCheckBarsUptoRow : OpenClaim := { program := "ytabflbpcdkhnaaa", sum := "956c9615bad85a4d0b7ed170a1a1cdc9796df97e7f81a3644e84f7f007c3f0f7", func := "loop.example/g01322/laws.FnExactCheckBars", spec := "fnExactCheckBars", unfollowed := true, recurses := true, apart := false, narrowed := true }
def FnExactCheckBarsUptoSaid : Prop := fnExactCheckBarsUptoRow.holds Try.pinned (OpenSpec.upto fnExactCheckBarsSpec)

/-- 'laws.FnExactWasteOf', WHERE WHAT IT READS IS OF BULK AT MOST 1048576: true; the input reads as it did. -/
def fnExactWasteOfUptoRow : OpenClaim := { program := "ytabflbpcdkhnaaa", sum := "956c9615bad85a4d0b7ed170a1a1cdc9796df97e7f81a3644e84f7f007c3f0f7", func := "loop.example/g01322/laws.FnExactWasteOf", spec := "fnExactWasteOf", unfollowed := true, recurses := true, apart := false, narrowed := true }
def FnExactWasteOfUptoSaid : Prop := fnExactWasteOfUptoRow.holds Try.pinned (OpenSpec.upto fnExactWasteOfSpec)

end Rows
end Go.Proofs.Ytabflbpcdkhnaaa
