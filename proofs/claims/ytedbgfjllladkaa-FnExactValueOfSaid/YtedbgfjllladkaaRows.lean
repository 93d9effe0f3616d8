/-
  No cell of these rows narrows 'for every input' (looked for: loops, veiled, ifaces, maps, wideKeys, modest, calm, conditions, laid).
  DERIVED. THE GIVEN ROWS OF THIS SEAT. 9 by the template 'for every input the law returns true; each argument reads behind the call as it read before'; 0 by the template 'total and deterministic' (their statements: YtedbgfjllladkaaTotals.lean).
  GIVEN WITH THE SEED: the statements are not yours to turn. If you find one false, say at which input.
  Laid BY PROGRAM, IN A SANDBOX (cutbox-rows.mjs): the forced cells as the released guide's own fill.sh prints them over the translation 2c132edb64efa91f… (all of the seat's roots in one cut). By AI agents, Wed Nov 11 2026. No macro, syntax, notation, axiom, sorry.
-/
import Derived.Test.YtedbgfjllladkaaChecked
import GoSem.Claim
import GoSem.ClaimJoined
import GoSem.ClaimMapViews
import Derived.JoinedTies
import Derived.KernelRfl
namespace Go.Proofs.Ytedbgfjllladkaa
/- THE CELL 'sum', in the pinned program and in every row, IS THE sha256 OF THE DUMP (.gsa) THAT YtedbgfjllladkaaProg.lean LOADS. Nothing in Lean hashes anything: it is a label: what it is worth is what the hold of that sum in a sandbox is worth. -/
noncomputable def Try.pinned : Pinned := { name := "ytedbgfjllladkaa", sum := "2c132edb64efa91f040cf1fb27b89599284666e698d055ac824360a4ebc507ed", checked := Try.checked }
namespace Rows
def none {H : Type} : Left H := { results := [], args := [] }

/-- 'laws.FnExactValidKinds': WHATEVER THE INPUT: true; the input reads as it did. -/
def fnExactValidKindsSpec : ChangeSpec := { name := "fnExactValidKinds", fn := fun _ => fun
  | [d] => { results := [.lit (.bool true)], args := [d] }
  | _ => none }
def fnExactValidKindsRow : OpenClaim := { program := "ytedbgfjllladkaa", sum := "2c132edb64efa91f040cf1fb27b89599284666e698d055ac824360a4ebc507ed", func := "loop.example/g01322/laws.FnExactValidKinds", spec := "fnExactValidKinds", unfollowed := true, recurses := true, apart := false }
def FnExactValidKindsSaid : Prop := fnExactValidKindsRow.holds Try.pinned (OpenSpec.ofChange fnExactValidKindsSpec)

/-- ITS FALSE NEIGHBOUR: 'it returns false'. Refute it at one input. -/
def fnExactValidKindsWrong : ChangeSpec := { name := "fnExactValidKinds", fn := fun _ => fun
  | [d] => { results := [.lit (.bool false)], args := [d] }
  | _ => none }
def FnExactValidKindsWrongFalsely : Prop := fnExactValidKindsRow.holds Try.pinned (OpenSpec.ofChange fnExactValidKindsWrong)

/-- 'laws.FnExactBestValue': WHATEVER THE INPUT: true; the input reads as it did. -/
def fnExactBestValueSpec : ChangeSpec := { name := "fnExactBestValue", fn := fun _ => fun
  | [d1, d2, d3] => { results := [.lit (.bool true)], args := [d1, d2, d3] }
  | _ => none }
def fnExactBestValueRow : OpenClaim := { program := "ytedbgfjllladkaa", sum := "2c132edb64efa91f040cf1fb27b89599284666e698d055ac824360a4ebc507ed", func := "loop.example/g01322/laws.FnExactBestValue", spec := "fnExactBestValue", unfollowed := true, recurses := true, apart := false }
def FnExactBestValueSaid : Prop := fnExactBestValueRow.holds Try.pinned (OpenSpec.ofChange fnExactBestValueSpec)

/-- ITS FALSE NEIGHBOUR: 'it returns false'. Refute it at one input. -/
def fnExactBestValueWrong : ChangeSpec := { name := "fnExactBestValue", fn := fun _ => fun
  | [d1, d2, d3] => { results := [.lit (.bool false)], args := [d1, d2, d3] }
  | _ => none }
def FnExactBestValueWrongFalsely : Prop := fnExactBestValueRow.holds Try.pinned (OpenSpec.ofChange fnExactBestValueWrong)

/-- 'laws.FnExactValidCuts': WHATEVER THE INPUT: true; the input reads as it did. -/
def fnExactValidCutsSpec : ChangeSpec := { name := "fnExactValidCuts", fn := fun _ => fun
  | [d1, d2, d3, d4] => { results := [.lit (.bool true)], args := [d1, d2, d3, d4] }
  | _ => none }
def fnExactValidCutsRow : OpenClaim := { program := "ytedbgfjllladkaa", sum := "2c132edb64efa91f040cf1fb27b89599284666e698d055ac824360a4ebc507ed", func := "loop.example/g01322/laws.FnExactValidCuts", spec := "fnExactValidCuts", unfollowed := true, recurses := true, apart := false }
def FnExactValidCutsSaid : Prop := fnExactValidCutsRow.holds Try.pinned (OpenSpec.ofChange fnExactValidCutsSpec)

/-- ITS FALSE NEIGHBOUR: 'it returns false'. Refute it at one input. -/
def fnExactValidCutsWrong : ChangeSpec := { name := "fnExactValidCuts", fn := fun _ => fun
  | [d1, d2, d3, d4] => { results := [.lit (.bool false)], args := [d1, d2, d3, d4] }
  | _ => none }
def FnExactValidCutsWrongFalsely : Prop := fnExactValidCutsRow.holds Try.pinned (OpenSpec.ofChange fnExactValidCutsWrong)

/-- 'laws.FnExactWasteIn': WHATEVER THE INPUT: true; the input reads as it did. -/
def fnExactWasteInSpec : ChangeSpec := { name := "fnExactWasteIn", fn := fun _ => fun
  | [d1, d2, d3, d4] => { results := [.lit (.bool true)], args := [d1, d2, d3, d4] }
  | _ => none }
def fnExactWasteInRow : OpenClaim := { program := "ytedbgfjllladkaa", sum := "2c132edb64efa91f040cf1fb27b89599284666e698d055ac824360a4ebc507ed", func := "loop.example/g01322/laws.FnExactWasteIn", spec := "fnExactWasteIn", unfollowed := true, recurses := true, apart := false }
def FnExactWasteInSaid : Prop := fnExactWasteInRow.holds Try.pinned (OpenSpec.ofChange fnExactWasteInSpec)

/-- ITS FALSE NEIGHBOUR: 'it returns false'. Refute it at one input. -/
def fnExactWasteInWrong : ChangeSpec := { name := "fnExactWasteIn", fn := fun _ => fun
  | [d1, d2, d3, d4] => { results := [.lit (.bool false)], args := [d1, d2, d3, d4] }
  | _ => none }
def FnExactWasteInWrongFalsely : Prop := fnExactWasteInRow.holds Try.pinned (OpenSpec.ofChange fnExactWasteInWrong)

/-- 'laws.FnExactCutLength': WHATEVER THE INPUT: true; the input reads as it did. -/
def fnExactCutLengthSpec : ChangeSpec := { name := "fnExactCutLength", fn := fun _ => fun
  | [d1, d2, d3, d4] => { results := [.lit (.bool true)], args := [d1, d2, d3, d4] }
  | _ => none }
def fnExactCutLengthRow : OpenClaim := { program := "ytedbgfjllladkaa", sum := "2c132edb64efa91f040cf1fb27b89599284666e698d055ac824360a4ebc507ed", func := "loop.example/g01322/laws.FnExactCutLength", spec := "fnExactCutLength", unfollowed := true, recurses := true, apart := false }
def FnExactCutLengthSaid : Prop := fnExactCutLengthRow.holds Try.pinned (OpenSpec.ofChange fnExactCutLengthSpec)

/-- ITS FALSE NEIGHBOUR: 'it returns false'. Refute it at one input. -/
def fnExactCutLengthWrong : ChangeSpec := { name := "fnExactCutLength", fn := fun _ => fun
  | [d1, d2, d3, d4] => { results := [.lit (.bool false)], args := [d1, d2, d3, d4] }
  | _ => none }
def FnExactCutLengthWrongFalsely : Prop := fnExactCutLengthRow.holds Try.pinned (OpenSpec.ofChange fnExactCutLengthWrong)

/-- 'laws.FnExactValueOf': WHATEVER THE INPUT: true; the input reads as it did. -/
def fnExactValueOfSpec : ChangeSpec := { name := "fnExactValueOf", fn := fun _ => fun
  | [d1, d2, d3, d4] => { results := [.lit (.bool true)], args := [d1, d2, d3, d4] }
  | _ => none }
def fnExactValueOfRow : OpenClaim := { program := "ytedbgfjllladkaa", sum := "2c132edb64efa91f040cf1fb27b89599284666e698d055ac824360a4ebc507ed", func := "loop.example/g01322/laws.FnExactValueOf", spec := "fnExactValueOf", unfollowed := true, recurses := true, apart := false }
def FnExactValueOfSaid : Prop := fnExactValueOfRow.holds Try.pinned (OpenSpec.ofChange fnExactValueOfSpec)

/-- ITS FALSE NEIGHBOUR: 'it returns false'. Refute it at one input. -/
def fnExactValueOfWrong : ChangeSpec := { name := "fnExactValueOf", fn := fun _ => fun
  | [d1, d2, d3, d4] => { results := [.lit (.bool false)], args := [d1, d2, d3, d4] }
  | _ => none }
def FnExactValueOfWrongFalsely : Prop := fnExactValueOfRow.holds Try.pinned (OpenSpec.ofChange fnExactValueOfWrong)

/-- 'laws.FnExactSizesOf': WHATEVER THE INPUT: true; the input reads as it did. -/
def fnExactSizesOfSpec : ChangeSpec := { name := "fnExactSizesOf", fn := fun _ => fun
  | [d1, d2, d3, d4] => { results := [.lit (.bool true)], args := [d1, d2, d3, d4] }
  | _ => none }
def fnExactSizesOfRow : OpenClaim := { program := "ytedbgfjllladkaa", sum := "2c132edb64efa91f040cf1fb27b89599284666e698d055ac824360a4ebc507ed", func := "loop.example/g01322/laws.FnExactSizesOf", spec := "fnExactSizesOf", unfollowed := true, recurses := true, apart := false }
def FnExactSizesOfSaid : Prop := fnExactSizesOfRow.holds Try.pinned (OpenSpec.ofChange fnExactSizesOfSpec)

/-- ITS FALSE NEIGHBOUR: 'it returns false'. Refute it at one input. -/
def fnExactSizesOfWrong : ChangeSpec := { name := "fnExactSizesOf", fn := fun _ => fun
  | [d1, d2, d3, d4] => { results := [.lit (.bool false)], args := [d1, d2, d3, d4] }
  | _ => none }
def FnExactSizesOfWrongFalsely : Prop := fnExactSizesOfRow.holds Try.pinned (OpenSpec.ofChange fnExactSizesOfWrong)

/-- 'laws.FnExactPiecesOf': WHATEVER THE INPUT: true; the input reads as it did. -/
def fnExactPiecesOfSpec : ChangeSpec := { name := "fnExactPiecesOf", fn := fun _ => fun
  | [d1, d2, d3, d4] => { results := [.lit (.bool true)], args := [d1, d2, d3, d4] }
  | _ => none }
def fnExactPiecesOfRow : OpenClaim := { program := "ytedbgfjllladkaa", sum := "2c132edb64efa91f040cf1fb27b89599284666e698d055ac824360a4ebc507ed", func := "loop.example/g01322/laws.FnExactPiecesOf", spec := "fnExactPiecesOf", unfollowed := true, recurses := true, apart := false }
def FnExactPiecesOfSaid : Prop := fnExactPiecesOfRow.holds Try.pinned (OpenSpec.ofChange fnExactPiecesOfSpec)

/-- ITS FALSE NEIGHBOUR: 'it returns false'. Refute it at one input. -/
def fnExactPiecesOfWrong : ChangeSpec := { name := "fnExactPiecesOf", fn := fun _ => fun
  | [d1, d2, d3, d4] => { results := [.lit (.bool false)], args := [d1, d2, d3, d4] }
  | _ => none }
def FnExactPiecesOfWrongFalsely : Prop := fnExactPiecesOfRow.holds Try.pinned (OpenSpec.ofChange fnExactPiecesOfWrong)

/-- 'laws.FnExactBestCuts': WHATEVER THE INPUT: true; the input reads as it did. -/
def fnExactBestCutsSpec : ChangeSpec := { name := "fnExactBestCuts", fn := fun _ => fun
  | [d1, d2, d3] => { results := [.lit (.bool true)], args := [d1, d2, d3] }
  | _ => none }
def fnExactBestCutsRow : OpenClaim := { program := "ytedbgfjllladkaa", sum := "2c132edb64efa91f040cf1fb27b89599284666e698d055ac824360a4ebc507ed", func := "loop.example/g01322/laws.FnExactBestCuts", spec := "fnExactBestCuts", unfollowed := true, recurses := true, apart := false }
def FnExactBestCutsSaid : Prop := fnExactBestCutsRow.holds Try.pinned (OpenSpec.ofChange fnExactBestCutsSpec)

/-- ITS FALSE NEIGHBOUR: 'it returns false'. Refute it at one input. -/
def fnExactBestCutsWrong : ChangeSpec := { name := "fnExactBestCuts", fn := fun _ => fun
  | [d1, d2, d3] => { results := [.lit (.bool false)], args := [d1, d2, d3] }
  | _ => none }
def FnExactBestCutsWrongFalsely : Prop := fnExactBestCutsRow.holds Try.pinned (OpenSpec.ofChange fnExactBestCutsWrong)

/- THE SECOND FORM. 'bulk': how many values and letters a reading holds, each counted each time it is reached (what is shared counts as often as it is met; a slice's spare places count too). A statement '..UptoSaid' is the law's where the arguments, and the package variables that the reading takes, are together of bulk at most 1048576: NARROWER than '..Said'. Prove '..Said' where nothing that the law and all that it calls make is longer than what came in: it says more and counts as full. Else prove '..UptoSaid'. A law counts once. -/
mutual
def uptoBulk {H : Type} : DataW H → Nat
  | .lit (.string bytes) => bytes.length + 1
  | .lit _ => 1
  | .nil => 1
  | .ptr d => uptoBulk d + 1
  | .slice elems spare => uptoBulkAll elems + uptoBulkAll spare + 1
  | .agg parts => uptoBulkAll parts + 1
  | .iface _ d => uptoBulk d + 1
  | .map entries => uptoBulkEntries entries + 1
  | .held _ => 1
def uptoBulkAll {H : Type} : List (DataW H) → Nat
  | [] => 0
  | d :: r => uptoBulk d + uptoBulkAll r
def uptoBulkEntries {H : Type} : List (Lit × DataW H) → Nat
  | [] => 0
  | x :: r => uptoBulkEntry x + uptoBulkEntries r
def uptoBulkEntry {H : Type} : Lit × DataW H → Nat
  | (.string bytes, d) => bytes.length + uptoBulk d + 1
  | (_, d) => uptoBulk d + 1
 end
def uptoSmall : (H : Type) → List (DataW H) → Bool := fun _ ds => decide (uptoBulkAll ds ≤ 1048576)
def OpenSpec.upto (s : _root_.Go.ChangeSpec) : _root_.Go.OpenSpec := { _root_.Go.OpenSpec.ofChange s with cond := some uptoSmall }

/-- 'laws.FnExactValidKinds', WHERE WHAT IT READS IS OF BULK AT MOST 1048576: true; the input reads as it did. -/
def fnExactValidKindsUptoRow : OpenClaim := { program := "ytedbgfjllladkaa", sum := "2c132edb64efa91f040cf1fb27b89599284666e698d055ac824360a4ebc507ed", func := "loop.example/g01322/laws.FnExactValidKinds", spec := "fnExactValidKinds", unfollowed := true, recurses := true, apart := false, narrowed := true }
def FnExactValidKindsUptoSaid : Prop := fnExactValidKindsUptoRow.holds Try.pinned (OpenSpec.upto fnExactValidKindsSpec)

/-- 'laws.FnExactBestValue', WHERE WHAT IT READS IS OF BULK AT MOST 1048576: true; the input reads as it did. -/
def fnExactBestValueUptoRow : OpenClaim := { program := "ytedbgfjllladkaa", sum := "2c132edb64efa91f040cf1fb27b89599284666e698d055ac824360a4ebc507ed", func := "loop.example/g01322/laws.FnExactBestValue", spec := "fnExactBestValue", unfollowed := true, recurses := true, apart := false, narrowed := true }
def FnExactBestValueUptoSaid : Prop := fnExactBestValueUptoRow.holds Try.pinned (OpenSpec.upto fnExactBestValueSpec)

/-- 'laws.FnExactValidCuts', WHERE WHAT IT READS IS OF BULK AT MOST 1048576: true; the input reads as it did. -/
def fnExactValidCutsUptoRow : OpenClaim := { program := "ytedbgfjllladkaa", sum := "2c132edb64efa91f040cf1fb27b89599284666e698d055ac824360a4ebc507ed", func := "loop.example/g01322/laws.FnExactValidCuts", spec := "fnExactValidCuts", unfollowed := true, recurses := true, apart := false, narrowed := true }
def FnExactValidCutsUptoSaid : Prop := fnExactValidCutsUptoRow.holds Try.pinned (OpenSpec.upto fnExactValidCutsSpec)

/-- 'laws.FnExactWasteIn', WHERE WHAT IT READS IS OF BULK AT MOST 1048576: true; the input reads as it did. -/
def fnExactWasteInUptoRow : OpenClaim := { program := "ytedbgfjllladkaa", sum := "2c132edb64efa91f040cf1fb27b89599284666e698d055ac824360a4ebc507ed", func := "loop.example/g01322/laws.FnExactWasteIn", spec := "fnExactWasteIn", unfollowed := true, recurses := true, apart := false, narrowed := true }
def FnExactWasteInUptoSaid : Prop := fnExactWasteInUptoRow.holds Try.pinned (OpenSpec.upto fnExactWasteInSpec)

/-- 'laws.FnExactCutLength', WHERE WHAT IT READS IS OF BULK AT MOST 1048576: true; the input reads as it did. -/
def fnExactCutLengthUptoRow : OpenClaim := { program := "ytedbgfjllladkaa", sum := "2c132edb64efa91f040cf1fb27b89599284666e698d055ac824360a4ebc507ed", func := "loop.example/g01322/laws.FnExactCutLength", spec := "fnExactCutLength", unfollowed := true, recurses := true, apart := false, narrowed := true }
def FnExactCutLengthUptoSaid : Prop := fnExactCutLengthUptoRow.holds Try.pinned (OpenSpec.upto fnExactCutLengthSpec)

/-- 'laws.FnExactValueOf', WHERE WHAT IT READS IS OF BULK AT MOST 1048576: true; the input reads as it did. -/
def fnExactValueOfUptoRow : OpenClaim := { program := "ytedbgfjllladkaa", sum := "2c132edb64efa91f040cf1fb27b89599284666e698d055ac824360a4ebc507ed", func := "loop.example/g01322/laws.FnExactValueOf", spec := "fnExactValueOf", unfollowed := true, recurses := true, apart := false, narrowed := true }
def FnExactValueOfUptoSaid : Prop := fnExactValueOfUptoRow.holds Try.pinned (OpenSpec.upto fnExactValueOfSpec)

/-- 'laws.FnExactSizesOf', WHERE WHAT IT READS IS OF BULK AT MOST 1048576: true; the input reads as it did. -/
def fnExactSizesOfUptoRow : OpenClaim := { program := "ytedbgfjllladkaa", sum := "2c132edb64efa91f040cf1fb27b89599284666e698d055ac824360a4ebc507ed", func := "loop.example/g01322/laws.FnExactSizesOf", spec := "fnExactSizesOf", unfollowed := true, recurses := true, apart := false, narrowed := true }
def FnExactSizesOfUptoSaid : Prop := fnExactSizesOfUptoRow.holds Try.pinned (OpenSpec.upto fnExactSizesOfSpec)

/-- 'laws.FnExactPiecesOf', WHERE WHAT IT READS IS OF BULK AT MOST 1048576: true; the input reads as it did. -/
def fnExactPiecesOfUptoRow : OpenClaim := { program := "ytedbgfjllladkaa", sum := "2c132edb64efa91f040cf1fb27b89599284666e698d055ac824360a4ebc507ed", func := "loop.example/g01322/laws.FnExactPiecesOf", spec := "fnExactPiecesOf", unfollowed := true, recurses := true, apart := false, narrowed := true }
def FnExactPiecesOfUptoSaid : Prop := fnExactPiecesOfUptoRow.holds Try.pinned (OpenSpec.upto fnExactPiecesOfSpec)

/-- 'laws.FnExactBestCuts', WHERE WHAT IT READS IS OF BULK AT MOST 1048576: true; the input reads as it did. -/
def fnExactBestCutsUptoRow : OpenClaim := { program := "ytedbgfjllladkaa", sum := "2c132edb64efa91f040cf1fb27b89599284666e698d055ac824360a4ebc507ed", func := "loop.example/g01322/laws.FnExactBestCuts", spec := "fnExactBestCuts", unfollowed := true, recurses := true, apart := false, narrowed := true }
def FnExactBestCutsUptoSaid : Prop := fnExactBestCutsUptoRow.holds Try.pinned (OpenSpec.upto fnExactBestCutsSpec)

end Rows
end Go.Proofs.Ytedbgfjllladkaa
