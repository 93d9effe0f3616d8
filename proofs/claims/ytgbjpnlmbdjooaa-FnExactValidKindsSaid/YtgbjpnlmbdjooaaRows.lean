/-
  No cell of these rows narrows 'for every input' (looked for: loops, veiled, ifaces, maps, wideKeys, modest, calm, conditions, laid).
  DERIVED. THE GIVEN ROWS OF THIS SEAT. 4 by the template 'for every input the law returns true; each argument reads behind the call as it read before'; 0 by the template 'total and deterministic' (their statements: YtgbjpnlmbdjooaaTotals.lean).
  GIVEN WITH THE SEED: the statements are not yours to turn. If you find one false, say at which input.
  Laid BY PROGRAM, IN A SANDBOX (cutbox-rows.mjs): the forced cells as the released guide's own fill.sh prints them over the translation 73b79cadd09e9b02… (all of the seat's roots in one cut). By AI agents, Wed Nov 11 2026. No macro, syntax, notation, axiom, sorry.
-/
import Derived.Test.YtgbjpnlmbdjooaaChecked
import GoSem.Claim
import GoSem.ClaimJoined
import GoSem.ClaimMapViews
import Derived.JoinedTies
import Derived.KernelRfl
namespace Go.Proofs.Ytgbjpnlmbdjooaa
/- THE CELL 'sum', in the pinned program and in every row, IS THE sha256 OF THE DUMP (.gsa) THAT YtgbjpnlmbdjooaaProg.lean LOADS. Nothing in Lean hashes anything: it is a label: what it is worth is what the hold of that sum in a sandbox is worth. -/
noncomputable def Try.pinned : Pinned := { name := "ytgbjpnlmbdjooaa", sum := "73b79cadd09e9b02364a1d6e1421e6ab8a3e04bee39c2c5d76697a4b235f8c3b", checked := Try.checked }
namespace Rows
def none {H : Type} : Left H := { results := [], args := [] }

/-- 'laws.FnExactValidKinds': WHATEVER THE INPUT: true; the input reads as it did. -/
def fnExactValidKindsSpec : ChangeSpec := { name := "fnExactValidKinds", fn := fun _ => fun
  | [d] => { results := [.lit (.bool true)], args := [d] }
  | _ => none }
def fnExactValidKindsRow : OpenClaim := { program := "ytgbjpnlmbdjooaa", sum := "73b79cadd09e9b02364a1d6e1421e6ab8a3e04bee39c2c5d76697a4b235f8c3b", func := "loop.example/g01322/laws.FnExactValidKinds", spec := "fnExactValidKinds", unfollowed := true, recurses := true, apart := false }
def FnExactValidKindsSaid : Prop := fnExactValidKindsRow.holds Try.pinned (OpenSpec.ofChange fnExactValidKindsSpec)

/-- ITS FALSE NEIGHBOUR: 'it returns false'. Refute it at one input. -/
def fnExactValidKindsWrong : ChangeSpec := { name := "fnExactValidKinds", fn := fun _ => fun
  | [d] => { results := [.lit (.bool false)], args := [d] }
  | _ => none }
def FnExactValidKindsWrongFalsely : Prop := fnExactValidKindsRow.holds Try.pinned (OpenSpec.ofChange fnExactValidKindsWrong)

/-- 'laws.FnExactValidCuts': WHATEVER THE INPUT: true; the input reads as it did. -/
def fnExactValidCutsSpec : ChangeSpec := { name := "fnExactValidCuts", fn := fun _ => fun
  | [d1, d2, d3, d4] => { results := [.lit (.bool true)], args := [d1, d2, d3, d4] }
  | _ => none }
def fnExactValidCutsRow : OpenClaim := { program := "ytgbjpnlmbdjooaa", sum := "73b79cadd09e9b02364a1d6e1421e6ab8a3e04bee39c2c5d76697a4b235f8c3b", func := "loop.example/g01322/laws.FnExactValidCuts", spec := "fnExactValidCuts", unfollowed := true, recurses := true, apart := false }
def FnExactValidCutsSaid : Prop := fnExactValidCutsRow.holds Try.pinned (OpenSpec.ofChange fnExactValidCutsSpec)

/-- ITS FALSE NEIGHBOUR: 'it returns false'. Refute it at one input. -/
def fnExactValidCutsWrong : ChangeSpec := { name := "fnExactValidCuts", fn := fun _ => fun
  | [d1, d2, d3, d4] => { results := [.lit (.bool false)], args := [d1, d2, d3, d4] }
  | _ => none }
def FnExactValidCutsWrongFalsely : Prop := fnExactValidCutsRow.holds Try.pinned (OpenSpec.ofChange fnExactValidCutsWrong)

/-- 'laws.FnExactSizesOf': WHATEVER THE INPUT: true; the input reads as it did. -/
def fnExactSizesOfSpec : ChangeSpec := { name := "fnExactSizesOf", fn := fun _ => fun
  | [d1, d2, d3, d4] => { results := [.lit (.bool true)], args := [d1, d2, d3, d4] }
  | _ => none }
def fnExactSizesOfRow : OpenClaim := { program := "ytgbjpnlmbdjooaa", sum := "73b79cadd09e9b02364a1d6e1421e6ab8a3e04bee39c2c5d76697a4b235f8c3b", func := "loop.example/g01322/laws.FnExactSizesOf", spec := "fnExactSizesOf", unfollowed := true, recurses := true, apart := false }
def FnExactSizesOfSaid : Prop := fnExactSizesOfRow.holds Try.pinned (OpenSpec.ofChange fnExactSizesOfSpec)

/-- ITS FALSE NEIGHBOUR: 'it returns false'. Refute it at one input. -/
def fnExactSizesOfWrong : ChangeSpec := { name := "fnExactSizesOf", fn := fun _ => fun
  | [d1, d2, d3, d4] => { results := [.lit (.bool false)], args := [d1, d2, d3, d4] }
  | _ => none }
def FnExactSizesOfWrongFalsely : Prop := fnExactSizesOfRow.holds Try.pinned (OpenSpec.ofChange fnExactSizesOfWrong)

/-- 'laws.FnExactPiecesOf': WHATEVER THE INPUT: true; the input reads as it did. -/
def fnExactPiecesOfSpec : ChangeSpec := { name := "fnExactPiecesOf", fn := fun _ => fun
  | [d1, d2, d3, d4] => { results := [.lit (.bool true)], args := [d1, d2, d3, d4] }
  | _ => none }
def fnExactPiecesOfRow : OpenClaim := { program := "ytgbjpnlmbdjooaa", sum := "73b79cadd09e9b02364a1d6e1421e6ab8a3e04bee39c2c5d76697a4b235f8c3b", func := "loop.example/g01322/laws.FnExactPiecesOf", spec := "fnExactPiecesOf", unfollowed := true, recurses := true, apart := false }
def FnExactPiecesOfSaid : Prop := fnExactPiecesOfRow.holds Try.pinned (OpenSpec.ofChange fnExactPiecesOfSpec)

/-- ITS FALSE NEIGHBOUR: 'it returns false'. Refute it at one input. -/
def fnExactPiecesOfWrong : ChangeSpec := { name := "fnExactPiecesOf", fn := fun _ => fun
  | [d1, d2, d3, d4] => { results := [.lit (.bool false)], args := [d1, d2, d3, d4] }
  | _ => none }
def FnExactPiecesOfWrongFalsely : Prop := fnExactPiecesOfRow.holds Try.pinned (OpenSpec.ofChange fnExactPiecesOfWrong)

/- THE SECOND FORM. 'bulk': how many values and letters a reading holds, each counted each time it is reached (what is shared counts as often as it is met; a slice's spare places count too). A statement '..UptoSaid' is the law's where the arguments, and the package variables that the reading takes, are together of bulk at most 1048576: NARROWER than '..Said'. Prove '..Said' where nothing that the law and all that it calls make is longer than what came in: it says more and counts as full. Else prove '..UptoSaid'. A law counts once. -/
mutual
def uptoBulk {H : Type} : DataW H → Nat
  | .lit (.string bytes) => bytes.length + 1
  | .lit _ => 1
  | .nil => 1
  | .ptr d => uptoBulk d + 1
  | .slice elems spare => uptoBulkAll elems + uptoBulkAll spare + 1
  | .agg parts => uptoBulkAll parts + 1
  | .iface _ d => uptoBulk d + 1
  | .map entries => uptoBulkEntries entries + 1
  | .held _ => 1
def uptoBulkAll {H : Type} : List (DataW H) → Nat
  | [] => 0
  | d :: r => uptoBulk d + uptoBulkAll r
def uptoBulkEntries {H : Type} : List (Lit × DataW H) → Nat
  | [] => 0
  | x :: r => uptoBulkEntry x + uptoBulkEntries r
def uptoBulkEntry {H : Type} : Lit × DataW H → Nat
  | (.string bytes, d) => bytes.length + uptoBulk d + 1
  | (_, d) => uptoBulk d + 1
 end
def uptoSmall : (H : Type) → List (DataW H) → Bool := fun _ ds => decide (uptoBulkAll ds ≤ 1048576)
def OpenSpec.upto (s : _root_.Go.ChangeSpec) : _root_.Go.OpenSpec := { _root_.Go.OpenSpec.ofChange s with cond := some uptoSmall }

/-- 'laws.FnExactValidKinds', WHERE WHAT IT READS IS OF BULK AT MOST 1048576: true; the input reads as it did. -/
def fnExactValidKindsUptoRow : OpenClaim := { program := "ytgbjpnlmbdjooaa", sum := "73b79cadd09e9b02364a1d6e1421e6ab8a3e04bee39c2c5d76697a4b235f8c3b", func := "loop.example/g01322/laws.FnExactValidKinds", spec := "fnExactValidKinds", unfollowed := true, recurses := true, apart := false, narrowed := true }
def FnExactValidKindsUptoSaid : Prop := fnExactValidKindsUptoRow.holds Try.pinned (OpenSpec.upto fnExactValidKindsSpec)

/-- 'laws.FnExactValidCuts', WHERE WHAT IT READS IS OF BULK AT MOST 1048576: true; the input reads as it did. -/
def fnExactValidCutsUptoRow : OpenClaim := { program := "ytgbjpnlmbdjooaa", sum := "73b79cadd09e9b02364a1d6e1421e6ab8a3e04bee39c2c5d76697a4b235f8c3b", func := "loop.example/g01322/laws.FnExactValidCuts", spec := "fnExactValidCuts", unfollowed := true, recurses := true, apart := false, narrowed := true }
def FnExactValidCutsUptoSaid : Prop := fnExactValidCutsUptoRow.holds Try.pinned (OpenSpec.upto fnExactValidCutsSpec)

/-- 'laws.FnExactSizesOf', WHERE WHAT IT READS IS OF BULK AT MOST 1048576: true; the input reads as it did. -/
def fnExactSizesOfUptoRow : OpenClaim := { program := "ytgbjpnlmbdjooaa", sum := "73b79cadd09e9b02364a1d6e1421e6ab8a3e04bee39c2c5d76697a4b235f8c3b", func := "loop.example/g01322/laws.FnExactSizesOf", spec := "fnExactSizesOf", unfollowed := true, recurses := true, apart := false, narrowed := true }
def FnExactSizesOfUptoSaid : Prop := fnExactSizesOfUptoRow.holds Try.pinned (OpenSpec.upto fnExactSizesOfSpec)

/-- 'laws.FnExactPiecesOf', WHERE WHAT IT READS IS OF BULK AT MOST 1048576: true; the input reads as it did. -/
def fnExactPiecesOfUptoRow : OpenClaim := { program := "ytgbjpnlmbdjooaa", sum := "73b79cadd09e9b02364a1d6e1421e6ab8a3e04bee39c2c5d76697a4b235f8c3b", func := "loop.example/g01322/laws.FnExactPiecesOf", spec := "fnExactPiecesOf", unfollowed := true, recurses := true, apart := false, narrowed := true }
def FnExactPiecesOfUptoSaid : Prop := fnExactPiecesOfUptoRow.holds Try.pinned (OpenSpec.upto fnExactPiecesOfSpec)

end Rows
end Go.Proofs.Ytgbjpnlmbdjooaa
