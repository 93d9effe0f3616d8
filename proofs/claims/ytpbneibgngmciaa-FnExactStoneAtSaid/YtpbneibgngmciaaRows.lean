/-
  No cell of these rows narrows 'for every input' (looked for: loops, veiled, ifaces, maps, wideKeys, modest, calm, conditions, laid).
  DERIVED. THE GIVEN ROWS OF THIS SEAT. 6 by the template 'for every input the law returns true; each argument reads behind the call as it read before'; 0 by the template 'total and deterministic' (their statements: YtpbneibgngmciaaTotals.lean).
  GIVEN WITH THE SEED: the statements are not yours to turn. If you find one false, say at which input.
  Laid BY PROGRAM, IN A SANDBOX (cutbox-rows.mjs): the forced cells as the released guide's own fill.sh prints them over the translation 4e2cdfd9fd667bb1… (all of the seat's roots in one cut). By AI agents, Wed Nov 11 2026. No macro, syntax, notation, axiom, sorry.
-/
import Derived.Test.YtpbneibgngmciaaChecked
import GoSem.Claim
import GoSem.ClaimJoined
import GoSem.ClaimMapViews
import Derived.JoinedTies
import Derived.KernelRfl
namespace Go.Proofs.Ytpbneibgngmciaa
/- THE CELL 'sum', in the pinned program and in every row, IS THE sha256 OF THE DUMP (.gsa) THAT YtpbneibgngmciaaProg.lean LOADS. Nothing in Lean hashes anything: it is a label: what it is worth is what the hold of that sum in a sandbox is worth. -/
noncomputable def Try.pinned : Pinned := { name := "ytpbneibgngmciaa", sum := "4e2cdfd9fd667bb14230f6951b7f5a4f93439c45570f4b67f73930731468fd83", checked := Try.checked }
namespace Rows
def none {H : Type} : Left H := { results := [], args := [] }

/-- 'laws.FnExactInFrame': WHATEVER THE INPUT: true; the input reads as it did. -/
def fnExactInFrameSpec : ChangeSpec := { name := "fnExactInFrame", fn := fun _ => fun
  | [d1, d2] => { results := [.lit (.bool true)], args := [d1, d2] }
  | _ => none }
def fnExactInFrameRow : OpenClaim := { program := "ytpbneibgngmciaa", sum := "4e2cdfd9fd667bb14230f6951b7f5a4f93439c45570f4b67f73930731468fd83", func := "loop.example/g01322/laws.FnExactInFrame", spec := "fnExactInFrame", unfollowed := true, recurses := true, apart := false }
def FnExactInFrameSaid : Prop := fnExactInFrameRow.holds Try.pinned (OpenSpec.ofChange fnExactInFrameSpec)

/-- ITS FALSE NEIGHBOUR: 'it returns false'. Refute it at one input. -/
def fnExactInFrameWrong : ChangeSpec := { name := "fnExactInFrame", fn := fun _ => fun
  | [d1, d2] => { results := [.lit (.bool false)], args := [d1, d2] }
  | _ => none }
def FnExactInFrameWrongFalsely : Prop := fnExactInFrameRow.holds Try.pinned (OpenSpec.ofChange fnExactInFrameWrong)

/-- 'laws.FnExactBoxOf': WHATEVER THE INPUT: true; the input reads as it did. -/
def fnExactBoxOfSpec : ChangeSpec := { name := "fnExactBoxOf", fn := fun _ => fun
  | [d] => { results := [.lit (.bool true)], args := [d] }
  | _ => none }
def fnExactBoxOfRow : OpenClaim := { program := "ytpbneibgngmciaa", sum := "4e2cdfd9fd667bb14230f6951b7f5a4f93439c45570f4b67f73930731468fd83", func := "loop.example/g01322/laws.FnExactBoxOf", spec := "fnExactBoxOf", unfollowed := true, recurses := true, apart := false }
def FnExactBoxOfSaid : Prop := fnExactBoxOfRow.holds Try.pinned (OpenSpec.ofChange fnExactBoxOfSpec)

/-- ITS FALSE NEIGHBOUR: 'it returns false'. Refute it at one input. -/
def fnExactBoxOfWrong : ChangeSpec := { name := "fnExactBoxOf", fn := fun _ => fun
  | [d] => { results := [.lit (.bool false)], args := [d] }
  | _ => none }
def FnExactBoxOfWrongFalsely : Prop := fnExactBoxOfRow.holds Try.pinned (OpenSpec.ofChange fnExactBoxOfWrong)

/-- 'laws.FnExactValidLay': WHATEVER THE INPUT: true; the input reads as it did. -/
def fnExactValidLaySpec : ChangeSpec := { name := "fnExactValidLay", fn := fun _ => fun
  | [d1, d2] => { results := [.lit (.bool true)], args := [d1, d2] }
  | _ => none }
def fnExactValidLayRow : OpenClaim := { program := "ytpbneibgngmciaa", sum := "4e2cdfd9fd667bb14230f6951b7f5a4f93439c45570f4b67f73930731468fd83", func := "loop.example/g01322/laws.FnExactValidLay", spec := "fnExactValidLay", unfollowed := true, recurses := true, apart := false }
def FnExactValidLaySaid : Prop := fnExactValidLayRow.holds Try.pinned (OpenSpec.ofChange fnExactValidLaySpec)

/-- ITS FALSE NEIGHBOUR: 'it returns false'. Refute it at one input. -/
def fnExactValidLayWrong : ChangeSpec := { name := "fnExactValidLay", fn := fun _ => fun
  | [d1, d2] => { results := [.lit (.bool false)], args := [d1, d2] }
  | _ => none }
def FnExactValidLayWrongFalsely : Prop := fnExactValidLayRow.holds Try.pinned (OpenSpec.ofChange fnExactValidLayWrong)

/-- 'laws.FnExactFirstFault': WHATEVER THE INPUT: true; the input reads as it did. -/
def fnExactFirstFaultSpec : ChangeSpec := { name := "fnExactFirstFault", fn := fun _ => fun
  | [d1, d2] => { results := [.lit (.bool true)], args := [d1, d2] }
  | _ => none }
def fnExactFirstFaultRow : OpenClaim := { program := "ytpbneibgngmciaa", sum := "4e2cdfd9fd667bb14230f6951b7f5a4f93439c45570f4b67f73930731468fd83", func := "loop.example/g01322/laws.FnExactFirstFault", spec := "fnExactFirstFault", unfollowed := true, recurses := true, apart := false }
def FnExactFirstFaultSaid : Prop := fnExactFirstFaultRow.holds Try.pinned (OpenSpec.ofChange fnExactFirstFaultSpec)

/-- ITS FALSE NEIGHBOUR: 'it returns false'. Refute it at one input. -/
def fnExactFirstFaultWrong : ChangeSpec := { name := "fnExactFirstFault", fn := fun _ => fun
  | [d1, d2] => { results := [.lit (.bool false)], args := [d1, d2] }
  | _ => none }
def FnExactFirstFaultWrongFalsely : Prop := fnExactFirstFaultRow.holds Try.pinned (OpenSpec.ofChange fnExactFirstFaultWrong)

/-- 'laws.FnExactBareTwice': WHATEVER THE INPUT: true; the input reads as it did. -/
def fnExactBareTwiceSpec : ChangeSpec := { name := "fnExactBareTwice", fn := fun _ => fun
  | [d1, d2] => { results := [.lit (.bool true)], args := [d1, d2] }
  | _ => none }
def fnExactBareTwiceRow : OpenClaim := { program := "ytpbneibgngmciaa", sum := "4e2cdfd9fd667bb14230f6951b7f5a4f93439c45570f4b67f73930731468fd83", func := "loop.example/g01322/laws.FnExactBareTwice", spec := "fnExactBareTwice", unfollowed := true, recurses := true, apart := false }
def FnExactBareTwiceSaid : Prop := fnExactBareTwiceRow.holds Try.pinned (OpenSpec.ofChange fnExactBareTwiceSpec)

/-- ITS FALSE NEIGHBOUR: 'it returns false'. Refute it at one input. -/
def fnExactBareTwiceWrong : ChangeSpec := { name := "fnExactBareTwice", fn := fun _ => fun
  | [d1, d2] => { results := [.lit (.bool false)], args := [d1, d2] }
  | _ => none }
def FnExactBareTwiceWrongFalsely : Prop := fnExactBareTwiceRow.holds Try.pinned (OpenSpec.ofChange fnExactBareTwiceWrong)

/-- 'laws.FnExactStoneAt': WHATEVER THE INPUT: true; the input reads as it did. -/
def fnExactStoneAtSpec : ChangeSpec := { name := "fnExactStoneAt", fn := fun _ => fun
  | [d1, d2, d3, d4] => { results := [.lit (.bool true)], args := [d1, d2, d3, d4] }
  | _ => none }
def fnExactStoneAtRow : OpenClaim := { program := "ytpbneibgngmciaa", sum := "4e2cdfd9fd667bb14230f6951b7f5a4f93439c45570f4b67f73930731468fd83", func := "loop.example/g01322/laws.FnExactStoneAt", spec := "fnExactStoneAt", unfollowed := true, recurses := true, apart := false }
def FnExactStoneAtSaid : Prop := fnExactStoneAtRow.holds Try.pinned (OpenSpec.ofChange fnExactStoneAtSpec)

/-- ITS FALSE NEIGHBOUR: 'it returns false'. Refute it at one input. -/
def fnExactStoneAtWrong : ChangeSpec := { name := "fnExactStoneAt", fn := fun _ => fun
  | [d1, d2, d3, d4] => { results := [.lit (.bool false)], args := [d1, d2, d3, d4] }
  | _ => none }
def FnExactStoneAtWrongFalsely : Prop := fnExactStoneAtRow.holds Try.pinned (OpenSpec.ofChange fnExactStoneAtWrong)

/- THE SECOND FORM. 'bulk': how many values and letters a reading holds, each counted each time it is reached (what is shared counts as often as it is met; a slice's spare places count too). A statement '..UptoSaid' is the law's where the arguments, and the package variables that the reading takes, are together of bulk at most 1048576: NARROWER than '..Said'. Prove '..Said' where nothing that the law and all that it calls make is longer than what came in: it says more and counts as full. Else prove '..UptoSaid'. A law counts once. -/
mutual
def uptoBulk {H : Type} : DataW H → Nat
  | .lit (.string bytes) => bytes.length + 1
  | .lit _ => 1
  | .nil => 1
  | .ptr d => uptoBulk d + 1
  | .slice elems spare => uptoBulkAll elems + uptoBulkAll spare + 1
  | .agg parts => uptoBulkAll parts + 1
  | .iface _ d => uptoBulk d + 1
  | .map entries => uptoBulkEntries entries + 1
  | .held _ => 1
def uptoBulkAll {H : Type} : List (DataW H) → Nat
  | [] => 0
  | d :: r => uptoBulk d + uptoBulkAll r
def uptoBulkEntries {H : Type} : List (Lit × DataW H) → Nat
  | [] => 0
  | x :: r => uptoBulkEntry x + uptoBulkEntries r
def uptoBulkEntry {H : Type} : Lit × DataW H → Nat
  | (.string bytes, d) => bytes.length + uptoBulk d + 1
  | (_, d) => uptoBulk d + 1
 end
def uptoSmall : (H : Type) → List (DataW H) → Bool := fun _ ds => decide (uptoBulkAll ds ≤ 1048576)
def OpenSpec.upto (s : _root_.Go.ChangeSpec) : _root_.Go.OpenSpec := { _root_.Go.OpenSpec.ofChange s with cond := some uptoSmall }

/-- 'laws.FnExactInFrame', WHERE WHAT IT READS IS OF BULK AT MOST 1048576: true; the input reads as it did. -/
def fnExactInFrameUptoRow : OpenClaim := { program := "ytpbneibgngmciaa", sum := "4e2cdfd9fd667bb14230f6951b7f5a4f93439c45570f4b67f73930731468fd83", func := "loop.example/g01322/laws.FnExactInFrame", spec := "fnExactInFrame", unfollowed := true, recurses := true, apart := false, narrowed := true }
def FnExactInFrameUptoSaid : Prop := fnExactInFrameUptoRow.holds Try.pinned (OpenSpec.upto fnExactInFrameSpec)

/-- 'laws.FnExactBoxOf', WHERE WHAT IT READS IS OF BULK AT MOST 1048576: true; the input reads as it did. -/
def fnExactBoxOfUptoRow : OpenClaim := { program := "ytpbneibgngmciaa", sum := "4e2cdfd9fd667bb14230f6951b7f5a4f93439c45570f4b67f73930731468fd83", func := "loop.example/g01322/laws.FnExactBoxOf", spec := "fnExactBoxOf", unfollowed := true, recurses := true, apart := false, narrowed := true }
def FnExactBoxOfUptoSaid : Prop := fnExactBoxOfUptoRow.holds Try.pinned (OpenSpec.upto fnExactBoxOfSpec)

/-- 'laws.FnExactValidLay', WHERE WHAT IT READS IS OF BULK AT MOST 1048576: true; the input reads as it did. -/
def fnExactValidLayUptoRow : OpenClaim := { program := "ytpbneibgngmciaa", sum := "4e2cdfd9fd667bb14230f6951b7f5a4f93439c45570f4b67f73930731468fd83", func := "loop.example/g01322/laws.FnExactValidLay", spec := "fnExactValidLay", unfollowed := true, recurses := true, apart := false, narrowed := true }
def FnExactValidLayUptoSaid : Prop := fnExactValidLayUptoRow.holds Try.pinned (OpenSpec.upto fnExactValidLaySpec)

/-- 'laws.FnExactFirstFault', WHERE WHAT IT READS IS OF BULK AT MOST 1048576: true; the input reads as it did. -/
def fnExactFirstFaultUptoRow : OpenClaim := { program := "ytpbneibgngmciaa", sum := "4e2cdfd9fd667bb14230f6951b7f5a4f93439c45570f4b67f73930731468fd83", func := "loop.example/g01322/laws.FnExactFirstFault", spec := "fnExactFirstFault", unfollowed := true, recurses := true, apart := false, narrowed := true }
def FnExactFirstFaultUptoSaid : Prop := fnExactFirstFaultUptoRow.holds Try.pinned (OpenSpec.upto fnExactFirstFaultSpec)

/-- 'laws.FnExactBareTwice', WHERE WHAT IT READS IS OF BULK AT MOST 1048576: true; the input reads as it did. -/
def fnExactBareTwiceUptoRow : OpenClaim := { program := "ytpbneibgngmciaa", sum := "4e2cdfd9fd667bb14230f6951b7f5a4f93439c45570f4b67f73930731468fd83", func := "loop.example/g01322/laws.FnExactBareTwice", spec := "fnExactBareTwice", unfollowed := true, recurses := true, apart := false, narrowed := true }
def FnExactBareTwiceUptoSaid : Prop := fnExactBareTwiceUptoRow.holds Try.pinned (OpenSpec.upto fnExactBareTwiceSpec)

/-- 'laws.FnExactStoneAt', WHERE WHAT IT READS IS OF BULK AT MOST 1048576: true; the input reads as it did. -/
def fnExactStoneAtUptoRow : OpenClaim := { program := "ytpbneibgngmciaa", sum := "4e2cdfd9fd667bb14230f6951b7f5a4f93439c45570f4b67f73930731468fd83", func := "loop.example/g01322/laws.FnExactStoneAt", spec := "fnExactStoneAt", unfollowed := true, recurses := true, apart := false, narrowed := true }
def FnExactStoneAtUptoSaid : Prop := fnExactStoneAtUptoRow.holds Try.pinned (OpenSpec.upto fnExactStoneAtSpec)

end Rows
end Go.Proofs.Ytpbneibgngmciaa
