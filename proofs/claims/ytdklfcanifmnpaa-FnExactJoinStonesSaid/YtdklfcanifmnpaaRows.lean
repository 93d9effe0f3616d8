/-
  No cell of these rows narrows 'for every input' (looked for: loops, veiled, ifaces, maps, wideKeys, modest, calm, conditions, laid).
  DERIVED. THE GIVEN ROWS OF THIS SEAT. 9 by the template 'for every input the law returns true; each argument reads behind the call as it read before'; 0 by the template 'total and deterministic' (their statements: YtdklfcanifmnpaaTotals.lean).
  GIVEN WITH THE SEED: the statements are not yours to turn. If you find one false, say at which input.
  Laid BY PROGRAM, IN A SANDBOX (cutbox-rows.mjs): the forced cells as the released guide's own fill.sh prints them over the translation 5cb83d4251256d14… (all of the seat's roots in one cut). By AI agents, Wed Nov 11 2026. No macro, syntax, notation, axiom, sorry.
-/
import Derived.Test.YtdklfcanifmnpaaChecked
import GoSem.Claim
import GoSem.ClaimJoined
import GoSem.ClaimMapViews
import Derived.JoinedTies
import Derived.KernelRfl
namespace Go.Proofs.Ytdklfcanifmnpaa
/- THE CELL 'sum', in the pinned program and in every row, IS THE sha256 OF THE DUMP (.gsa) THAT YtdklfcanifmnpaaProg.lean LOADS. Nothing in Lean hashes anything: it is a label: what it is worth is what the hold of that sum in a sandbox is worth. -/
noncomputable def Try.pinned : Pinned := { name := "ytdklfcanifmnpaa", sum := "5cb83d4251256d14222121dbf135e5fd9df118e7973703afe43c695f6b301106", checked := Try.checked }
namespace Rows
def none {H : Type} : Left H := { results := [], args := [] }

/-- 'laws.FnExactInFrame': WHATEVER THE INPUT: true; the input reads as it did. -/
def fnExactInFrameSpec : ChangeSpec := { name := "fnExactInFrame", fn := fun _ => fun
  | [d1, d2] => { results := [.lit (.bool true)], args := [d1, d2] }
  | _ => none }
def fnExactInFrameRow : OpenClaim := { program := "ytdklfcanifmnpaa", sum := "5cb83d4251256d14222121dbf135e5fd9df118e7973703afe43c695f6b301106", func := "loop.example/g01322/laws.FnExactInFrame", spec := "fnExactInFrame", unfollowed := true, recurses := true, apart := false }
def FnExactInFrameSaid : Prop := fnExactInFrameRow.holds Try.pinned (OpenSpec.ofChange fnExactInFrameSpec)

/-- ITS FALSE NEIGHBOUR: 'it returns false'. Refute it at one input. -/
def fnExactInFrameWrong : ChangeSpec := { name := "fnExactInFrame", fn := fun _ => fun
  | [d1, d2] => { results := [.lit (.bool false)], args := [d1, d2] }
  | _ => none }
def FnExactInFrameWrongFalsely : Prop := fnExactInFrameRow.holds Try.pinned (OpenSpec.ofChange fnExactInFrameWrong)

/-- 'laws.FnExactMirrorStone': WHATEVER THE INPUT: true; the input reads as it did. -/
def fnExactMirrorStoneSpec : ChangeSpec := { name := "fnExactMirrorStone", fn := fun _ => fun
  | [d] => { results := [.lit (.bool true)], args := [d] }
  | _ => none }
def fnExactMirrorStoneRow : OpenClaim := { program := "ytdklfcanifmnpaa", sum := "5cb83d4251256d14222121dbf135e5fd9df118e7973703afe43c695f6b301106", func := "loop.example/g01322/laws.FnExactMirrorStone", spec := "fnExactMirrorStone", unfollowed := true, recurses := true, apart := false }
def FnExactMirrorStoneSaid : Prop := fnExactMirrorStoneRow.holds Try.pinned (OpenSpec.ofChange fnExactMirrorStoneSpec)

/-- ITS FALSE NEIGHBOUR: 'it returns false'. Refute it at one input. -/
def fnExactMirrorStoneWrong : ChangeSpec := { name := "fnExactMirrorStone", fn := fun _ => fun
  | [d] => { results := [.lit (.bool false)], args := [d] }
  | _ => none }
def FnExactMirrorStoneWrongFalsely : Prop := fnExactMirrorStoneRow.holds Try.pinned (OpenSpec.ofChange fnExactMirrorStoneWrong)

/-- 'laws.FnExactTurnStone': WHATEVER THE INPUT: true; the input reads as it did. -/
def fnExactTurnStoneSpec : ChangeSpec := { name := "fnExactTurnStone", fn := fun _ => fun
  | [d] => { results := [.lit (.bool true)], args := [d] }
  | _ => none }
def fnExactTurnStoneRow : OpenClaim := { program := "ytdklfcanifmnpaa", sum := "5cb83d4251256d14222121dbf135e5fd9df118e7973703afe43c695f6b301106", func := "loop.example/g01322/laws.FnExactTurnStone", spec := "fnExactTurnStone", unfollowed := true, recurses := true, apart := false }
def FnExactTurnStoneSaid : Prop := fnExactTurnStoneRow.holds Try.pinned (OpenSpec.ofChange fnExactTurnStoneSpec)

/-- ITS FALSE NEIGHBOUR: 'it returns false'. Refute it at one input. -/
def fnExactTurnStoneWrong : ChangeSpec := { name := "fnExactTurnStone", fn := fun _ => fun
  | [d] => { results := [.lit (.bool false)], args := [d] }
  | _ => none }
def FnExactTurnStoneWrongFalsely : Prop := fnExactTurnStoneRow.holds Try.pinned (OpenSpec.ofChange fnExactTurnStoneWrong)

/-- 'laws.FnExactBoxOf': WHATEVER THE INPUT: true; the input reads as it did. -/
def fnExactBoxOfSpec : ChangeSpec := { name := "fnExactBoxOf", fn := fun _ => fun
  | [d] => { results := [.lit (.bool true)], args := [d] }
  | _ => none }
def fnExactBoxOfRow : OpenClaim := { program := "ytdklfcanifmnpaa", sum := "5cb83d4251256d14222121dbf135e5fd9df118e7973703afe43c695f6b301106", func := "loop.example/g01322/laws.FnExactBoxOf", spec := "fnExactBoxOf", unfollowed := true, recurses := true, apart := false }
def FnExactBoxOfSaid : Prop := fnExactBoxOfRow.holds Try.pinned (OpenSpec.ofChange fnExactBoxOfSpec)

/-- ITS FALSE NEIGHBOUR: 'it returns false'. Refute it at one input. -/
def fnExactBoxOfWrong : ChangeSpec := { name := "fnExactBoxOf", fn := fun _ => fun
  | [d] => { results := [.lit (.bool false)], args := [d] }
  | _ => none }
def FnExactBoxOfWrongFalsely : Prop := fnExactBoxOfRow.holds Try.pinned (OpenSpec.ofChange fnExactBoxOfWrong)

/-- 'laws.FnExactWhereIs': WHATEVER THE INPUT: true; the input reads as it did. -/
def fnExactWhereIsSpec : ChangeSpec := { name := "fnExactWhereIs", fn := fun _ => fun
  | [d1, d2, d3] => { results := [.lit (.bool true)], args := [d1, d2, d3] }
  | _ => none }
def fnExactWhereIsRow : OpenClaim := { program := "ytdklfcanifmnpaa", sum := "5cb83d4251256d14222121dbf135e5fd9df118e7973703afe43c695f6b301106", func := "loop.example/g01322/laws.FnExactWhereIs", spec := "fnExactWhereIs", unfollowed := true, recurses := true, apart := false }
def FnExactWhereIsSaid : Prop := fnExactWhereIsRow.holds Try.pinned (OpenSpec.ofChange fnExactWhereIsSpec)

/-- ITS FALSE NEIGHBOUR: 'it returns false'. Refute it at one input. -/
def fnExactWhereIsWrong : ChangeSpec := { name := "fnExactWhereIs", fn := fun _ => fun
  | [d1, d2, d3] => { results := [.lit (.bool false)], args := [d1, d2, d3] }
  | _ => none }
def FnExactWhereIsWrongFalsely : Prop := fnExactWhereIsRow.holds Try.pinned (OpenSpec.ofChange fnExactWhereIsWrong)

/-- 'laws.FnExactMoveStone': WHATEVER THE INPUT: true; the input reads as it did. -/
def fnExactMoveStoneSpec : ChangeSpec := { name := "fnExactMoveStone", fn := fun _ => fun
  | [d1, d2, d3] => { results := [.lit (.bool true)], args := [d1, d2, d3] }
  | _ => none }
def fnExactMoveStoneRow : OpenClaim := { program := "ytdklfcanifmnpaa", sum := "5cb83d4251256d14222121dbf135e5fd9df118e7973703afe43c695f6b301106", func := "loop.example/g01322/laws.FnExactMoveStone", spec := "fnExactMoveStone", unfollowed := true, recurses := true, apart := false }
def FnExactMoveStoneSaid : Prop := fnExactMoveStoneRow.holds Try.pinned (OpenSpec.ofChange fnExactMoveStoneSpec)

/-- ITS FALSE NEIGHBOUR: 'it returns false'. Refute it at one input. -/
def fnExactMoveStoneWrong : ChangeSpec := { name := "fnExactMoveStone", fn := fun _ => fun
  | [d1, d2, d3] => { results := [.lit (.bool false)], args := [d1, d2, d3] }
  | _ => none }
def FnExactMoveStoneWrongFalsely : Prop := fnExactMoveStoneRow.holds Try.pinned (OpenSpec.ofChange fnExactMoveStoneWrong)

/-- 'laws.FnExactSplitStone': WHATEVER THE INPUT: true; the input reads as it did. -/
def fnExactSplitStoneSpec : ChangeSpec := { name := "fnExactSplitStone", fn := fun _ => fun
  | [d1, d2, d3] => { results := [.lit (.bool true)], args := [d1, d2, d3] }
  | _ => none }
def fnExactSplitStoneRow : OpenClaim := { program := "ytdklfcanifmnpaa", sum := "5cb83d4251256d14222121dbf135e5fd9df118e7973703afe43c695f6b301106", func := "loop.example/g01322/laws.FnExactSplitStone", spec := "fnExactSplitStone", unfollowed := true, recurses := true, apart := false }
def FnExactSplitStoneSaid : Prop := fnExactSplitStoneRow.holds Try.pinned (OpenSpec.ofChange fnExactSplitStoneSpec)

/-- ITS FALSE NEIGHBOUR: 'it returns false'. Refute it at one input. -/
def fnExactSplitStoneWrong : ChangeSpec := { name := "fnExactSplitStone", fn := fun _ => fun
  | [d1, d2, d3] => { results := [.lit (.bool false)], args := [d1, d2, d3] }
  | _ => none }
def FnExactSplitStoneWrongFalsely : Prop := fnExactSplitStoneRow.holds Try.pinned (OpenSpec.ofChange fnExactSplitStoneWrong)

/-- 'laws.FnExactFirstStone': WHATEVER THE INPUT: true; the input reads as it did. -/
def fnExactFirstStoneSpec : ChangeSpec := { name := "fnExactFirstStone", fn := fun _ => fun
  | [d] => { results := [.lit (.bool true)], args := [d] }
  | _ => none }
def fnExactFirstStoneRow : OpenClaim := { program := "ytdklfcanifmnpaa", sum := "5cb83d4251256d14222121dbf135e5fd9df118e7973703afe43c695f6b301106", func := "loop.example/g01322/laws.FnExactFirstStone", spec := "fnExactFirstStone", unfollowed := true, recurses := true, apart := false }
def FnExactFirstStoneSaid : Prop := fnExactFirstStoneRow.holds Try.pinned (OpenSpec.ofChange fnExactFirstStoneSpec)

/-- ITS FALSE NEIGHBOUR: 'it returns false'. Refute it at one input. -/
def fnExactFirstStoneWrong : ChangeSpec := { name := "fnExactFirstStone", fn := fun _ => fun
  | [d] => { results := [.lit (.bool false)], args := [d] }
  | _ => none }
def FnExactFirstStoneWrongFalsely : Prop := fnExactFirstStoneRow.holds Try.pinned (OpenSpec.ofChange fnExactFirstStoneWrong)

/-- 'laws.FnExactJoinStones': WHATEVER THE INPUT: true; the input reads as it did. -/
def fnExactJoinStonesSpec : ChangeSpec := { name := "fnExactJoinStones", fn := fun _ => fun
  | [d1, d2] => { results := [.lit (.bool true)], args := [d1, d2] }
  | _ => none }
def fnExactJoinStonesRow : OpenClaim := { program := "ytdklfcanifmnpaa", sum := "5cb83d4251256d14222121dbf135e5fd9df118e7973703afe43c695f6b301106", func := "loop.example/g01322/laws.FnExactJoinStones", spec := "fnExactJoinStones", unfollowed := true, recurses := true, apart := false }
def FnExactJoinStonesSaid : Prop := fnExactJoinStonesRow.holds Try.pinned (OpenSpec.ofChange fnExactJoinStonesSpec)

/-- ITS FALSE NEIGHBOUR: 'it returns false'. Refute it at one input. -/
def fnExactJoinStonesWrong : ChangeSpec := { name := "fnExactJoinStones", fn := fun _ => fun
  | [d1, d2] => { results := [.lit (.bool false)], args := [d1, d2] }
  | _ => none }
def FnExactJoinStonesWrongFalsely : Prop := fnExactJoinStonesRow.holds Try.pinned (OpenSpec.ofChange fnExactJoinStonesWrong)

/- THE SECOND FORM. 'bulk': how many values and letters a reading holds, each counted each time it is reached (what is shared counts as often as it is met; a slice's spare places count too). A statement '..UptoSaid' is the law's where the arguments, and the package variables that the reading takes, are together of bulk at most 1048576: NARROWER than '..Said'. Prove '..Said' where nothing that the law and all that it calls make is longer than what came in: it says more and counts as full. Else prove '..UptoSaid'. A law counts once. -/
mutual
def uptoBulk {H : Type} : DataW H → Nat
  | .lit (.string bytes) => bytes.length + 1
  | .lit _ => 1
  | .nil => 1
  | .ptr d => uptoBulk d + 1
  | .slice elems spare => uptoBulkAll elems + uptoBulkAll spare + 1
  | .agg parts => uptoBulkAll parts + 1
  | .iface _ d => uptoBulk d + 1
  | .map entries => uptoBulkEntries entries + 1
  | .held _ => 1
def uptoBulkAll {H : Type} : List (DataW H) → Nat
  | [] => 0
  | d :: r => uptoBulk d + uptoBulkAll r
def uptoBulkEntries {H : Type} : List (Lit × DataW H) → Nat
  | [] => 0
  | x :: r => uptoBulkEntry x + uptoBulkEntries r
def uptoBulkEntry {H : Type} : Lit × DataW H → Nat
  | (.string bytes, d) => bytes.length + uptoBulk d + 1
  | (_, d) => uptoBulk d + 1
 end
def uptoSmall : (H : Type) → List (DataW H) → Bool := fun _ ds => decide (uptoBulkAll ds ≤ 1048576)
def OpenSpec.upto (s : _root_.Go.ChangeSpec) : _root_.Go.OpenSpec := { _root_.Go.OpenSpec.ofChange s with cond := some uptoSmall }

/-- 'laws.FnExactInFrame', WHERE WHAT IT READS IS OF BULK AT MOST 1048576: true; the input reads as it did. -/
def fnExactInFrameUptoRow : OpenClaim := { program := "ytdklfcanifmnpaa", sum := "5cb83d4251256d14222121dbf135e5fd9df118e7973703afe43c695f6b301106", func := "loop.example/g01322/laws.FnExactInFrame", spec := "fnExactInFrame", unfollowed := true, recurses := true, apart := false, narrowed := true }
def FnExactInFrameUptoSaid : Prop := fnExactInFrameUptoRow.holds Try.pinned (OpenSpec.upto fnExactInFrameSpec)

/-- 'laws.FnExactMirrorStone', WHERE WHAT IT READS IS OF BULK AT MOST 1048576: true; the input reads as it did. -/
def fnExactMirrorStoneUptoRow : OpenClaim := { program := "ytdklfcanifmnpaa", sum := "5cb83d4251256d14222121dbf135e5fd9df118e7973703afe43c695f6b301106", func := "loop.example/g01322/laws.FnExactMirrorStone", spec := "fnExactMirrorStone", unfollowed := true, recurses := true, apart := false, narrowed := true }
def FnExactMirrorStoneUptoSaid : Prop := fnExactMirrorStoneUptoRow.holds Try.pinned (OpenSpec.upto fnExactMirrorStoneSpec)

/-- 'laws.FnExactTurnStone', WHERE WHAT IT READS IS OF BULK AT MOST 1048576: true; the input reads as it did. -/
def fnExactTurnStoneUptoRow : OpenClaim := { program := "ytdklfcanifmnpaa", sum := "5cb83d4251256d14222121dbf135e5fd9df118e7973703afe43c695f6b301106", func := "loop.example/g01322/laws.FnExactTurnStone", spec := "fnExactTurnStone", unfollowed := true, recurses := true, apart := false, narrowed := true }
def FnExactTurnStoneUptoSaid : Prop := fnExactTurnStoneUptoRow.holds Try.pinned (OpenSpec.upto fnExactTurnStoneSpec)

/-- 'laws.FnExactBoxOf', WHERE WHAT IT READS IS OF BULK AT MOST 1048576: true; the input reads as it did. -/
def fnExactBoxOfUptoRow : OpenClaim := { program := "ytdklfcanifmnpaa", sum := "5cb83d4251256d14222121dbf135e5fd9df118e7973703afe43c695f6b301106", func := "loop.example/g01322/laws.FnExactBoxOf", spec := "fnExactBoxOf", unfollowed := true, recurses := true, apart := false, narrowed := true }
def FnExactBoxOfUptoSaid : Prop := fnExactBoxOfUptoRow.holds Try.pinned (OpenSpec.upto fnExactBoxOfSpec)

/-- 'laws.FnExactWhereIs', WHERE WHAT IT READS IS OF BULK AT MOST 1048576: true; the input reads as it did. -/
def fnExactWhereIsUptoRow : OpenClaim := { program := "ytdklfcanifmnpaa", sum := "5cb83d4251256d14222121dbf135e5fd9df118e7973703afe43c695f6b301106", func := "loop.example/g01322/laws.FnExactWhereIs", spec := "fnExactWhereIs", unfollowed := true, recurses := true, apart := false, narrowed := true }
def FnExactWhereIsUptoSaid : Prop := fnExactWhereIsUptoRow.holds Try.pinned (OpenSpec.upto fnExactWhereIsSpec)

/-- 'laws.FnExactMoveStone', WHERE WHAT IT READS IS OF BULK AT MOST 1048576: true; the input reads as it did. -/
def fnExactMoveStoneUptoRow : OpenClaim := { program := "ytdklfcanifmnpaa", sum := "5cb83d4251256d14222121dbf135e5fd9df118e7973703afe43c695f6b301106", func := "loop.example/g01322/laws.FnExactMoveStone", spec := "fnExactMoveStone", unfollowed := true, recurses := true, apart := false, narrowed := true }
def FnExactMoveStoneUptoSaid : Prop := fnExactMoveStoneUptoRow.holds Try.pinned (OpenSpec.upto fnExactMoveStoneSpec)

/-- 'laws.FnExactSplitStone', WHERE WHAT IT READS IS OF BULK AT MOST 1048576: true; the input reads as it did. -/
def fnExactSplitStoneUptoRow : OpenClaim := { program := "ytdklfcanifmnpaa", sum := "5cb83d4251256d14222121dbf135e5fd9df118e7973703afe43c695f6b301106", func := "loop.example/g01322/laws.FnExactSplitStone", spec := "fnExactSplitStone", unfollowed := true, recurses := true, apart := false, narrowed := true }
def FnExactSplitStoneUptoSaid : Prop := fnExactSplitStoneUptoRow.holds Try.pinned (OpenSpec.upto fnExactSplitStoneSpec)

/-- 'laws.FnExactFirstStone', WHERE WHAT IT READS IS OF BULK AT MOST 1048576: true; the input reads as it did. -/
def fnExactFirstStoneUptoRow : OpenClaim := { program := "ytdklfcanifmnpaa", sum := "5cb83d4251256d14222121dbf135e5fd9df118e7973703afe43c695f6b301106", func := "loop.example/g01322/laws.FnExactFirstStone", spec := "fnExactFirstStone", unfollowed := true, recurses := true, apart := false, narrowed := true }
def FnExactFirstStoneUptoSaid : Prop := fnExactFirstStoneUptoRow.holds Try.pinned (OpenSpec.upto fnExactFirstStoneSpec)

/-- 'laws.FnExactJoinStones', WHERE WHAT IT READS IS OF BULK AT MOST 1048576: true; the input reads as it did. -/
def fnExactJoinStonesUptoRow : OpenClaim := { program := "ytdklfcanifmnpaa", sum := "5cb83d4251256d14222121dbf135e5fd9df118e7973703afe43c695f6b301106", func := "loop.example/g01322/laws.FnExactJoinStones", spec := "fnExactJoinStones", unfollowed := true, recurses := true, apart := false, narrowed := true }
def FnExactJoinStonesUptoSaid : Prop := fnExactJoinStonesUptoRow.holds Try.pinned (OpenSpec.upto fnExactJoinStonesSpec)

end Rows
end Go.Proofs.Ytdklfcanifmnpaa
