/-
  No cell of these rows narrows 'for every input' (looked for: loops, veiled, ifaces, maps, wideKeys, modest, calm, conditions, laid).
  DERIVED. THE GIVEN ROWS OF THIS SEAT. 3 by the template 'for every input the law returns true; each argument reads behind the call as it read before'; 0 by the template 'total and deterministic' (their statements: YtohhcomokcdbfaaTotals.lean).
  GIVEN WITH THE SEED: the statements are not yours to turn. If you find one false, say at which input.
  Laid BY PROGRAM, IN A SANDBOX (cutbox-rows.mjs): the forced cells as the released guide's own fill.sh prints them over the translation aa39fcd231889b36… (all of the seat's roots in one cut). By AI agents, Wed Nov 11 2026. No macro, syntax, notation, axiom, sorry.
-/
import Derived.Test.YtohhcomokcdbfaaChecked
import GoSem.Claim
import GoSem.ClaimJoined
import GoSem.ClaimMapViews
import Derived.JoinedTies
import Derived.KernelRfl
namespace Go.Proofs.Ytohhcomokcdbfaa
/- THE CELL 'sum', in the pinned program and in every row, IS THE sha256 OF THE DUMP (.gsa) THAT YtohhcomokcdbfaaProg.lean LOADS. Nothing in Lean hashes anything: it is a label: what it is worth is what the hold of that sum in a sandbox is worth. -/
noncomputable def Try.pinned : Pinned := { name := "ytohhcomokcdbfaa", sum := "aa39fcd231889b3661777e9500a91fada1acbf34e9a744a3029bcb5e1d7d5bd9", checked := Try.checked }
namespace Rows
def none {H : Type} : Left H := { results := [], args := [] }

/-- 'laws.FnExactSeamSquare': WHATEVER THE INPUT: true; the input reads as it did. -/
def fnExactSeamSquareSpec : ChangeSpec := { name := "fnExactSeamSquare", fn := fun _ => fun
  | [d1, d2] => { results := [.lit (.bool true)], args := [d1, d2] }
  | _ => none }
def fnExactSeamSquareRow : OpenClaim := { program := "ytohhcomokcdbfaa", sum := "aa39fcd231889b3661777e9500a91fada1acbf34e9a744a3029bcb5e1d7d5bd9", func := "loop.example/g01322/laws.FnExactSeamSquare", spec := "fnExactSeamSquare", unfollowed := true, recurses := true, apart := false }
def FnExactSeamSquareSaid : Prop := fnExactSeamSquareRow.holds Try.pinned (OpenSpec.ofChange fnExactSeamSquareSpec)

/-- ITS FALSE NEIGHBOUR: 'it returns false'. Refute it at one input. -/
def fnExactSeamSquareWrong : ChangeSpec := { name := "fnExactSeamSquare", fn := fun _ => fun
  | [d1, d2] => { results := [.lit (.bool false)], args := [d1, d2] }
  | _ => none }
def FnExactSeamSquareWrongFalsely : Prop := fnExactSeamSquareRow.holds Try.pinned (OpenSpec.ofChange fnExactSeamSquareWrong)

/-- 'laws.FnExactSeamsIn': WHATEVER THE INPUT: true; the input reads as it did. -/
def fnExactSeamsInSpec : ChangeSpec := { name := "fnExactSeamsIn", fn := fun _ => fun
  | [d1, d2] => { results := [.lit (.bool true)], args := [d1, d2] }
  | _ => none }
def fnExactSeamsInRow : OpenClaim := { program := "ytohhcomokcdbfaa", sum := "aa39fcd231889b3661777e9500a91fada1acbf34e9a744a3029bcb5e1d7d5bd9", func := "loop.example/g01322/laws.FnExactSeamsIn", spec := "fnExactSeamsIn", unfollowed := true, recurses := true, apart := false }
def FnExactSeamsInSaid : Prop := fnExactSeamsInRow.holds Try.pinned (OpenSpec.ofChange fnExactSeamsInSpec)

/-- ITS FALSE NEIGHBOUR: 'it returns false'. Refute it at one input. -/
def fnExactSeamsInWrong : ChangeSpec := { name := "fnExactSeamsIn", fn := fun _ => fun
  | [d1, d2] => { results := [.lit (.bool false)], args := [d1, d2] }
  | _ => none }
def FnExactSeamsInWrongFalsely : Prop := fnExactSeamsInRow.holds Try.pinned (OpenSpec.ofChange fnExactSeamsInWrong)

/-- 'laws.FnExactFirstStone': WHATEVER THE INPUT: true; the input reads as it did. -/
def fnExactFirstStoneSpec : ChangeSpec := { name := "fnExactFirstStone", fn := fun _ => fun
  | [d] => { results := [.lit (.bool true)], args := [d] }
  | _ => none }
def fnExactFirstStoneRow : OpenClaim := { program := "ytohhcomokcdbfaa", sum := "aa39fcd231889b3661777e9500a91fada1acbf34e9a744a3029bcb5e1d7d5bd9", func := "loop.example/g01322/laws.FnExactFirstStone", spec := "fnExactFirstStone", unfollowed := true, recurses := true, apart := false }
def FnExactFirstStoneSaid : Prop := fnExactFirstStoneRow.holds Try.pinned (OpenSpec.ofChange fnExactFirstStoneSpec)

/-- ITS FALSE NEIGHBOUR: 'it returns false'. Refute it at one input. -/
def fnExactFirstStoneWrong : ChangeSpec := { name := "fnExactFirstStone", fn := fun _ => fun
  | [d] => { results := [.lit (.bool false)], args := [d] }
  | _ => none }
def FnExactFirstStoneWrongFalsely : Prop := fnExactFirstStoneRow.holds Try.pinned (OpenSpec.ofChange fnExactFirstStoneWrong)

/- THE SECOND FORM. 'bulk': how many values and letters a reading holds, each counted each time it is reached (what is shared counts as often as it is met; a slice's spare places count too). A statement '..UptoSaid' is the law's where the arguments, and the package variables that the reading takes, are together of bulk at most 1048576: NARROWER than '..Said'. Prove '..Said' where nothing that the law and all that it calls make is longer than what came in: it says more and counts as full. Else prove '..UptoSaid'. A law counts once. -/
mutual
def uptoBulk {H : Type} : DataW H → Nat
  | .lit (.string bytes) => bytes.length + 1
  | .lit _ => 1
  | .nil => 1
  | .ptr d => uptoBulk d + 1
  | .slice elems spare => uptoBulkAll elems + uptoBulkAll spare + 1
  | .agg parts => uptoBulkAll parts + 1
  | .iface _ d => uptoBulk d + 1
  | .map entries => uptoBulkEntries entries + 1
  | .held _ => 1
def uptoBulkAll {H : Type} : List (DataW H) → Nat
  | [] => 0
  | d :: r => uptoBulk d + uptoBulkAll r
def uptoBulkEntries {H : Type} : List (Lit × DataW H) → Nat
  | [] => 0
  | x :: r => uptoBulkEntry x + uptoBulkEntries r
def uptoBulkEntry {H : Type} : Lit × DataW H → Nat
  | (.string bytes, d) => bytes.length + uptoBulk d + 1
  | (_, d) => uptoBulk d + 1
 end
def uptoSmall : (H : Type) → List (DataW H) → Bool := fun _ ds => decide (uptoBulkAll ds ≤ 1048576)
def OpenSpec.upto (s : _root_.Go.ChangeSpec) : _root_.Go.OpenSpec := { _root_.Go.OpenSpec.ofChange s with cond := some uptoSmall }

/-- 'laws.FnExactSeamSquare', WHERE WHAT IT READS IS OF BULK AT MOST 1048576: true; the input reads as it did. -/
def fnExactSeamSquareUptoRow : OpenClaim := { program := "ytohhcomokcdbfaa", sum := "aa39fcd231889b3661777e9500a91fada1acbf34e9a744a3029bcb5e1d7d5bd9", func := "loop.example/g01322/laws.FnExactSeamSquare", spec := "fnExactSeamSquare", unfollowed := true, recurses := true, apart := false, narrowed := true }
def FnExactSeamSquareUptoSaid : Prop := fnExactSeamSquareUptoRow.holds Try.pinned (OpenSpec.upto fnExactSeamSquareSpec)

/-- 'laws.FnExactSeamsIn', WHERE WHAT IT READS IS OF BULK AT MOST 1048576: true; the input reads as it did. -/
def fnExactSeamsInUptoRow : OpenClaim := { program := "ytohhcomokcdbfaa", sum := "aa39fcd231889b3661777e9500a91fada1acbf34e9a744a3029bcb5e1d7d5bd9", func := "loop.example/g01322/laws.FnExactSeamsIn", spec := "fnExactSeamsIn", unfollowed := true, recurses := true, apart := false, narrowed := true }
def FnExactSeamsInUptoSaid : Prop := fnExactSeamsInUptoRow.holds Try.pinned (OpenSpec.upto fnExactSeamsInSpec)

/-- 'laws.FnExactFirstStone', WHERE WHAT IT READS IS OF BULK AT MOST 1048576: true; the input reads as it did. -/
def fnExactFirstStoneUptoRow : OpenClaim := { program := "ytohhcomokcdbfaa", sum := "aa39fcd231889b3661777e9500a91fada1acbf34e9a744a3029bcb5e1d7d5bd9", func := "loop.example/g01322/laws.FnExactFirstStone", spec := "fnExactFirstStone", unfollowed := true, recurses := true, apart := false, narrowed := true }
def FnExactFirstStoneUptoSaid : Prop := fnExactFirstStoneUptoRow.holds Try.pinned (OpenSpec.upto fnExactFirstStoneSpec)

end Rows
end Go.Proofs.Ytohhcomokcdbfaa
