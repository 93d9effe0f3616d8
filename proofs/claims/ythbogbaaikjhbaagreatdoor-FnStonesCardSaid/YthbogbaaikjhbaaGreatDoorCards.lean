/-
  DERIVED. GIVEN WITH THE SEED: THE CARDS: each row of YthbogbaaikjhbaaGreatDoorRows.lean that lists a variable, with what it lists TIED to the program's text (the seventh form; the later family's looks); each row that meets fmt, with fmt's text TOLD by the authors' own Lean function (tested against real Go, not proved from fmt's source: count such statements apart). THE CARD IS WHAT COUNTS. Prove the row's statement (the work); the ties are given (YthbogbaaikjhbaaGreatDoorTie.lean); close each card by the builder's one call (the guide's Derived/Test/ToyasCard.lean, 'card_holds'). Laid BY PROGRAM, IN A SANDBOX (cutbox-door.mjs). By AI agents, Wed Nov 11 2026. No macro, syntax, notation, axiom, sorry.
-/
import Derived.Test.YthbogbaaikjhbaaGreatDoorRows
import GoSem.ClaimSeven
namespace Go.Proofs.YthbogbaaikjhbaaGreatDoor
namespace Rows

/-- THE TIED CARD OF 'laws.FnStones'. -/
def fnStonesCard : Claim7 := { stood := { row := fnStonesRow, standIns := [], harness := (true, "4f571ace40ccf900fdf9440e6494bbcc17c7c0c6ad17a094fb85aaa264477d63"), looks := true }, kinds := [], alts := [], laidByText := true, laidKinds := [.data, .data, .data, .data, .sentinel, .sentinel, .pinned], laidTests := true, laidLooks := .later }
def FnStonesCardSaid : Prop := Claim7.holds Tryz.pinned (.plain (OpenSpec.ofChange fnStonesSpec)) fnStonesCard

/-- THE SECOND FORM's CARD OF 'laws.FnStones'. -/
def fnStonesUptoCard : Claim7 := { stood := { row := fnStonesUptoRow, standIns := [], harness := (true, "4f571ace40ccf900fdf9440e6494bbcc17c7c0c6ad17a094fb85aaa264477d63"), looks := true }, kinds := [], alts := [], laidByText := true, laidKinds := [.data, .data, .data, .data, .sentinel, .sentinel, .pinned], laidTests := true, laidLooks := .later }
def FnStonesUptoCardSaid : Prop := Claim7.holds Tryz.pinned (.plain (OpenSpec.upto fnStonesSpec)) fnStonesUptoCard
end Rows
end Go.Proofs.YthbogbaaikjhbaaGreatDoor
