/-
  DERIVED. GIVEN WITH THE SEED: THE CARDS: each row of YtaihombmmdnadaaDoorRows.lean that lists a variable, with what it lists TIED to the program's text (the seventh form; the later family's looks); each row that meets fmt, with fmt's text TOLD by the authors' own Lean function (tested against real Go, not proved from fmt's source: count such statements apart). THE CARD IS WHAT COUNTS. Prove the row's statement (the work); the ties are given (YtaihombmmdnadaaDoorTie.lean); close each card by the builder's one call (the guide's Derived/Test/ToyasCard.lean, 'card_holds'). Laid BY PROGRAM, IN A SANDBOX (cutbox-door.mjs). By AI agents, Wed Nov 11 2026. No macro, syntax, notation, axiom, sorry.
-/
import Derived.Test.YtaihombmmdnadaaDoorRows
import GoSem.ClaimSeven
namespace Go.Proofs.YtaihombmmdnadaaDoor
namespace Rows

/-- THE TIED CARD OF 'laws.FnExactBarsText'. -/
def fnExactBarsTextCard : Claim7 := { stood := { row := fnExactBarsTextRow, standIns := [], harness := (true, "3ef6417ada5dfdf8e284941400b214ba037c2519777079884b04a12919ade07f"), looks := false }, kinds := [], alts := [], laidByText := true, laidKinds := [.data, .data, .data], laidTests := true, laidLooks := .later }
def FnExactBarsTextCardSaid : Prop := Claim7.holds Tryd.pinned (.plain (OpenSpec.ofChange fnExactBarsTextSpec)) fnExactBarsTextCard

/-- THE TIED CARD OF 'laws.FnExactStoneText'. -/
def fnExactStoneTextCard : Claim7 := { stood := { row := fnExactStoneTextRow, standIns := [], harness := (true, "3ef6417ada5dfdf8e284941400b214ba037c2519777079884b04a12919ade07f"), looks := false }, kinds := [], alts := [], laidByText := true, laidKinds := [.data, .data, .data], laidTests := true, laidLooks := .later }
def FnExactStoneTextCardSaid : Prop := Claim7.holds Tryd.pinned (.plain (OpenSpec.ofChange fnExactStoneTextSpec)) fnExactStoneTextCard

/-- THE SECOND FORM's CARD OF 'laws.FnExactBarsText'. -/
def fnExactBarsTextUptoCard : Claim7 := { stood := { row := fnExactBarsTextUptoRow, standIns := [], harness := (true, "3ef6417ada5dfdf8e284941400b214ba037c2519777079884b04a12919ade07f"), looks := false }, kinds := [], alts := [], laidByText := true, laidKinds := [.data, .data, .data], laidTests := true, laidLooks := .later }
def FnExactBarsTextUptoCardSaid : Prop := Claim7.holds Tryd.pinned (.plain (OpenSpec.upto fnExactBarsTextSpec)) fnExactBarsTextUptoCard

/-- THE SECOND FORM's CARD OF 'laws.FnExactStoneText'. -/
def fnExactStoneTextUptoCard : Claim7 := { stood := { row := fnExactStoneTextUptoRow, standIns := [], harness := (true, "3ef6417ada5dfdf8e284941400b214ba037c2519777079884b04a12919ade07f"), looks := false }, kinds := [], alts := [], laidByText := true, laidKinds := [.data, .data, .data], laidTests := true, laidLooks := .later }
def FnExactStoneTextUptoCardSaid : Prop := Claim7.holds Tryd.pinned (.plain (OpenSpec.upto fnExactStoneTextSpec)) fnExactStoneTextUptoCard
end Rows
end Go.Proofs.YtaihombmmdnadaaDoor
