/-
  DERIVED. GIVEN WITH THE SEED: THE CARDS: each row of YtdmfhmnoenciaaaGreatDoorRows.lean that lists a variable, with what it lists TIED to the program's text (the seventh form; the later family's looks); each row that meets fmt, with fmt's text TOLD by the authors' own Lean function (tested against real Go, not proved from fmt's source: count such statements apart). THE CARD IS WHAT COUNTS. Prove the row's statement (the work); the ties are given (YtdmfhmnoenciaaaGreatDoorTie.lean); close each card by the builder's one call (the guide's Derived/Test/ToyasCard.lean, 'card_holds'). Laid BY PROGRAM, IN A SANDBOX (cutbox-door.mjs). By AI agents, Wed Nov 11 2026. No macro, syntax, notation, axiom, sorry.
-/
import Derived.Test.YtdmfhmnoenciaaaGreatDoorRows
import GoSem.ClaimSeven
namespace Go.Proofs.YtdmfhmnoenciaaaGreatDoor
namespace Rows

/-- THE TIED CARD OF 'vitrinelaw43.WallNames'. -/
def wallNamesCard : Claim7 := { stood := { row := wallNamesRow, standIns := [], harness := (true, "24c771e6b646710909bba5c36089ce28836f8a202c588cd7f2d4480c6f2ef46f"), looks := true }, kinds := [], alts := [], laidByText := true, laidKinds := [.pinned, .data, .sentinel, .sentinel, .data, .data, .data, .data, .listed], laidTests := true, laidLooks := .later }
def WallNamesCardSaid : Prop := Claim7.holds Tryz.pinned (.plain (OpenSpec.ofChange wallNamesSpec)) wallNamesCard

/-- THE SECOND FORM's CARD OF 'vitrinelaw43.WallNames'. -/
def wallNamesUptoCard : Claim7 := { stood := { row := wallNamesUptoRow, standIns := [], harness := (true, "24c771e6b646710909bba5c36089ce28836f8a202c588cd7f2d4480c6f2ef46f"), looks := true }, kinds := [], alts := [], laidByText := true, laidKinds := [.pinned, .data, .sentinel, .sentinel, .data, .data, .data, .data, .listed], laidTests := true, laidLooks := .later }
def WallNamesUptoCardSaid : Prop := Claim7.holds Tryz.pinned (.plain (OpenSpec.upto wallNamesSpec)) wallNamesUptoCard
end Rows
end Go.Proofs.YtdmfhmnoenciaaaGreatDoor
