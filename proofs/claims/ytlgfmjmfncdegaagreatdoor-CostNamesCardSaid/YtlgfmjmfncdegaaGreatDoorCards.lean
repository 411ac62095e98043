/-
  DERIVED. GIVEN WITH THE SEED: THE CARDS: each row of YtlgfmjmfncdegaaGreatDoorRows.lean that lists a variable, with what it lists TIED to the program's text (the seventh form; the later family's looks); each row that meets fmt, with fmt's text TOLD by the authors' own Lean function (tested against real Go, not proved from fmt's source: count such statements apart). THE CARD IS WHAT COUNTS. Prove the row's statement (the work); the ties are given (YtlgfmjmfncdegaaGreatDoorTie.lean); close each card by the builder's one call (the guide's Derived/Test/ToyasCard.lean, 'card_holds'). Laid BY PROGRAM, IN A SANDBOX (cutbox-door.mjs). By AI agents, Wed Nov 11 2026. No macro, syntax, notation, axiom, sorry.
-/
import Derived.Test.YtlgfmjmfncdegaaGreatDoorRows
import GoSem.ClaimSeven
namespace Go.Proofs.YtlgfmjmfncdegaaGreatDoor
namespace Rows

/-- THE TIED CARD OF 'vitrinelaw45.CostNames'. -/
def costNamesCard : Claim7 := { stood := { row := costNamesRow, standIns := [], harness := (true, "a52aeb3c796cab29cb5edbb75abb6b2a93f6efb5230b8ca0a7db73113555364b"), looks := true }, kinds := [], alts := [], laidByText := true, laidKinds := [.pinned, .data, .sentinel, .sentinel, .data, .data, .data, .data, .listed], laidTests := true, laidLooks := .later }
def CostNamesCardSaid : Prop := Claim7.holds Tryz.pinned (.plain (OpenSpec.ofChange costNamesSpec)) costNamesCard

/-- THE SECOND FORM's CARD OF 'vitrinelaw45.CostNames'. -/
def costNamesUptoCard : Claim7 := { stood := { row := costNamesUptoRow, standIns := [], harness := (true, "a52aeb3c796cab29cb5edbb75abb6b2a93f6efb5230b8ca0a7db73113555364b"), looks := true }, kinds := [], alts := [], laidByText := true, laidKinds := [.pinned, .data, .sentinel, .sentinel, .data, .data, .data, .data, .listed], laidTests := true, laidLooks := .later }
def CostNamesUptoCardSaid : Prop := Claim7.holds Tryz.pinned (.plain (OpenSpec.upto costNamesSpec)) costNamesUptoCard
end Rows
end Go.Proofs.YtlgfmjmfncdegaaGreatDoor
