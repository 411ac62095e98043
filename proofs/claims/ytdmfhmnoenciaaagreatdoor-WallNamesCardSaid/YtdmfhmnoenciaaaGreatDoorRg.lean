/- All closed facts of the law's row. No conditions. -/
import Derived.Test.YtdmfhmnoenciaaaGreatDoorRa
import Derived.Test.YtdmfhmnoenciaaaGreatDoorRb
import Derived.Test.YtdmfhmnoenciaaaGreatDoorRc
import Derived.Test.YtdmfhmnoenciaaaGreatDoorRd
import Derived.Test.YtdmfhmnoenciaaaGreatDoorRe
namespace Go.Proofs.YtdmfhmnoenciaaaGreatDoor
open Go Go.Vt
theorem rFacts : joinedFacts Tryz.prog 3 Tryz.f3 Rows.wallNamesSpec Rows.wallNamesRow = true :=
  joinedFacts_law (t := 4) rfl rfl rfl rBool rLt rWf rClosed.1 rClosed.2.1 rTie rfl rStops rfl rKnobs rInPlace rUnf rRec rNamed ⟨rfl, rfl⟩ rMapsOut ⟨rfl, rfl, rfl, rfl⟩
    ((show Rows.wallNamesRow.plainKeys = true from rfl).trans rClosed.2.2.symm) rfl rHeard rEnter rLifts rMake ⟨rfl, rfl⟩ rfl rfl rVeiled
end Go.Proofs.YtdmfhmnoenciaaaGreatDoor
