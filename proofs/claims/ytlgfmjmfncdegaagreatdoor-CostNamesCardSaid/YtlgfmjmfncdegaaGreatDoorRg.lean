/- All closed facts of the law's row. No conditions. -/
import Derived.Test.YtlgfmjmfncdegaaGreatDoorRa
import Derived.Test.YtlgfmjmfncdegaaGreatDoorRb
import Derived.Test.YtlgfmjmfncdegaaGreatDoorRc
import Derived.Test.YtlgfmjmfncdegaaGreatDoorRd
import Derived.Test.YtlgfmjmfncdegaaGreatDoorRe
namespace Go.Proofs.YtlgfmjmfncdegaaGreatDoor
open Go Go.Vt
theorem rFacts : joinedFacts Tryz.prog 3 Tryz.f3 Rows.costNamesSpec Rows.costNamesRow = true :=
  joinedFacts_law (t := 4) rfl rfl rfl rBool rLt rWf rClosed.1 rClosed.2.1 rTie rfl rStops rfl rKnobs rInPlace rUnf rRec rNamed ⟨rfl, rfl⟩ rMapsOut ⟨rfl, rfl, rfl, rfl⟩
    ((show Rows.costNamesRow.plainKeys = true from rfl).trans rClosed.2.2.symm) rfl rHeard rEnter rLifts rMake ⟨rfl, rfl⟩ rfl rfl rVeiled
end Go.Proofs.YtlgfmjmfncdegaaGreatDoor
