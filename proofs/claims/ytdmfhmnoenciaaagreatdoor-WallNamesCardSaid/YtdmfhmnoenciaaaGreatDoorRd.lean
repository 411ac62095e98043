/- Closed facts of the law's row. No conditions. -/
import Derived.Test.YtdmfhmnoenciaaaGreatDoorRows
import Derived.ProofKit
namespace Go.Proofs.YtdmfhmnoenciaaaGreatDoor
open Go
theorem rKnobs : Tryz.prog.stopKnobs = [] := by kernel_rfl
theorem rHeard : Tryz.prog.stopsHeard = true := by kernel_rfl
end Go.Proofs.YtdmfhmnoenciaaaGreatDoor
