/- Closed facts of the law's row. No conditions. -/
import Derived.Test.YtdmfhmnoenciaaaGreatDoorRows
import Derived.ProofKit
namespace Go.Proofs.YtdmfhmnoenciaaaGreatDoor
open Go
theorem rEnter : Tryz.prog.mayEnter = true := by kernel_rfl
end Go.Proofs.YtdmfhmnoenciaaaGreatDoor
