/- Closed facts of the law's row. No conditions. -/
import Derived.Test.YtlgfmjmfncdegaaGreatDoorRows
import Derived.ProofKit
namespace Go.Proofs.YtlgfmjmfncdegaaGreatDoor
open Go
theorem rEnter : Tryz.prog.mayEnter = true := by kernel_rfl
end Go.Proofs.YtlgfmjmfncdegaaGreatDoor
