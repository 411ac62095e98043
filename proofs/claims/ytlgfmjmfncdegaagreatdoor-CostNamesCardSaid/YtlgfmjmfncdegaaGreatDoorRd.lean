/- Closed facts of the law's row. No conditions. -/
import Derived.Test.YtlgfmjmfncdegaaGreatDoorRows
import Derived.ProofKit
namespace Go.Proofs.YtlgfmjmfncdegaaGreatDoor
open Go
theorem rKnobs : Tryz.prog.stopKnobs = [] := by kernel_rfl
theorem rHeard : Tryz.prog.stopsHeard = true := by kernel_rfl
end Go.Proofs.YtlgfmjmfncdegaaGreatDoor
