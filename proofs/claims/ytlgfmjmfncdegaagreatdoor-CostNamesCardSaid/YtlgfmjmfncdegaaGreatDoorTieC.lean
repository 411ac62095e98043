/- The tie of the law's row: facts of the program's text, one by one. No conditions. -/
import Derived.Test.YtlgfmjmfncdegaaGreatDoorTieA
namespace Go.Proofs.YtlgfmjmfncdegaaGreatDoor
open Go
theorem tieRun : ∀ os tape, (DataW.laidRun Tryz.prog (varsWorld Tryz.prog 400 (varsId Tryz.prog) os tape).memory 8 (laidB.map (·.1))).map (·.1) = some laidB := fun os tape => by
  rw [varsId_eq]
  kernel_rfl
end Go.Proofs.YtlgfmjmfncdegaaGreatDoor
