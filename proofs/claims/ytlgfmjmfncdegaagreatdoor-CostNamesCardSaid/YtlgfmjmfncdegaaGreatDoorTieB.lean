/- The tie of the law's row: facts of the program's text, one by one. No conditions. -/
import Derived.Test.YtlgfmjmfncdegaaGreatDoorTieA
namespace Go.Proofs.YtlgfmjmfncdegaaGreatDoor
open Go
theorem tieNamed : varsNamedLaterB Tryz.prog (varsId Tryz.prog) laidB = true := by
  rw [varsId_eq]
  kernel_rfl
theorem tieDone : ∀ os tape, varsDone Tryz.prog 400 (varsId Tryz.prog) os tape = true := fun os tape => by
  rw [varsId_eq]
  kernel_rfl
end Go.Proofs.YtlgfmjmfncdegaaGreatDoor
