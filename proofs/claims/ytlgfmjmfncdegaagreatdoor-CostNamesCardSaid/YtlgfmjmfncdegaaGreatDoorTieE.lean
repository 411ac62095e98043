/- The tie of the law's row: facts of the program's text, one by one. No conditions. -/
import Derived.Test.YtlgfmjmfncdegaaGreatDoorTieA
namespace Go.Proofs.YtlgfmjmfncdegaaGreatDoor
open Go
theorem tieWord : Tryz.prog.worded (varsWordLater true) = true := by kernel_rfl
theorem tieNotWord : Tryz.prog.worded (varsWordLater !true) = false := by kernel_rfl
theorem tieRoot : Tryz.prog.worded rootWordLater = true := by kernel_rfl
end Go.Proofs.YtlgfmjmfncdegaaGreatDoor
