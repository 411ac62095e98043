/- Closed facts of the law's row. No conditions. -/
import Derived.Test.YtlgfmjmfncdegaaGreatDoorRows
import Derived.ClosedOfChecked
namespace Go.Proofs.YtlgfmjmfncdegaaGreatDoor
open Go
theorem rClosed : laidOutB Tryz.prog = true ∧ mapsRowed Tryz.prog = true ∧ Tryz.prog.plainKeys = true := Go.ClosedOfChecked.closed_of_checked Tryz.checked (by kernel_rfl) (by kernel_rfl) (by kernel_rfl)
end Go.Proofs.YtlgfmjmfncdegaaGreatDoor
