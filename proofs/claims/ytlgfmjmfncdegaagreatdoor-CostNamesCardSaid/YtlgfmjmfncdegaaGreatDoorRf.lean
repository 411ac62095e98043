/- Closed facts of the law's row. No conditions. -/
import Derived.Test.YtlgfmjmfncdegaaGreatDoorRows
import Derived.ProofKit
namespace Go.Proofs.YtlgfmjmfncdegaaGreatDoor
open Go
theorem rLawNamed : Tryz.prog.funcNamed Rows.costNamesRow.func = some 3 := by kernel_rfl
theorem rInst : Tryz.f3.isInstance Tryz.prog Rows.costNamesRow.origin Rows.costNamesRow.targs := of_decide_eq_true (by kernel_rfl)
theorem rWrap : Tryz.f3.isWrapper Tryz.prog Rows.costNamesRow.wrapper Rows.costNamesRow.mainSum := by unfold Func.isWrapper; first | (rw [if_pos (by decide +kernel)]; kernel_rfl) | (rw [if_neg (by decide +kernel)]; exact ⟨rfl, rfl⟩)
end Go.Proofs.YtlgfmjmfncdegaaGreatDoor
