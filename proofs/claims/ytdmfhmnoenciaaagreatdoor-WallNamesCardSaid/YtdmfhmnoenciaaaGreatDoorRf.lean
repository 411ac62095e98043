/- Closed facts of the law's row. No conditions. -/
import Derived.Test.YtdmfhmnoenciaaaGreatDoorRows
import Derived.ProofKit
namespace Go.Proofs.YtdmfhmnoenciaaaGreatDoor
open Go
theorem rLawNamed : Tryz.prog.funcNamed Rows.wallNamesRow.func = some 3 := by kernel_rfl
theorem rInst : Tryz.f3.isInstance Tryz.prog Rows.wallNamesRow.origin Rows.wallNamesRow.targs := of_decide_eq_true (by kernel_rfl)
theorem rWrap : Tryz.f3.isWrapper Tryz.prog Rows.wallNamesRow.wrapper Rows.wallNamesRow.mainSum := by unfold Func.isWrapper; first | (rw [if_pos (by decide +kernel)]; kernel_rfl) | (rw [if_neg (by decide +kernel)]; exact ⟨rfl, rfl⟩)
end Go.Proofs.YtdmfhmnoenciaaaGreatDoor
