/- Known calls of the law, level 10. No conditions. -/
import Derived.Test.YtlgfmjmfncdegaaGreatDoorKn9
namespace Go.Vt
open Go.Proofs
noncomputable def callL10 : FactL := [fa71] ++ callL9
theorem calls10 : FactsOk Tryz.prog (globF globL) callL10 := FactsOk.append (.one fact71 <| .nil) calls9
end Go.Vt
namespace Go.Vt
open Go.Proofs
noncomputable def fa72 : Nat × List AV × AV := (3, [], (.bool true))
set_option maxRecDepth 1000000 in
theorem fact72 : FactOk Tryz.prog (globF globL) fa72.1 fa72.2.1 fa72.2.2 := fact_of calls10 Tryz.func3 rfl (by kernel_rfl)
end Go.Vt
