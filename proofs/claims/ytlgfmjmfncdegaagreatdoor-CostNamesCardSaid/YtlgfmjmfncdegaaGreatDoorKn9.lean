/- Known calls of the law, level 9. No conditions. -/
import Derived.Test.YtlgfmjmfncdegaaGreatDoorKn8
namespace Go.Vt
open Go.Proofs
noncomputable def callL9 : FactL := [fa50, fa68] ++ callL8
theorem calls9 : FactsOk Tryz.prog (globF globL) callL9 := FactsOk.append (.one fact50 <| .one fact68 <| .nil) calls8
end Go.Vt
namespace Go.Vt
open Go.Proofs
noncomputable def fa71 : Nat × List AV × AV := (10, [], (.bool true))
set_option maxRecDepth 1000000 in
theorem fact71 : FactOk Tryz.prog (globF globL) fa71.1 fa71.2.1 fa71.2.2 := fact_of calls9 Tryz.func10 rfl (by kernel_rfl)
end Go.Vt
