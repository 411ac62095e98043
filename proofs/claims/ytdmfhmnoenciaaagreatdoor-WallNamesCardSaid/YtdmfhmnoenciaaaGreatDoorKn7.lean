/- Known calls of the law, level 7. No conditions. -/
import Derived.Test.YtdmfhmnoenciaaaGreatDoorKn6
namespace Go.Vt
open Go.Proofs
noncomputable def callL7 : FactL := [fa126] ++ callL6
theorem calls7 : FactsOk Tryz.prog (globF globL) callL7 := FactsOk.append (.one fact126 <| .nil) calls6
end Go.Vt
namespace Go.Vt
open Go.Proofs
noncomputable def fa127 : Nat × List AV × AV := (3, [], (.bool true))
set_option maxRecDepth 1000000 in
theorem fact127 : FactOk Tryz.prog (globF globL) fa127.1 fa127.2.1 fa127.2.2 := fact_of calls7 Tryz.func3 rfl (by kernel_rfl)
end Go.Vt
