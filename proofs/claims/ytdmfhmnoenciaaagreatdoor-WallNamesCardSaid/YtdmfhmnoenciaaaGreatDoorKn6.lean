/- Known calls of the law, level 6. No conditions. -/
import Derived.Test.YtdmfhmnoenciaaaGreatDoorKn5
namespace Go.Vt
open Go.Proofs
noncomputable def callL6 : FactL := [fa17, fa34, fa54, fa97, fa109, fa125] ++ callL5
theorem calls6 : FactsOk Tryz.prog (globF globL) callL6 := FactsOk.append (.one fact17 <| .one fact34 <| .one fact54 <| .one fact97 <| .one fact109 <| .one fact125 <| .nil) calls5
end Go.Vt
namespace Go.Vt
open Go.Proofs
noncomputable def fa126 : Nat × List AV × AV := (9, [], (.bool true))
theorem fact126 : FactOk Tryz.prog (globF globL) fa126.1 fa126.2.1 fa126.2.2 := fact_of calls6 Tryz.func9 rfl (by kernel_rfl)
end Go.Vt
