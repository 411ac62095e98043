/- Known calls of the law, level 5. No conditions. -/
import Derived.Test.YtlgfmjmfncdegaaGreatDoorKn4
namespace Go.Vt
open Go.Proofs
noncomputable def callL5 : FactL := [fa12, fa14, fa16, fa27, fa49, fa58, fa59, fa61, fa62, fa64] ++ callL4
theorem calls5 : FactsOk Tryz.prog (globF globL) callL5 := FactsOk.append (.one fact12 <| .one fact14 <| .one fact16 <| .one fact27 <| .one fact49 <| .one fact58 <| .one fact59 <| .one fact61 <| .one fact62 <| .one fact64 <| .nil) calls4
end Go.Vt
namespace Go.Vt
open Go.Proofs
noncomputable def fa28 : Nat × List AV × AV := (312, [(.agg [(.sslice [(.str [104, 116, 109, 108]), .nilSlice, (.int .i64 (.negSucc 0)), (.sslice [(.int .i64 (.ofNat 1))] 1 false), (.str [97]), (.sslice [(.str [104, 114, 101, 102]), (.str [120])] 1 false), (.int .i64 (.ofNat 0)), .nilSlice] 2 false)]), (.sslice [(.int .u8 (.ofNat 0)), (.sslice [(.str []), (.sslice [(.int .u8 (.ofNat 5)), (.str []), (.int .u8 (.ofNat 0)), (.str []), (.bool false), (.int .i64 (.ofNat 0)), (.int .i64 (.ofNat 0)), (.bool false), .nilSlice] 1 false)] 1 false), .nilSlice] 1 false), (.int .i64 (.negSucc 0))], (.tuple [(.sslice [(.bool false), (.bool false)] 2 true), (.int .i64 (.ofNat 0))]))
set_option maxRecDepth 1000000 in
theorem fact28 : FactOk Tryz.prog (globF globL) fa28.1 fa28.2.1 fa28.2.2 := fact_of calls5 Tryz.func312 rfl (by kernel_rfl)
noncomputable def fa65 : Nat × List AV × AV := (67, [(.agg [(.sslice [(.str [104, 116, 109, 108]), .nilSlice, (.int .i64 (.negSucc 0)), (.sslice [(.int .i64 (.ofNat 1))] 1 false), (.str [97]), (.sslice [(.str [104, 114, 101, 102]), (.str [120])] 1 false), (.int .i64 (.ofNat 0)), .nilSlice] 2 false)]), (.int .i64 (.ofNat 1)), (.int .i64 (.ofNat 1)), (.sslice [(.int .u8 (.ofNat 3)), (.sslice [(.int .u8 (.ofNat 1)), (.sslice [(.int .u8 (.ofNat 0)), (.sslice [(.str []), (.sslice [(.int .u8 (.ofNat 5)), (.str []), (.int .u8 (.ofNat 0)), (.str []), (.bool false), (.int .i64 (.ofNat 0)), (.int .i64 (.ofNat 0)), (.bool false), .nilSlice] 1 false)] 1 false), .nilSlice] 1 false), (.sslice [(.str [99, 111, 108, 111, 114]), (.sslice [(.int .u8 (.ofNat 1)), (.str [114, 101, 100]), (.int .i64 (.ofNat 0)), (.str []), (.bool false), .nilSlice] 1 false), (.bool false)] 1 false), (.int .u8 (.ofNat 0)), (.str []), (.int .i64 (.ofNat 0)), (.str []), .nilSlice, (.bool false), .nilSlice, .nilSlice, .nilSlice] 1 false)] 1 false), (.agg [(.int .i64 (.ofNat 0))])], (.tuple [(.sslice [(.str [99, 111, 108, 111, 114]), (.sslice [(.int .u8 (.ofNat 1)), (.str [114, 101, 100]), (.int .i64 (.ofNat 0)), (.str []), (.bool false), .nilSlice] 1 false), (.str []), (.bool false), (.int .u8 (.ofNat 3)), (.bool false), (.int .i64 (.ofNat 0)), (.int .i64 (.ofNat 0)), (.int .i64 (.ofNat 1)), (.int .i64 (.ofNat 0)), (.int .i64 (.ofNat 0))] 1 false), (.int .i64 (.ofNat 0))]))
set_option maxRecDepth 1000000 in
theorem fact65 : FactOk Tryz.prog (globF globL) fa65.1 fa65.2.1 fa65.2.2 := fact_of calls5 Tryz.func67 rfl (by kernel_rfl)
end Go.Vt
