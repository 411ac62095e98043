/- Known calls of the law, level 6. No conditions. -/
import Derived.Test.YtlgfmjmfncdegaaGreatDoorKn5
namespace Go.Vt
open Go.Proofs
noncomputable def callL6 : FactL := [fa28, fa65] ++ callL5
theorem calls6 : FactsOk Tryz.prog (globF globL) callL6 := FactsOk.append (.one fact28 <| .one fact65 <| .nil) calls5
end Go.Vt
namespace Go.Vt
open Go.Proofs
noncomputable def fa29 : Nat × List AV × AV := (67, [(.agg [(.sslice [(.str [104, 116, 109, 108]), .nilSlice, (.int .i64 (.negSucc 0)), (.sslice [(.int .i64 (.ofNat 1))] 1 false), (.str [97]), (.sslice [(.str [104, 114, 101, 102]), (.str [120])] 1 false), (.int .i64 (.ofNat 0)), .nilSlice] 2 false)]), (.int .i64 (.ofNat 0)), (.int .i64 (.negSucc 0)), (.sslice [(.int .u8 (.ofNat 3)), (.sslice [(.int .u8 (.ofNat 1)), (.sslice [(.int .u8 (.ofNat 0)), (.sslice [(.str []), (.sslice [(.int .u8 (.ofNat 5)), (.str []), (.int .u8 (.ofNat 0)), (.str []), (.bool false), (.int .i64 (.ofNat 0)), (.int .i64 (.ofNat 0)), (.bool false), .nilSlice] 1 false)] 1 false), .nilSlice] 1 false), (.sslice [(.str [99, 111, 108, 111, 114]), (.sslice [(.int .u8 (.ofNat 1)), (.str [114, 101, 100]), (.int .i64 (.ofNat 0)), (.str []), (.bool false), .nilSlice] 1 false), (.bool false)] 1 false), (.int .u8 (.ofNat 0)), (.str []), (.int .i64 (.ofNat 0)), (.str []), .nilSlice, (.bool false), .nilSlice, .nilSlice, .nilSlice] 1 false)] 1 false), (.agg [(.int .i64 (.ofNat 0))])], (.tuple [.nilSlice, (.int .i64 (.ofNat 0))]))
set_option maxRecDepth 1000000 in
theorem fact29 : FactOk Tryz.prog (globF globL) fa29.1 fa29.2.1 fa29.2.2 := fact_of calls6 Tryz.func67 rfl (by kernel_rfl)
noncomputable def fa46 : Nat × List AV × AV := (67, [(.agg [(.sslice [(.str [104, 116, 109, 108]), .nilSlice, (.int .i64 (.negSucc 0)), (.sslice [(.int .i64 (.ofNat 1))] 1 false), (.str [97]), (.sslice [(.str [104, 114, 101, 102]), (.str [120])] 1 false), (.int .i64 (.ofNat 0)), .nilSlice] 2 false)]), (.int .i64 (.ofNat 1)), (.int .i64 (.negSucc 0)), (.sslice [(.int .u8 (.ofNat 3)), (.sslice [(.int .u8 (.ofNat 1)), (.sslice [(.int .u8 (.ofNat 0)), (.sslice [(.str []), (.sslice [(.int .u8 (.ofNat 5)), (.str []), (.int .u8 (.ofNat 0)), (.str []), (.bool false), (.int .i64 (.ofNat 0)), (.int .i64 (.ofNat 0)), (.bool false), .nilSlice] 1 false)] 1 false), .nilSlice] 1 false), (.sslice [(.str [99, 111, 108, 111, 114]), (.sslice [(.int .u8 (.ofNat 1)), (.str [114, 101, 100]), (.int .i64 (.ofNat 0)), (.str []), (.bool false), .nilSlice] 1 false), (.bool false)] 1 false), (.int .u8 (.ofNat 0)), (.str []), (.int .i64 (.ofNat 0)), (.str []), .nilSlice, (.bool false), .nilSlice, .nilSlice, .nilSlice] 1 false)] 1 false), (.agg [(.int .i64 (.ofNat 0))])], (.tuple [.nilSlice, (.int .i64 (.ofNat 0))]))
set_option maxRecDepth 1000000 in
theorem fact46 : FactOk Tryz.prog (globF globL) fa46.1 fa46.2.1 fa46.2.2 := fact_of calls6 Tryz.func67 rfl (by kernel_rfl)
end Go.Vt
