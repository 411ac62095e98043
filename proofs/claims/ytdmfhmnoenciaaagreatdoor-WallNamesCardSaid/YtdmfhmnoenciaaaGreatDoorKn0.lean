/- Known calls of the law, level 0. No conditions. -/
import Derived.Test.YtdmfhmnoenciaaaGreatDoorEb
namespace Go.Vt
open Go.Proofs
noncomputable def envA : Env := env0 Tryz.prog globL primL flatLL liesL 539
theorem envA_ok : EnvOk Tryz.prog envA := env0_ok primL_ok flatLL_ok liesL_ok dstAll namedAll mixedOk
theorem fact_of {L : FactL} (hL : FactsOk Tryz.prog (globF globL) L) {f : Nat} {fn : Func} {a : List AV} {r : AV} (hf : Tryz.prog.funcs[f]? = some fn) (hb : fn.body.isSome = true) (h : runFactB (withL envA L) 1000000 f a r = true) : FactOk Tryz.prog (globF globL) f a r :=
  fact_env0 envA_ok hL hf hb h
end Go.Vt
namespace Go.Vt
open Go.Proofs
noncomputable def fa0 : Nat × List AV × AV := (25, [(.str [97]), (.int .i64 (.ofNat 0))], (.tuple [(.agg [(.str [97]), (.sslice [(.str [104, 116, 109, 108]), .nilSlice, (.int .i64 (.negSucc 0)), .nilSlice] 1 true), .nilSlice, (.int .i64 (.ofNat 0)), (.int .i64 (.ofNat 0))]), (.int .i64 (.ofNat 0))]))
theorem fact0 : FactOk Tryz.prog (globF globL) fa0.1 fa0.2.1 fa0.2.2 := fact_of FactsOk.nil Tryz.func25 rfl (by kernel_rfl)
noncomputable def fa3 : Nat × List AV × AV := (177, [(.int .u8 (.ofNat 23))], (.int .u8 (.ofNat 24)))
theorem fact3 : FactOk Tryz.prog (globF globL) fa3.1 fa3.2.1 fa3.2.2 := fact_of FactsOk.nil Tryz.func177 rfl (by kernel_rfl)
noncomputable def fa4 : Nat × List AV × AV := (235, [.nilSlice], (.tuple [.nilSlice, (.int .i64 (.ofNat 0))]))
theorem fact4 : FactOk Tryz.prog (globF globL) fa4.1 fa4.2.1 fa4.2.2 := fact_of FactsOk.nil Tryz.func235 rfl (by kernel_rfl)
noncomputable def fa8 : Nat × List AV × AV := (258, [(.sslice [(.int .u8 (.ofNat 0)), (.sslice [(.str [112]), .nilSlice] 1 false), .nilSlice] 1 false)], (.int .i64 (.ofNat 0)))
theorem fact8 : FactOk Tryz.prog (globF globL) fa8.1 fa8.2.1 fa8.2.2 := fact_of FactsOk.nil Tryz.func258 rfl (by kernel_rfl)
noncomputable def fa12 : Nat × List AV × AV := (46, [(.sslice [(.int .u8 (.ofNat 1)), (.sslice [(.int .u8 (.ofNat 0)), (.sslice [(.str [112]), .nilSlice] 1 false), .nilSlice] 1 false), .nilSlice, (.int .u8 (.ofNat 0)), (.str []), (.int .i64 (.ofNat 0)), (.str []), .nilSlice, (.bool false), .nilSlice, .nilSlice, .nilSlice] 1 false)], (.sslice [(.int .u8 (.ofNat 1)), (.sslice [(.int .u8 (.ofNat 0)), (.sslice [(.str [112]), .nilSlice] 1 false), .nilSlice] 1 false), .nilSlice, (.int .u8 (.ofNat 0)), (.str []), (.int .i64 (.ofNat 0)), (.str []), .nilSlice, (.bool false), .nilSlice, .nilSlice, .nilSlice] 1 false))
theorem fact12 : FactOk Tryz.prog (globF globL) fa12.1 fa12.2.1 fa12.2.2 := fact_of FactsOk.nil Tryz.func46 rfl (by kernel_rfl)
noncomputable def fa13 : Nat × List AV × AV := (44, [(.agg [(.sslice [(.int .u8 (.ofNat 1)), (.sslice [(.int .u8 (.ofNat 0)), (.sslice [(.str [113]), .nilSlice] 1 false), .nilSlice] 1 false), .nilSlice, (.int .u8 (.ofNat 0)), (.str []), (.int .i64 (.ofNat 0)), (.str []), .nilSlice, (.bool false), .nilSlice, .nilSlice, .nilSlice] 1 false)])], (.int .i64 (.ofNat 0)))
theorem fact13 : FactOk Tryz.prog (globF globL) fa13.1 fa13.2.1 fa13.2.2 := fact_of FactsOk.nil Tryz.func44 rfl (by kernel_rfl)
noncomputable def fa15 : Nat × List AV × AV := (46, [(.sslice [(.int .u8 (.ofNat 1)), (.sslice [(.int .u8 (.ofNat 0)), (.sslice [(.str [113]), .nilSlice] 1 false), .nilSlice] 1 false), .nilSlice, (.int .u8 (.ofNat 0)), (.str []), (.int .i64 (.ofNat 0)), (.str []), .nilSlice, (.bool false), .nilSlice, .nilSlice, .nilSlice] 1 false)], (.sslice [(.int .u8 (.ofNat 1)), (.sslice [(.int .u8 (.ofNat 0)), (.sslice [(.str [113]), .nilSlice] 1 false), .nilSlice] 1 false), .nilSlice, (.int .u8 (.ofNat 0)), (.str []), (.int .i64 (.ofNat 0)), (.str []), .nilSlice, (.bool false), .nilSlice, .nilSlice, .nilSlice] 1 false))
theorem fact15 : FactOk Tryz.prog (globF globL) fa15.1 fa15.2.1 fa15.2.2 := fact_of FactsOk.nil Tryz.func46 rfl (by kernel_rfl)
noncomputable def fa18 : Nat × List AV × AV := (47, [(.agg [(.sslice [(.str [104, 116, 109, 108]), .nilSlice, (.int .i64 (.negSucc 0)), .nilSlice] 1 true)])], (.int .i64 (.ofNat 0)))
theorem fact18 : FactOk Tryz.prog (globF globL) fa18.1 fa18.2.1 fa18.2.2 := fact_of FactsOk.nil Tryz.func47 rfl (by kernel_rfl)
noncomputable def fa23 : Nat × List AV × AV := (36, [(.agg [(.int .u8 (.ofNat 14)), (.int .i64 (.ofNat 0)), (.int .i64 (.ofNat 0)), (.str []), (.str [])])], (.int .i64 (.ofNat 0)))
theorem fact23 : FactOk Tryz.prog (globF globL) fa23.1 fa23.2.1 fa23.2.2 := fact_of FactsOk.nil Tryz.func36 rfl (by kernel_rfl)
noncomputable def fa25 : Nat × List AV × AV := (47, [(.agg [(.sslice [(.str [104, 116, 109, 108]), .nilSlice, (.int .i64 (.negSucc 0)), .nilSlice] 1 false)])], (.int .i64 (.ofNat 0)))
theorem fact25 : FactOk Tryz.prog (globF globL) fa25.1 fa25.2.1 fa25.2.2 := fact_of FactsOk.nil Tryz.func47 rfl (by kernel_rfl)
noncomputable def fa26 : Nat × List AV × AV := (36, [(.agg [(.int .u8 (.ofNat 14)), (.int .i64 (.ofNat 1)), (.int .i64 (.ofNat 0)), (.str []), (.str [])])], (.int .i64 (.ofNat 0)))
theorem fact26 : FactOk Tryz.prog (globF globL) fa26.1 fa26.2.1 fa26.2.2 := fact_of FactsOk.nil Tryz.func36 rfl (by kernel_rfl)
noncomputable def fa28 : Nat × List AV × AV := (266, [(.str [120, 123, 125])], (.tuple [(.str [120, 123, 125]), (.int .i64 (.ofNat 0))]))
theorem fact28 : FactOk Tryz.prog (globF globL) fa28.1 fa28.2.1 fa28.2.2 := fact_of FactsOk.nil Tryz.func266 rfl (by kernel_rfl)
noncomputable def fa30 : Nat × List AV × AV := (44, [(.agg [(.sslice [(.int .u8 (.ofNat 1)), (.sslice [(.int .u8 (.ofNat 0)), (.sslice [(.str [120]), .nilSlice] 1 false), .nilSlice] 1 false), .nilSlice, (.int .u8 (.ofNat 0)), (.str []), (.int .i64 (.ofNat 0)), (.str []), .nilSlice, (.bool false), .nilSlice, .nilSlice, .nilSlice] 1 false)])], (.int .i64 (.ofNat 0)))
theorem fact30 : FactOk Tryz.prog (globF globL) fa30.1 fa30.2.1 fa30.2.2 := fact_of FactsOk.nil Tryz.func44 rfl (by kernel_rfl)
noncomputable def fa32 : Nat × List AV × AV := (46, [(.sslice [(.int .u8 (.ofNat 1)), (.sslice [(.int .u8 (.ofNat 0)), (.sslice [(.str [120]), .nilSlice] 1 false), .nilSlice] 1 false), .nilSlice, (.int .u8 (.ofNat 0)), (.str []), (.int .i64 (.ofNat 0)), (.str []), .nilSlice, (.bool false), .nilSlice, .nilSlice, .nilSlice] 1 false)], (.sslice [(.int .u8 (.ofNat 1)), (.sslice [(.int .u8 (.ofNat 0)), (.sslice [(.str [120]), .nilSlice] 1 false), .nilSlice] 1 false), .nilSlice, (.int .u8 (.ofNat 0)), (.str []), (.int .i64 (.ofNat 0)), (.str []), .nilSlice, (.bool false), .nilSlice, .nilSlice, .nilSlice] 1 false))
theorem fact32 : FactOk Tryz.prog (globF globL) fa32.1 fa32.2.1 fa32.2.2 := fact_of FactsOk.nil Tryz.func46 rfl (by kernel_rfl)
noncomputable def fa38 : Nat × List AV × AV := (459, [(.int .i64 (.ofNat 40))], (.bool false))
theorem fact38 : FactOk Tryz.prog (globF globL) fa38.1 fa38.2.1 fa38.2.2 := fact_of FactsOk.nil Tryz.func459 rfl (by kernel_rfl)
noncomputable def fa40 : Nat × List AV × AV := (266, [(.str [104, 116, 109, 108, 32, 123, 32, 100, 105, 115, 112, 108, 97, 121, 58, 32, 110, 111, 110, 101, 32, 125, 32, 64, 108, 97, 121, 101, 114, 32, 120, 59])], (.tuple [(.str [104, 116, 109, 108, 32, 123, 32, 100, 105, 115, 112, 108, 97, 121, 58, 32, 110, 111, 110, 101, 32, 125, 32, 64, 108, 97, 121, 101, 114, 32, 120, 59]), (.int .i64 (.ofNat 0))]))
theorem fact40 : FactOk Tryz.prog (globF globL) fa40.1 fa40.2.1 fa40.2.2 := fact_of FactsOk.nil Tryz.func266 rfl (by kernel_rfl)
noncomputable def fa42 : Nat × List AV × AV := (261, [(.agg [(.str [100, 105, 115, 112, 108, 97, 121]), (.sslice [(.int .u8 (.ofNat 1)), (.str [110, 111, 110, 101]), (.int .i64 (.ofNat 0)), (.str []), (.bool false), .nilSlice] 1 false), (.bool false)])], (.int .i64 (.ofNat 0)))
theorem fact42 : FactOk Tryz.prog (globF globL) fa42.1 fa42.2.1 fa42.2.2 := fact_of FactsOk.nil Tryz.func261 rfl (by kernel_rfl)
noncomputable def fa45 : Nat × List AV × AV := (258, [(.sslice [(.int .u8 (.ofNat 0)), (.sslice [(.str [104, 116, 109, 108]), .nilSlice] 1 false), .nilSlice] 1 false)], (.int .i64 (.ofNat 0)))
theorem fact45 : FactOk Tryz.prog (globF globL) fa45.1 fa45.2.1 fa45.2.2 := fact_of FactsOk.nil Tryz.func258 rfl (by kernel_rfl)
noncomputable def fa48 : Nat × List AV × AV := (46, [(.sslice [(.int .u8 (.ofNat 1)), (.sslice [(.int .u8 (.ofNat 0)), (.sslice [(.str [104, 116, 109, 108]), .nilSlice] 1 false), .nilSlice] 1 false), (.sslice [(.str [100, 105, 115, 112, 108, 97, 121]), (.sslice [(.int .u8 (.ofNat 1)), (.str [110, 111, 110, 101]), (.int .i64 (.ofNat 0)), (.str []), (.bool false), .nilSlice] 1 false), (.bool false)] 1 false), (.int .u8 (.ofNat 0)), (.str []), (.int .i64 (.ofNat 0)), (.str []), .nilSlice, (.bool false), .nilSlice, .nilSlice, .nilSlice, (.int .u8 (.ofNat 5)), .nilSlice, .nilSlice, (.int .u8 (.ofNat 0)), (.str []), (.int .i64 (.ofNat 0)), (.str []), .nilSlice, (.bool false), .nilSlice, (.sslice [(.sslice [(.str [120])] 1 false)] 1 false), .nilSlice] 2 false)], (.sslice [(.int .u8 (.ofNat 1)), (.sslice [(.int .u8 (.ofNat 0)), (.sslice [(.str [104, 116, 109, 108]), .nilSlice] 1 false), .nilSlice] 1 false), (.sslice [(.str [100, 105, 115, 112, 108, 97, 121]), (.sslice [(.int .u8 (.ofNat 1)), (.str [110, 111, 110, 101]), (.int .i64 (.ofNat 0)), (.str []), (.bool false), .nilSlice] 1 false), (.bool false)] 1 false), (.int .u8 (.ofNat 0)), (.str []), (.int .i64 (.ofNat 0)), (.str []), .nilSlice, (.bool false), .nilSlice, .nilSlice, .nilSlice, (.int .u8 (.ofNat 5)), .nilSlice, .nilSlice, (.int .u8 (.ofNat 0)), (.str []), (.int .i64 (.ofNat 0)), (.str []), .nilSlice, (.bool false), .nilSlice, (.sslice [(.sslice [(.str [120])] 1 false)] 1 false), .nilSlice] 2 false))
theorem fact48 : FactOk Tryz.prog (globF globL) fa48.1 fa48.2.1 fa48.2.2 := fact_of FactsOk.nil Tryz.func46 rfl (by kernel_rfl)
noncomputable def fa57 : Nat × List AV × AV := (280, [(.sslice [(.int .u8 (.ofNat 1)), (.str [104, 116, 109, 108]), (.int .i64 (.ofNat 0)), (.str []), (.bool false), .nilSlice] 1 false)], (.tuple [(.sslice [(.int .u8 (.ofNat 0)), (.sslice [(.str [104, 116, 109, 108]), .nilSlice] 1 false), .nilSlice] 1 false), (.int .i64 (.ofNat 0))]))
theorem fact57 : FactOk Tryz.prog (globF globL) fa57.1 fa57.2.1 fa57.2.2 := fact_of FactsOk.nil Tryz.func280 rfl (by kernel_rfl)
noncomputable def fa58 : Nat × List AV × AV := (261, [(.agg [(.str [99, 111, 108, 111, 114]), (.sslice [(.int .u8 (.ofNat 1)), (.str [114, 101, 100]), (.int .i64 (.ofNat 0)), (.str []), (.bool false), .nilSlice] 1 false), (.bool false)])], (.int .i64 (.ofNat 0)))
theorem fact58 : FactOk Tryz.prog (globF globL) fa58.1 fa58.2.1 fa58.2.2 := fact_of FactsOk.nil Tryz.func261 rfl (by kernel_rfl)
noncomputable def fa62 : Nat × List AV × AV := (36, [(.agg [(.int .u8 (.ofNat 16)), (.int .i64 (.ofNat 0)), (.int .i64 (.ofNat 0)), (.str []), (.str [])])], (.int .i64 (.ofNat 0)))
theorem fact62 : FactOk Tryz.prog (globF globL) fa62.1 fa62.2.1 fa62.2.2 := fact_of FactsOk.nil Tryz.func36 rfl (by kernel_rfl)
noncomputable def fa63 : Nat × List AV × AV := (36, [(.agg [(.int .u8 (.ofNat 11)), (.int .i64 (.ofNat 0)), (.int .i64 (.ofNat 0)), (.str [99, 111, 108, 111, 114]), (.str [])])], (.int .i64 (.ofNat 0)))
theorem fact63 : FactOk Tryz.prog (globF globL) fa63.1 fa63.2.1 fa63.2.2 := fact_of FactsOk.nil Tryz.func36 rfl (by kernel_rfl)
noncomputable def fa65 : Nat × List AV × AV := (327, [(.str [97, 117, 116, 111])], (.sslice [(.str [97, 117, 116, 111])] 1 true))
theorem fact65 : FactOk Tryz.prog (globF globL) fa65.1 fa65.2.1 fa65.2.2 := fact_of FactsOk.nil Tryz.func327 rfl (by kernel_rfl)
noncomputable def fa94 : Nat × List AV × AV := (36, [(.agg [(.int .u8 (.ofNat 10)), (.int .i64 (.ofNat 0)), (.int .i64 (.ofNat 0)), (.str [42]), (.str [])])], (.int .i64 (.ofNat 0)))
theorem fact94 : FactOk Tryz.prog (globF globL) fa94.1 fa94.2.1 fa94.2.2 := fact_of FactsOk.nil Tryz.func36 rfl (by kernel_rfl)
noncomputable def fa100 : Nat × List AV × AV := (261, [(.agg [(.str [99, 111, 108, 111, 114]), (.sslice [(.int .u8 (.ofNat 1)), (.str [108, 105, 109, 101]), (.int .i64 (.ofNat 0)), (.str []), (.bool false), .nilSlice] 1 false), (.bool false)])], (.int .i64 (.ofNat 0)))
theorem fact100 : FactOk Tryz.prog (globF globL) fa100.1 fa100.2.1 fa100.2.2 := fact_of FactsOk.nil Tryz.func261 rfl (by kernel_rfl)
noncomputable def fa117 : Nat × List AV × AV := (261, [(.agg [(.str [99, 111, 108, 111, 114]), (.sslice [(.int .u8 (.ofNat 4)), (.str [102, 48, 48]), (.int .i64 (.ofNat 0)), (.str []), (.bool true), .nilSlice] 1 false), (.bool false)])], (.int .i64 (.ofNat 0)))
theorem fact117 : FactOk Tryz.prog (globF globL) fa117.1 fa117.2.1 fa117.2.2 := fact_of FactsOk.nil Tryz.func261 rfl (by kernel_rfl)
end Go.Vt
namespace Go.Vt
open Go.Proofs
noncomputable def fa10 : Nat × List AV × AV := (266, [(.str [113, 123, 125])], (.tuple [(.str [113, 123, 125]), (.int .i64 (.ofNat 0))]))
theorem fact10 : FactOk Tryz.prog (globF globL) fa10.1 fa10.2.1 fa10.2.2 := fact_of FactsOk.nil Tryz.func266 rfl (by kernel_rfl)
noncomputable def fa95 : Nat × List AV × AV := (266, [(.str [42])], (.tuple [(.str [42]), (.int .i64 (.ofNat 0))]))
theorem fact95 : FactOk Tryz.prog (globF globL) fa95.1 fa95.2.1 fa95.2.2 := fact_of FactsOk.nil Tryz.func266 rfl (by kernel_rfl)
noncomputable def fa115 : Nat × List AV × AV := (266, [(.str [104, 116, 109, 108, 123, 99, 111, 108, 111, 114, 58, 35, 102, 48, 48, 125, 32, 112, 123, 125])], (.tuple [(.str [104, 116, 109, 108, 123, 99, 111, 108, 111, 114, 58, 35, 102, 48, 48, 125, 32, 112, 123, 125]), (.int .i64 (.ofNat 0))]))
theorem fact115 : FactOk Tryz.prog (globF globL) fa115.1 fa115.2.1 fa115.2.2 := fact_of FactsOk.nil Tryz.func266 rfl (by kernel_rfl)
end Go.Vt
namespace Go.Vt
open Go.Proofs
noncomputable def fa1 : Nat × List AV × AV := (266, [(.str [112, 123, 125])], (.tuple [(.str [112, 123, 125]), (.int .i64 (.ofNat 0))]))
theorem fact1 : FactOk Tryz.prog (globF globL) fa1.1 fa1.2.1 fa1.2.2 := fact_of FactsOk.nil Tryz.func266 rfl (by kernel_rfl)
noncomputable def fa35 : Nat × List AV × AV := (266, [(.str [119, 123, 125])], (.tuple [(.str [119, 123, 125]), (.int .i64 (.ofNat 0))]))
theorem fact35 : FactOk Tryz.prog (globF globL) fa35.1 fa35.2.1 fa35.2.2 := fact_of FactsOk.nil Tryz.func266 rfl (by kernel_rfl)
noncomputable def fa37 : Nat × List AV × AV := (266, [(.str [40, 40, 40, 40, 40, 40, 40, 40, 40, 40, 40, 40, 40, 40, 40, 40, 40, 40])], (.tuple [(.str [40, 40, 40, 40, 40, 40, 40, 40, 40, 40, 40, 40, 40, 40, 40, 40, 40, 40]), (.int .i64 (.ofNat 0))]))
theorem fact37 : FactOk Tryz.prog (globF globL) fa37.1 fa37.2.1 fa37.2.2 := fact_of FactsOk.nil Tryz.func266 rfl (by kernel_rfl)
end Go.Vt
namespace Go.Vt
open Go.Proofs
noncomputable def fa14 : Nat × List AV × AV := (266, [(.str [])], (.tuple [(.str []), (.int .i64 (.ofNat 0))]))
theorem fact14 : FactOk Tryz.prog (globF globL) fa14.1 fa14.2.1 fa14.2.2 := fact_of FactsOk.nil Tryz.func266 rfl (by kernel_rfl)
noncomputable def fa55 : Nat × List AV × AV := (266, [(.str [104, 116, 109, 108, 123, 99, 111, 108, 111, 114, 58, 114, 101, 100, 125])], (.tuple [(.str [104, 116, 109, 108, 123, 99, 111, 108, 111, 114, 58, 114, 101, 100, 125]), (.int .i64 (.ofNat 0))]))
theorem fact55 : FactOk Tryz.prog (globF globL) fa55.1 fa55.2.1 fa55.2.2 := fact_of FactsOk.nil Tryz.func266 rfl (by kernel_rfl)
noncomputable def fa98 : Nat × List AV × AV := (266, [(.str [104, 116, 109, 108, 123, 99, 111, 108, 111, 114, 58, 108, 105, 109, 101, 125])], (.tuple [(.str [104, 116, 109, 108, 123, 99, 111, 108, 111, 114, 58, 108, 105, 109, 101, 125]), (.int .i64 (.ofNat 0))]))
theorem fact98 : FactOk Tryz.prog (globF globL) fa98.1 fa98.2.1 fa98.2.2 := fact_of FactsOk.nil Tryz.func266 rfl (by kernel_rfl)
end Go.Vt
