/- Known calls of the law, level 0. No conditions. -/
import Derived.Test.YtlgfmjmfncdegaaGreatDoorEb
namespace Go.Vt
open Go.Proofs
noncomputable def envA : Env := env0 Tryz.prog globL primL flatLL liesL 418
theorem envA_ok : EnvOk Tryz.prog envA := env0_ok primL_ok flatLL_ok liesL_ok dstAll namedAll mixedOk
theorem fact_of {L : FactL} (hL : FactsOk Tryz.prog (globF globL) L) {f : Nat} {fn : Func} {a : List AV} {r : AV} (hf : Tryz.prog.funcs[f]? = some fn) (hb : fn.body.isSome = true) (h : runFactB (withL envA L) 1000000 f a r = true) : FactOk Tryz.prog (globF globL) f a r :=
  fact_env0 envA_ok hL hf hb h
end Go.Vt
namespace Go.Vt
open Go.Proofs
noncomputable def fa0 : Nat × List AV × AV := (49, [(.str [104, 116, 109, 108])], (.bool true))
set_option maxRecDepth 1000000 in
theorem fact0 : FactOk Tryz.prog (globF globL) fa0.1 fa0.2.1 fa0.2.2 := fact_of FactsOk.nil Tryz.func49 rfl (by kernel_rfl)
noncomputable def fa1 : Nat × List AV × AV := (126, [(.str [58, 118, 105, 115, 105, 116, 101, 100, 123, 99, 111, 108, 111, 114, 58, 114, 101, 100, 125])], (.tuple [(.str [58, 118, 105, 115, 105, 116, 101, 100, 123, 99, 111, 108, 111, 114, 58, 114, 101, 100, 125]), (.int .i64 (.ofNat 0))]))
set_option maxRecDepth 1000000 in
theorem fact1 : FactOk Tryz.prog (globF globL) fa1.1 fa1.2.1 fa1.2.2 := fact_of FactsOk.nil Tryz.func126 rfl (by kernel_rfl)
noncomputable def fa7 : Nat × List AV × AV := (34, [(.sslice [(.int .u8 (.ofNat 0)), (.sslice [(.str []), (.sslice [(.int .u8 (.ofNat 5)), (.str []), (.int .u8 (.ofNat 0)), (.str []), (.bool false), (.int .i64 (.ofNat 0)), (.int .i64 (.ofNat 0)), (.bool false), .nilSlice] 1 false)] 1 false), .nilSlice] 1 false)], (.int .i64 (.ofNat 0)))
set_option maxRecDepth 1000000 in
theorem fact7 : FactOk Tryz.prog (globF globL) fa7.1 fa7.2.1 fa7.2.2 := fact_of FactsOk.nil Tryz.func34 rfl (by kernel_rfl)
end Go.Vt
namespace Go.Vt
open Go.Proofs
noncomputable def fa4 : Nat × List AV × AV := (141, [(.agg [(.str [99, 111, 108, 111, 114]), (.sslice [(.int .u8 (.ofNat 1)), (.str [114, 101, 100]), (.int .i64 (.ofNat 0)), (.str []), (.bool false), .nilSlice] 1 false), (.bool false)])], (.int .i64 (.ofNat 0)))
set_option maxRecDepth 1000000 in
theorem fact4 : FactOk Tryz.prog (globF globL) fa4.1 fa4.2.1 fa4.2.2 := fact_of FactsOk.nil Tryz.func141 rfl (by kernel_rfl)
noncomputable def fa21 : Nat × List AV × AV := (384, [(.str [97, 117, 116, 111])], (.sslice [(.str [97, 117, 116, 111])] 1 true))
set_option maxRecDepth 1000000 in
theorem fact21 : FactOk Tryz.prog (globF globL) fa21.1 fa21.2.1 fa21.2.2 := fact_of FactsOk.nil Tryz.func384 rfl (by kernel_rfl)
noncomputable def fa51 : Nat × List AV × AV := (126, [(.str [97, 44, 32, 98, 58, 105, 115, 40, 99, 44, 32, 100, 41])], (.tuple [(.str [97, 44, 32, 98, 58, 105, 115, 40, 99, 44, 32, 100, 41]), (.int .i64 (.ofNat 0))]))
set_option maxRecDepth 1000000 in
theorem fact51 : FactOk Tryz.prog (globF globL) fa51.1 fa51.2.1 fa51.2.2 := fact_of FactsOk.nil Tryz.func126 rfl (by kernel_rfl)
end Go.Vt
namespace Go.Vt
open Go.Proofs
noncomputable def fa55 : Nat × List AV × AV := (126, [(.str [42])], (.tuple [(.str [42]), (.int .i64 (.ofNat 0))]))
set_option maxRecDepth 1000000 in
theorem fact55 : FactOk Tryz.prog (globF globL) fa55.1 fa55.2.1 fa55.2.2 := fact_of FactsOk.nil Tryz.func126 rfl (by kernel_rfl)
noncomputable def fa57 : Nat × List AV × AV := (126, [(.str [97])], (.tuple [(.str [97]), (.int .i64 (.ofNat 0))]))
set_option maxRecDepth 1000000 in
theorem fact57 : FactOk Tryz.prog (globF globL) fa57.1 fa57.2.1 fa57.2.2 := fact_of FactsOk.nil Tryz.func126 rfl (by kernel_rfl)
end Go.Vt
namespace Go.Vt
open Go.Proofs
noncomputable def fa3 : Nat × List AV × AV := (32, [(.sslice [(.int .u8 (.ofNat 16)), (.str []), (.int .i64 (.ofNat 0)), (.str []), (.bool false), (.int .u8 (.ofNat 1)), (.str [118, 105, 115, 105, 116, 101, 100]), (.int .i64 (.ofNat 0)), (.str []), (.bool false), (.int .u8 (.ofNat 23)), (.str []), (.int .i64 (.ofNat 0)), (.str []), (.bool false), (.int .u8 (.ofNat 1)), (.str [99, 111, 108, 111, 114]), (.int .i64 (.ofNat 0)), (.str []), (.bool false), (.int .u8 (.ofNat 16)), (.str []), (.int .i64 (.ofNat 0)), (.str []), (.bool false), (.int .u8 (.ofNat 1)), (.str [114, 101, 100]), (.int .i64 (.ofNat 0)), (.str []), (.bool false), (.int .u8 (.ofNat 24)), (.str []), (.int .i64 (.ofNat 0)), (.str []), (.bool false)] 7 false)], (.tuple [(.sslice [(.int .u8 (.ofNat 16)), (.str []), (.int .i64 (.ofNat 0)), (.str []), (.bool false), .nilSlice, (.int .u8 (.ofNat 1)), (.str [118, 105, 115, 105, 116, 101, 100]), (.int .i64 (.ofNat 0)), (.str []), (.bool false), .nilSlice, (.int .u8 (.ofNat 23)), (.str []), (.int .i64 (.ofNat 0)), (.str []), (.bool false), (.sslice [(.int .u8 (.ofNat 1)), (.str [99, 111, 108, 111, 114]), (.int .i64 (.ofNat 0)), (.str []), (.bool false), .nilSlice, (.int .u8 (.ofNat 16)), (.str []), (.int .i64 (.ofNat 0)), (.str []), (.bool false), .nilSlice, (.int .u8 (.ofNat 1)), (.str [114, 101, 100]), (.int .i64 (.ofNat 0)), (.str []), (.bool false), .nilSlice] 3 false)] 3 false), (.int .i64 (.ofNat 0))]))
set_option maxRecDepth 1000000 in
theorem fact3 : FactOk Tryz.prog (globF globL) fa3.1 fa3.2.1 fa3.2.2 := fact_of FactsOk.nil Tryz.func32 rfl (by kernel_rfl)
noncomputable def fa53 : Nat × List AV × AV := (134, [(.agg [(.str [98]), (.sslice [(.int .u8 (.ofNat 11)), (.str []), (.int .u8 (.ofNat 0)), (.str []), (.bool false), (.int .i64 (.ofNat 0)), (.int .i64 (.ofNat 0)), (.bool false), (.sslice [(.int .u8 (.ofNat 0)), (.sslice [(.str [99]), .nilSlice] 1 false), .nilSlice, (.int .u8 (.ofNat 0)), (.sslice [(.str [100]), .nilSlice] 1 false), .nilSlice] 2 false)] 1 false)]), (.agg [(.int .i64 (.ofNat 0)), (.bool false)])], (.bool true))
set_option maxRecDepth 1000000 in
theorem fact53 : FactOk Tryz.prog (globF globL) fa53.1 fa53.2.1 fa53.2.2 := fact_of FactsOk.nil Tryz.func134 rfl (by kernel_rfl)
noncomputable def fa56 : Nat × List AV × AV := (126, [(.str [125])], (.tuple [(.str [125]), (.int .i64 (.ofNat 0))]))
set_option maxRecDepth 1000000 in
theorem fact56 : FactOk Tryz.prog (globF globL) fa56.1 fa56.2.1 fa56.2.2 := fact_of FactsOk.nil Tryz.func126 rfl (by kernel_rfl)
end Go.Vt
