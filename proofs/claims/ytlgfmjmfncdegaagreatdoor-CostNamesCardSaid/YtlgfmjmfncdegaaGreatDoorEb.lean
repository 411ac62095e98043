/- No function of the program lays its results beyond its frame. No conditions. -/
import Derived.Test.YtlgfmjmfncdegaaGreatDoorEa
namespace Go.Vt
open Go.Proofs
theorem dst0 : (Tryz.prog.funcs.toList.take 260).all dstF = true := by kernel_rfl
theorem dst1 : ((Tryz.prog.funcs.toList.drop 260).take 260).all dstF = true := by kernel_rfl
theorem dst2 : (Tryz.prog.funcs.toList.drop (260 + 260)).all dstF = true := by kernel_rfl
theorem namedAll : Tryz.prog.funcs.toList.all namedF = true := by kernel_rfl
theorem dstAll : Tryz.prog.funcs.toList.all dstF = true := all_split (p := dstF) Tryz.prog.funcs.toList 260 260 dst0 dst1 dst2
end Go.Vt
