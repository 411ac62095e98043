/- The tables of the machine's environment over the seat's program. No conditions. -/
import Derived.Test.YtlgfmjmfncdegaaGreatDoorVm5
import Derived.Test.YtlgfmjmfncdegaaGreatDoorRows
namespace Go.Vt
open Go.Proofs
theorem prim430 : PrimOk Tryz.prog 430 .indexByteString := PrimOk.mk (e := Extern.BytealgIndexByte.indexByte) Tryz.func430 (by kernel_rfl) (by kernel_rfl) rfl
theorem prim483 : PrimOk Tryz.prog 483 .cmpstring := PrimOk.mk (e := Extern.BytealgCompare.compare) Tryz.func483 (by kernel_rfl) (by kernel_rfl) rfl
theorem prim510 : PrimOk Tryz.prog 510 (.atomLoad .u32) := PrimOk.mk (e := Extern.Atomic.loadT (.int .u32)) Tryz.func510 (by kernel_rfl) (by kernel_rfl) rfl
theorem prim594 : PrimOk Tryz.prog 594 .atomStore := PrimOk.mk (e := Extern.Atomic.storeT) Tryz.func594 (by kernel_rfl) (by kernel_rfl) rfl
theorem prim658 : PrimOk Tryz.prog 658 .nothing := PrimOk.mk (e := fun _ => do mark .disable; pure (.tuple #[])) Tryz.func658 (by kernel_rfl) (by kernel_rfl) ⟨.disable, rfl⟩
theorem prim659 : PrimOk Tryz.prog 659 (.atomCas .i32) := PrimOk.mk (e := Extern.Atomic.casT (.int .i32)) Tryz.func659 (by kernel_rfl) (by kernel_rfl) rfl
theorem prim660 : PrimOk Tryz.prog 660 .nothing := PrimOk.mk (e := fun _ => do mark .enable; pure (.tuple #[])) Tryz.func660 (by kernel_rfl) (by kernel_rfl) ⟨.enable, rfl⟩
theorem prim661 : PrimOk Tryz.prog 661 .race := PrimOk.mk (e := Extern.Race.marked .acquire) Tryz.func661 (by kernel_rfl) (by kernel_rfl) ⟨.acquire, rfl⟩
theorem prim663 : PrimOk Tryz.prog 663 .race := PrimOk.mk (e := Extern.Race.marked .releaseMerge) Tryz.func663 (by kernel_rfl) (by kernel_rfl) ⟨.releaseMerge, rfl⟩
theorem prim664 : PrimOk Tryz.prog 664 (.atomAdd .i32) := PrimOk.mk (e := Extern.Atomic.update (Op.intArith .add) .i32 true) Tryz.func664 (by kernel_rfl) (by kernel_rfl) rfl
theorem prim694 : PrimOk Tryz.prog 694 .ident := PrimOk.mk (e := Extern.AbiNoEscape.same) Tryz.func694 (by kernel_rfl) (by kernel_rfl) rfl
theorem prim695 : PrimOk Tryz.prog 695 (.makeNoZero 5) := PrimOk.mk (e := Extern.BytealgMakeNoZero.makeNoZero Tryz.f695.params Tryz.f695.resultTypes) Tryz.func695 (by kernel_rfl) (by kernel_rfl) ⟨_, _, _, rfl, rfl, by kernel_rfl⟩
noncomputable def primL : List (Nat × Prim) := [(430, .indexByteString), (483, .cmpstring), (510, (.atomLoad .u32)), (594, .atomStore), (658, .nothing), (659, (.atomCas .i32)), (660, .nothing), (661, .race), (663, .race), (664, (.atomAdd .i32)), (694, .ident), (695, (.makeNoZero 5))]
theorem primL_ok : PrimsOk Tryz.prog primL := .cons prim430 <| .cons prim483 <| .cons prim510 <| .cons prim594 <| .cons prim658 <| .cons prim659 <| .cons prim660 <| .cons prim661 <| .cons prim663 <| .cons prim664 <| .cons prim694 <| .cons prim695 <| .nil
noncomputable def globL : List (Nat × IntKind × List Nat) := [(1, .u8, [0, 0, 0, 0, 0, 0, 0, 0, 0, 1, 1, 1, 1, 1, 0, 0, 0, 0, 0, 0, 0, 0, 0, 0, 0, 0, 0, 0, 0, 0, 0, 0, 1, 0, 0, 0, 0, 0, 0, 0, 0, 0, 0, 0, 0, 0, 0, 0, 0, 0, 0, 0, 0, 0, 0, 0, 0, 0, 0, 0, 0, 0, 0, 0, 0, 0, 0, 0, 0, 0, 0, 0, 0, 0, 0, 0, 0, 0, 0, 0, 0, 0, 0, 0, 0, 0, 0, 0, 0, 0, 0, 0, 0, 0, 0, 0, 0, 0, 0, 0, 0, 0, 0, 0, 0, 0, 0, 0, 0, 0, 0, 0, 0, 0, 0, 0, 0, 0, 0, 0, 0, 0, 0, 0, 0, 0, 0, 0, 0, 0, 0, 0, 0, 0, 0, 0, 0, 0, 0, 0, 0, 0, 0, 0, 0, 0, 0, 0, 0, 0, 0, 0, 0, 0, 0, 0, 0, 0, 0, 0, 0, 0, 0, 0, 0, 0, 0, 0, 0, 0, 0, 0, 0, 0, 0, 0, 0, 0, 0, 0, 0, 0, 0, 0, 0, 0, 0, 0, 0, 0, 0, 0, 0, 0, 0, 0, 0, 0, 0, 0, 0, 0, 0, 0, 0, 0, 0, 0, 0, 0, 0, 0, 0, 0, 0, 0, 0, 0, 0, 0, 0, 0, 0, 0, 0, 0, 0, 0, 0, 0, 0, 0, 0, 0, 0, 0, 0, 0, 0, 0, 0, 0, 0, 0, 0, 0, 0, 0, 0, 0, 0, 0, 0, 0, 0, 0]), (5, .u64, [1, 10, 100, 1000, 10000, 100000, 1000000, 10000000, 100000000, 1000000000, 10000000000, 100000000000, 1000000000000, 10000000000000, 100000000000000, 1000000000000000, 10000000000000000, 100000000000000000, 1000000000000000000, 10000000000000000000])]
noncomputable def flatLL : List (Nat × List Nat) := [(167, [1, 1]), (184, [1, 2, 1, 1, 1, 1, 1])]
theorem flatLL_ok : (flatLL.all fun x => flatOkB Tryz.prog x.1 x.2) = true := by kernel_rfl
noncomputable def liesL : List (Nat × Nat × Nat × Nat) := []
theorem liesL_ok : liesL.all (liesB Tryz.prog) = true := by kernel_rfl
theorem mixedOk : Tryz.prog.follows .mixedOrders = true := by kernel_rfl
end Go.Vt
