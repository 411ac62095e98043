/- The tables of the machine's environment over the seat's program. No conditions. -/
import Derived.Test.YtdmfhmnoenciaaaGreatDoorVm5
import Derived.Test.YtdmfhmnoenciaaaGreatDoorRows
namespace Go.Vt
open Go.Proofs
theorem prim375 : PrimOk Tryz.prog 375 .cmpstring := PrimOk.mk (e := Extern.BytealgCompare.compare) Tryz.func375 (by kernel_rfl) (by kernel_rfl) rfl
theorem prim531 : PrimOk Tryz.prog 531 .indexByteString := PrimOk.mk (e := Extern.BytealgIndexByte.indexByte) Tryz.func531 (by kernel_rfl) (by kernel_rfl) rfl
theorem prim618 : PrimOk Tryz.prog 618 (.atomLoad .u32) := PrimOk.mk (e := Extern.Atomic.loadT (.int .u32)) Tryz.func618 (by kernel_rfl) (by kernel_rfl) rfl
theorem prim641 : PrimOk Tryz.prog 641 .ident := PrimOk.mk (e := Extern.AbiNoEscape.same) Tryz.func641 (by kernel_rfl) (by kernel_rfl) rfl
theorem prim642 : PrimOk Tryz.prog 642 (.makeNoZero 5) := PrimOk.mk (e := Extern.BytealgMakeNoZero.makeNoZero Tryz.f642.params Tryz.f642.resultTypes) Tryz.func642 (by kernel_rfl) (by kernel_rfl) ⟨_, _, _, rfl, rfl, by kernel_rfl⟩
theorem prim668 : PrimOk Tryz.prog 668 .atomStore := PrimOk.mk (e := Extern.Atomic.storeT) Tryz.func668 (by kernel_rfl) (by kernel_rfl) rfl
theorem prim681 : PrimOk Tryz.prog 681 .nothing := PrimOk.mk (e := fun _ => do mark .disable; pure (.tuple #[])) Tryz.func681 (by kernel_rfl) (by kernel_rfl) ⟨.disable, rfl⟩
theorem prim682 : PrimOk Tryz.prog 682 (.atomCas .i32) := PrimOk.mk (e := Extern.Atomic.casT (.int .i32)) Tryz.func682 (by kernel_rfl) (by kernel_rfl) rfl
theorem prim683 : PrimOk Tryz.prog 683 .nothing := PrimOk.mk (e := fun _ => do mark .enable; pure (.tuple #[])) Tryz.func683 (by kernel_rfl) (by kernel_rfl) ⟨.enable, rfl⟩
theorem prim684 : PrimOk Tryz.prog 684 .race := PrimOk.mk (e := Extern.Race.marked .acquire) Tryz.func684 (by kernel_rfl) (by kernel_rfl) ⟨.acquire, rfl⟩
theorem prim686 : PrimOk Tryz.prog 686 .race := PrimOk.mk (e := Extern.Race.marked .releaseMerge) Tryz.func686 (by kernel_rfl) (by kernel_rfl) ⟨.releaseMerge, rfl⟩
theorem prim687 : PrimOk Tryz.prog 687 (.atomAdd .i32) := PrimOk.mk (e := Extern.Atomic.update (Op.intArith .add) .i32 true) Tryz.func687 (by kernel_rfl) (by kernel_rfl) rfl
noncomputable def primL : List (Nat × Prim) := [(375, .cmpstring), (531, .indexByteString), (618, (.atomLoad .u32)), (641, .ident), (642, (.makeNoZero 5)), (668, .atomStore), (681, .nothing), (682, (.atomCas .i32)), (683, .nothing), (684, .race), (686, .race), (687, (.atomAdd .i32))]
theorem primL_ok : PrimsOk Tryz.prog primL := .cons prim375 <| .cons prim531 <| .cons prim618 <| .cons prim641 <| .cons prim642 <| .cons prim668 <| .cons prim681 <| .cons prim682 <| .cons prim683 <| .cons prim684 <| .cons prim686 <| .cons prim687 <| .nil
noncomputable def globL : List (Nat × IntKind × List Nat) := [(1, .u8, [0, 0, 0, 0, 0, 0, 0, 0, 0, 1, 1, 1, 1, 1, 0, 0, 0, 0, 0, 0, 0, 0, 0, 0, 0, 0, 0, 0, 0, 0, 0, 0, 1, 0, 0, 0, 0, 0, 0, 0, 0, 0, 0, 0, 0, 0, 0, 0, 0, 0, 0, 0, 0, 0, 0, 0, 0, 0, 0, 0, 0, 0, 0, 0, 0, 0, 0, 0, 0, 0, 0, 0, 0, 0, 0, 0, 0, 0, 0, 0, 0, 0, 0, 0, 0, 0, 0, 0, 0, 0, 0, 0, 0, 0, 0, 0, 0, 0, 0, 0, 0, 0, 0, 0, 0, 0, 0, 0, 0, 0, 0, 0, 0, 0, 0, 0, 0, 0, 0, 0, 0, 0, 0, 0, 0, 0, 0, 0, 0, 0, 0, 0, 0, 0, 0, 0, 0, 0, 0, 0, 0, 0, 0, 0, 0, 0, 0, 0, 0, 0, 0, 0, 0, 0, 0, 0, 0, 0, 0, 0, 0, 0, 0, 0, 0, 0, 0, 0, 0, 0, 0, 0, 0, 0, 0, 0, 0, 0, 0, 0, 0, 0, 0, 0, 0, 0, 0, 0, 0, 0, 0, 0, 0, 0, 0, 0, 0, 0, 0, 0, 0, 0, 0, 0, 0, 0, 0, 0, 0, 0, 0, 0, 0, 0, 0, 0, 0, 0, 0, 0, 0, 0, 0, 0, 0, 0, 0, 0, 0, 0, 0, 0, 0, 0, 0, 0, 0, 0, 0, 0, 0, 0, 0, 0, 0, 0, 0, 0, 0, 0, 0, 0, 0, 0, 0, 0]), (5, .u64, [1, 10, 100, 1000, 10000, 100000, 1000000, 10000000, 100000000, 1000000000, 10000000000, 100000000000, 1000000000000, 10000000000000, 100000000000000, 1000000000000000, 10000000000000000, 100000000000000000, 1000000000000000000, 10000000000000000000])]
noncomputable def flatLL : List (Nat × List Nat) := [(179, [1, 2, 1, 1, 1, 1, 1]), (326, [1, 1])]
theorem flatLL_ok : (flatLL.all fun x => flatOkB Tryz.prog x.1 x.2) = true := by kernel_rfl
noncomputable def liesL : List (Nat × Nat × Nat × Nat) := [(434, 0, 432, 3), (623, 0, 432, 2)]
theorem liesL_ok : liesL.all (liesB Tryz.prog) = true := by kernel_rfl
theorem mixedOk : Tryz.prog.follows .mixedOrders = true := by kernel_rfl
end Go.Vt
