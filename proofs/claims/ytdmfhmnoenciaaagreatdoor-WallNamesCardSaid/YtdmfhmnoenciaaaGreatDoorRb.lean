/- Closed facts of the law's row. No conditions. -/
import Derived.Test.YtdmfhmnoenciaaaGreatDoorVm5
import Derived.Test.YtdmfhmnoenciaaaGreatDoorRows
import Derived.SevenTiedAt
namespace Go.Proofs.YtdmfhmnoenciaaaGreatDoor
open Go Go.Vt
theorem still0 : (Tryz.prog.funcs.toList.take 258).all stillF = true := by kernel_rfl
theorem still1 : ((Tryz.prog.funcs.toList.drop 258).take 258).all stillF = true := by kernel_rfl
theorem still2 : (Tryz.prog.funcs.toList.drop (258 + 258)).all stillF = true := by kernel_rfl
theorem stillAll : Tryz.prog.funcs.toList.all stillF = true := all_split (p := stillF) Tryz.prog.funcs.toList 258 258 still0 still1 still2
theorem rGoes : Tryz.prog.goes 3 = false := goes_none stillAll
theorem looksB : (orec false (fun c => c.looks Tryz.prog) Tryz.f741.body) = true := by kernel_rfl
theorem rLooks : Tryz.prog.looks [] = true := looks_at Tryz.func741 looksB
end Go.Proofs.YtdmfhmnoenciaaaGreatDoor
namespace Go.Proofs.YtdmfhmnoenciaaaGreatDoor
open Go Go.Vt
theorem book4 : Tryz.prog.book 4 = [4] := book_eq 12 (by kernel_rfl) (by kernel_rfl) (by kernel_rfl)
theorem veiled4 : Tryz.prog.veiledRec 4 = false := by
  unfold Program.veiledRec
  rw [book4]
  kernel_rfl
theorem own4 : Tryz.prog.veiledOwn 4 = true := by
  unfold Program.veiledOwn
  rw [veiled4]
  rfl
theorem book559 : Tryz.prog.book 559 = [559, 5] := book_eq 12 (by kernel_rfl) (by kernel_rfl) (by kernel_rfl)
theorem veiled559 : Tryz.prog.veiledRec 559 = false := by
  unfold Program.veiledRec
  rw [book559]
  kernel_rfl
theorem own559 : Tryz.prog.veiledOwn 559 = true := by
  unfold Program.veiledOwn
  rw [veiled559]
  rfl
theorem book823 : Tryz.prog.book 823 = [823, 822, 5] := book_eq 12 (by kernel_rfl) (by kernel_rfl) (by kernel_rfl)
theorem veiled823 : Tryz.prog.veiledRec 823 = false := by
  unfold Program.veiledRec
  rw [book823]
  kernel_rfl
theorem own823 : Tryz.prog.veiledOwn 823 = true := by
  unfold Program.veiledOwn
  rw [veiled823]
  rfl
theorem book612 : Tryz.prog.book 612 = [612] := book_eq 12 (by kernel_rfl) (by kernel_rfl) (by kernel_rfl)
theorem veiled612 : Tryz.prog.veiledRec 612 = false := by
  unfold Program.veiledRec
  rw [book612]
  kernel_rfl
theorem own612 : Tryz.prog.veiledOwn 612 = true := by
  unfold Program.veiledOwn
  rw [veiled612]
  rfl
theorem book698 : Tryz.prog.book 698 = [698, 547] := book_eq 12 (by kernel_rfl) (by kernel_rfl) (by kernel_rfl)
theorem veiled698 : Tryz.prog.veiledRec 698 = false := by
  unfold Program.veiledRec
  rw [book698]
  kernel_rfl
theorem own698 : Tryz.prog.veiledOwn 698 = true := by
  unfold Program.veiledOwn
  rw [veiled698]
  rfl
theorem book804 : Tryz.prog.book 804 = [804, 5] := book_eq 12 (by kernel_rfl) (by kernel_rfl) (by kernel_rfl)
theorem veiled804 : Tryz.prog.veiledRec 804 = false := by
  unfold Program.veiledRec
  rw [book804]
  kernel_rfl
theorem own804 : Tryz.prog.veiledOwn 804 = true := by
  unfold Program.veiledOwn
  rw [veiled804]
  rfl
theorem book805 : Tryz.prog.book 805 = [805, 5] := book_eq 12 (by kernel_rfl) (by kernel_rfl) (by kernel_rfl)
theorem veiled805 : Tryz.prog.veiledRec 805 = false := by
  unfold Program.veiledRec
  rw [book805]
  kernel_rfl
theorem own805 : Tryz.prog.veiledOwn 805 = true := by
  unfold Program.veiledOwn
  rw [veiled805]
  rfl
theorem book655 : Tryz.prog.book 655 = [655, 719, 716, 717, 3, 722, 725, 720, 545] := book_eq 12 (by kernel_rfl) (by kernel_rfl) (by kernel_rfl)
theorem veiled655 : Tryz.prog.veiledRec 655 = false := by
  unfold Program.veiledRec
  rw [book655]
  kernel_rfl
theorem own655 : Tryz.prog.veiledOwn 655 = true := by
  unfold Program.veiledOwn
  rw [veiled655]
  rfl
theorem laidTypes : (Rows.wallNamesRow.laid.filterMap fun x => (Tryz.prog.globalNamed x.1).bind fun g => (Tryz.prog.globals[g]?).map (·.type)) = [559, 823, 612, 612, 698, 804, 805, 559, 655] := by kernel_rfl
theorem rVeiled : Rows.wallNamesRow.veiledFits Tryz.prog [] [4] = true := by
  unfold OpenClaim.veiledFits
  rw [laidTypes]
  have h : ([4] ++ [559, 823, 612, 612, 698, 804, 805, 559, 655] : List TypeId).all (Tryz.prog.veiledOwn ·) = true := by
    simp only [List.cons_append, List.nil_append, List.all_cons, List.all_nil, Bool.and_self, own4, own559, own823, own612, own698, own804, own805, own655]
  rw [h]
  rfl
end Go.Proofs.YtdmfhmnoenciaaaGreatDoor
namespace Go.Proofs.YtdmfhmnoenciaaaGreatDoor
open Go Go.Vt
theorem rWf : Rows.wallNamesRow.wf (OpenSpec.ofChange Rows.wallNamesSpec) = true := by kernel_rfl
theorem rWfText : Rows.wallNamesRow.wfByText (OpenSpec.ofChange Rows.wallNamesSpec) = true := by kernel_rfl
theorem rStops : Tryz.prog.stops = [] := by kernel_rfl
theorem rLifts : Rows.wallNamesRow.lifted = Tryz.prog.liftsFinal := by kernel_rfl
theorem rMake : Tryz.prog.make = some Rows.wallNamesRow.make := by kernel_rfl
theorem rOwn : ownKnob Tryz.prog.godebug = none := by kernel_rfl
theorem rNoInit : Tryz.prog.inits.idxOf? 3 = none := by kernel_rfl
theorem rTie : namedTie Tryz.prog Rows.wallNamesRow.named [] = true := by kernel_rfl
theorem rMapsOut : Rows.wallNamesRow.mapsOut = Tryz.prog.mapsAmong [4] := by kernel_rfl
theorem rBool : Tryz.prog.underlying 4 = some .bool := by kernel_rfl
theorem rLt : 4 < Tryz.prog.types.size := of_decide_eq_true (by kernel_rfl)
end Go.Proofs.YtdmfhmnoenciaaaGreatDoor
