/- Closed facts of the law's row. No conditions. -/
import Derived.Test.YtlgfmjmfncdegaaGreatDoorVm5
import Derived.Test.YtlgfmjmfncdegaaGreatDoorRows
import Derived.SevenTiedAt
namespace Go.Proofs.YtlgfmjmfncdegaaGreatDoor
open Go Go.Vt
theorem still0 : (Tryz.prog.funcs.toList.take 260).all stillF = true := by kernel_rfl
theorem still1 : ((Tryz.prog.funcs.toList.drop 260).take 260).all stillF = true := by kernel_rfl
theorem still2 : (Tryz.prog.funcs.toList.drop (260 + 260)).all stillF = true := by kernel_rfl
theorem stillAll : Tryz.prog.funcs.toList.all stillF = true := all_split (p := stillF) Tryz.prog.funcs.toList 260 260 still0 still1 still2
theorem rGoes : Tryz.prog.goes 3 = false := goes_none stillAll
theorem looksB : (orec false (fun c => c.looks Tryz.prog) Tryz.f748.body) = true := by kernel_rfl
theorem rLooks : Tryz.prog.looks [] = true := looks_at Tryz.func748 looksB
end Go.Proofs.YtlgfmjmfncdegaaGreatDoor
namespace Go.Proofs.YtlgfmjmfncdegaaGreatDoor
open Go Go.Vt
theorem book4 : Tryz.prog.book 4 = [4] := book_eq 12 (by kernel_rfl) (by kernel_rfl) (by kernel_rfl)
theorem veiled4 : Tryz.prog.veiledRec 4 = false := by
  unfold Program.veiledRec
  rw [book4]
  kernel_rfl
theorem own4 : Tryz.prog.veiledOwn 4 = true := by
  unfold Program.veiledOwn
  rw [veiled4]
  rfl
theorem book591 : Tryz.prog.book 591 = [591, 5] := book_eq 12 (by kernel_rfl) (by kernel_rfl) (by kernel_rfl)
theorem veiled591 : Tryz.prog.veiledRec 591 = false := by
  unfold Program.veiledRec
  rw [book591]
  kernel_rfl
theorem own591 : Tryz.prog.veiledOwn 591 = true := by
  unfold Program.veiledOwn
  rw [veiled591]
  rfl
theorem book838 : Tryz.prog.book 838 = [838, 837, 5] := book_eq 12 (by kernel_rfl) (by kernel_rfl) (by kernel_rfl)
theorem veiled838 : Tryz.prog.veiledRec 838 = false := by
  unfold Program.veiledRec
  rw [book838]
  kernel_rfl
theorem own838 : Tryz.prog.veiledOwn 838 = true := by
  unfold Program.veiledOwn
  rw [veiled838]
  rfl
theorem book693 : Tryz.prog.book 693 = [693] := book_eq 12 (by kernel_rfl) (by kernel_rfl) (by kernel_rfl)
theorem veiled693 : Tryz.prog.veiledRec 693 = false := by
  unfold Program.veiledRec
  rw [book693]
  kernel_rfl
theorem own693 : Tryz.prog.veiledOwn 693 = true := by
  unfold Program.veiledOwn
  rw [veiled693]
  rfl
theorem book742 : Tryz.prog.book 742 = [742, 578] := book_eq 12 (by kernel_rfl) (by kernel_rfl) (by kernel_rfl)
theorem veiled742 : Tryz.prog.veiledRec 742 = false := by
  unfold Program.veiledRec
  rw [book742]
  kernel_rfl
theorem own742 : Tryz.prog.veiledOwn 742 = true := by
  unfold Program.veiledOwn
  rw [veiled742]
  rfl
theorem book841 : Tryz.prog.book 841 = [841, 5] := book_eq 12 (by kernel_rfl) (by kernel_rfl) (by kernel_rfl)
theorem veiled841 : Tryz.prog.veiledRec 841 = false := by
  unfold Program.veiledRec
  rw [book841]
  kernel_rfl
theorem own841 : Tryz.prog.veiledOwn 841 = true := by
  unfold Program.veiledOwn
  rw [veiled841]
  rfl
theorem book842 : Tryz.prog.book 842 = [842, 5] := book_eq 12 (by kernel_rfl) (by kernel_rfl) (by kernel_rfl)
theorem veiled842 : Tryz.prog.veiledRec 842 = false := by
  unfold Program.veiledRec
  rw [book842]
  kernel_rfl
theorem own842 : Tryz.prog.veiledOwn 842 = true := by
  unfold Program.veiledOwn
  rw [veiled842]
  rfl
theorem book679 : Tryz.prog.book 679 = [679, 762, 759, 760, 3, 765, 768, 763, 457] := book_eq 12 (by kernel_rfl) (by kernel_rfl) (by kernel_rfl)
theorem veiled679 : Tryz.prog.veiledRec 679 = false := by
  unfold Program.veiledRec
  rw [book679]
  kernel_rfl
theorem own679 : Tryz.prog.veiledOwn 679 = true := by
  unfold Program.veiledOwn
  rw [veiled679]
  rfl
theorem laidTypes : (Rows.costNamesRow.laid.filterMap fun x => (Tryz.prog.globalNamed x.1).bind fun g => (Tryz.prog.globals[g]?).map (·.type)) = [591, 838, 693, 693, 742, 841, 842, 591, 679] := by kernel_rfl
theorem rVeiled : Rows.costNamesRow.veiledFits Tryz.prog [] [4] = true := by
  unfold OpenClaim.veiledFits
  rw [laidTypes]
  have h : ([4] ++ [591, 838, 693, 693, 742, 841, 842, 591, 679] : List TypeId).all (Tryz.prog.veiledOwn ·) = true := by
    simp only [List.cons_append, List.nil_append, List.all_cons, List.all_nil, Bool.and_self, own4, own591, own838, own693, own742, own841, own842, own679]
  rw [h]
  rfl
end Go.Proofs.YtlgfmjmfncdegaaGreatDoor
namespace Go.Proofs.YtlgfmjmfncdegaaGreatDoor
open Go Go.Vt
theorem rWf : Rows.costNamesRow.wf (OpenSpec.ofChange Rows.costNamesSpec) = true := by kernel_rfl
theorem rWfText : Rows.costNamesRow.wfByText (OpenSpec.ofChange Rows.costNamesSpec) = true := by kernel_rfl
theorem rStops : Tryz.prog.stops = [] := by kernel_rfl
theorem rLifts : Rows.costNamesRow.lifted = Tryz.prog.liftsFinal := by kernel_rfl
theorem rMake : Tryz.prog.make = some Rows.costNamesRow.make := by kernel_rfl
theorem rOwn : ownKnob Tryz.prog.godebug = none := by kernel_rfl
theorem rNoInit : Tryz.prog.inits.idxOf? 3 = none := by kernel_rfl
theorem rTie : namedTie Tryz.prog Rows.costNamesRow.named [] = true := by kernel_rfl
theorem rMapsOut : Rows.costNamesRow.mapsOut = Tryz.prog.mapsAmong [4] := by kernel_rfl
theorem rBool : Tryz.prog.underlying 4 = some .bool := by kernel_rfl
theorem rLt : 4 < Tryz.prog.types.size := of_decide_eq_true (by kernel_rfl)
end Go.Proofs.YtlgfmjmfncdegaaGreatDoor
