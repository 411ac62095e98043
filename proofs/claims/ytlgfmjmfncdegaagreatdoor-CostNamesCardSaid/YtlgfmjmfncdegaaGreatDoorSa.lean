/- The witness of the row: a start at which the listed variables read as listed. No conditions. -/
import Derived.Test.YtlgfmjmfncdegaaGreatDoorRows
import Derived.Test.YtlgfmjmfncdegaaGreatDoorVm5
import Derived.ProofKit
import Derived.Lay
import Derived.MakeChecks
namespace Go.Proofs.YtlgfmjmfncdegaaGreatDoor
open Go Go.Vt
theorem miss0 : missB Tryz.prog "*errors.errorString" 0 55 = true := by kernel_rfl
theorem miss55 : missB Tryz.prog "*errors.errorString" 55 55 = true := by kernel_rfl
theorem miss110 : missB Tryz.prog "*errors.errorString" 110 55 = true := by kernel_rfl
theorem miss165 : missB Tryz.prog "*errors.errorString" 165 55 = true := by kernel_rfl
end Go.Proofs.YtlgfmjmfncdegaaGreatDoor
namespace Go.Proofs.YtlgfmjmfncdegaaGreatDoor
open Go Go.Vt
theorem miss220 : missB Tryz.prog "*errors.errorString" 220 55 = true := by kernel_rfl
theorem miss275 : missB Tryz.prog "*errors.errorString" 275 55 = true := by kernel_rfl
theorem miss330 : missB Tryz.prog "*errors.errorString" 330 55 = true := by kernel_rfl
theorem miss385 : missB Tryz.prog "*errors.errorString" 385 55 = true := by kernel_rfl
end Go.Proofs.YtlgfmjmfncdegaaGreatDoor
namespace Go.Proofs.YtlgfmjmfncdegaaGreatDoor
open Go Go.Vt
theorem miss440 : missB Tryz.prog "*errors.errorString" 440 55 = true := by kernel_rfl
theorem miss495 : missB Tryz.prog "*errors.errorString" 495 55 = true := by kernel_rfl
theorem miss550 : missB Tryz.prog "*errors.errorString" 550 55 = true := by kernel_rfl
theorem miss605 : missB Tryz.prog "*errors.errorString" 605 55 = true := by kernel_rfl
end Go.Proofs.YtlgfmjmfncdegaaGreatDoor
namespace Go.Proofs.YtlgfmjmfncdegaaGreatDoor
open Go Go.Vt
theorem miss660 : missB Tryz.prog "*errors.errorString" 660 55 = true := by kernel_rfl
theorem miss715 : missB Tryz.prog "*errors.errorString" 715 55 = true := by kernel_rfl
theorem miss770 : missB Tryz.prog "*errors.errorString" 770 55 = true := by kernel_rfl
theorem miss825 : missB Tryz.prog "*errors.errorString" 825 29 = true := by kernel_rfl
end Go.Proofs.YtlgfmjmfncdegaaGreatDoor
namespace Go.Proofs.YtlgfmjmfncdegaaGreatDoor
open Go
open Go.Vt
noncomputable def laidW : List (String × DataW Unit) := Rows.costNamesRow.laid
noncomputable def N0 : Nat := 18
theorem wSize (os : Os) : (World.holding Tryz.prog os ⟨#[], #[], []⟩).heap.size = N0 := by kernel_rfl
theorem sentHit : (Tryz.prog.typeName? 3 854 == some "*errors.errorString") = true := by kernel_rfl
theorem sentFind : (List.range Tryz.prog.types.size).find? (fun u => Tryz.prog.typeName? 3 u == some "*errors.errorString") = some 854 :=
  find_range sentHit (of_decide_eq_true (by kernel_rfl)) fun v hv => by
    by_cases h0 : v < 55
    · exact missB_at miss0 (by omega) (by omega)
    by_cases h55 : v < 110
    · exact missB_at miss55 (by omega) (by omega)
    by_cases h110 : v < 165
    · exact missB_at miss110 (by omega) (by omega)
    by_cases h165 : v < 220
    · exact missB_at miss165 (by omega) (by omega)
    by_cases h220 : v < 275
    · exact missB_at miss220 (by omega) (by omega)
    by_cases h275 : v < 330
    · exact missB_at miss275 (by omega) (by omega)
    by_cases h330 : v < 385
    · exact missB_at miss330 (by omega) (by omega)
    by_cases h385 : v < 440
    · exact missB_at miss385 (by omega) (by omega)
    by_cases h440 : v < 495
    · exact missB_at miss440 (by omega) (by omega)
    by_cases h495 : v < 550
    · exact missB_at miss495 (by omega) (by omega)
    by_cases h550 : v < 605
    · exact missB_at miss550 (by omega) (by omega)
    by_cases h605 : v < 660
    · exact missB_at miss605 (by omega) (by omega)
    by_cases h660 : v < 715
    · exact missB_at miss660 (by omega) (by omega)
    by_cases h715 : v < 770
    · exact missB_at miss715 (by omega) (by omega)
    by_cases h770 : v < 825
    · exact missB_at miss770 (by omega) (by omega)
    exact missB_at miss825 (by omega) (by omega)
noncomputable def y0 : List Value × List Obj := layD Tryz.prog 591 N0 (Rows.laid_unicode_utf8_first : DataW Unit)
theorem hy0 : ((Rows.laid_unicode_utf8_first : DataW Unit)).lay Tryz.prog 591 N0 = some y0 := layD_some (by kernel_rfl)
noncomputable def N1 : Nat := N0 + y0.2.length
noncomputable def y1 : List Value × List Obj := layD Tryz.prog 838 N1 (Rows.laid_unicode_utf8_acceptRanges : DataW Unit)
theorem hy1 : ((Rows.laid_unicode_utf8_acceptRanges : DataW Unit)).lay Tryz.prog 838 N1 = some y1 := layD_some (by kernel_rfl)
noncomputable def N2 : Nat := N1 + y1.2.length
noncomputable def y2 : List Value × List Obj := sentD Tryz.prog 854 N2 (.ptr (.agg [.lit (.string [105, 110, 118, 97, 108, 105, 100, 32, 115, 121, 110, 116, 97, 120])]))
theorem hy2 : ((Rows.laid_strconv_ErrSyntax : DataW Unit)).lay Tryz.prog 693 N2 = some y2 := sentD_some (name := "*errors.errorString") (d := (.ptr (.agg [.lit (.string [105, 110, 118, 97, 108, 105, 100, 32, 115, 121, 110, 116, 97, 120])]))) (by kernel_rfl : Tryz.prog.underlying 693 = some (.interface #[("Error", 363)])) sentFind (by kernel_rfl) (by kernel_rfl)
noncomputable def N3 : Nat := N2 + y2.2.length
noncomputable def y3 : List Value × List Obj := sentD Tryz.prog 854 N3 (.ptr (.agg [.lit (.string [118, 97, 108, 117, 101, 32, 111, 117, 116, 32, 111, 102, 32, 114, 97, 110, 103, 101])]))
theorem hy3 : ((Rows.laid_strconv_ErrRange : DataW Unit)).lay Tryz.prog 693 N3 = some y3 := sentD_some (name := "*errors.errorString") (d := (.ptr (.agg [.lit (.string [118, 97, 108, 117, 101, 32, 111, 117, 116, 32, 111, 102, 32, 114, 97, 110, 103, 101])]))) (by kernel_rfl : Tryz.prog.underlying 693 = some (.interface #[("Error", 363)])) sentFind (by kernel_rfl) (by kernel_rfl)
noncomputable def N4 : Nat := N3 + y3.2.length
noncomputable def y4 : List Value × List Obj := layD Tryz.prog 742 N4 (Rows.laid_internal_strconv_uint64pow10 : DataW Unit)
theorem hy4 : ((Rows.laid_internal_strconv_uint64pow10 : DataW Unit)).lay Tryz.prog 742 N4 = some y4 := layD_some (by kernel_rfl)
noncomputable def N5 : Nat := N4 + y4.2.length
noncomputable def y5 : List Value × List Obj := layD Tryz.prog 841 N5 (Rows.laid_math_bits_deBruijn32tab : DataW Unit)
theorem hy5 : ((Rows.laid_math_bits_deBruijn32tab : DataW Unit)).lay Tryz.prog 841 N5 = some y5 := layD_some (by kernel_rfl)
noncomputable def N6 : Nat := N5 + y5.2.length
noncomputable def y6 : List Value × List Obj := layD Tryz.prog 842 N6 (Rows.laid_math_bits_deBruijn64tab : DataW Unit)
theorem hy6 : ((Rows.laid_math_bits_deBruijn64tab : DataW Unit)).lay Tryz.prog 842 N6 = some y6 := layD_some (by kernel_rfl)
noncomputable def N7 : Nat := N6 + y6.2.length
noncomputable def y7 : List Value × List Obj := layD Tryz.prog 591 N7 (Rows.laid_strings_asciiSpace : DataW Unit)
theorem hy7 : ((Rows.laid_strings_asciiSpace : DataW Unit)).lay Tryz.prog 591 N7 = some y7 := layD_some (by kernel_rfl)
noncomputable def N8 : Nat := N7 + y7.2.length
noncomputable def y8 : List Value × List Obj := layD Tryz.prog 679 N8 (Rows.laid_unicode_White_Space : DataW Unit)
theorem hy8 : ((Rows.laid_unicode_White_Space : DataW Unit)).lay Tryz.prog 679 N8 = some y8 := layD_some (by kernel_rfl)
noncomputable def N9 : Nat := N8 + y8.2.length
noncomputable def yW : List (Nat × List Value) × List Obj := ((6, y0.1) :: (7, y1.1) :: (10, y2.1) :: (11, y3.1) :: (5, y4.1) :: (8, y5.1) :: (9, y6.1) :: (1, y7.1) :: (2, y8.1) :: [], y0.2 ++ (y1.2 ++ (y2.2 ++ (y3.2 ++ (y4.2 ++ (y5.2 ++ (y6.2 ++ (y7.2 ++ (y8.2 ++ [])))))))))
theorem laidW_eq : laidW = [("unicode/utf8.first", Rows.laid_unicode_utf8_first), ("unicode/utf8.acceptRanges", Rows.laid_unicode_utf8_acceptRanges), ("strconv.ErrSyntax", Rows.laid_strconv_ErrSyntax), ("strconv.ErrRange", Rows.laid_strconv_ErrRange), ("internal/strconv.uint64pow10", Rows.laid_internal_strconv_uint64pow10), ("math/bits.deBruijn32tab", Rows.laid_math_bits_deBruijn32tab), ("math/bits.deBruijn64tab", Rows.laid_math_bits_deBruijn64tab), ("strings.asciiSpace", Rows.laid_strings_asciiSpace), ("unicode.White_Space", Rows.laid_unicode_White_Space)] := rfl
theorem gn0 : Tryz.prog.globalNamed "unicode/utf8.first" = some 6 := by kernel_rfl
theorem gt0 : (Tryz.prog.globals[6]?).map (·.type) = some 591 := by kernel_rfl
theorem gn1 : Tryz.prog.globalNamed "unicode/utf8.acceptRanges" = some 7 := by kernel_rfl
theorem gt1 : (Tryz.prog.globals[7]?).map (·.type) = some 838 := by kernel_rfl
theorem gn2 : Tryz.prog.globalNamed "strconv.ErrSyntax" = some 10 := by kernel_rfl
theorem gt2 : (Tryz.prog.globals[10]?).map (·.type) = some 693 := by kernel_rfl
theorem gn3 : Tryz.prog.globalNamed "strconv.ErrRange" = some 11 := by kernel_rfl
theorem gt3 : (Tryz.prog.globals[11]?).map (·.type) = some 693 := by kernel_rfl
theorem gn4 : Tryz.prog.globalNamed "internal/strconv.uint64pow10" = some 5 := by kernel_rfl
theorem gt4 : (Tryz.prog.globals[5]?).map (·.type) = some 742 := by kernel_rfl
theorem gn5 : Tryz.prog.globalNamed "math/bits.deBruijn32tab" = some 8 := by kernel_rfl
theorem gt5 : (Tryz.prog.globals[8]?).map (·.type) = some 841 := by kernel_rfl
theorem gn6 : Tryz.prog.globalNamed "math/bits.deBruijn64tab" = some 9 := by kernel_rfl
theorem gt6 : (Tryz.prog.globals[9]?).map (·.type) = some 842 := by kernel_rfl
theorem gn7 : Tryz.prog.globalNamed "strings.asciiSpace" = some 1 := by kernel_rfl
theorem gt7 : (Tryz.prog.globals[1]?).map (·.type) = some 591 := by kernel_rfl
theorem gn8 : Tryz.prog.globalNamed "unicode.White_Space" = some 2 := by kernel_rfl
theorem gt8 : (Tryz.prog.globals[2]?).map (·.type) = some 679 := by kernel_rfl
theorem lay9 : Lay.layList Tryz.prog N9 [] = some ([], []) := layList_nil
theorem n9_def : N9 = N8 + y8.2.length := by delta N9; rfl
theorem lay8 : Lay.layList Tryz.prog N8 [("unicode.White_Space", Rows.laid_unicode_White_Space)] = some ((2, y8.1) :: [], y8.2 ++ []) :=
  layList_cons (x := ("unicode.White_Space", Rows.laid_unicode_White_Space)) (n := N8) (m := N9) (g := 2) (t := 679) (y := y8) (z := ([], [])) gn8 gt8 hy8 n9_def lay9
theorem n8_def : N8 = N7 + y7.2.length := by delta N8; rfl
theorem lay7 : Lay.layList Tryz.prog N7 [("strings.asciiSpace", Rows.laid_strings_asciiSpace), ("unicode.White_Space", Rows.laid_unicode_White_Space)] = some ((1, y7.1) :: (2, y8.1) :: [], y7.2 ++ (y8.2 ++ [])) :=
  layList_cons (x := ("strings.asciiSpace", Rows.laid_strings_asciiSpace)) (n := N7) (m := N8) (g := 1) (t := 591) (y := y7) (z := ((2, y8.1) :: [], y8.2 ++ [])) gn7 gt7 hy7 n8_def lay8
theorem n7_def : N7 = N6 + y6.2.length := by delta N7; rfl
theorem lay6 : Lay.layList Tryz.prog N6 [("math/bits.deBruijn64tab", Rows.laid_math_bits_deBruijn64tab), ("strings.asciiSpace", Rows.laid_strings_asciiSpace), ("unicode.White_Space", Rows.laid_unicode_White_Space)] = some ((9, y6.1) :: (1, y7.1) :: (2, y8.1) :: [], y6.2 ++ (y7.2 ++ (y8.2 ++ []))) :=
  layList_cons (x := ("math/bits.deBruijn64tab", Rows.laid_math_bits_deBruijn64tab)) (n := N6) (m := N7) (g := 9) (t := 842) (y := y6) (z := ((1, y7.1) :: (2, y8.1) :: [], y7.2 ++ (y8.2 ++ []))) gn6 gt6 hy6 n7_def lay7
theorem n6_def : N6 = N5 + y5.2.length := by delta N6; rfl
theorem lay5 : Lay.layList Tryz.prog N5 [("math/bits.deBruijn32tab", Rows.laid_math_bits_deBruijn32tab), ("math/bits.deBruijn64tab", Rows.laid_math_bits_deBruijn64tab), ("strings.asciiSpace", Rows.laid_strings_asciiSpace), ("unicode.White_Space", Rows.laid_unicode_White_Space)] = some ((8, y5.1) :: (9, y6.1) :: (1, y7.1) :: (2, y8.1) :: [], y5.2 ++ (y6.2 ++ (y7.2 ++ (y8.2 ++ [])))) :=
  layList_cons (x := ("math/bits.deBruijn32tab", Rows.laid_math_bits_deBruijn32tab)) (n := N5) (m := N6) (g := 8) (t := 841) (y := y5) (z := ((9, y6.1) :: (1, y7.1) :: (2, y8.1) :: [], y6.2 ++ (y7.2 ++ (y8.2 ++ [])))) gn5 gt5 hy5 n6_def lay6
theorem n5_def : N5 = N4 + y4.2.length := by delta N5; rfl
theorem lay4 : Lay.layList Tryz.prog N4 [("internal/strconv.uint64pow10", Rows.laid_internal_strconv_uint64pow10), ("math/bits.deBruijn32tab", Rows.laid_math_bits_deBruijn32tab), ("math/bits.deBruijn64tab", Rows.laid_math_bits_deBruijn64tab), ("strings.asciiSpace", Rows.laid_strings_asciiSpace), ("unicode.White_Space", Rows.laid_unicode_White_Space)] = some ((5, y4.1) :: (8, y5.1) :: (9, y6.1) :: (1, y7.1) :: (2, y8.1) :: [], y4.2 ++ (y5.2 ++ (y6.2 ++ (y7.2 ++ (y8.2 ++ []))))) :=
  layList_cons (x := ("internal/strconv.uint64pow10", Rows.laid_internal_strconv_uint64pow10)) (n := N4) (m := N5) (g := 5) (t := 742) (y := y4) (z := ((8, y5.1) :: (9, y6.1) :: (1, y7.1) :: (2, y8.1) :: [], y5.2 ++ (y6.2 ++ (y7.2 ++ (y8.2 ++ []))))) gn4 gt4 hy4 n5_def lay5
theorem n4_def : N4 = N3 + y3.2.length := by delta N4; rfl
theorem lay3 : Lay.layList Tryz.prog N3 [("strconv.ErrRange", Rows.laid_strconv_ErrRange), ("internal/strconv.uint64pow10", Rows.laid_internal_strconv_uint64pow10), ("math/bits.deBruijn32tab", Rows.laid_math_bits_deBruijn32tab), ("math/bits.deBruijn64tab", Rows.laid_math_bits_deBruijn64tab), ("strings.asciiSpace", Rows.laid_strings_asciiSpace), ("unicode.White_Space", Rows.laid_unicode_White_Space)] = some ((11, y3.1) :: (5, y4.1) :: (8, y5.1) :: (9, y6.1) :: (1, y7.1) :: (2, y8.1) :: [], y3.2 ++ (y4.2 ++ (y5.2 ++ (y6.2 ++ (y7.2 ++ (y8.2 ++ [])))))) :=
  layList_cons (x := ("strconv.ErrRange", Rows.laid_strconv_ErrRange)) (n := N3) (m := N4) (g := 11) (t := 693) (y := y3) (z := ((5, y4.1) :: (8, y5.1) :: (9, y6.1) :: (1, y7.1) :: (2, y8.1) :: [], y4.2 ++ (y5.2 ++ (y6.2 ++ (y7.2 ++ (y8.2 ++ [])))))) gn3 gt3 hy3 n4_def lay4
theorem n3_def : N3 = N2 + y2.2.length := by delta N3; rfl
theorem lay2 : Lay.layList Tryz.prog N2 [("strconv.ErrSyntax", Rows.laid_strconv_ErrSyntax), ("strconv.ErrRange", Rows.laid_strconv_ErrRange), ("internal/strconv.uint64pow10", Rows.laid_internal_strconv_uint64pow10), ("math/bits.deBruijn32tab", Rows.laid_math_bits_deBruijn32tab), ("math/bits.deBruijn64tab", Rows.laid_math_bits_deBruijn64tab), ("strings.asciiSpace", Rows.laid_strings_asciiSpace), ("unicode.White_Space", Rows.laid_unicode_White_Space)] = some ((10, y2.1) :: (11, y3.1) :: (5, y4.1) :: (8, y5.1) :: (9, y6.1) :: (1, y7.1) :: (2, y8.1) :: [], y2.2 ++ (y3.2 ++ (y4.2 ++ (y5.2 ++ (y6.2 ++ (y7.2 ++ (y8.2 ++ []))))))) :=
  layList_cons (x := ("strconv.ErrSyntax", Rows.laid_strconv_ErrSyntax)) (n := N2) (m := N3) (g := 10) (t := 693) (y := y2) (z := ((11, y3.1) :: (5, y4.1) :: (8, y5.1) :: (9, y6.1) :: (1, y7.1) :: (2, y8.1) :: [], y3.2 ++ (y4.2 ++ (y5.2 ++ (y6.2 ++ (y7.2 ++ (y8.2 ++ []))))))) gn2 gt2 hy2 n3_def lay3
theorem n2_def : N2 = N1 + y1.2.length := by delta N2; rfl
theorem lay1 : Lay.layList Tryz.prog N1 [("unicode/utf8.acceptRanges", Rows.laid_unicode_utf8_acceptRanges), ("strconv.ErrSyntax", Rows.laid_strconv_ErrSyntax), ("strconv.ErrRange", Rows.laid_strconv_ErrRange), ("internal/strconv.uint64pow10", Rows.laid_internal_strconv_uint64pow10), ("math/bits.deBruijn32tab", Rows.laid_math_bits_deBruijn32tab), ("math/bits.deBruijn64tab", Rows.laid_math_bits_deBruijn64tab), ("strings.asciiSpace", Rows.laid_strings_asciiSpace), ("unicode.White_Space", Rows.laid_unicode_White_Space)] = some ((7, y1.1) :: (10, y2.1) :: (11, y3.1) :: (5, y4.1) :: (8, y5.1) :: (9, y6.1) :: (1, y7.1) :: (2, y8.1) :: [], y1.2 ++ (y2.2 ++ (y3.2 ++ (y4.2 ++ (y5.2 ++ (y6.2 ++ (y7.2 ++ (y8.2 ++ [])))))))) :=
  layList_cons (x := ("unicode/utf8.acceptRanges", Rows.laid_unicode_utf8_acceptRanges)) (n := N1) (m := N2) (g := 7) (t := 838) (y := y1) (z := ((10, y2.1) :: (11, y3.1) :: (5, y4.1) :: (8, y5.1) :: (9, y6.1) :: (1, y7.1) :: (2, y8.1) :: [], y2.2 ++ (y3.2 ++ (y4.2 ++ (y5.2 ++ (y6.2 ++ (y7.2 ++ (y8.2 ++ [])))))))) gn1 gt1 hy1 n2_def lay2
theorem n1_def : N1 = N0 + y0.2.length := by delta N1; rfl
theorem lay0 : Lay.layList Tryz.prog N0 [("unicode/utf8.first", Rows.laid_unicode_utf8_first), ("unicode/utf8.acceptRanges", Rows.laid_unicode_utf8_acceptRanges), ("strconv.ErrSyntax", Rows.laid_strconv_ErrSyntax), ("strconv.ErrRange", Rows.laid_strconv_ErrRange), ("internal/strconv.uint64pow10", Rows.laid_internal_strconv_uint64pow10), ("math/bits.deBruijn32tab", Rows.laid_math_bits_deBruijn32tab), ("math/bits.deBruijn64tab", Rows.laid_math_bits_deBruijn64tab), ("strings.asciiSpace", Rows.laid_strings_asciiSpace), ("unicode.White_Space", Rows.laid_unicode_White_Space)] = some ((6, y0.1) :: (7, y1.1) :: (10, y2.1) :: (11, y3.1) :: (5, y4.1) :: (8, y5.1) :: (9, y6.1) :: (1, y7.1) :: (2, y8.1) :: [], y0.2 ++ (y1.2 ++ (y2.2 ++ (y3.2 ++ (y4.2 ++ (y5.2 ++ (y6.2 ++ (y7.2 ++ (y8.2 ++ []))))))))) :=
  layList_cons (x := ("unicode/utf8.first", Rows.laid_unicode_utf8_first)) (n := N0) (m := N1) (g := 6) (t := 591) (y := y0) (z := ((7, y1.1) :: (10, y2.1) :: (11, y3.1) :: (5, y4.1) :: (8, y5.1) :: (9, y6.1) :: (1, y7.1) :: (2, y8.1) :: [], y1.2 ++ (y2.2 ++ (y3.2 ++ (y4.2 ++ (y5.2 ++ (y6.2 ++ (y7.2 ++ (y8.2 ++ []))))))))) gn0 gt0 hy0 n1_def lay1
theorem layW : Lay.layList Tryz.prog N0 laidW = some yW := lay0
theorem wEq (os : Os) : World.laidAll Tryz.prog os laidW = wLaid Tryz.prog os yW := laidAll_eq (wSize os) layW
theorem wZip (os : Os) : World.variablesZipB Tryz.prog ((wLaid Tryz.prog os yW).forCall (fun _ _ => 0) ⟨#[], #[], []⟩) = true := by kernel_rfl
theorem wRest (os : Os) : (((wLaid Tryz.prog os yW).forCall (fun _ _ => 0) ⟨#[], #[], []⟩).heap.toList.drop Tryz.prog.globals.size).take ((begin Tryz.prog (fun _ _ => 0) default).world.heap.size - Tryz.prog.globals.size) = (begin Tryz.prog (fun _ _ => 0) default).world.heap.toList.drop Tryz.prog.globals.size := by kernel_rfl
theorem wOk (os : Os) : Input.okWideB Tryz.checked.prog ((wLaid Tryz.prog os yW).forCall (fun _ _ => 0) ⟨#[], #[], []⟩) 3 ⟨#[], #[], []⟩ = true := by kernel_rfl
theorem wPlain : (laidW.all fun x => x.2.handleName?.isNone) = true := by kernel_rfl
theorem wFits (os : Os) : (World.holding Tryz.prog os ⟨#[], #[], []⟩).layFits Tryz.prog laidW [] = true := fits_eq (wSize os) layW (by kernel_rfl)
theorem wIfaces0 (os : Os) : ifacesY Tryz.prog (wLaid Tryz.prog os yW) yW = true := by kernel_rfl
theorem wIfaces (os : Os) : (World.holding Tryz.prog os ⟨#[], #[], []⟩).layIfaces Tryz.prog laidW (World.laidAll Tryz.prog os laidW) = true := by
  rw [wEq]
  exact ifaces_eq (wSize os) layW (wIfaces0 os)
theorem wPre (os : Os) (H : Type) (enc : TypeId × Value → H) : Rows.costNamesSpec.preB enc Tryz.checked.prog Tryz.f3 [] false ((wLaid Tryz.prog os yW).forCall (fun _ _ => 0) ⟨#[], #[], []⟩).memory #[] 8 = true := by kernel_rfl
theorem wSized (os : Os) (H : Type) (enc : TypeId × Value → H) : Rows.costNamesSpec.sizedB enc Tryz.checked.prog Tryz.f3 false ((wLaid Tryz.prog os yW).forCall (fun _ _ => 0) ⟨#[], #[], []⟩).memory #[] 8 = true := by kernel_rfl
theorem wMet (os : Os) : laidMetH Tryz.prog laidW ((wLaid Tryz.prog os yW).forCall (fun _ _ => 0) ⟨#[], #[], []⟩).memory := by
  rw [MakeChecks.laidMetH_plain _ _ _ wPlain, ← wEq]
  exact laidMet_laidAll _ (wFits os) (wIfaces os)
theorem wOs (os : Os) : (wLaid Tryz.prog os yW).os = os := by rw [← wEq]; exact World.laidAll_os _ _ _
end Go.Proofs.YtlgfmjmfncdegaaGreatDoor
