/- CostNames: called with nothing, in whatever memory and on every schedule, the law returns true; the card ties what the listed variables hold to the program's text. No conditions. -/
import Derived.Test.YtlgfmjmfncdegaaGreatDoorVm5
import Derived.Test.YtlgfmjmfncdegaaGreatDoorRg
import Derived.Test.YtlgfmjmfncdegaaGreatDoorRf
import Derived.Test.YtlgfmjmfncdegaaGreatDoorRb
import Derived.Test.YtlgfmjmfncdegaaGreatDoorSa
import Derived.Test.YtlgfmjmfncdegaaGreatDoorKn10
import Derived.Test.YtlgfmjmfncdegaaGreatDoorTied
import Derived.Test.YtlgfmjmfncdegaaGreatDoorCards
namespace Go.Proofs.YtlgfmjmfncdegaaGreatDoor
open Go Go.ChangeShapes Go.WideShapes Go.ChangeAt Go.RowKit Go.Vt
theorem tab1 {W : World} (h : laidMet Tryz.prog laidW W) : TabAt W (1, .u8, [0, 0, 0, 0, 0, 0, 0, 0, 0, 1, 1, 1, 1, 1, 0, 0, 0, 0, 0, 0, 0, 0, 0, 0, 0, 0, 0, 0, 0, 0, 0, 0, 1, 0, 0, 0, 0, 0, 0, 0, 0, 0, 0, 0, 0, 0, 0, 0, 0, 0, 0, 0, 0, 0, 0, 0, 0, 0, 0, 0, 0, 0, 0, 0, 0, 0, 0, 0, 0, 0, 0, 0, 0, 0, 0, 0, 0, 0, 0, 0, 0, 0, 0, 0, 0, 0, 0, 0, 0, 0, 0, 0, 0, 0, 0, 0, 0, 0, 0, 0, 0, 0, 0, 0, 0, 0, 0, 0, 0, 0, 0, 0, 0, 0, 0, 0, 0, 0, 0, 0, 0, 0, 0, 0, 0, 0, 0, 0, 0, 0, 0, 0, 0, 0, 0, 0, 0, 0, 0, 0, 0, 0, 0, 0, 0, 0, 0, 0, 0, 0, 0, 0, 0, 0, 0, 0, 0, 0, 0, 0, 0, 0, 0, 0, 0, 0, 0, 0, 0, 0, 0, 0, 0, 0, 0, 0, 0, 0, 0, 0, 0, 0, 0, 0, 0, 0, 0, 0, 0, 0, 0, 0, 0, 0, 0, 0, 0, 0, 0, 0, 0, 0, 0, 0, 0, 0, 0, 0, 0, 0, 0, 0, 0, 0, 0, 0, 0, 0, 0, 0, 0, 0, 0, 0, 0, 0, 0, 0, 0, 0, 0, 0, 0, 0, 0, 0, 0, 0, 0, 0, 0, 0, 0, 0, 0, 0, 0, 0, 0, 0, 0, 0, 0, 0, 0, 0]) :=
  tabAt_of h (n := "strings.asciiSpace") (d := Rows.laid_strings_asciiSpace) (t := 591) (e := 5) (m := 256) 7 (by kernel_rfl) (by kernel_rfl) (by kernel_rfl) (by kernel_rfl) (by kernel_rfl) (by kernel_rfl) (by kernel_rfl) (by kernel_rfl)
theorem tab5 {W : World} (h : laidMet Tryz.prog laidW W) : TabAt W (5, .u64, [1, 10, 100, 1000, 10000, 100000, 1000000, 10000000, 100000000, 1000000000, 10000000000, 100000000000, 1000000000000, 10000000000000, 100000000000000, 1000000000000000, 10000000000000000, 100000000000000000, 1000000000000000000, 10000000000000000000]) :=
  tabAt_of h (n := "internal/strconv.uint64pow10") (d := Rows.laid_internal_strconv_uint64pow10) (t := 742) (e := 578) (m := 20) 4 (by kernel_rfl) (by kernel_rfl) (by kernel_rfl) (by kernel_rfl) (by kernel_rfl) (by kernel_rfl) (by kernel_rfl) (by kernel_rfl)
theorem tabs {W : World} (h : laidMet Tryz.prog laidW W) : GlobOk (globF globL) (fun X _ => X < W.heap.size) W := TabsAt.glob (L := globL) (.cons (tab1 h) <| .cons (tab5 h) <| .nil)
theorem answer {W : World} (h : laidMet Tryz.prog laidW W) : Calls Tryz.prog 3 #[] W fun e w' => e = .returned (.bool true) ∧ Go.RowKit.Below W.heap.size W w' := FactOk.calls (f := 3) fact72 (tabs h)
set_option maxRecDepth 100000 in
theorem lifted (os : Os) (started : os.Started) (H : Type) (enc : TypeId × Value → H) :
    ReturnsInHanded {} Tryz.checked os 3 .any (fun w args => (Rows.costNamesSpec.pre enc Tryz.prog Tryz.f3 [] false w args ∧ laidMetH Tryz.prog laidW w) ∧ sizedMet enc Tryz.prog Tryz.f3 (OpenSpec.ofChange Rows.costNamesSpec) false w args)
      (Rows.costNamesSpec.post enc Tryz.prog Tryz.f3 false true false false) := by
  refine returnsInHanded_of_change_and (C := Tryz.checked) (X := fun w _ => laidMetH Tryz.prog laidW w) (fun _ _ _ hh h => h.of_heap hh) rOwn started rNoInit Tryz.func3
    (ChangeSpec.witness_shaped (enc := enc) (C := Tryz.checked) (os := os) (X := fun w _ => laidMetH Tryz.prog laidW w) false (wLaid Tryz.prog os yW) #[] 8 (wOs os)
      (World.shaped_of_ZipB (wZip os) (wRest os)) (wOk os) (wPre os H enc) (wSized os H enc) (wMet os)) ?_
  intro W base args ds gs before _ hW _ _ hL _
  have hW' := hW
  obtain ⟨p, q, hA0, hV, rfl, _, _⟩ := hW
  have hA : DataW.TrodAll enc Tryz.prog W 0 (fun _ => true) true [] args.toList ds p := hA0
  obtain ⟨rfl, rfl, rfl⟩ := trodAll_none hA
  obtain ⟨rfl, rfl⟩ := trodVars_none hV
  rw [MakeChecks.laidMetH_plain _ _ _ wPlain] at hL
  refine (answer hL).mono fun e W' ⟨he, hb⟩ => ?_
  subst he
  exact ⟨_, rfl, _, _, _, [], [], [], hW', trodAll_mk1 (shut_bool rBool _), trodAll_mk0, rfl, hb.frame _, fun h => by cases h⟩

theorem costNames_holds : Rows.CostNamesSaid :=
  OpenClaim.holds_of_wide 3 Tryz.f3 rfl rfl rfl rfl rfl rfl rfl ⟨rfl, rfl, rfl, rfl, rfl⟩ rfl rfl rfl rfl rfl rLawNamed Tryz.func3 rFacts rInst rWrap
    (fun os started H enc _ => lifted os started H enc)
theorem rMain : Tryz.prog.mainIs = some (true, "a52aeb3c796cab29cb5edbb75abb6b2a93f6efb5230b8ca0a7db73113555364b".toList) := by kernel_rfl
theorem rGoesBy : false = Rows.costNamesRow.goesBy Tryz.prog := by
  show false = ((Tryz.prog.funcNamed Rows.costNamesRow.func).any Tryz.prog.goes || false)
  rw [rLawNamed, Option.any_some, rGoes]
  rfl
theorem costNames_card : Rows.CostNamesCardSaid :=
  Claim7.holds_tied_plain_at .later [] [.pinned, .data, .sentinel, .sentinel, .data, .data, .data, .data, .listed] true (true, "a52aeb3c796cab29cb5edbb75abb6b2a93f6efb5230b8ca0a7db73113555364b") true
    costNames_holds (fun _ h => by cases h) rWfText (fun _ h => by cases h) costNames_row_tie rfl ⟨rfl, rfl⟩ rMain rfl
    (fun f fn hf hfn => by
      obtain rfl : f = 3 := (Option.some.inj (rLawNamed.symm.trans hf)).symm
      obtain rfl : fn = Tryz.f3 := (Option.some.inj (Tryz.func3.symm.trans hfn)).symm
      exact ⟨rLooks.symm, fun j t ht => by
        have ht : (#[] : Array TypeId)[j]? = some t := ht
        simp at ht⟩)
    rGoesBy
#print axioms costNames_card
end Go.Proofs.YtlgfmjmfncdegaaGreatDoor
