/-
  DERIVED. GIVEN WITH THE SEED: THE CARDS: each row of YtckgicpfgfkndaaDoorRows.lean that lists a variable, with what it lists TIED to the program's text (the seventh form; the later family's looks); each row that meets fmt, with fmt's text TOLD by the authors' own Lean function (tested against real Go, not proved from fmt's source: count such statements apart). THE CARD IS WHAT COUNTS. Prove the row's statement (the work); the ties are given (YtckgicpfgfkndaaDoorTie.lean); close each card by the builder's one call (the guide's Derived/Test/ToyasCard.lean, 'card_holds'). Laid BY PROGRAM, IN A SANDBOX (cutbox-door.mjs). By AI agents, Wed Nov 11 2026. No macro, syntax, notation, axiom, sorry.
-/
import Derived.Test.YtckgicpfgfkndaaDoorRows
import GoSem.ClaimSeven
namespace Go.Proofs.YtckgicpfgfkndaaDoor
namespace Rows

/-- THE TIED CARD OF 'packhorselaw4.ValueEq'. -/
def valueEqCard : Claim7 := { stood := { row := valueEqRow, standIns := [], harness := (true, "19adef64d1b2161d54cf57a5c99b46e89492e7c890822fe9e6648dc0b4e1c864"), looks := true }, kinds := [], alts := [], laidByText := true, laidKinds := [.data, .pinned], laidTests := true, laidLooks := .later }
def ValueEqCardSaid : Prop := Claim7.holds Tryd.pinned (.plain (OpenSpec.ofChange valueEqSpec)) valueEqCard

/-- THE TIED CARD OF 'packhorselaw4.ValueMust'. -/
def valueMustCard : Claim7 := { stood := { row := valueMustRow, standIns := [], harness := (true, "19adef64d1b2161d54cf57a5c99b46e89492e7c890822fe9e6648dc0b4e1c864"), looks := true }, kinds := [], alts := [], laidByText := true, laidKinds := [.data, .pinned], laidTests := true, laidLooks := .later }
def ValueMustCardSaid : Prop := Claim7.holds Tryd.pinned (.plain (OpenSpec.ofChange valueMustSpec)) valueMustCard

/-- THE TIED CARD OF 'packhorselaw4.ValueInts'. -/
def valueIntsCard : Claim7 := { stood := { row := valueIntsRow, standIns := [], harness := (true, "19adef64d1b2161d54cf57a5c99b46e89492e7c890822fe9e6648dc0b4e1c864"), looks := true }, kinds := [], alts := [], laidByText := true, laidKinds := [.data, .pinned], laidTests := true, laidLooks := .later }
def ValueIntsCardSaid : Prop := Claim7.holds Tryd.pinned (.plain (OpenSpec.ofChange valueIntsSpec)) valueIntsCard

/-- THE TIED CARD OF 'packhorselaw4.ValueNone'. -/
def valueNoneCard : Claim7 := { stood := { row := valueNoneRow, standIns := [], harness := (true, "19adef64d1b2161d54cf57a5c99b46e89492e7c890822fe9e6648dc0b4e1c864"), looks := true }, kinds := [], alts := [], laidByText := true, laidKinds := [.data, .pinned], laidTests := true, laidLooks := .later }
def ValueNoneCardSaid : Prop := Claim7.holds Tryd.pinned (.plain (OpenSpec.ofChange valueNoneSpec)) valueNoneCard

/-- THE TIED CARD OF 'packhorselaw4.ValueTexts'. -/
def valueTextsCard : Claim7 := { stood := { row := valueTextsRow, standIns := [], harness := (true, "19adef64d1b2161d54cf57a5c99b46e89492e7c890822fe9e6648dc0b4e1c864"), looks := true }, kinds := [], alts := [], laidByText := true, laidKinds := [.data, .pinned], laidTests := true, laidLooks := .later }
def ValueTextsCardSaid : Prop := Claim7.holds Tryd.pinned (.plain (OpenSpec.ofChange valueTextsSpec)) valueTextsCard

/-- THE TIED CARD OF 'packhorselaw4.ValueAny'. -/
def valueAnyCard : Claim7 := { stood := { row := valueAnyRow, standIns := [], harness := (true, "19adef64d1b2161d54cf57a5c99b46e89492e7c890822fe9e6648dc0b4e1c864"), looks := true }, kinds := [], alts := [], laidByText := true, laidKinds := [.data, .pinned], laidTests := true, laidLooks := .later }
def ValueAnyCardSaid : Prop := Claim7.holds Tryd.pinned (.plain (OpenSpec.ofChange valueAnySpec)) valueAnyCard

/-- THE TIED CARD OF 'packhorselaw4.ValueAll'. -/
def valueAllCard : Claim7 := { stood := { row := valueAllRow, standIns := [], harness := (true, "19adef64d1b2161d54cf57a5c99b46e89492e7c890822fe9e6648dc0b4e1c864"), looks := true }, kinds := [], alts := [], laidByText := true, laidKinds := [.data, .pinned], laidTests := true, laidLooks := .later }
def ValueAllCardSaid : Prop := Claim7.holds Tryd.pinned (.plain (OpenSpec.ofChange valueAllSpec)) valueAllCard

/-- THE SECOND FORM's CARD OF 'packhorselaw4.ValueEq'. -/
def valueEqUptoCard : Claim7 := { stood := { row := valueEqUptoRow, standIns := [], harness := (true, "19adef64d1b2161d54cf57a5c99b46e89492e7c890822fe9e6648dc0b4e1c864"), looks := true }, kinds := [], alts := [], laidByText := true, laidKinds := [.data, .pinned], laidTests := true, laidLooks := .later }
def ValueEqUptoCardSaid : Prop := Claim7.holds Tryd.pinned (.plain (OpenSpec.upto valueEqSpec)) valueEqUptoCard

/-- THE SECOND FORM's CARD OF 'packhorselaw4.ValueMust'. -/
def valueMustUptoCard : Claim7 := { stood := { row := valueMustUptoRow, standIns := [], harness := (true, "19adef64d1b2161d54cf57a5c99b46e89492e7c890822fe9e6648dc0b4e1c864"), looks := true }, kinds := [], alts := [], laidByText := true, laidKinds := [.data, .pinned], laidTests := true, laidLooks := .later }
def ValueMustUptoCardSaid : Prop := Claim7.holds Tryd.pinned (.plain (OpenSpec.upto valueMustSpec)) valueMustUptoCard

/-- THE SECOND FORM's CARD OF 'packhorselaw4.ValueInts'. -/
def valueIntsUptoCard : Claim7 := { stood := { row := valueIntsUptoRow, standIns := [], harness := (true, "19adef64d1b2161d54cf57a5c99b46e89492e7c890822fe9e6648dc0b4e1c864"), looks := true }, kinds := [], alts := [], laidByText := true, laidKinds := [.data, .pinned], laidTests := true, laidLooks := .later }
def ValueIntsUptoCardSaid : Prop := Claim7.holds Tryd.pinned (.plain (OpenSpec.upto valueIntsSpec)) valueIntsUptoCard

/-- THE SECOND FORM's CARD OF 'packhorselaw4.ValueNone'. -/
def valueNoneUptoCard : Claim7 := { stood := { row := valueNoneUptoRow, standIns := [], harness := (true, "19adef64d1b2161d54cf57a5c99b46e89492e7c890822fe9e6648dc0b4e1c864"), looks := true }, kinds := [], alts := [], laidByText := true, laidKinds := [.data, .pinned], laidTests := true, laidLooks := .later }
def ValueNoneUptoCardSaid : Prop := Claim7.holds Tryd.pinned (.plain (OpenSpec.upto valueNoneSpec)) valueNoneUptoCard

/-- THE SECOND FORM's CARD OF 'packhorselaw4.ValueTexts'. -/
def valueTextsUptoCard : Claim7 := { stood := { row := valueTextsUptoRow, standIns := [], harness := (true, "19adef64d1b2161d54cf57a5c99b46e89492e7c890822fe9e6648dc0b4e1c864"), looks := true }, kinds := [], alts := [], laidByText := true, laidKinds := [.data, .pinned], laidTests := true, laidLooks := .later }
def ValueTextsUptoCardSaid : Prop := Claim7.holds Tryd.pinned (.plain (OpenSpec.upto valueTextsSpec)) valueTextsUptoCard

/-- THE SECOND FORM's CARD OF 'packhorselaw4.ValueAny'. -/
def valueAnyUptoCard : Claim7 := { stood := { row := valueAnyUptoRow, standIns := [], harness := (true, "19adef64d1b2161d54cf57a5c99b46e89492e7c890822fe9e6648dc0b4e1c864"), looks := true }, kinds := [], alts := [], laidByText := true, laidKinds := [.data, .pinned], laidTests := true, laidLooks := .later }
def ValueAnyUptoCardSaid : Prop := Claim7.holds Tryd.pinned (.plain (OpenSpec.upto valueAnySpec)) valueAnyUptoCard

/-- THE SECOND FORM's CARD OF 'packhorselaw4.ValueAll'. -/
def valueAllUptoCard : Claim7 := { stood := { row := valueAllUptoRow, standIns := [], harness := (true, "19adef64d1b2161d54cf57a5c99b46e89492e7c890822fe9e6648dc0b4e1c864"), looks := true }, kinds := [], alts := [], laidByText := true, laidKinds := [.data, .pinned], laidTests := true, laidLooks := .later }
def ValueAllUptoCardSaid : Prop := Claim7.holds Tryd.pinned (.plain (OpenSpec.upto valueAllSpec)) valueAllUptoCard
end Rows
end Go.Proofs.YtckgicpfgfkndaaDoor
