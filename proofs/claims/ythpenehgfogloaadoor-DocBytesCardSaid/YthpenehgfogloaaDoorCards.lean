/-
  DERIVED. GIVEN WITH THE SEED: THE CARDS: each row of YthpenehgfogloaaDoorRows.lean that lists a variable, with what it lists TIED to the program's text (the seventh form; the later family's looks); each row that meets fmt, with fmt's text TOLD by the authors' own Lean function (tested against real Go, not proved from fmt's source: count such statements apart). THE CARD IS WHAT COUNTS. Prove the row's statement (the work); the ties are given (YthpenehgfogloaaDoorTie.lean); close each card by the builder's one call (the guide's Derived/Test/ToyasCard.lean, 'card_holds'). Laid BY PROGRAM, IN A SANDBOX (cutbox-door.mjs). By AI agents, Wed Nov 11 2026. No macro, syntax, notation, axiom, sorry.
-/
import Derived.Test.YthpenehgfogloaaDoorRows
import GoSem.ClaimSeven
namespace Go.Proofs.YthpenehgfogloaaDoor
namespace Rows

/-- THE TIED CARD OF 'packhorselaw23.ReplayNone'. -/
def replayNoneCard : Claim7 := { stood := { row := replayNoneRow, standIns := [], harness := (true, "b56f883878639ad7cf9e03f060500e4fd0148503bdc0135e777d98a261277f2b"), looks := true }, kinds := [], alts := [], laidByText := true, laidKinds := [.data, .pinned], laidTests := true, laidLooks := .later }
def ReplayNoneCardSaid : Prop := Claim7.holds Tryd.pinned (.plain (OpenSpec.ofChange replayNoneSpec)) replayNoneCard

/-- THE TIED CARD OF 'packhorselaw23.ReplayMore'. -/
def replayMoreCard : Claim7 := { stood := { row := replayMoreRow, standIns := [], harness := (true, "b56f883878639ad7cf9e03f060500e4fd0148503bdc0135e777d98a261277f2b"), looks := true }, kinds := [], alts := [], laidByText := true, laidKinds := [.data, .pinned], laidTests := true, laidLooks := .later }
def ReplayMoreCardSaid : Prop := Claim7.holds Tryd.pinned (.plain (OpenSpec.ofChange replayMoreSpec)) replayMoreCard

/-- THE TIED CARD OF 'packhorselaw23.ReplayOwn'. -/
def replayOwnCard : Claim7 := { stood := { row := replayOwnRow, standIns := [], harness := (true, "b56f883878639ad7cf9e03f060500e4fd0148503bdc0135e777d98a261277f2b"), looks := true }, kinds := [], alts := [], laidByText := true, laidKinds := [.data, .pinned], laidTests := true, laidLooks := .later }
def ReplayOwnCardSaid : Prop := Claim7.holds Tryd.pinned (.plain (OpenSpec.ofChange replayOwnSpec)) replayOwnCard

/-- THE TIED CARD OF 'packhorselaw6.DocBytes'. -/
def docBytesCard : Claim7 := { stood := { row := docBytesRow, standIns := [], harness := (true, "b56f883878639ad7cf9e03f060500e4fd0148503bdc0135e777d98a261277f2b"), looks := true }, kinds := [], alts := [], laidByText := true, laidKinds := [.data, .pinned], laidTests := true, laidLooks := .later }
def DocBytesCardSaid : Prop := Claim7.holds Tryd.pinned (.plain (OpenSpec.ofChange docBytesSpec)) docBytesCard

/-- THE TIED CARD OF 'packhorselaw6.DocEnds'. -/
def docEndsCard : Claim7 := { stood := { row := docEndsRow, standIns := [], harness := (true, "b56f883878639ad7cf9e03f060500e4fd0148503bdc0135e777d98a261277f2b"), looks := true }, kinds := [], alts := [], laidByText := true, laidKinds := [.data, .pinned], laidTests := true, laidLooks := .later }
def DocEndsCardSaid : Prop := Claim7.holds Tryd.pinned (.plain (OpenSpec.ofChange docEndsSpec)) docEndsCard

/-- THE TIED CARD OF 'packhorselaw6.DocNone'. -/
def docNoneCard : Claim7 := { stood := { row := docNoneRow, standIns := [], harness := (true, "b56f883878639ad7cf9e03f060500e4fd0148503bdc0135e777d98a261277f2b"), looks := true }, kinds := [], alts := [], laidByText := true, laidKinds := [.data, .pinned], laidTests := true, laidLooks := .later }
def DocNoneCardSaid : Prop := Claim7.holds Tryd.pinned (.plain (OpenSpec.ofChange docNoneSpec)) docNoneCard

/-- THE TIED CARD OF 'packhorselaw6.DocBack'. -/
def docBackCard : Claim7 := { stood := { row := docBackRow, standIns := [], harness := (true, "b56f883878639ad7cf9e03f060500e4fd0148503bdc0135e777d98a261277f2b"), looks := true }, kinds := [], alts := [], laidByText := true, laidKinds := [.data, .pinned], laidTests := true, laidLooks := .later }
def DocBackCardSaid : Prop := Claim7.holds Tryd.pinned (.plain (OpenSpec.ofChange docBackSpec)) docBackCard

/-- THE TIED CARD OF 'packhorselaw6.DocOwn'. -/
def docOwnCard : Claim7 := { stood := { row := docOwnRow, standIns := [], harness := (true, "b56f883878639ad7cf9e03f060500e4fd0148503bdc0135e777d98a261277f2b"), looks := true }, kinds := [], alts := [], laidByText := true, laidKinds := [.data, .pinned], laidTests := true, laidLooks := .later }
def DocOwnCardSaid : Prop := Claim7.holds Tryd.pinned (.plain (OpenSpec.ofChange docOwnSpec)) docOwnCard

/-- THE SECOND FORM's CARD OF 'packhorselaw23.ReplayNone'. -/
def replayNoneUptoCard : Claim7 := { stood := { row := replayNoneUptoRow, standIns := [], harness := (true, "b56f883878639ad7cf9e03f060500e4fd0148503bdc0135e777d98a261277f2b"), looks := true }, kinds := [], alts := [], laidByText := true, laidKinds := [.data, .pinned], laidTests := true, laidLooks := .later }
def ReplayNoneUptoCardSaid : Prop := Claim7.holds Tryd.pinned (.plain (OpenSpec.upto replayNoneSpec)) replayNoneUptoCard

/-- THE SECOND FORM's CARD OF 'packhorselaw23.ReplayMore'. -/
def replayMoreUptoCard : Claim7 := { stood := { row := replayMoreUptoRow, standIns := [], harness := (true, "b56f883878639ad7cf9e03f060500e4fd0148503bdc0135e777d98a261277f2b"), looks := true }, kinds := [], alts := [], laidByText := true, laidKinds := [.data, .pinned], laidTests := true, laidLooks := .later }
def ReplayMoreUptoCardSaid : Prop := Claim7.holds Tryd.pinned (.plain (OpenSpec.upto replayMoreSpec)) replayMoreUptoCard

/-- THE SECOND FORM's CARD OF 'packhorselaw23.ReplayOwn'. -/
def replayOwnUptoCard : Claim7 := { stood := { row := replayOwnUptoRow, standIns := [], harness := (true, "b56f883878639ad7cf9e03f060500e4fd0148503bdc0135e777d98a261277f2b"), looks := true }, kinds := [], alts := [], laidByText := true, laidKinds := [.data, .pinned], laidTests := true, laidLooks := .later }
def ReplayOwnUptoCardSaid : Prop := Claim7.holds Tryd.pinned (.plain (OpenSpec.upto replayOwnSpec)) replayOwnUptoCard

/-- THE SECOND FORM's CARD OF 'packhorselaw6.DocBytes'. -/
def docBytesUptoCard : Claim7 := { stood := { row := docBytesUptoRow, standIns := [], harness := (true, "b56f883878639ad7cf9e03f060500e4fd0148503bdc0135e777d98a261277f2b"), looks := true }, kinds := [], alts := [], laidByText := true, laidKinds := [.data, .pinned], laidTests := true, laidLooks := .later }
def DocBytesUptoCardSaid : Prop := Claim7.holds Tryd.pinned (.plain (OpenSpec.upto docBytesSpec)) docBytesUptoCard

/-- THE SECOND FORM's CARD OF 'packhorselaw6.DocEnds'. -/
def docEndsUptoCard : Claim7 := { stood := { row := docEndsUptoRow, standIns := [], harness := (true, "b56f883878639ad7cf9e03f060500e4fd0148503bdc0135e777d98a261277f2b"), looks := true }, kinds := [], alts := [], laidByText := true, laidKinds := [.data, .pinned], laidTests := true, laidLooks := .later }
def DocEndsUptoCardSaid : Prop := Claim7.holds Tryd.pinned (.plain (OpenSpec.upto docEndsSpec)) docEndsUptoCard

/-- THE SECOND FORM's CARD OF 'packhorselaw6.DocNone'. -/
def docNoneUptoCard : Claim7 := { stood := { row := docNoneUptoRow, standIns := [], harness := (true, "b56f883878639ad7cf9e03f060500e4fd0148503bdc0135e777d98a261277f2b"), looks := true }, kinds := [], alts := [], laidByText := true, laidKinds := [.data, .pinned], laidTests := true, laidLooks := .later }
def DocNoneUptoCardSaid : Prop := Claim7.holds Tryd.pinned (.plain (OpenSpec.upto docNoneSpec)) docNoneUptoCard

/-- THE SECOND FORM's CARD OF 'packhorselaw6.DocBack'. -/
def docBackUptoCard : Claim7 := { stood := { row := docBackUptoRow, standIns := [], harness := (true, "b56f883878639ad7cf9e03f060500e4fd0148503bdc0135e777d98a261277f2b"), looks := true }, kinds := [], alts := [], laidByText := true, laidKinds := [.data, .pinned], laidTests := true, laidLooks := .later }
def DocBackUptoCardSaid : Prop := Claim7.holds Tryd.pinned (.plain (OpenSpec.upto docBackSpec)) docBackUptoCard

/-- THE SECOND FORM's CARD OF 'packhorselaw6.DocOwn'. -/
def docOwnUptoCard : Claim7 := { stood := { row := docOwnUptoRow, standIns := [], harness := (true, "b56f883878639ad7cf9e03f060500e4fd0148503bdc0135e777d98a261277f2b"), looks := true }, kinds := [], alts := [], laidByText := true, laidKinds := [.data, .pinned], laidTests := true, laidLooks := .later }
def DocOwnUptoCardSaid : Prop := Claim7.holds Tryd.pinned (.plain (OpenSpec.upto docOwnSpec)) docOwnUptoCard
end Rows
end Go.Proofs.YthpenehgfogloaaDoor
