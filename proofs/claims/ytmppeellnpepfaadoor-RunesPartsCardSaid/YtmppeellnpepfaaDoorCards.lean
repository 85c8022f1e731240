/-
  DERIVED. GIVEN WITH THE SEED: THE CARDS: each row of YtmppeellnpepfaaDoorRows.lean that lists a variable, with what it lists TIED to the program's text (the seventh form; the later family's looks); each row that meets fmt, with fmt's text TOLD by the authors' own Lean function (tested against real Go, not proved from fmt's source: count such statements apart). THE CARD IS WHAT COUNTS. Prove the row's statement (the work); the ties are given (YtmppeellnpepfaaDoorTie.lean); close each card by the builder's one call (the guide's Derived/Test/ToyasCard.lean, 'card_holds'). Laid BY PROGRAM, IN A SANDBOX (cutbox-door.mjs). By AI agents, Wed Nov 11 2026. No macro, syntax, notation, axiom, sorry.
-/
import Derived.Test.YtmppeellnpepfaaDoorRows
import GoSem.ClaimSeven
namespace Go.Proofs.YtmppeellnpepfaaDoor
namespace Rows

/-- THE TIED CARD OF 'packhorselaw1.RunesText'. -/
def runesTextCard : Claim7 := { stood := { row := runesTextRow, standIns := [], harness := (true, "4c06c02584e066d6003d657c6c34ec3206a5b0cc2c4818b98ef88d97fa8763c9"), looks := false }, kinds := [], alts := [], laidByText := true, laidKinds := [.data, .pinned], laidTests := true, laidLooks := .later }
def RunesTextCardSaid : Prop := Claim7.holds Tryd.pinned (.plain (OpenSpec.ofChange runesTextSpec)) runesTextCard

/-- THE TIED CARD OF 'packhorselaw1.RunesOne'. -/
def runesOneCard : Claim7 := { stood := { row := runesOneRow, standIns := [], harness := (true, "4c06c02584e066d6003d657c6c34ec3206a5b0cc2c4818b98ef88d97fa8763c9"), looks := false }, kinds := [], alts := [], laidByText := true, laidKinds := [.data, .pinned], laidTests := true, laidLooks := .later }
def RunesOneCardSaid : Prop := Claim7.holds Tryd.pinned (.plain (OpenSpec.ofChange runesOneSpec)) runesOneCard

/-- THE TIED CARD OF 'packhorselaw1.RunesOrder'. -/
def runesOrderCard : Claim7 := { stood := { row := runesOrderRow, standIns := [], harness := (true, "4c06c02584e066d6003d657c6c34ec3206a5b0cc2c4818b98ef88d97fa8763c9"), looks := false }, kinds := [], alts := [], laidByText := true, laidKinds := [.data, .pinned], laidTests := true, laidLooks := .later }
def RunesOrderCardSaid : Prop := Claim7.holds Tryd.pinned (.plain (OpenSpec.ofChange runesOrderSpec)) runesOrderCard

/-- THE TIED CARD OF 'packhorselaw1.RunesFold'. -/
def runesFoldCard : Claim7 := { stood := { row := runesFoldRow, standIns := [], harness := (true, "4c06c02584e066d6003d657c6c34ec3206a5b0cc2c4818b98ef88d97fa8763c9"), looks := false }, kinds := [], alts := [], laidByText := true, laidKinds := [.data, .pinned], laidTests := true, laidLooks := .later }
def RunesFoldCardSaid : Prop := Claim7.holds Tryd.pinned (.plain (OpenSpec.ofChange runesFoldSpec)) runesFoldCard

/-- THE TIED CARD OF 'packhorselaw1.RunesParts'. -/
def runesPartsCard : Claim7 := { stood := { row := runesPartsRow, standIns := [], harness := (true, "4c06c02584e066d6003d657c6c34ec3206a5b0cc2c4818b98ef88d97fa8763c9"), looks := false }, kinds := [], alts := [], laidByText := true, laidKinds := [.data, .pinned], laidTests := true, laidLooks := .later }
def RunesPartsCardSaid : Prop := Claim7.holds Tryd.pinned (.plain (OpenSpec.ofChange runesPartsSpec)) runesPartsCard

/-- THE TIED CARD OF 'packhorselaw1.RunesBytes'. -/
def runesBytesCard : Claim7 := { stood := { row := runesBytesRow, standIns := [], harness := (true, "4c06c02584e066d6003d657c6c34ec3206a5b0cc2c4818b98ef88d97fa8763c9"), looks := false }, kinds := [], alts := [], laidByText := true, laidKinds := [.data, .pinned], laidTests := true, laidLooks := .later }
def RunesBytesCardSaid : Prop := Claim7.holds Tryd.pinned (.plain (OpenSpec.ofChange runesBytesSpec)) runesBytesCard

/-- THE TIED CARD OF 'packhorselaw1.RunesKeys'. -/
def runesKeysCard : Claim7 := { stood := { row := runesKeysRow, standIns := [], harness := (true, "4c06c02584e066d6003d657c6c34ec3206a5b0cc2c4818b98ef88d97fa8763c9"), looks := false }, kinds := [], alts := [], laidByText := true, laidKinds := [.data, .pinned], laidTests := true, laidLooks := .later }
def RunesKeysCardSaid : Prop := Claim7.holds Tryd.pinned (.plain (OpenSpec.ofChange runesKeysSpec)) runesKeysCard

/-- THE TIED CARD OF 'packhorselaw1.RunesBad'. -/
def runesBadCard : Claim7 := { stood := { row := runesBadRow, standIns := [], harness := (true, "4c06c02584e066d6003d657c6c34ec3206a5b0cc2c4818b98ef88d97fa8763c9"), looks := false }, kinds := [], alts := [], laidByText := true, laidKinds := [.data, .pinned], laidTests := true, laidLooks := .later }
def RunesBadCardSaid : Prop := Claim7.holds Tryd.pinned (.plain (OpenSpec.ofChange runesBadSpec)) runesBadCard

/-- THE TIED CARD OF 'packhorselaw1.RunesJoin'. -/
def runesJoinCard : Claim7 := { stood := { row := runesJoinRow, standIns := [], harness := (true, "4c06c02584e066d6003d657c6c34ec3206a5b0cc2c4818b98ef88d97fa8763c9"), looks := false }, kinds := [], alts := [], laidByText := true, laidKinds := [.data, .pinned], laidTests := true, laidLooks := .later }
def RunesJoinCardSaid : Prop := Claim7.holds Tryd.pinned (.plain (OpenSpec.ofChange runesJoinSpec)) runesJoinCard

/-- THE SECOND FORM's CARD OF 'packhorselaw1.RunesText'. -/
def runesTextUptoCard : Claim7 := { stood := { row := runesTextUptoRow, standIns := [], harness := (true, "4c06c02584e066d6003d657c6c34ec3206a5b0cc2c4818b98ef88d97fa8763c9"), looks := false }, kinds := [], alts := [], laidByText := true, laidKinds := [.data, .pinned], laidTests := true, laidLooks := .later }
def RunesTextUptoCardSaid : Prop := Claim7.holds Tryd.pinned (.plain (OpenSpec.upto runesTextSpec)) runesTextUptoCard

/-- THE SECOND FORM's CARD OF 'packhorselaw1.RunesOne'. -/
def runesOneUptoCard : Claim7 := { stood := { row := runesOneUptoRow, standIns := [], harness := (true, "4c06c02584e066d6003d657c6c34ec3206a5b0cc2c4818b98ef88d97fa8763c9"), looks := false }, kinds := [], alts := [], laidByText := true, laidKinds := [.data, .pinned], laidTests := true, laidLooks := .later }
def RunesOneUptoCardSaid : Prop := Claim7.holds Tryd.pinned (.plain (OpenSpec.upto runesOneSpec)) runesOneUptoCard

/-- THE SECOND FORM's CARD OF 'packhorselaw1.RunesOrder'. -/
def runesOrderUptoCard : Claim7 := { stood := { row := runesOrderUptoRow, standIns := [], harness := (true, "4c06c02584e066d6003d657c6c34ec3206a5b0cc2c4818b98ef88d97fa8763c9"), looks := false }, kinds := [], alts := [], laidByText := true, laidKinds := [.data, .pinned], laidTests := true, laidLooks := .later }
def RunesOrderUptoCardSaid : Prop := Claim7.holds Tryd.pinned (.plain (OpenSpec.upto runesOrderSpec)) runesOrderUptoCard

/-- THE SECOND FORM's CARD OF 'packhorselaw1.RunesFold'. -/
def runesFoldUptoCard : Claim7 := { stood := { row := runesFoldUptoRow, standIns := [], harness := (true, "4c06c02584e066d6003d657c6c34ec3206a5b0cc2c4818b98ef88d97fa8763c9"), looks := false }, kinds := [], alts := [], laidByText := true, laidKinds := [.data, .pinned], laidTests := true, laidLooks := .later }
def RunesFoldUptoCardSaid : Prop := Claim7.holds Tryd.pinned (.plain (OpenSpec.upto runesFoldSpec)) runesFoldUptoCard

/-- THE SECOND FORM's CARD OF 'packhorselaw1.RunesParts'. -/
def runesPartsUptoCard : Claim7 := { stood := { row := runesPartsUptoRow, standIns := [], harness := (true, "4c06c02584e066d6003d657c6c34ec3206a5b0cc2c4818b98ef88d97fa8763c9"), looks := false }, kinds := [], alts := [], laidByText := true, laidKinds := [.data, .pinned], laidTests := true, laidLooks := .later }
def RunesPartsUptoCardSaid : Prop := Claim7.holds Tryd.pinned (.plain (OpenSpec.upto runesPartsSpec)) runesPartsUptoCard

/-- THE SECOND FORM's CARD OF 'packhorselaw1.RunesBytes'. -/
def runesBytesUptoCard : Claim7 := { stood := { row := runesBytesUptoRow, standIns := [], harness := (true, "4c06c02584e066d6003d657c6c34ec3206a5b0cc2c4818b98ef88d97fa8763c9"), looks := false }, kinds := [], alts := [], laidByText := true, laidKinds := [.data, .pinned], laidTests := true, laidLooks := .later }
def RunesBytesUptoCardSaid : Prop := Claim7.holds Tryd.pinned (.plain (OpenSpec.upto runesBytesSpec)) runesBytesUptoCard

/-- THE SECOND FORM's CARD OF 'packhorselaw1.RunesKeys'. -/
def runesKeysUptoCard : Claim7 := { stood := { row := runesKeysUptoRow, standIns := [], harness := (true, "4c06c02584e066d6003d657c6c34ec3206a5b0cc2c4818b98ef88d97fa8763c9"), looks := false }, kinds := [], alts := [], laidByText := true, laidKinds := [.data, .pinned], laidTests := true, laidLooks := .later }
def RunesKeysUptoCardSaid : Prop := Claim7.holds Tryd.pinned (.plain (OpenSpec.upto runesKeysSpec)) runesKeysUptoCard

/-- THE SECOND FORM's CARD OF 'packhorselaw1.RunesBad'. -/
def runesBadUptoCard : Claim7 := { stood := { row := runesBadUptoRow, standIns := [], harness := (true, "4c06c02584e066d6003d657c6c34ec3206a5b0cc2c4818b98ef88d97fa8763c9"), looks := false }, kinds := [], alts := [], laidByText := true, laidKinds := [.data, .pinned], laidTests := true, laidLooks := .later }
def RunesBadUptoCardSaid : Prop := Claim7.holds Tryd.pinned (.plain (OpenSpec.upto runesBadSpec)) runesBadUptoCard

/-- THE SECOND FORM's CARD OF 'packhorselaw1.RunesJoin'. -/
def runesJoinUptoCard : Claim7 := { stood := { row := runesJoinUptoRow, standIns := [], harness := (true, "4c06c02584e066d6003d657c6c34ec3206a5b0cc2c4818b98ef88d97fa8763c9"), looks := false }, kinds := [], alts := [], laidByText := true, laidKinds := [.data, .pinned], laidTests := true, laidLooks := .later }
def RunesJoinUptoCardSaid : Prop := Claim7.holds Tryd.pinned (.plain (OpenSpec.upto runesJoinSpec)) runesJoinUptoCard
end Rows
end Go.Proofs.YtmppeellnpepfaaDoor
