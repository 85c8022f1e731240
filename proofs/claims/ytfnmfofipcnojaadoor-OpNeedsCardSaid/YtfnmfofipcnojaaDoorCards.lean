/-
  DERIVED. GIVEN WITH THE SEED: THE CARDS: each row of YtfnmfofipcnojaaDoorRows.lean that lists a variable, with what it lists TIED to the program's text (the seventh form; the later family's looks); each row that meets fmt, with fmt's text TOLD by the authors' own Lean function (tested against real Go, not proved from fmt's source: count such statements apart). THE CARD IS WHAT COUNTS. Prove the row's statement (the work); the ties are given (YtfnmfofipcnojaaDoorTie.lean); close each card by the builder's one call (the guide's Derived/Test/ToyasCard.lean, 'card_holds'). Laid BY PROGRAM, IN A SANDBOX (cutbox-door.mjs). By AI agents, Wed Nov 11 2026. No macro, syntax, notation, axiom, sorry.
-/
import Derived.Test.YtfnmfofipcnojaaDoorRows
import GoSem.ClaimSeven
namespace Go.Proofs.YtfnmfofipcnojaaDoor
namespace Rows

/-- THE TIED CARD OF 'packhorselaw5.OpMay'. -/
def opMayCard : Claim7 := { stood := { row := opMayRow, standIns := [], harness := (true, "c9fe5c32811c50aae1220175becf269c4b6e8eac52bd0284d0a6a87cd3ca9b50"), looks := false }, kinds := [], alts := [], laidByText := true, laidKinds := [.data, .pinned], laidTests := true, laidLooks := .later }
def OpMayCardSaid : Prop := Claim7.holds Tryd.pinned (.plain (OpenSpec.ofChange opMaySpec)) opMayCard

/-- THE TIED CARD OF 'packhorselaw5.BatchBytes'. -/
def batchBytesCard : Claim7 := { stood := { row := batchBytesRow, standIns := [], harness := (true, "c9fe5c32811c50aae1220175becf269c4b6e8eac52bd0284d0a6a87cd3ca9b50"), looks := false }, kinds := [], alts := [], laidByText := true, laidKinds := [.data, .pinned], laidTests := true, laidLooks := .later }
def BatchBytesCardSaid : Prop := Claim7.holds Tryd.pinned (.plain (OpenSpec.ofChange batchBytesSpec)) batchBytesCard

/-- THE TIED CARD OF 'packhorselaw5.BatchAny'. -/
def batchAnyCard : Claim7 := { stood := { row := batchAnyRow, standIns := [], harness := (true, "c9fe5c32811c50aae1220175becf269c4b6e8eac52bd0284d0a6a87cd3ca9b50"), looks := false }, kinds := [], alts := [], laidByText := true, laidKinds := [.data, .pinned], laidTests := true, laidLooks := .later }
def BatchAnyCardSaid : Prop := Claim7.holds Tryd.pinned (.plain (OpenSpec.ofChange batchAnySpec)) batchAnyCard

/-- THE TIED CARD OF 'packhorselaw5.BatchLong'. -/
def batchLongCard : Claim7 := { stood := { row := batchLongRow, standIns := [], harness := (true, "c9fe5c32811c50aae1220175becf269c4b6e8eac52bd0284d0a6a87cd3ca9b50"), looks := false }, kinds := [], alts := [], laidByText := true, laidKinds := [.data, .pinned], laidTests := true, laidLooks := .later }
def BatchLongCardSaid : Prop := Claim7.holds Tryd.pinned (.plain (OpenSpec.ofChange batchLongSpec)) batchLongCard

/-- THE TIED CARD OF 'packhorselaw5.BatchTwins'. -/
def batchTwinsCard : Claim7 := { stood := { row := batchTwinsRow, standIns := [], harness := (true, "c9fe5c32811c50aae1220175becf269c4b6e8eac52bd0284d0a6a87cd3ca9b50"), looks := false }, kinds := [], alts := [], laidByText := true, laidKinds := [.data, .pinned], laidTests := true, laidLooks := .later }
def BatchTwinsCardSaid : Prop := Claim7.holds Tryd.pinned (.plain (OpenSpec.ofChange batchTwinsSpec)) batchTwinsCard

/-- THE TIED CARD OF 'packhorselaw5.BatchCut'. -/
def batchCutCard : Claim7 := { stood := { row := batchCutRow, standIns := [], harness := (true, "c9fe5c32811c50aae1220175becf269c4b6e8eac52bd0284d0a6a87cd3ca9b50"), looks := false }, kinds := [], alts := [], laidByText := true, laidKinds := [.data, .pinned], laidTests := true, laidLooks := .later }
def BatchCutCardSaid : Prop := Claim7.holds Tryd.pinned (.plain (OpenSpec.ofChange batchCutSpec)) batchCutCard

/-- THE TIED CARD OF 'packhorselaw5.OpNeeds'. -/
def opNeedsCard : Claim7 := { stood := { row := opNeedsRow, standIns := [], harness := (true, "c9fe5c32811c50aae1220175becf269c4b6e8eac52bd0284d0a6a87cd3ca9b50"), looks := false }, kinds := [], alts := [], laidByText := true, laidKinds := [.data, .pinned], laidTests := true, laidLooks := .later }
def OpNeedsCardSaid : Prop := Claim7.holds Tryd.pinned (.plain (OpenSpec.ofChange opNeedsSpec)) opNeedsCard

/-- THE SECOND FORM's CARD OF 'packhorselaw5.OpMay'. -/
def opMayUptoCard : Claim7 := { stood := { row := opMayUptoRow, standIns := [], harness := (true, "c9fe5c32811c50aae1220175becf269c4b6e8eac52bd0284d0a6a87cd3ca9b50"), looks := false }, kinds := [], alts := [], laidByText := true, laidKinds := [.data, .pinned], laidTests := true, laidLooks := .later }
def OpMayUptoCardSaid : Prop := Claim7.holds Tryd.pinned (.plain (OpenSpec.upto opMaySpec)) opMayUptoCard

/-- THE SECOND FORM's CARD OF 'packhorselaw5.BatchBytes'. -/
def batchBytesUptoCard : Claim7 := { stood := { row := batchBytesUptoRow, standIns := [], harness := (true, "c9fe5c32811c50aae1220175becf269c4b6e8eac52bd0284d0a6a87cd3ca9b50"), looks := false }, kinds := [], alts := [], laidByText := true, laidKinds := [.data, .pinned], laidTests := true, laidLooks := .later }
def BatchBytesUptoCardSaid : Prop := Claim7.holds Tryd.pinned (.plain (OpenSpec.upto batchBytesSpec)) batchBytesUptoCard

/-- THE SECOND FORM's CARD OF 'packhorselaw5.BatchAny'. -/
def batchAnyUptoCard : Claim7 := { stood := { row := batchAnyUptoRow, standIns := [], harness := (true, "c9fe5c32811c50aae1220175becf269c4b6e8eac52bd0284d0a6a87cd3ca9b50"), looks := false }, kinds := [], alts := [], laidByText := true, laidKinds := [.data, .pinned], laidTests := true, laidLooks := .later }
def BatchAnyUptoCardSaid : Prop := Claim7.holds Tryd.pinned (.plain (OpenSpec.upto batchAnySpec)) batchAnyUptoCard

/-- THE SECOND FORM's CARD OF 'packhorselaw5.BatchLong'. -/
def batchLongUptoCard : Claim7 := { stood := { row := batchLongUptoRow, standIns := [], harness := (true, "c9fe5c32811c50aae1220175becf269c4b6e8eac52bd0284d0a6a87cd3ca9b50"), looks := false }, kinds := [], alts := [], laidByText := true, laidKinds := [.data, .pinned], laidTests := true, laidLooks := .later }
def BatchLongUptoCardSaid : Prop := Claim7.holds Tryd.pinned (.plain (OpenSpec.upto batchLongSpec)) batchLongUptoCard

/-- THE SECOND FORM's CARD OF 'packhorselaw5.BatchTwins'. -/
def batchTwinsUptoCard : Claim7 := { stood := { row := batchTwinsUptoRow, standIns := [], harness := (true, "c9fe5c32811c50aae1220175becf269c4b6e8eac52bd0284d0a6a87cd3ca9b50"), looks := false }, kinds := [], alts := [], laidByText := true, laidKinds := [.data, .pinned], laidTests := true, laidLooks := .later }
def BatchTwinsUptoCardSaid : Prop := Claim7.holds Tryd.pinned (.plain (OpenSpec.upto batchTwinsSpec)) batchTwinsUptoCard

/-- THE SECOND FORM's CARD OF 'packhorselaw5.BatchCut'. -/
def batchCutUptoCard : Claim7 := { stood := { row := batchCutUptoRow, standIns := [], harness := (true, "c9fe5c32811c50aae1220175becf269c4b6e8eac52bd0284d0a6a87cd3ca9b50"), looks := false }, kinds := [], alts := [], laidByText := true, laidKinds := [.data, .pinned], laidTests := true, laidLooks := .later }
def BatchCutUptoCardSaid : Prop := Claim7.holds Tryd.pinned (.plain (OpenSpec.upto batchCutSpec)) batchCutUptoCard

/-- THE SECOND FORM's CARD OF 'packhorselaw5.OpNeeds'. -/
def opNeedsUptoCard : Claim7 := { stood := { row := opNeedsUptoRow, standIns := [], harness := (true, "c9fe5c32811c50aae1220175becf269c4b6e8eac52bd0284d0a6a87cd3ca9b50"), looks := false }, kinds := [], alts := [], laidByText := true, laidKinds := [.data, .pinned], laidTests := true, laidLooks := .later }
def OpNeedsUptoCardSaid : Prop := Claim7.holds Tryd.pinned (.plain (OpenSpec.upto opNeedsSpec)) opNeedsUptoCard
end Rows
end Go.Proofs.YtfnmfofipcnojaaDoor
