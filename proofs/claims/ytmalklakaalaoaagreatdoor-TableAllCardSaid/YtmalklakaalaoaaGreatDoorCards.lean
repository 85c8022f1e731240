/-
  DERIVED. GIVEN WITH THE SEED: THE CARDS: each row of YtmalklakaalaoaaGreatDoorRows.lean that lists a variable, with what it lists TIED to the program's text (the seventh form; the later family's looks); each row that meets fmt, with fmt's text TOLD by the authors' own Lean function (tested against real Go, not proved from fmt's source: count such statements apart). THE CARD IS WHAT COUNTS. Prove the row's statement (the work); the ties are given (YtmalklakaalaoaaGreatDoorTie.lean); close each card by the builder's one call (the guide's Derived/Test/ToyasCard.lean, 'card_holds'). Laid BY PROGRAM, IN A SANDBOX (cutbox-door.mjs). By AI agents, Wed Nov 11 2026. No macro, syntax, notation, axiom, sorry.
-/
import Derived.Test.YtmalklakaalaoaaGreatDoorRows
import GoSem.ClaimSeven
namespace Go.Proofs.YtmalklakaalaoaaGreatDoor
namespace Rows

/-- THE TIED CARD OF 'packhorselaw21.StreamAll'. -/
def streamAllCard : Claim7 := { stood := { row := streamAllRow, standIns := [], harness := (true, "4005f978b7f2d110b1e09add601b8fe666b5aed52b4eebd75dc203d9395e8b9b"), looks := true }, kinds := [], alts := [], laidByText := true, laidKinds := [.data, .pinned], laidTests := true, laidLooks := .later }
def StreamAllCardSaid : Prop := Claim7.holds Tryz.pinned (.plain (OpenSpec.ofChange streamAllSpec)) streamAllCard

/-- THE TIED CARD OF 'packhorselaw19.TableAll'. -/
def tableAllCard : Claim7 := { stood := { row := tableAllRow, standIns := [], harness := (true, "4005f978b7f2d110b1e09add601b8fe666b5aed52b4eebd75dc203d9395e8b9b"), looks := true }, kinds := [], alts := [], laidByText := true, laidKinds := [.data, .pinned], laidTests := true, laidLooks := .later }
def TableAllCardSaid : Prop := Claim7.holds Tryz.pinned (.plain (OpenSpec.ofChange tableAllSpec)) tableAllCard

/-- THE TIED CARD OF 'packhorselaw19.TableTwins'. -/
def tableTwinsCard : Claim7 := { stood := { row := tableTwinsRow, standIns := [], harness := (true, "4005f978b7f2d110b1e09add601b8fe666b5aed52b4eebd75dc203d9395e8b9b"), looks := true }, kinds := [], alts := [], laidByText := true, laidKinds := [.data, .pinned], laidTests := true, laidLooks := .later }
def TableTwinsCardSaid : Prop := Claim7.holds Tryz.pinned (.plain (OpenSpec.ofChange tableTwinsSpec)) tableTwinsCard

/-- THE TIED CARD OF 'packhorselaw7.FoldAll'. -/
def foldAllCard : Claim7 := { stood := { row := foldAllRow, standIns := [], harness := (true, "4005f978b7f2d110b1e09add601b8fe666b5aed52b4eebd75dc203d9395e8b9b"), looks := true }, kinds := [], alts := [], laidByText := true, laidKinds := [.data, .pinned], laidTests := true, laidLooks := .later }
def FoldAllCardSaid : Prop := Claim7.holds Tryz.pinned (.plain (OpenSpec.ofChange foldAllSpec)) foldAllCard

/-- THE TIED CARD OF 'packhorselaw7.FoldBytes'. -/
def foldBytesCard : Claim7 := { stood := { row := foldBytesRow, standIns := [], harness := (true, "4005f978b7f2d110b1e09add601b8fe666b5aed52b4eebd75dc203d9395e8b9b"), looks := true }, kinds := [], alts := [], laidByText := true, laidKinds := [.data, .pinned], laidTests := true, laidLooks := .later }
def FoldBytesCardSaid : Prop := Claim7.holds Tryz.pinned (.plain (OpenSpec.ofChange foldBytesSpec)) foldBytesCard

/-- THE TIED CARD OF 'packhorselaw7.FoldOwn'. -/
def foldOwnCard : Claim7 := { stood := { row := foldOwnRow, standIns := [], harness := (true, "4005f978b7f2d110b1e09add601b8fe666b5aed52b4eebd75dc203d9395e8b9b"), looks := true }, kinds := [], alts := [], laidByText := true, laidKinds := [.data, .pinned], laidTests := true, laidLooks := .later }
def FoldOwnCardSaid : Prop := Claim7.holds Tryz.pinned (.plain (OpenSpec.ofChange foldOwnSpec)) foldOwnCard

/-- THE SECOND FORM's CARD OF 'packhorselaw21.StreamAll'. -/
def streamAllUptoCard : Claim7 := { stood := { row := streamAllUptoRow, standIns := [], harness := (true, "4005f978b7f2d110b1e09add601b8fe666b5aed52b4eebd75dc203d9395e8b9b"), looks := true }, kinds := [], alts := [], laidByText := true, laidKinds := [.data, .pinned], laidTests := true, laidLooks := .later }
def StreamAllUptoCardSaid : Prop := Claim7.holds Tryz.pinned (.plain (OpenSpec.upto streamAllSpec)) streamAllUptoCard

/-- THE SECOND FORM's CARD OF 'packhorselaw19.TableAll'. -/
def tableAllUptoCard : Claim7 := { stood := { row := tableAllUptoRow, standIns := [], harness := (true, "4005f978b7f2d110b1e09add601b8fe666b5aed52b4eebd75dc203d9395e8b9b"), looks := true }, kinds := [], alts := [], laidByText := true, laidKinds := [.data, .pinned], laidTests := true, laidLooks := .later }
def TableAllUptoCardSaid : Prop := Claim7.holds Tryz.pinned (.plain (OpenSpec.upto tableAllSpec)) tableAllUptoCard

/-- THE SECOND FORM's CARD OF 'packhorselaw19.TableTwins'. -/
def tableTwinsUptoCard : Claim7 := { stood := { row := tableTwinsUptoRow, standIns := [], harness := (true, "4005f978b7f2d110b1e09add601b8fe666b5aed52b4eebd75dc203d9395e8b9b"), looks := true }, kinds := [], alts := [], laidByText := true, laidKinds := [.data, .pinned], laidTests := true, laidLooks := .later }
def TableTwinsUptoCardSaid : Prop := Claim7.holds Tryz.pinned (.plain (OpenSpec.upto tableTwinsSpec)) tableTwinsUptoCard

/-- THE SECOND FORM's CARD OF 'packhorselaw7.FoldAll'. -/
def foldAllUptoCard : Claim7 := { stood := { row := foldAllUptoRow, standIns := [], harness := (true, "4005f978b7f2d110b1e09add601b8fe666b5aed52b4eebd75dc203d9395e8b9b"), looks := true }, kinds := [], alts := [], laidByText := true, laidKinds := [.data, .pinned], laidTests := true, laidLooks := .later }
def FoldAllUptoCardSaid : Prop := Claim7.holds Tryz.pinned (.plain (OpenSpec.upto foldAllSpec)) foldAllUptoCard

/-- THE SECOND FORM's CARD OF 'packhorselaw7.FoldBytes'. -/
def foldBytesUptoCard : Claim7 := { stood := { row := foldBytesUptoRow, standIns := [], harness := (true, "4005f978b7f2d110b1e09add601b8fe666b5aed52b4eebd75dc203d9395e8b9b"), looks := true }, kinds := [], alts := [], laidByText := true, laidKinds := [.data, .pinned], laidTests := true, laidLooks := .later }
def FoldBytesUptoCardSaid : Prop := Claim7.holds Tryz.pinned (.plain (OpenSpec.upto foldBytesSpec)) foldBytesUptoCard

/-- THE SECOND FORM's CARD OF 'packhorselaw7.FoldOwn'. -/
def foldOwnUptoCard : Claim7 := { stood := { row := foldOwnUptoRow, standIns := [], harness := (true, "4005f978b7f2d110b1e09add601b8fe666b5aed52b4eebd75dc203d9395e8b9b"), looks := true }, kinds := [], alts := [], laidByText := true, laidKinds := [.data, .pinned], laidTests := true, laidLooks := .later }
def FoldOwnUptoCardSaid : Prop := Claim7.holds Tryz.pinned (.plain (OpenSpec.upto foldOwnSpec)) foldOwnUptoCard
end Rows
end Go.Proofs.YtmalklakaalaoaaGreatDoor
