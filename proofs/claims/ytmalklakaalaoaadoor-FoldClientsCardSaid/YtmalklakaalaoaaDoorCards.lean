/-
  DERIVED. GIVEN WITH THE SEED: THE CARDS: each row of YtmalklakaalaoaaDoorRows.lean that lists a variable, with what it lists TIED to the program's text (the seventh form; the later family's looks); each row that meets fmt, with fmt's text TOLD by the authors' own Lean function (tested against real Go, not proved from fmt's source: count such statements apart). THE CARD IS WHAT COUNTS. Prove the row's statement (the work); the ties are given (YtmalklakaalaoaaDoorTie.lean); close each card by the builder's one call (the guide's Derived/Test/ToyasCard.lean, 'card_holds'). Laid BY PROGRAM, IN A SANDBOX (cutbox-door.mjs). By AI agents, Wed Nov 11 2026. No macro, syntax, notation, axiom, sorry.
-/
import Derived.Test.YtmalklakaalaoaaDoorRows
import GoSem.ClaimSeven
namespace Go.Proofs.YtmalklakaalaoaaDoor
namespace Rows

/-- THE TIED CARD OF 'packhorselaw7.FoldAny'. -/
def foldAnyCard : Claim7 := { stood := { row := foldAnyRow, standIns := [], harness := (true, "37409ab400a9f3d1032d5ef78f6889164d3668bac43792d89c421518ebbe64fd"), looks := true }, kinds := [], alts := [], laidByText := true, laidKinds := [.data, .pinned], laidTests := true, laidLooks := .later }
def FoldAnyCardSaid : Prop := Claim7.holds Tryd.pinned (.plain (OpenSpec.ofChange foldAnySpec)) foldAnyCard

/-- THE TIED CARD OF 'packhorselaw7.FoldNone'. -/
def foldNoneCard : Claim7 := { stood := { row := foldNoneRow, standIns := [], harness := (true, "37409ab400a9f3d1032d5ef78f6889164d3668bac43792d89c421518ebbe64fd"), looks := true }, kinds := [], alts := [], laidByText := true, laidKinds := [.data, .pinned], laidTests := true, laidLooks := .later }
def FoldNoneCardSaid : Prop := Claim7.holds Tryd.pinned (.plain (OpenSpec.ofChange foldNoneSpec)) foldNoneCard

/-- THE TIED CARD OF 'packhorselaw7.FoldClients'. -/
def foldClientsCard : Claim7 := { stood := { row := foldClientsRow, standIns := [], harness := (true, "37409ab400a9f3d1032d5ef78f6889164d3668bac43792d89c421518ebbe64fd"), looks := true }, kinds := [], alts := [], laidByText := true, laidKinds := [.data, .pinned], laidTests := true, laidLooks := .later }
def FoldClientsCardSaid : Prop := Claim7.holds Tryd.pinned (.plain (OpenSpec.ofChange foldClientsSpec)) foldClientsCard

/-- THE SECOND FORM's CARD OF 'packhorselaw7.FoldAny'. -/
def foldAnyUptoCard : Claim7 := { stood := { row := foldAnyUptoRow, standIns := [], harness := (true, "37409ab400a9f3d1032d5ef78f6889164d3668bac43792d89c421518ebbe64fd"), looks := true }, kinds := [], alts := [], laidByText := true, laidKinds := [.data, .pinned], laidTests := true, laidLooks := .later }
def FoldAnyUptoCardSaid : Prop := Claim7.holds Tryd.pinned (.plain (OpenSpec.upto foldAnySpec)) foldAnyUptoCard

/-- THE SECOND FORM's CARD OF 'packhorselaw7.FoldNone'. -/
def foldNoneUptoCard : Claim7 := { stood := { row := foldNoneUptoRow, standIns := [], harness := (true, "37409ab400a9f3d1032d5ef78f6889164d3668bac43792d89c421518ebbe64fd"), looks := true }, kinds := [], alts := [], laidByText := true, laidKinds := [.data, .pinned], laidTests := true, laidLooks := .later }
def FoldNoneUptoCardSaid : Prop := Claim7.holds Tryd.pinned (.plain (OpenSpec.upto foldNoneSpec)) foldNoneUptoCard

/-- THE SECOND FORM's CARD OF 'packhorselaw7.FoldClients'. -/
def foldClientsUptoCard : Claim7 := { stood := { row := foldClientsUptoRow, standIns := [], harness := (true, "37409ab400a9f3d1032d5ef78f6889164d3668bac43792d89c421518ebbe64fd"), looks := true }, kinds := [], alts := [], laidByText := true, laidKinds := [.data, .pinned], laidTests := true, laidLooks := .later }
def FoldClientsUptoCardSaid : Prop := Claim7.holds Tryd.pinned (.plain (OpenSpec.upto foldClientsSpec)) foldClientsUptoCard
end Rows
end Go.Proofs.YtmalklakaalaoaaDoor
