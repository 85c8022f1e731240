/-
  DERIVED. GIVEN WITH THE SEED: THE CARDS: each row of YtgpbngfehfbndaaGreatDoorRows.lean that lists a variable, with what it lists TIED to the program's text (the seventh form; the later family's looks); each row that meets fmt, with fmt's text TOLD by the authors' own Lean function (tested against real Go, not proved from fmt's source: count such statements apart). THE CARD IS WHAT COUNTS. Prove the row's statement (the work); the ties are given (YtgpbngfehfbndaaGreatDoorTie.lean); close each card by the builder's one call (the guide's Derived/Test/ToyasCard.lean, 'card_holds'). Laid BY PROGRAM, IN A SANDBOX (cutbox-door.mjs). By AI agents, Wed Nov 11 2026. No macro, syntax, notation, axiom, sorry.
-/
import Derived.Test.YtgpbngfehfbndaaGreatDoorRows
import GoSem.ClaimSeven
namespace Go.Proofs.YtgpbngfehfbndaaGreatDoor
namespace Rows

/-- THE TIED CARD OF 'packhorsetop.TopVoteOnce'. -/
def topVoteOnceCard : Claim7 := { stood := { row := topVoteOnceRow, standIns := [], harness := (true, "4b6c1d2a628231a4bddcdc8b80e3a37346aab429fda796578f4111af673bf571"), looks := true }, kinds := [], alts := [], laidByText := true, laidKinds := [.data, .pinned], laidTests := true, laidLooks := .later }
def TopVoteOnceCardSaid : Prop := Claim7.holds Tryz.pinned (.plain (OpenSpec.ofChange topVoteOnceSpec)) topVoteOnceCard

/-- THE TIED CARD OF 'packhorsetop.TopCas'. -/
def topCasCard : Claim7 := { stood := { row := topCasRow, standIns := [], harness := (true, "4b6c1d2a628231a4bddcdc8b80e3a37346aab429fda796578f4111af673bf571"), looks := true }, kinds := [], alts := [], laidByText := true, laidKinds := [.data, .pinned], laidTests := true, laidLooks := .later }
def TopCasCardSaid : Prop := Claim7.holds Tryz.pinned (.plain (OpenSpec.ofChange topCasSpec)) topCasCard

/-- THE TIED CARD OF 'packhorsetop.TopReplay'. -/
def topReplayCard : Claim7 := { stood := { row := topReplayRow, standIns := [], harness := (true, "4b6c1d2a628231a4bddcdc8b80e3a37346aab429fda796578f4111af673bf571"), looks := true }, kinds := [], alts := [], laidByText := true, laidKinds := [.data, .pinned], laidTests := true, laidLooks := .later }
def TopReplayCardSaid : Prop := Claim7.holds Tryz.pinned (.plain (OpenSpec.ofChange topReplaySpec)) topReplayCard

/-- THE TIED CARD OF 'packhorsetop.TopEveryFollower'. -/
def topEveryFollowerCard : Claim7 := { stood := { row := topEveryFollowerRow, standIns := [], harness := (true, "4b6c1d2a628231a4bddcdc8b80e3a37346aab429fda796578f4111af673bf571"), looks := true }, kinds := [], alts := [], laidByText := true, laidKinds := [.data, .pinned], laidTests := true, laidLooks := .later }
def TopEveryFollowerCardSaid : Prop := Claim7.holds Tryz.pinned (.plain (OpenSpec.ofChange topEveryFollowerSpec)) topEveryFollowerCard

/-- THE TIED CARD OF 'packhorsetop.TopBusy'. -/
def topBusyCard : Claim7 := { stood := { row := topBusyRow, standIns := [], harness := (true, "4b6c1d2a628231a4bddcdc8b80e3a37346aab429fda796578f4111af673bf571"), looks := true }, kinds := [], alts := [], laidByText := true, laidKinds := [.data, .pinned], laidTests := true, laidLooks := .later }
def TopBusyCardSaid : Prop := Claim7.holds Tryz.pinned (.plain (OpenSpec.ofChange topBusySpec)) topBusyCard

/-- THE TIED CARD OF 'packhorsetop.TopSnapClient'. -/
def topSnapClientCard : Claim7 := { stood := { row := topSnapClientRow, standIns := [], harness := (true, "4b6c1d2a628231a4bddcdc8b80e3a37346aab429fda796578f4111af673bf571"), looks := true }, kinds := [], alts := [], laidByText := true, laidKinds := [.data, .pinned], laidTests := true, laidLooks := .later }
def TopSnapClientCardSaid : Prop := Claim7.holds Tryz.pinned (.plain (OpenSpec.ofChange topSnapClientSpec)) topSnapClientCard

/-- THE SECOND FORM's CARD OF 'packhorsetop.TopVoteOnce'. -/
def topVoteOnceUptoCard : Claim7 := { stood := { row := topVoteOnceUptoRow, standIns := [], harness := (true, "4b6c1d2a628231a4bddcdc8b80e3a37346aab429fda796578f4111af673bf571"), looks := true }, kinds := [], alts := [], laidByText := true, laidKinds := [.data, .pinned], laidTests := true, laidLooks := .later }
def TopVoteOnceUptoCardSaid : Prop := Claim7.holds Tryz.pinned (.plain (OpenSpec.upto topVoteOnceSpec)) topVoteOnceUptoCard

/-- THE SECOND FORM's CARD OF 'packhorsetop.TopCas'. -/
def topCasUptoCard : Claim7 := { stood := { row := topCasUptoRow, standIns := [], harness := (true, "4b6c1d2a628231a4bddcdc8b80e3a37346aab429fda796578f4111af673bf571"), looks := true }, kinds := [], alts := [], laidByText := true, laidKinds := [.data, .pinned], laidTests := true, laidLooks := .later }
def TopCasUptoCardSaid : Prop := Claim7.holds Tryz.pinned (.plain (OpenSpec.upto topCasSpec)) topCasUptoCard

/-- THE SECOND FORM's CARD OF 'packhorsetop.TopReplay'. -/
def topReplayUptoCard : Claim7 := { stood := { row := topReplayUptoRow, standIns := [], harness := (true, "4b6c1d2a628231a4bddcdc8b80e3a37346aab429fda796578f4111af673bf571"), looks := true }, kinds := [], alts := [], laidByText := true, laidKinds := [.data, .pinned], laidTests := true, laidLooks := .later }
def TopReplayUptoCardSaid : Prop := Claim7.holds Tryz.pinned (.plain (OpenSpec.upto topReplaySpec)) topReplayUptoCard

/-- THE SECOND FORM's CARD OF 'packhorsetop.TopEveryFollower'. -/
def topEveryFollowerUptoCard : Claim7 := { stood := { row := topEveryFollowerUptoRow, standIns := [], harness := (true, "4b6c1d2a628231a4bddcdc8b80e3a37346aab429fda796578f4111af673bf571"), looks := true }, kinds := [], alts := [], laidByText := true, laidKinds := [.data, .pinned], laidTests := true, laidLooks := .later }
def TopEveryFollowerUptoCardSaid : Prop := Claim7.holds Tryz.pinned (.plain (OpenSpec.upto topEveryFollowerSpec)) topEveryFollowerUptoCard

/-- THE SECOND FORM's CARD OF 'packhorsetop.TopBusy'. -/
def topBusyUptoCard : Claim7 := { stood := { row := topBusyUptoRow, standIns := [], harness := (true, "4b6c1d2a628231a4bddcdc8b80e3a37346aab429fda796578f4111af673bf571"), looks := true }, kinds := [], alts := [], laidByText := true, laidKinds := [.data, .pinned], laidTests := true, laidLooks := .later }
def TopBusyUptoCardSaid : Prop := Claim7.holds Tryz.pinned (.plain (OpenSpec.upto topBusySpec)) topBusyUptoCard

/-- THE SECOND FORM's CARD OF 'packhorsetop.TopSnapClient'. -/
def topSnapClientUptoCard : Claim7 := { stood := { row := topSnapClientUptoRow, standIns := [], harness := (true, "4b6c1d2a628231a4bddcdc8b80e3a37346aab429fda796578f4111af673bf571"), looks := true }, kinds := [], alts := [], laidByText := true, laidKinds := [.data, .pinned], laidTests := true, laidLooks := .later }
def TopSnapClientUptoCardSaid : Prop := Claim7.holds Tryz.pinned (.plain (OpenSpec.upto topSnapClientSpec)) topSnapClientUptoCard
end Rows
end Go.Proofs.YtgpbngfehfbndaaGreatDoor
