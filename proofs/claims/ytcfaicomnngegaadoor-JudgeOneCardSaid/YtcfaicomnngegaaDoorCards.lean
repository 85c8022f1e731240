/-
  DERIVED. GIVEN WITH THE SEED: THE CARDS: each row of YtcfaicomnngegaaDoorRows.lean that lists a variable, with what it lists TIED to the program's text (the seventh form; the later family's looks); each row that meets fmt, with fmt's text TOLD by the authors' own Lean function (tested against real Go, not proved from fmt's source: count such statements apart). THE CARD IS WHAT COUNTS. Prove the row's statement (the work); the ties are given (YtcfaicomnngegaaDoorTie.lean); close each card by the builder's one call (the guide's Derived/Test/ToyasCard.lean, 'card_holds'). Laid BY PROGRAM, IN A SANDBOX (cutbox-door.mjs). By AI agents, Wed Nov 11 2026. No macro, syntax, notation, axiom, sorry.
-/
import Derived.Test.YtcfaicomnngegaaDoorRows
import GoSem.ClaimSeven
namespace Go.Proofs.YtcfaicomnngegaaDoor
namespace Rows

/-- THE TIED CARD OF 'packhorselaw28.JudgeOne'. -/
def judgeOneCard : Claim7 := { stood := { row := judgeOneRow, standIns := [], harness := (true, "e64482bf32821f8c86ce710d45480f841bbb25f6a3c0ef754cc134c4eee70abf"), looks := true }, kinds := [], alts := [], laidByText := true, laidKinds := [.data, .pinned], laidTests := true, laidLooks := .later }
def JudgeOneCardSaid : Prop := Claim7.holds Tryd.pinned (.plain (OpenSpec.ofChange judgeOneSpec)) judgeOneCard

/-- THE TIED CARD OF 'packhorselaw28.JudgeRows'. -/
def judgeRowsCard : Claim7 := { stood := { row := judgeRowsRow, standIns := [], harness := (true, "e64482bf32821f8c86ce710d45480f841bbb25f6a3c0ef754cc134c4eee70abf"), looks := true }, kinds := [], alts := [], laidByText := true, laidKinds := [.data, .pinned], laidTests := true, laidLooks := .later }
def JudgeRowsCardSaid : Prop := Claim7.holds Tryd.pinned (.plain (OpenSpec.ofChange judgeRowsSpec)) judgeRowsCard

/-- THE TIED CARD OF 'packhorselaw28.JudgeLists'. -/
def judgeListsCard : Claim7 := { stood := { row := judgeListsRow, standIns := [], harness := (true, "e64482bf32821f8c86ce710d45480f841bbb25f6a3c0ef754cc134c4eee70abf"), looks := true }, kinds := [], alts := [], laidByText := true, laidKinds := [.data, .pinned], laidTests := true, laidLooks := .later }
def JudgeListsCardSaid : Prop := Claim7.holds Tryd.pinned (.plain (OpenSpec.ofChange judgeListsSpec)) judgeListsCard

/-- THE TIED CARD OF 'packhorselaw28.JudgePairs'. -/
def judgePairsCard : Claim7 := { stood := { row := judgePairsRow, standIns := [], harness := (true, "e64482bf32821f8c86ce710d45480f841bbb25f6a3c0ef754cc134c4eee70abf"), looks := true }, kinds := [], alts := [], laidByText := true, laidKinds := [.data, .pinned], laidTests := true, laidLooks := .later }
def JudgePairsCardSaid : Prop := Claim7.holds Tryd.pinned (.plain (OpenSpec.ofChange judgePairsSpec)) judgePairsCard

/-- THE SECOND FORM's CARD OF 'packhorselaw28.JudgeOne'. -/
def judgeOneUptoCard : Claim7 := { stood := { row := judgeOneUptoRow, standIns := [], harness := (true, "e64482bf32821f8c86ce710d45480f841bbb25f6a3c0ef754cc134c4eee70abf"), looks := true }, kinds := [], alts := [], laidByText := true, laidKinds := [.data, .pinned], laidTests := true, laidLooks := .later }
def JudgeOneUptoCardSaid : Prop := Claim7.holds Tryd.pinned (.plain (OpenSpec.upto judgeOneSpec)) judgeOneUptoCard

/-- THE SECOND FORM's CARD OF 'packhorselaw28.JudgeRows'. -/
def judgeRowsUptoCard : Claim7 := { stood := { row := judgeRowsUptoRow, standIns := [], harness := (true, "e64482bf32821f8c86ce710d45480f841bbb25f6a3c0ef754cc134c4eee70abf"), looks := true }, kinds := [], alts := [], laidByText := true, laidKinds := [.data, .pinned], laidTests := true, laidLooks := .later }
def JudgeRowsUptoCardSaid : Prop := Claim7.holds Tryd.pinned (.plain (OpenSpec.upto judgeRowsSpec)) judgeRowsUptoCard

/-- THE SECOND FORM's CARD OF 'packhorselaw28.JudgeLists'. -/
def judgeListsUptoCard : Claim7 := { stood := { row := judgeListsUptoRow, standIns := [], harness := (true, "e64482bf32821f8c86ce710d45480f841bbb25f6a3c0ef754cc134c4eee70abf"), looks := true }, kinds := [], alts := [], laidByText := true, laidKinds := [.data, .pinned], laidTests := true, laidLooks := .later }
def JudgeListsUptoCardSaid : Prop := Claim7.holds Tryd.pinned (.plain (OpenSpec.upto judgeListsSpec)) judgeListsUptoCard

/-- THE SECOND FORM's CARD OF 'packhorselaw28.JudgePairs'. -/
def judgePairsUptoCard : Claim7 := { stood := { row := judgePairsUptoRow, standIns := [], harness := (true, "e64482bf32821f8c86ce710d45480f841bbb25f6a3c0ef754cc134c4eee70abf"), looks := true }, kinds := [], alts := [], laidByText := true, laidKinds := [.data, .pinned], laidTests := true, laidLooks := .later }
def JudgePairsUptoCardSaid : Prop := Claim7.holds Tryd.pinned (.plain (OpenSpec.upto judgePairsSpec)) judgePairsUptoCard
end Rows
end Go.Proofs.YtcfaicomnngegaaDoor
