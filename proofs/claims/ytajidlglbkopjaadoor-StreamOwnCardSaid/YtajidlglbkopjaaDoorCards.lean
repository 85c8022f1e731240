/-
  DERIVED. GIVEN WITH THE SEED: THE CARDS: each row of YtajidlglbkopjaaDoorRows.lean that lists a variable, with what it lists TIED to the program's text (the seventh form; the later family's looks); each row that meets fmt, with fmt's text TOLD by the authors' own Lean function (tested against real Go, not proved from fmt's source: count such statements apart). THE CARD IS WHAT COUNTS. Prove the row's statement (the work); the ties are given (YtajidlglbkopjaaDoorTie.lean); close each card by the builder's one call (the guide's Derived/Test/ToyasCard.lean, 'card_holds'). Laid BY PROGRAM, IN A SANDBOX (cutbox-door.mjs). By AI agents, Wed Nov 11 2026. No macro, syntax, notation, axiom, sorry.
-/
import Derived.Test.YtajidlglbkopjaaDoorRows
import GoSem.ClaimSeven
namespace Go.Proofs.YtajidlglbkopjaaDoor
namespace Rows

/-- THE TIED CARD OF 'packhorselaw21.StreamRaw'. -/
def streamRawCard : Claim7 := { stood := { row := streamRawRow, standIns := [], harness := (true, "27484a0a0417507de5e4a8742dcb7ea099fa7dbaf7a97fc1cbc246dbc88bf170"), looks := true }, kinds := [], alts := [], laidByText := true, laidKinds := [.data, .pinned], laidTests := true, laidLooks := .later }
def StreamRawCardSaid : Prop := Claim7.holds Tryd.pinned (.plain (OpenSpec.ofChange streamRawSpec)) streamRawCard

/-- THE TIED CARD OF 'packhorselaw21.StreamNone'. -/
def streamNoneCard : Claim7 := { stood := { row := streamNoneRow, standIns := [], harness := (true, "27484a0a0417507de5e4a8742dcb7ea099fa7dbaf7a97fc1cbc246dbc88bf170"), looks := true }, kinds := [], alts := [], laidByText := true, laidKinds := [.data, .pinned], laidTests := true, laidLooks := .later }
def StreamNoneCardSaid : Prop := Claim7.holds Tryd.pinned (.plain (OpenSpec.ofChange streamNoneSpec)) streamNoneCard

/-- THE TIED CARD OF 'packhorselaw21.StreamPieces'. -/
def streamPiecesCard : Claim7 := { stood := { row := streamPiecesRow, standIns := [], harness := (true, "27484a0a0417507de5e4a8742dcb7ea099fa7dbaf7a97fc1cbc246dbc88bf170"), looks := true }, kinds := [], alts := [], laidByText := true, laidKinds := [.data, .pinned], laidTests := true, laidLooks := .later }
def StreamPiecesCardSaid : Prop := Claim7.holds Tryd.pinned (.plain (OpenSpec.ofChange streamPiecesSpec)) streamPiecesCard

/-- THE TIED CARD OF 'packhorselaw21.StreamGap'. -/
def streamGapCard : Claim7 := { stood := { row := streamGapRow, standIns := [], harness := (true, "27484a0a0417507de5e4a8742dcb7ea099fa7dbaf7a97fc1cbc246dbc88bf170"), looks := true }, kinds := [], alts := [], laidByText := true, laidKinds := [.data, .pinned], laidTests := true, laidLooks := .later }
def StreamGapCardSaid : Prop := Claim7.holds Tryd.pinned (.plain (OpenSpec.ofChange streamGapSpec)) streamGapCard

/-- THE TIED CARD OF 'packhorselaw21.StreamOwn'. -/
def streamOwnCard : Claim7 := { stood := { row := streamOwnRow, standIns := [], harness := (true, "27484a0a0417507de5e4a8742dcb7ea099fa7dbaf7a97fc1cbc246dbc88bf170"), looks := true }, kinds := [], alts := [], laidByText := true, laidKinds := [.data, .pinned], laidTests := true, laidLooks := .later }
def StreamOwnCardSaid : Prop := Claim7.holds Tryd.pinned (.plain (OpenSpec.ofChange streamOwnSpec)) streamOwnCard

/-- THE SECOND FORM's CARD OF 'packhorselaw21.StreamRaw'. -/
def streamRawUptoCard : Claim7 := { stood := { row := streamRawUptoRow, standIns := [], harness := (true, "27484a0a0417507de5e4a8742dcb7ea099fa7dbaf7a97fc1cbc246dbc88bf170"), looks := true }, kinds := [], alts := [], laidByText := true, laidKinds := [.data, .pinned], laidTests := true, laidLooks := .later }
def StreamRawUptoCardSaid : Prop := Claim7.holds Tryd.pinned (.plain (OpenSpec.upto streamRawSpec)) streamRawUptoCard

/-- THE SECOND FORM's CARD OF 'packhorselaw21.StreamNone'. -/
def streamNoneUptoCard : Claim7 := { stood := { row := streamNoneUptoRow, standIns := [], harness := (true, "27484a0a0417507de5e4a8742dcb7ea099fa7dbaf7a97fc1cbc246dbc88bf170"), looks := true }, kinds := [], alts := [], laidByText := true, laidKinds := [.data, .pinned], laidTests := true, laidLooks := .later }
def StreamNoneUptoCardSaid : Prop := Claim7.holds Tryd.pinned (.plain (OpenSpec.upto streamNoneSpec)) streamNoneUptoCard

/-- THE SECOND FORM's CARD OF 'packhorselaw21.StreamPieces'. -/
def streamPiecesUptoCard : Claim7 := { stood := { row := streamPiecesUptoRow, standIns := [], harness := (true, "27484a0a0417507de5e4a8742dcb7ea099fa7dbaf7a97fc1cbc246dbc88bf170"), looks := true }, kinds := [], alts := [], laidByText := true, laidKinds := [.data, .pinned], laidTests := true, laidLooks := .later }
def StreamPiecesUptoCardSaid : Prop := Claim7.holds Tryd.pinned (.plain (OpenSpec.upto streamPiecesSpec)) streamPiecesUptoCard

/-- THE SECOND FORM's CARD OF 'packhorselaw21.StreamGap'. -/
def streamGapUptoCard : Claim7 := { stood := { row := streamGapUptoRow, standIns := [], harness := (true, "27484a0a0417507de5e4a8742dcb7ea099fa7dbaf7a97fc1cbc246dbc88bf170"), looks := true }, kinds := [], alts := [], laidByText := true, laidKinds := [.data, .pinned], laidTests := true, laidLooks := .later }
def StreamGapUptoCardSaid : Prop := Claim7.holds Tryd.pinned (.plain (OpenSpec.upto streamGapSpec)) streamGapUptoCard

/-- THE SECOND FORM's CARD OF 'packhorselaw21.StreamOwn'. -/
def streamOwnUptoCard : Claim7 := { stood := { row := streamOwnUptoRow, standIns := [], harness := (true, "27484a0a0417507de5e4a8742dcb7ea099fa7dbaf7a97fc1cbc246dbc88bf170"), looks := true }, kinds := [], alts := [], laidByText := true, laidKinds := [.data, .pinned], laidTests := true, laidLooks := .later }
def StreamOwnUptoCardSaid : Prop := Claim7.holds Tryd.pinned (.plain (OpenSpec.upto streamOwnSpec)) streamOwnUptoCard
end Rows
end Go.Proofs.YtajidlglbkopjaaDoor
