/-
  DERIVED. GIVEN WITH THE SEED: THE CARDS: each row of YtalfmomnaghahaaDoorRows.lean that lists a variable, with what it lists TIED to the program's text (the seventh form; the later family's looks); each row that meets fmt, with fmt's text TOLD by the authors' own Lean function (tested against real Go, not proved from fmt's source: count such statements apart). THE CARD IS WHAT COUNTS. Prove the row's statement (the work); the ties are given (YtalfmomnaghahaaDoorTie.lean); close each card by the builder's one call (the guide's Derived/Test/ToyasCard.lean, 'card_holds'). Laid BY PROGRAM, IN A SANDBOX (cutbox-door.mjs). By AI agents, Wed Nov 11 2026. No macro, syntax, notation, axiom, sorry.
-/
import Derived.Test.YtalfmomnaghahaaDoorRows
import GoSem.ClaimSeven
namespace Go.Proofs.YtalfmomnaghahaaDoor
namespace Rows

/-- THE TIED CARD OF 'packhorselaw19.TableNone'. -/
def tableNoneCard : Claim7 := { stood := { row := tableNoneRow, standIns := [], harness := (true, "e893903f69a13a767462979cfe531b9323ee0d98b129af6157f412ce43f83701"), looks := true }, kinds := [], alts := [], laidByText := true, laidKinds := [.data, .pinned], laidTests := true, laidLooks := .later }
def TableNoneCardSaid : Prop := Claim7.holds Tryd.pinned (.plain (OpenSpec.ofChange tableNoneSpec)) tableNoneCard

/-- THE TIED CARD OF 'packhorselaw19.TableMany'. -/
def tableManyCard : Claim7 := { stood := { row := tableManyRow, standIns := [], harness := (true, "e893903f69a13a767462979cfe531b9323ee0d98b129af6157f412ce43f83701"), looks := true }, kinds := [], alts := [], laidByText := true, laidKinds := [.data, .pinned], laidTests := true, laidLooks := .later }
def TableManyCardSaid : Prop := Claim7.holds Tryd.pinned (.plain (OpenSpec.ofChange tableManySpec)) tableManyCard

/-- THE TIED CARD OF 'packhorselaw19.TableAny'. -/
def tableAnyCard : Claim7 := { stood := { row := tableAnyRow, standIns := [], harness := (true, "e893903f69a13a767462979cfe531b9323ee0d98b129af6157f412ce43f83701"), looks := true }, kinds := [], alts := [], laidByText := true, laidKinds := [.data, .pinned], laidTests := true, laidLooks := .later }
def TableAnyCardSaid : Prop := Claim7.holds Tryd.pinned (.plain (OpenSpec.ofChange tableAnySpec)) tableAnyCard

/-- THE SECOND FORM's CARD OF 'packhorselaw19.TableNone'. -/
def tableNoneUptoCard : Claim7 := { stood := { row := tableNoneUptoRow, standIns := [], harness := (true, "e893903f69a13a767462979cfe531b9323ee0d98b129af6157f412ce43f83701"), looks := true }, kinds := [], alts := [], laidByText := true, laidKinds := [.data, .pinned], laidTests := true, laidLooks := .later }
def TableNoneUptoCardSaid : Prop := Claim7.holds Tryd.pinned (.plain (OpenSpec.upto tableNoneSpec)) tableNoneUptoCard

/-- THE SECOND FORM's CARD OF 'packhorselaw19.TableMany'. -/
def tableManyUptoCard : Claim7 := { stood := { row := tableManyUptoRow, standIns := [], harness := (true, "e893903f69a13a767462979cfe531b9323ee0d98b129af6157f412ce43f83701"), looks := true }, kinds := [], alts := [], laidByText := true, laidKinds := [.data, .pinned], laidTests := true, laidLooks := .later }
def TableManyUptoCardSaid : Prop := Claim7.holds Tryd.pinned (.plain (OpenSpec.upto tableManySpec)) tableManyUptoCard

/-- THE SECOND FORM's CARD OF 'packhorselaw19.TableAny'. -/
def tableAnyUptoCard : Claim7 := { stood := { row := tableAnyUptoRow, standIns := [], harness := (true, "e893903f69a13a767462979cfe531b9323ee0d98b129af6157f412ce43f83701"), looks := true }, kinds := [], alts := [], laidByText := true, laidKinds := [.data, .pinned], laidTests := true, laidLooks := .later }
def TableAnyUptoCardSaid : Prop := Claim7.holds Tryd.pinned (.plain (OpenSpec.upto tableAnySpec)) tableAnyUptoCard
end Rows
end Go.Proofs.YtalfmomnaghahaaDoor
