/-
  NARROWER THAN 'FOR EVERY INPUT', by the rows' own cells (each row's printed sentence says how): StreamRaw: laid · StreamNone: laid · StreamPieces: laid · StreamGap: laid · StreamOwn: laid.
  DERIVED. THE GIVEN ROWS OF THIS SEAT. 5 by the template 'for every input the law returns true; each argument reads behind the call as it read before'; 0 by the template 'total and deterministic' (their statements: YtajidlglbkopjaaDoorTotals.lean).
  GIVEN WITH THE SEED: the statements are not yours to turn. If you find one false, say at which input.
  Laid BY PROGRAM, IN A SANDBOX (cutbox-rows.mjs): the forced cells as the released guide's own fill.sh prints them over the translation 29d79f21d952b950… (all of the seat's roots in one cut). By AI agents, Wed Nov 11 2026. No macro, syntax, notation, axiom, sorry.
-/
import Derived.Test.YtajidlglbkopjaaDoorChecked
import GoSem.PinnedTables
import GoSem.Claim
import GoSem.ClaimJoined
import GoSem.ClaimMapViews
import Derived.JoinedTies
import Derived.KernelRfl
namespace Go.Proofs.YtajidlglbkopjaaDoor
/- THE CELL 'sum', in the pinned program and in every row, IS THE sha256 OF THE DUMP (.gsa) THAT YtajidlglbkopjaaDoorProg.lean LOADS. Nothing in Lean hashes anything: it is a label: what it is worth is what the hold of that sum in a sandbox is worth. -/
noncomputable def Tryd.pinned : Pinned := { name := "ytajidlglbkopjaadoor", sum := "29d79f21d952b950f77135b33cfc402626ffcfca22d648a9a8c12bda84ded166", checked := Tryd.checked }
namespace Rows
def none {H : Type} : Left H := { results := [], args := [] }

/- WHAT THE LISTED PACKAGE-LEVEL VARIABLES READ AS WHEN THE CALL BEGINS. Each datum BY PROGRAM (the guide's laid-datum.mjs) off the statement by which the dump's own 'gosem.cut.vars' lays the variable. In a bare row this is a premise. The card (YtajidlglbkopjaaDoorCards.lean) ties it to the program's text. -/
def laid_unicode_utf8_acceptRanges {H : Type} : DataW H := .agg [.agg [.lit (.int .u8 128), .lit (.int .u8 191)], .agg [.lit (.int .u8 160), .lit (.int .u8 191)], .agg [.lit (.int .u8 128), .lit (.int .u8 159)], .agg [.lit (.int .u8 144), .lit (.int .u8 191)], .agg [.lit (.int .u8 128), .lit (.int .u8 143)], .agg [.lit (.int .u8 0), .lit (.int .u8 0)], .agg [.lit (.int .u8 0), .lit (.int .u8 0)], .agg [.lit (.int .u8 0), .lit (.int .u8 0)], .agg [.lit (.int .u8 0), .lit (.int .u8 0)], .agg [.lit (.int .u8 0), .lit (.int .u8 0)], .agg [.lit (.int .u8 0), .lit (.int .u8 0)], .agg [.lit (.int .u8 0), .lit (.int .u8 0)], .agg [.lit (.int .u8 0), .lit (.int .u8 0)], .agg [.lit (.int .u8 0), .lit (.int .u8 0)], .agg [.lit (.int .u8 0), .lit (.int .u8 0)], .agg [.lit (.int .u8 0), .lit (.int .u8 0)]]
/-- One of Go's own tables, pinned by name: the form's constant. -/
def laid_unicode_utf8_first : DataW Unit := Go.Pinned.utf8First

/-- 'packhorselaw21.StreamRaw': WHATEVER THE INPUT: true; the input reads as it did. -/
def streamRawSpec : ChangeSpec := { name := "streamRaw", fn := fun _ => fun
  | [d] => { results := [.lit (.bool true)], args := [d] }
  | _ => none }
def streamRawRow : OpenClaim := { program := "ytajidlglbkopjaadoor", sum := "29d79f21d952b950f77135b33cfc402626ffcfca22d648a9a8c12bda84ded166", func := "packhorse/packhorselaw21.StreamRaw", spec := "streamRaw", unfollowed := true, recurses := true, named := ["unicode/utf8.first", "unicode/utf8.acceptRanges"], apart := false, laid := [("unicode/utf8.acceptRanges", laid_unicode_utf8_acceptRanges), ("unicode/utf8.first", laid_unicode_utf8_first)] }
def StreamRawSaid : Prop := streamRawRow.holds Tryd.pinned (OpenSpec.ofChange streamRawSpec)

/-- ITS FALSE NEIGHBOUR: 'it returns false'. Refute it at one input. -/
def streamRawWrong : ChangeSpec := { name := "streamRaw", fn := fun _ => fun
  | [d] => { results := [.lit (.bool false)], args := [d] }
  | _ => none }
def StreamRawWrongFalsely : Prop := streamRawRow.holds Tryd.pinned (OpenSpec.ofChange streamRawWrong)

/-- 'packhorselaw21.StreamNone': WHATEVER THE INPUT: true; the input reads as it did. -/
def streamNoneSpec : ChangeSpec := { name := "streamNone", fn := fun _ => fun
  | [] => { results := [.lit (.bool true)], args := [] }
  | _ => none }
def streamNoneRow : OpenClaim := { program := "ytajidlglbkopjaadoor", sum := "29d79f21d952b950f77135b33cfc402626ffcfca22d648a9a8c12bda84ded166", func := "packhorse/packhorselaw21.StreamNone", spec := "streamNone", unfollowed := true, recurses := true, named := ["unicode/utf8.first", "unicode/utf8.acceptRanges"], apart := false, laid := [("unicode/utf8.acceptRanges", laid_unicode_utf8_acceptRanges), ("unicode/utf8.first", laid_unicode_utf8_first)] }
def StreamNoneSaid : Prop := streamNoneRow.holds Tryd.pinned (OpenSpec.ofChange streamNoneSpec)

/-- ITS FALSE NEIGHBOUR: 'it returns false'. Refute it at one input. -/
def streamNoneWrong : ChangeSpec := { name := "streamNone", fn := fun _ => fun
  | [] => { results := [.lit (.bool false)], args := [] }
  | _ => none }
def StreamNoneWrongFalsely : Prop := streamNoneRow.holds Tryd.pinned (OpenSpec.ofChange streamNoneWrong)

/-- 'packhorselaw21.StreamPieces': WHATEVER THE INPUT: true; the input reads as it did. -/
def streamPiecesSpec : ChangeSpec := { name := "streamPieces", fn := fun _ => fun
  | [d1, d2] => { results := [.lit (.bool true)], args := [d1, d2] }
  | _ => none }
def streamPiecesRow : OpenClaim := { program := "ytajidlglbkopjaadoor", sum := "29d79f21d952b950f77135b33cfc402626ffcfca22d648a9a8c12bda84ded166", func := "packhorse/packhorselaw21.StreamPieces", spec := "streamPieces", unfollowed := true, recurses := true, named := ["unicode/utf8.first", "unicode/utf8.acceptRanges"], apart := false, laid := [("unicode/utf8.acceptRanges", laid_unicode_utf8_acceptRanges), ("unicode/utf8.first", laid_unicode_utf8_first)] }
def StreamPiecesSaid : Prop := streamPiecesRow.holds Tryd.pinned (OpenSpec.ofChange streamPiecesSpec)

/-- ITS FALSE NEIGHBOUR: 'it returns false'. Refute it at one input. -/
def streamPiecesWrong : ChangeSpec := { name := "streamPieces", fn := fun _ => fun
  | [d1, d2] => { results := [.lit (.bool false)], args := [d1, d2] }
  | _ => none }
def StreamPiecesWrongFalsely : Prop := streamPiecesRow.holds Tryd.pinned (OpenSpec.ofChange streamPiecesWrong)

/-- 'packhorselaw21.StreamGap': WHATEVER THE INPUT: true; the input reads as it did. -/
def streamGapSpec : ChangeSpec := { name := "streamGap", fn := fun _ => fun
  | [d1, d2] => { results := [.lit (.bool true)], args := [d1, d2] }
  | _ => none }
def streamGapRow : OpenClaim := { program := "ytajidlglbkopjaadoor", sum := "29d79f21d952b950f77135b33cfc402626ffcfca22d648a9a8c12bda84ded166", func := "packhorse/packhorselaw21.StreamGap", spec := "streamGap", unfollowed := true, recurses := true, named := ["unicode/utf8.first", "unicode/utf8.acceptRanges"], apart := false, laid := [("unicode/utf8.acceptRanges", laid_unicode_utf8_acceptRanges), ("unicode/utf8.first", laid_unicode_utf8_first)] }
def StreamGapSaid : Prop := streamGapRow.holds Tryd.pinned (OpenSpec.ofChange streamGapSpec)

/-- ITS FALSE NEIGHBOUR: 'it returns false'. Refute it at one input. -/
def streamGapWrong : ChangeSpec := { name := "streamGap", fn := fun _ => fun
  | [d1, d2] => { results := [.lit (.bool false)], args := [d1, d2] }
  | _ => none }
def StreamGapWrongFalsely : Prop := streamGapRow.holds Tryd.pinned (OpenSpec.ofChange streamGapWrong)

/-- 'packhorselaw21.StreamOwn': WHATEVER THE INPUT: true; the input reads as it did. -/
def streamOwnSpec : ChangeSpec := { name := "streamOwn", fn := fun _ => fun
  | [d] => { results := [.lit (.bool true)], args := [d] }
  | _ => none }
def streamOwnRow : OpenClaim := { program := "ytajidlglbkopjaadoor", sum := "29d79f21d952b950f77135b33cfc402626ffcfca22d648a9a8c12bda84ded166", func := "packhorse/packhorselaw21.StreamOwn", spec := "streamOwn", unfollowed := true, recurses := true, named := ["unicode/utf8.first", "unicode/utf8.acceptRanges"], apart := false, laid := [("unicode/utf8.acceptRanges", laid_unicode_utf8_acceptRanges), ("unicode/utf8.first", laid_unicode_utf8_first)] }
def StreamOwnSaid : Prop := streamOwnRow.holds Tryd.pinned (OpenSpec.ofChange streamOwnSpec)

/-- ITS FALSE NEIGHBOUR: 'it returns false'. Refute it at one input. -/
def streamOwnWrong : ChangeSpec := { name := "streamOwn", fn := fun _ => fun
  | [d] => { results := [.lit (.bool false)], args := [d] }
  | _ => none }
def StreamOwnWrongFalsely : Prop := streamOwnRow.holds Tryd.pinned (OpenSpec.ofChange streamOwnWrong)

/- THE SECOND FORM. 'bulk': how many values and letters a reading holds, each counted each time it is reached (what is shared counts as often as it is met; a slice's spare places count too). A statement '..UptoSaid' is the law's where the arguments, and the package variables that the reading takes, are together of bulk at most 1048576: NARROWER than '..Said'. Prove '..Said' where nothing that the law and all that it calls make is longer than what came in: it says more and counts as full. Else prove '..UptoSaid'. A law counts once. -/
mutual
def uptoBulk {H : Type} : DataW H → Nat
  | .lit (.string bytes) => bytes.length + 1
  | .lit _ => 1
  | .nil => 1
  | .ptr d => uptoBulk d + 1
  | .slice elems spare => uptoBulkAll elems + uptoBulkAll spare + 1
  | .agg parts => uptoBulkAll parts + 1
  | .iface _ d => uptoBulk d + 1
  | .map entries => uptoBulkEntries entries + 1
  | .held _ => 1
def uptoBulkAll {H : Type} : List (DataW H) → Nat
  | [] => 0
  | d :: r => uptoBulk d + uptoBulkAll r
def uptoBulkEntries {H : Type} : List (Lit × DataW H) → Nat
  | [] => 0
  | x :: r => uptoBulkEntry x + uptoBulkEntries r
def uptoBulkEntry {H : Type} : Lit × DataW H → Nat
  | (.string bytes, d) => bytes.length + uptoBulk d + 1
  | (_, d) => uptoBulk d + 1
 end
def uptoSmall : (H : Type) → List (DataW H) → Bool := fun _ ds => decide (uptoBulkAll ds ≤ 1048576)
def OpenSpec.upto (s : _root_.Go.ChangeSpec) : _root_.Go.OpenSpec := { _root_.Go.OpenSpec.ofChange s with cond := some uptoSmall }

/-- 'packhorselaw21.StreamRaw', WHERE WHAT IT READS IS OF BULK AT MOST 1048576: true; the input reads as it did. -/
def streamRawUptoRow : OpenClaim := { program := "ytajidlglbkopjaadoor", sum := "29d79f21d952b950f77135b33cfc402626ffcfca22d648a9a8c12bda84ded166", func := "packhorse/packhorselaw21.StreamRaw", spec := "streamRaw", unfollowed := true, recurses := true, named := ["unicode/utf8.first", "unicode/utf8.acceptRanges"], apart := false, laid := [("unicode/utf8.acceptRanges", laid_unicode_utf8_acceptRanges), ("unicode/utf8.first", laid_unicode_utf8_first)], narrowed := true }
def StreamRawUptoSaid : Prop := streamRawUptoRow.holds Tryd.pinned (OpenSpec.upto streamRawSpec)

/-- 'packhorselaw21.StreamNone', WHERE WHAT IT READS IS OF BULK AT MOST 1048576: true; the input reads as it did. -/
def streamNoneUptoRow : OpenClaim := { program := "ytajidlglbkopjaadoor", sum := "29d79f21d952b950f77135b33cfc402626ffcfca22d648a9a8c12bda84ded166", func := "packhorse/packhorselaw21.StreamNone", spec := "streamNone", unfollowed := true, recurses := true, named := ["unicode/utf8.first", "unicode/utf8.acceptRanges"], apart := false, laid := [("unicode/utf8.acceptRanges", laid_unicode_utf8_acceptRanges), ("unicode/utf8.first", laid_unicode_utf8_first)], narrowed := true }
def StreamNoneUptoSaid : Prop := streamNoneUptoRow.holds Tryd.pinned (OpenSpec.upto streamNoneSpec)

/-- 'packhorselaw21.StreamPieces', WHERE WHAT IT READS IS OF BULK AT MOST 1048576: true; the input reads as it did. -/
def streamPiecesUptoRow : OpenClaim := { program := "ytajidlglbkopjaadoor", sum := "29d79f21d952b950f77135b33cfc402626ffcfca22d648a9a8c12bda84ded166", func := "packhorse/packhorselaw21.StreamPieces", spec := "streamPieces", unfollowed := true, recurses := true, named := ["unicode/utf8.first", "unicode/utf8.acceptRanges"], apart := false, laid := [("unicode/utf8.acceptRanges", laid_unicode_utf8_acceptRanges), ("unicode/utf8.first", laid_unicode_utf8_first)], narrowed := true }
def StreamPiecesUptoSaid : Prop := streamPiecesUptoRow.holds Tryd.pinned (OpenSpec.upto streamPiecesSpec)

/-- 'packhorselaw21.StreamGap', WHERE WHAT IT READS IS OF BULK AT MOST 1048576: true; the input reads as it did. -/
def streamGapUptoRow : OpenClaim := { program := "ytajidlglbkopjaadoor", sum := "29d79f21d952b950f77135b33cfc402626ffcfca22d648a9a8c12bda84ded166", func := "packhorse/packhorselaw21.StreamGap", spec := "streamGap", unfollowed := true, recurses := true, named := ["unicode/utf8.first", "unicode/utf8.acceptRanges"], apart := false, laid := [("unicode/utf8.acceptRanges", laid_unicode_utf8_acceptRanges), ("unicode/utf8.first", laid_unicode_utf8_first)], narrowed := true }
def StreamGapUptoSaid : Prop := streamGapUptoRow.holds Tryd.pinned (OpenSpec.upto streamGapSpec)

/-- 'packhorselaw21.StreamOwn', WHERE WHAT IT READS IS OF BULK AT MOST 1048576: true; the input reads as it did. -/
def streamOwnUptoRow : OpenClaim := { program := "ytajidlglbkopjaadoor", sum := "29d79f21d952b950f77135b33cfc402626ffcfca22d648a9a8c12bda84ded166", func := "packhorse/packhorselaw21.StreamOwn", spec := "streamOwn", unfollowed := true, recurses := true, named := ["unicode/utf8.first", "unicode/utf8.acceptRanges"], apart := false, laid := [("unicode/utf8.acceptRanges", laid_unicode_utf8_acceptRanges), ("unicode/utf8.first", laid_unicode_utf8_first)], narrowed := true }
def StreamOwnUptoSaid : Prop := streamOwnUptoRow.holds Tryd.pinned (OpenSpec.upto streamOwnSpec)

end Rows
end Go.Proofs.YtajidlglbkopjaaDoor
