/-
  NARROWER THAN 'FOR EVERY INPUT', by the rows' own cells (each row's printed sentence says how): ReplayNone: laid · ReplayMore: laid · ReplayOwn: laid · DocBytes: laid · DocEnds: laid · DocNone: laid · DocBack: laid · DocOwn: laid.
  DERIVED. THE GIVEN ROWS OF THIS SEAT. 8 by the template 'for every input the law returns true; each argument reads behind the call as it read before'; 0 by the template 'total and deterministic' (their statements: YthpenehgfogloaaDoorTotals.lean).
  GIVEN WITH THE SEED: the statements are not yours to turn. If you find one false, say at which input.
  Laid BY PROGRAM, IN A SANDBOX (cutbox-rows.mjs): the forced cells as the released guide's own fill.sh prints them over the translation 39426eed61b32ecc… (all of the seat's roots in one cut). By AI agents, Wed Nov 11 2026. No macro, syntax, notation, axiom, sorry.
-/
import Derived.Test.YthpenehgfogloaaDoorChecked
import GoSem.PinnedTables
import GoSem.Claim
import GoSem.ClaimJoined
import GoSem.ClaimMapViews
import Derived.JoinedTies
import Derived.KernelRfl
namespace Go.Proofs.YthpenehgfogloaaDoor
/- THE CELL 'sum', in the pinned program and in every row, IS THE sha256 OF THE DUMP (.gsa) THAT YthpenehgfogloaaDoorProg.lean LOADS. Nothing in Lean hashes anything: it is a label: what it is worth is what the hold of that sum in a sandbox is worth. -/
noncomputable def Tryd.pinned : Pinned := { name := "ythpenehgfogloaadoor", sum := "39426eed61b32eccec4470a1880d50aa193511d4341de16115b076e721c2dc2b", checked := Tryd.checked }
namespace Rows
def none {H : Type} : Left H := { results := [], args := [] }

/- WHAT THE LISTED PACKAGE-LEVEL VARIABLES READ AS WHEN THE CALL BEGINS. Each datum BY PROGRAM (the guide's laid-datum.mjs) off the statement by which the dump's own 'gosem.cut.vars' lays the variable. In a bare row this is a premise. The card (YthpenehgfogloaaDoorCards.lean) ties it to the program's text. -/
def laid_unicode_utf8_acceptRanges {H : Type} : DataW H := .agg [.agg [.lit (.int .u8 128), .lit (.int .u8 191)], .agg [.lit (.int .u8 160), .lit (.int .u8 191)], .agg [.lit (.int .u8 128), .lit (.int .u8 159)], .agg [.lit (.int .u8 144), .lit (.int .u8 191)], .agg [.lit (.int .u8 128), .lit (.int .u8 143)], .agg [.lit (.int .u8 0), .lit (.int .u8 0)], .agg [.lit (.int .u8 0), .lit (.int .u8 0)], .agg [.lit (.int .u8 0), .lit (.int .u8 0)], .agg [.lit (.int .u8 0), .lit (.int .u8 0)], .agg [.lit (.int .u8 0), .lit (.int .u8 0)], .agg [.lit (.int .u8 0), .lit (.int .u8 0)], .agg [.lit (.int .u8 0), .lit (.int .u8 0)], .agg [.lit (.int .u8 0), .lit (.int .u8 0)], .agg [.lit (.int .u8 0), .lit (.int .u8 0)], .agg [.lit (.int .u8 0), .lit (.int .u8 0)], .agg [.lit (.int .u8 0), .lit (.int .u8 0)]]
/-- One of Go's own tables, pinned by name: the form's constant. -/
def laid_unicode_utf8_first : DataW Unit := Go.Pinned.utf8First

/-- 'packhorselaw23.ReplayNone': WHATEVER THE INPUT: true; the input reads as it did. -/
def replayNoneSpec : ChangeSpec := { name := "replayNone", fn := fun _ => fun
  | [] => { results := [.lit (.bool true)], args := [] }
  | _ => none }
def replayNoneRow : OpenClaim := { program := "ythpenehgfogloaadoor", sum := "39426eed61b32eccec4470a1880d50aa193511d4341de16115b076e721c2dc2b", func := "packhorse/packhorselaw23.ReplayNone", spec := "replayNone", unfollowed := true, recurses := true, named := ["unicode/utf8.first", "unicode/utf8.acceptRanges"], apart := false, laid := [("unicode/utf8.acceptRanges", laid_unicode_utf8_acceptRanges), ("unicode/utf8.first", laid_unicode_utf8_first)] }
def ReplayNoneSaid : Prop := replayNoneRow.holds Tryd.pinned (OpenSpec.ofChange replayNoneSpec)

/-- ITS FALSE NEIGHBOUR: 'it returns false'. Refute it at one input. -/
def replayNoneWrong : ChangeSpec := { name := "replayNone", fn := fun _ => fun
  | [] => { results := [.lit (.bool false)], args := [] }
  | _ => none }
def ReplayNoneWrongFalsely : Prop := replayNoneRow.holds Tryd.pinned (OpenSpec.ofChange replayNoneWrong)

/-- 'packhorselaw23.ReplayMore': WHATEVER THE INPUT: true; the input reads as it did. -/
def replayMoreSpec : ChangeSpec := { name := "replayMore", fn := fun _ => fun
  | [d1, d2] => { results := [.lit (.bool true)], args := [d1, d2] }
  | _ => none }
def replayMoreRow : OpenClaim := { program := "ythpenehgfogloaadoor", sum := "39426eed61b32eccec4470a1880d50aa193511d4341de16115b076e721c2dc2b", func := "packhorse/packhorselaw23.ReplayMore", spec := "replayMore", unfollowed := true, recurses := true, named := ["unicode/utf8.first", "unicode/utf8.acceptRanges"], apart := false, laid := [("unicode/utf8.acceptRanges", laid_unicode_utf8_acceptRanges), ("unicode/utf8.first", laid_unicode_utf8_first)] }
def ReplayMoreSaid : Prop := replayMoreRow.holds Tryd.pinned (OpenSpec.ofChange replayMoreSpec)

/-- ITS FALSE NEIGHBOUR: 'it returns false'. Refute it at one input. -/
def replayMoreWrong : ChangeSpec := { name := "replayMore", fn := fun _ => fun
  | [d1, d2] => { results := [.lit (.bool false)], args := [d1, d2] }
  | _ => none }
def ReplayMoreWrongFalsely : Prop := replayMoreRow.holds Tryd.pinned (OpenSpec.ofChange replayMoreWrong)

/-- 'packhorselaw23.ReplayOwn': WHATEVER THE INPUT: true; the input reads as it did. -/
def replayOwnSpec : ChangeSpec := { name := "replayOwn", fn := fun _ => fun
  | [d] => { results := [.lit (.bool true)], args := [d] }
  | _ => none }
def replayOwnRow : OpenClaim := { program := "ythpenehgfogloaadoor", sum := "39426eed61b32eccec4470a1880d50aa193511d4341de16115b076e721c2dc2b", func := "packhorse/packhorselaw23.ReplayOwn", spec := "replayOwn", unfollowed := true, recurses := true, named := ["unicode/utf8.first", "unicode/utf8.acceptRanges"], apart := false, laid := [("unicode/utf8.acceptRanges", laid_unicode_utf8_acceptRanges), ("unicode/utf8.first", laid_unicode_utf8_first)] }
def ReplayOwnSaid : Prop := replayOwnRow.holds Tryd.pinned (OpenSpec.ofChange replayOwnSpec)

/-- ITS FALSE NEIGHBOUR: 'it returns false'. Refute it at one input. -/
def replayOwnWrong : ChangeSpec := { name := "replayOwn", fn := fun _ => fun
  | [d] => { results := [.lit (.bool false)], args := [d] }
  | _ => none }
def ReplayOwnWrongFalsely : Prop := replayOwnRow.holds Tryd.pinned (OpenSpec.ofChange replayOwnWrong)

/-- 'packhorselaw6.DocBytes': WHATEVER THE INPUT: true; the input reads as it did. -/
def docBytesSpec : ChangeSpec := { name := "docBytes", fn := fun _ => fun
  | [d1, d2, d3, d4] => { results := [.lit (.bool true)], args := [d1, d2, d3, d4] }
  | _ => none }
def docBytesRow : OpenClaim := { program := "ythpenehgfogloaadoor", sum := "39426eed61b32eccec4470a1880d50aa193511d4341de16115b076e721c2dc2b", func := "packhorse/packhorselaw6.DocBytes", spec := "docBytes", unfollowed := true, recurses := true, named := ["unicode/utf8.first", "unicode/utf8.acceptRanges"], apart := false, laid := [("unicode/utf8.acceptRanges", laid_unicode_utf8_acceptRanges), ("unicode/utf8.first", laid_unicode_utf8_first)] }
def DocBytesSaid : Prop := docBytesRow.holds Tryd.pinned (OpenSpec.ofChange docBytesSpec)

/-- ITS FALSE NEIGHBOUR: 'it returns false'. Refute it at one input. -/
def docBytesWrong : ChangeSpec := { name := "docBytes", fn := fun _ => fun
  | [d1, d2, d3, d4] => { results := [.lit (.bool false)], args := [d1, d2, d3, d4] }
  | _ => none }
def DocBytesWrongFalsely : Prop := docBytesRow.holds Tryd.pinned (OpenSpec.ofChange docBytesWrong)

/-- 'packhorselaw6.DocEnds': WHATEVER THE INPUT: true; the input reads as it did. -/
def docEndsSpec : ChangeSpec := { name := "docEnds", fn := fun _ => fun
  | [d1, d2, d3] => { results := [.lit (.bool true)], args := [d1, d2, d3] }
  | _ => none }
def docEndsRow : OpenClaim := { program := "ythpenehgfogloaadoor", sum := "39426eed61b32eccec4470a1880d50aa193511d4341de16115b076e721c2dc2b", func := "packhorse/packhorselaw6.DocEnds", spec := "docEnds", unfollowed := true, recurses := true, named := ["unicode/utf8.first", "unicode/utf8.acceptRanges"], apart := false, laid := [("unicode/utf8.acceptRanges", laid_unicode_utf8_acceptRanges), ("unicode/utf8.first", laid_unicode_utf8_first)] }
def DocEndsSaid : Prop := docEndsRow.holds Tryd.pinned (OpenSpec.ofChange docEndsSpec)

/-- ITS FALSE NEIGHBOUR: 'it returns false'. Refute it at one input. -/
def docEndsWrong : ChangeSpec := { name := "docEnds", fn := fun _ => fun
  | [d1, d2, d3] => { results := [.lit (.bool false)], args := [d1, d2, d3] }
  | _ => none }
def DocEndsWrongFalsely : Prop := docEndsRow.holds Tryd.pinned (OpenSpec.ofChange docEndsWrong)

/-- 'packhorselaw6.DocNone': WHATEVER THE INPUT: true; the input reads as it did. -/
def docNoneSpec : ChangeSpec := { name := "docNone", fn := fun _ => fun
  | [] => { results := [.lit (.bool true)], args := [] }
  | _ => none }
def docNoneRow : OpenClaim := { program := "ythpenehgfogloaadoor", sum := "39426eed61b32eccec4470a1880d50aa193511d4341de16115b076e721c2dc2b", func := "packhorse/packhorselaw6.DocNone", spec := "docNone", unfollowed := true, recurses := true, named := ["unicode/utf8.first", "unicode/utf8.acceptRanges"], apart := false, laid := [("unicode/utf8.acceptRanges", laid_unicode_utf8_acceptRanges), ("unicode/utf8.first", laid_unicode_utf8_first)] }
def DocNoneSaid : Prop := docNoneRow.holds Tryd.pinned (OpenSpec.ofChange docNoneSpec)

/-- ITS FALSE NEIGHBOUR: 'it returns false'. Refute it at one input. -/
def docNoneWrong : ChangeSpec := { name := "docNone", fn := fun _ => fun
  | [] => { results := [.lit (.bool false)], args := [] }
  | _ => none }
def DocNoneWrongFalsely : Prop := docNoneRow.holds Tryd.pinned (OpenSpec.ofChange docNoneWrong)

/-- 'packhorselaw6.DocBack': WHATEVER THE INPUT: true; the input reads as it did. -/
def docBackSpec : ChangeSpec := { name := "docBack", fn := fun _ => fun
  | [d1, d2] => { results := [.lit (.bool true)], args := [d1, d2] }
  | _ => none }
def docBackRow : OpenClaim := { program := "ythpenehgfogloaadoor", sum := "39426eed61b32eccec4470a1880d50aa193511d4341de16115b076e721c2dc2b", func := "packhorse/packhorselaw6.DocBack", spec := "docBack", unfollowed := true, recurses := true, named := ["unicode/utf8.first", "unicode/utf8.acceptRanges"], apart := false, laid := [("unicode/utf8.acceptRanges", laid_unicode_utf8_acceptRanges), ("unicode/utf8.first", laid_unicode_utf8_first)] }
def DocBackSaid : Prop := docBackRow.holds Tryd.pinned (OpenSpec.ofChange docBackSpec)

/-- ITS FALSE NEIGHBOUR: 'it returns false'. Refute it at one input. -/
def docBackWrong : ChangeSpec := { name := "docBack", fn := fun _ => fun
  | [d1, d2] => { results := [.lit (.bool false)], args := [d1, d2] }
  | _ => none }
def DocBackWrongFalsely : Prop := docBackRow.holds Tryd.pinned (OpenSpec.ofChange docBackWrong)

/-- 'packhorselaw6.DocOwn': WHATEVER THE INPUT: true; the input reads as it did. -/
def docOwnSpec : ChangeSpec := { name := "docOwn", fn := fun _ => fun
  | [d] => { results := [.lit (.bool true)], args := [d] }
  | _ => none }
def docOwnRow : OpenClaim := { program := "ythpenehgfogloaadoor", sum := "39426eed61b32eccec4470a1880d50aa193511d4341de16115b076e721c2dc2b", func := "packhorse/packhorselaw6.DocOwn", spec := "docOwn", unfollowed := true, recurses := true, named := ["unicode/utf8.first", "unicode/utf8.acceptRanges"], apart := false, laid := [("unicode/utf8.acceptRanges", laid_unicode_utf8_acceptRanges), ("unicode/utf8.first", laid_unicode_utf8_first)] }
def DocOwnSaid : Prop := docOwnRow.holds Tryd.pinned (OpenSpec.ofChange docOwnSpec)

/-- ITS FALSE NEIGHBOUR: 'it returns false'. Refute it at one input. -/
def docOwnWrong : ChangeSpec := { name := "docOwn", fn := fun _ => fun
  | [d] => { results := [.lit (.bool false)], args := [d] }
  | _ => none }
def DocOwnWrongFalsely : Prop := docOwnRow.holds Tryd.pinned (OpenSpec.ofChange docOwnWrong)

/- THE SECOND FORM. 'bulk': how many values and letters a reading holds, each counted each time it is reached (what is shared counts as often as it is met; a slice's spare places count too). A statement '..UptoSaid' is the law's where the arguments, and the package variables that the reading takes, are together of bulk at most 1048576: NARROWER than '..Said'. Prove '..Said' where nothing that the law and all that it calls make is longer than what came in: it says more and counts as full. Else prove '..UptoSaid'. A law counts once. -/
mutual
def uptoBulk {H : Type} : DataW H → Nat
  | .lit (.string bytes) => bytes.length + 1
  | .lit _ => 1
  | .nil => 1
  | .ptr d => uptoBulk d + 1
  | .slice elems spare => uptoBulkAll elems + uptoBulkAll spare + 1
  | .agg parts => uptoBulkAll parts + 1
  | .iface _ d => uptoBulk d + 1
  | .map entries => uptoBulkEntries entries + 1
  | .held _ => 1
def uptoBulkAll {H : Type} : List (DataW H) → Nat
  | [] => 0
  | d :: r => uptoBulk d + uptoBulkAll r
def uptoBulkEntries {H : Type} : List (Lit × DataW H) → Nat
  | [] => 0
  | x :: r => uptoBulkEntry x + uptoBulkEntries r
def uptoBulkEntry {H : Type} : Lit × DataW H → Nat
  | (.string bytes, d) => bytes.length + uptoBulk d + 1
  | (_, d) => uptoBulk d + 1
 end
def uptoSmall : (H : Type) → List (DataW H) → Bool := fun _ ds => decide (uptoBulkAll ds ≤ 1048576)
def OpenSpec.upto (s : _root_.Go.ChangeSpec) : _root_.Go.OpenSpec := { _root_.Go.OpenSpec.ofChange s with cond := some uptoSmall }

/-- 'packhorselaw23.ReplayNone', WHERE WHAT IT READS IS OF BULK AT MOST 1048576: true; the input reads as it did. -/
def replayNoneUptoRow : OpenClaim := { program := "ythpenehgfogloaadoor", sum := "39426eed61b32eccec4470a1880d50aa193511d4341de16115b076e721c2dc2b", func := "packhorse/packhorselaw23.ReplayNone", spec := "replayNone", unfollowed := true, recurses := true, named := ["unicode/utf8.first", "unicode/utf8.acceptRanges"], apart := false, laid := [("unicode/utf8.acceptRanges", laid_unicode_utf8_acceptRanges), ("unicode/utf8.first", laid_unicode_utf8_first)], narrowed := true }
def ReplayNoneUptoSaid : Prop := replayNoneUptoRow.holds Tryd.pinned (OpenSpec.upto replayNoneSpec)

/-- 'packhorselaw23.ReplayMore', WHERE WHAT IT READS IS OF BULK AT MOST 1048576: true; the input reads as it did. -/
def replayMoreUptoRow : OpenClaim := { program := "ythpenehgfogloaadoor", sum := "39426eed61b32eccec4470a1880d50aa193511d4341de16115b076e721c2dc2b", func := "packhorse/packhorselaw23.ReplayMore", spec := "replayMore", unfollowed := true, recurses := true, named := ["unicode/utf8.first", "unicode/utf8.acceptRanges"], apart := false, laid := [("unicode/utf8.acceptRanges", laid_unicode_utf8_acceptRanges), ("unicode/utf8.first", laid_unicode_utf8_first)], narrowed := true }
def ReplayMoreUptoSaid : Prop := replayMoreUptoRow.holds Tryd.pinned (OpenSpec.upto replayMoreSpec)

/-- 'packhorselaw23.ReplayOwn', WHERE WHAT IT READS IS OF BULK AT MOST 1048576: true; the input reads as it did. -/
def replayOwnUptoRow : OpenClaim := { program := "ythpenehgfogloaadoor", sum := "39426eed61b32eccec4470a1880d50aa193511d4341de16115b076e721c2dc2b", func := "packhorse/packhorselaw23.ReplayOwn", spec := "replayOwn", unfollowed := true, recurses := true, named := ["unicode/utf8.first", "unicode/utf8.acceptRanges"], apart := false, laid := [("unicode/utf8.acceptRanges", laid_unicode_utf8_acceptRanges), ("unicode/utf8.first", laid_unicode_utf8_first)], narrowed := true }
def ReplayOwnUptoSaid : Prop := replayOwnUptoRow.holds Tryd.pinned (OpenSpec.upto replayOwnSpec)

/-- 'packhorselaw6.DocBytes', WHERE WHAT IT READS IS OF BULK AT MOST 1048576: true; the input reads as it did. -/
def docBytesUptoRow : OpenClaim := { program := "ythpenehgfogloaadoor", sum := "39426eed61b32eccec4470a1880d50aa193511d4341de16115b076e721c2dc2b", func := "packhorse/packhorselaw6.DocBytes", spec := "docBytes", unfollowed := true, recurses := true, named := ["unicode/utf8.first", "unicode/utf8.acceptRanges"], apart := false, laid := [("unicode/utf8.acceptRanges", laid_unicode_utf8_acceptRanges), ("unicode/utf8.first", laid_unicode_utf8_first)], narrowed := true }
def DocBytesUptoSaid : Prop := docBytesUptoRow.holds Tryd.pinned (OpenSpec.upto docBytesSpec)

/-- 'packhorselaw6.DocEnds', WHERE WHAT IT READS IS OF BULK AT MOST 1048576: true; the input reads as it did. -/
def docEndsUptoRow : OpenClaim := { program := "ythpenehgfogloaadoor", sum := "39426eed61b32eccec4470a1880d50aa193511d4341de16115b076e721c2dc2b", func := "packhorse/packhorselaw6.DocEnds", spec := "docEnds", unfollowed := true, recurses := true, named := ["unicode/utf8.first", "unicode/utf8.acceptRanges"], apart := false, laid := [("unicode/utf8.acceptRanges", laid_unicode_utf8_acceptRanges), ("unicode/utf8.first", laid_unicode_utf8_first)], narrowed := true }
def DocEndsUptoSaid : Prop := docEndsUptoRow.holds Tryd.pinned (OpenSpec.upto docEndsSpec)

/-- 'packhorselaw6.DocNone', WHERE WHAT IT READS IS OF BULK AT MOST 1048576: true; the input reads as it did. -/
def docNoneUptoRow : OpenClaim := { program := "ythpenehgfogloaadoor", sum := "39426eed61b32eccec4470a1880d50aa193511d4341de16115b076e721c2dc2b", func := "packhorse/packhorselaw6.DocNone", spec := "docNone", unfollowed := true, recurses := true, named := ["unicode/utf8.first", "unicode/utf8.acceptRanges"], apart := false, laid := [("unicode/utf8.acceptRanges", laid_unicode_utf8_acceptRanges), ("unicode/utf8.first", laid_unicode_utf8_first)], narrowed := true }
def DocNoneUptoSaid : Prop := docNoneUptoRow.holds Tryd.pinned (OpenSpec.upto docNoneSpec)

/-- 'packhorselaw6.DocBack', WHERE WHAT IT READS IS OF BULK AT MOST 1048576: true; the input reads as it did. -/
def docBackUptoRow : OpenClaim := { program := "ythpenehgfogloaadoor", sum := "39426eed61b32eccec4470a1880d50aa193511d4341de16115b076e721c2dc2b", func := "packhorse/packhorselaw6.DocBack", spec := "docBack", unfollowed := true, recurses := true, named := ["unicode/utf8.first", "unicode/utf8.acceptRanges"], apart := false, laid := [("unicode/utf8.acceptRanges", laid_unicode_utf8_acceptRanges), ("unicode/utf8.first", laid_unicode_utf8_first)], narrowed := true }
def DocBackUptoSaid : Prop := docBackUptoRow.holds Tryd.pinned (OpenSpec.upto docBackSpec)

/-- 'packhorselaw6.DocOwn', WHERE WHAT IT READS IS OF BULK AT MOST 1048576: true; the input reads as it did. -/
def docOwnUptoRow : OpenClaim := { program := "ythpenehgfogloaadoor", sum := "39426eed61b32eccec4470a1880d50aa193511d4341de16115b076e721c2dc2b", func := "packhorse/packhorselaw6.DocOwn", spec := "docOwn", unfollowed := true, recurses := true, named := ["unicode/utf8.first", "unicode/utf8.acceptRanges"], apart := false, laid := [("unicode/utf8.acceptRanges", laid_unicode_utf8_acceptRanges), ("unicode/utf8.first", laid_unicode_utf8_first)], narrowed := true }
def DocOwnUptoSaid : Prop := docOwnUptoRow.holds Tryd.pinned (OpenSpec.upto docOwnSpec)

end Rows
end Go.Proofs.YthpenehgfogloaaDoor
