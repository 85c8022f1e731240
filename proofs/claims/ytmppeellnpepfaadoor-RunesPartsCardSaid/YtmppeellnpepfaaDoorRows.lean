/-
  NARROWER THAN 'FOR EVERY INPUT', by the rows' own cells (each row's printed sentence says how): RunesText: laid · RunesOne: laid · RunesOrder: laid · RunesFold: laid · RunesParts: laid · RunesBytes: laid · RunesKeys: laid · RunesBad: laid · RunesJoin: laid.
  DERIVED. THE GIVEN ROWS OF THIS SEAT. 9 by the template 'for every input the law returns true; each argument reads behind the call as it read before'; 0 by the template 'total and deterministic' (their statements: YtmppeellnpepfaaDoorTotals.lean).
  GIVEN WITH THE SEED: the statements are not yours to turn. If you find one false, say at which input.
  Laid BY PROGRAM, IN A SANDBOX (cutbox-rows.mjs): the forced cells as the released guide's own fill.sh prints them over the translation 9efdf05359dacd15… (all of the seat's roots in one cut). By AI agents, Wed Nov 11 2026. No macro, syntax, notation, axiom, sorry.
-/
import Derived.Test.YtmppeellnpepfaaDoorChecked
import GoSem.PinnedTables
import GoSem.Claim
import GoSem.ClaimJoined
import GoSem.ClaimMapViews
import Derived.JoinedTies
import Derived.KernelRfl
namespace Go.Proofs.YtmppeellnpepfaaDoor
/- THE CELL 'sum', in the pinned program and in every row, IS THE sha256 OF THE DUMP (.gsa) THAT YtmppeellnpepfaaDoorProg.lean LOADS. Nothing in Lean hashes anything: it is a label: what it is worth is what the hold of that sum in a sandbox is worth. -/
noncomputable def Tryd.pinned : Pinned := { name := "ytmppeellnpepfaadoor", sum := "9efdf05359dacd15b161bb37bdbb4c3562c00e869b23fdffb348c4dac8b03b3e", checked := Tryd.checked }
namespace Rows
def none {H : Type} : Left H := { results := [], args := [] }

/- WHAT THE LISTED PACKAGE-LEVEL VARIABLES READ AS WHEN THE CALL BEGINS. Each datum BY PROGRAM (the guide's laid-datum.mjs) off the statement by which the dump's own 'gosem.cut.vars' lays the variable. In a bare row this is a premise. The card (YtmppeellnpepfaaDoorCards.lean) ties it to the program's text. -/
def laid_unicode_utf8_acceptRanges {H : Type} : DataW H := .agg [.agg [.lit (.int .u8 128), .lit (.int .u8 191)], .agg [.lit (.int .u8 160), .lit (.int .u8 191)], .agg [.lit (.int .u8 128), .lit (.int .u8 159)], .agg [.lit (.int .u8 144), .lit (.int .u8 191)], .agg [.lit (.int .u8 128), .lit (.int .u8 143)], .agg [.lit (.int .u8 0), .lit (.int .u8 0)], .agg [.lit (.int .u8 0), .lit (.int .u8 0)], .agg [.lit (.int .u8 0), .lit (.int .u8 0)], .agg [.lit (.int .u8 0), .lit (.int .u8 0)], .agg [.lit (.int .u8 0), .lit (.int .u8 0)], .agg [.lit (.int .u8 0), .lit (.int .u8 0)], .agg [.lit (.int .u8 0), .lit (.int .u8 0)], .agg [.lit (.int .u8 0), .lit (.int .u8 0)], .agg [.lit (.int .u8 0), .lit (.int .u8 0)], .agg [.lit (.int .u8 0), .lit (.int .u8 0)], .agg [.lit (.int .u8 0), .lit (.int .u8 0)]]
/-- One of Go's own tables, pinned by name: the form's constant. -/
def laid_unicode_utf8_first : DataW Unit := Go.Pinned.utf8First

/-- 'packhorselaw1.RunesText': WHATEVER THE INPUT: true; the input reads as it did. -/
def runesTextSpec : ChangeSpec := { name := "runesText", fn := fun _ => fun
  | [d1, d2] => { results := [.lit (.bool true)], args := [d1, d2] }
  | _ => none }
def runesTextRow : OpenClaim := { program := "ytmppeellnpepfaadoor", sum := "9efdf05359dacd15b161bb37bdbb4c3562c00e869b23fdffb348c4dac8b03b3e", func := "packhorse/packhorselaw1.RunesText", spec := "runesText", named := ["unicode/utf8.first", "unicode/utf8.acceptRanges"], apart := false, laid := [("unicode/utf8.acceptRanges", laid_unicode_utf8_acceptRanges), ("unicode/utf8.first", laid_unicode_utf8_first)] }
def RunesTextSaid : Prop := runesTextRow.holds Tryd.pinned (OpenSpec.ofChange runesTextSpec)

/-- ITS FALSE NEIGHBOUR: 'it returns false'. Refute it at one input. -/
def runesTextWrong : ChangeSpec := { name := "runesText", fn := fun _ => fun
  | [d1, d2] => { results := [.lit (.bool false)], args := [d1, d2] }
  | _ => none }
def RunesTextWrongFalsely : Prop := runesTextRow.holds Tryd.pinned (OpenSpec.ofChange runesTextWrong)

/-- 'packhorselaw1.RunesOne': WHATEVER THE INPUT: true; the input reads as it did. -/
def runesOneSpec : ChangeSpec := { name := "runesOne", fn := fun _ => fun
  | [d] => { results := [.lit (.bool true)], args := [d] }
  | _ => none }
def runesOneRow : OpenClaim := { program := "ytmppeellnpepfaadoor", sum := "9efdf05359dacd15b161bb37bdbb4c3562c00e869b23fdffb348c4dac8b03b3e", func := "packhorse/packhorselaw1.RunesOne", spec := "runesOne", named := ["unicode/utf8.first", "unicode/utf8.acceptRanges"], apart := false, laid := [("unicode/utf8.acceptRanges", laid_unicode_utf8_acceptRanges), ("unicode/utf8.first", laid_unicode_utf8_first)] }
def RunesOneSaid : Prop := runesOneRow.holds Tryd.pinned (OpenSpec.ofChange runesOneSpec)

/-- ITS FALSE NEIGHBOUR: 'it returns false'. Refute it at one input. -/
def runesOneWrong : ChangeSpec := { name := "runesOne", fn := fun _ => fun
  | [d] => { results := [.lit (.bool false)], args := [d] }
  | _ => none }
def RunesOneWrongFalsely : Prop := runesOneRow.holds Tryd.pinned (OpenSpec.ofChange runesOneWrong)

/-- 'packhorselaw1.RunesOrder': WHATEVER THE INPUT: true; the input reads as it did. -/
def runesOrderSpec : ChangeSpec := { name := "runesOrder", fn := fun _ => fun
  | [d1, d2, d3] => { results := [.lit (.bool true)], args := [d1, d2, d3] }
  | _ => none }
def runesOrderRow : OpenClaim := { program := "ytmppeellnpepfaadoor", sum := "9efdf05359dacd15b161bb37bdbb4c3562c00e869b23fdffb348c4dac8b03b3e", func := "packhorse/packhorselaw1.RunesOrder", spec := "runesOrder", named := ["unicode/utf8.first", "unicode/utf8.acceptRanges"], apart := false, laid := [("unicode/utf8.acceptRanges", laid_unicode_utf8_acceptRanges), ("unicode/utf8.first", laid_unicode_utf8_first)] }
def RunesOrderSaid : Prop := runesOrderRow.holds Tryd.pinned (OpenSpec.ofChange runesOrderSpec)

/-- ITS FALSE NEIGHBOUR: 'it returns false'. Refute it at one input. -/
def runesOrderWrong : ChangeSpec := { name := "runesOrder", fn := fun _ => fun
  | [d1, d2, d3] => { results := [.lit (.bool false)], args := [d1, d2, d3] }
  | _ => none }
def RunesOrderWrongFalsely : Prop := runesOrderRow.holds Tryd.pinned (OpenSpec.ofChange runesOrderWrong)

/-- 'packhorselaw1.RunesFold': WHATEVER THE INPUT: true; the input reads as it did. -/
def runesFoldSpec : ChangeSpec := { name := "runesFold", fn := fun _ => fun
  | [d] => { results := [.lit (.bool true)], args := [d] }
  | _ => none }
def runesFoldRow : OpenClaim := { program := "ytmppeellnpepfaadoor", sum := "9efdf05359dacd15b161bb37bdbb4c3562c00e869b23fdffb348c4dac8b03b3e", func := "packhorse/packhorselaw1.RunesFold", spec := "runesFold", named := ["unicode/utf8.first", "unicode/utf8.acceptRanges"], apart := false, laid := [("unicode/utf8.acceptRanges", laid_unicode_utf8_acceptRanges), ("unicode/utf8.first", laid_unicode_utf8_first)] }
def RunesFoldSaid : Prop := runesFoldRow.holds Tryd.pinned (OpenSpec.ofChange runesFoldSpec)

/-- ITS FALSE NEIGHBOUR: 'it returns false'. Refute it at one input. -/
def runesFoldWrong : ChangeSpec := { name := "runesFold", fn := fun _ => fun
  | [d] => { results := [.lit (.bool false)], args := [d] }
  | _ => none }
def RunesFoldWrongFalsely : Prop := runesFoldRow.holds Tryd.pinned (OpenSpec.ofChange runesFoldWrong)

/-- 'packhorselaw1.RunesParts': WHATEVER THE INPUT: true; the input reads as it did. -/
def runesPartsSpec : ChangeSpec := { name := "runesParts", fn := fun _ => fun
  | [d1, d2] => { results := [.lit (.bool true)], args := [d1, d2] }
  | _ => none }
def runesPartsRow : OpenClaim := { program := "ytmppeellnpepfaadoor", sum := "9efdf05359dacd15b161bb37bdbb4c3562c00e869b23fdffb348c4dac8b03b3e", func := "packhorse/packhorselaw1.RunesParts", spec := "runesParts", named := ["unicode/utf8.first", "unicode/utf8.acceptRanges"], apart := false, laid := [("unicode/utf8.acceptRanges", laid_unicode_utf8_acceptRanges), ("unicode/utf8.first", laid_unicode_utf8_first)] }
def RunesPartsSaid : Prop := runesPartsRow.holds Tryd.pinned (OpenSpec.ofChange runesPartsSpec)

/-- ITS FALSE NEIGHBOUR: 'it returns false'. Refute it at one input. -/
def runesPartsWrong : ChangeSpec := { name := "runesParts", fn := fun _ => fun
  | [d1, d2] => { results := [.lit (.bool false)], args := [d1, d2] }
  | _ => none }
def RunesPartsWrongFalsely : Prop := runesPartsRow.holds Tryd.pinned (OpenSpec.ofChange runesPartsWrong)

/-- 'packhorselaw1.RunesBytes': WHATEVER THE INPUT: true; the input reads as it did. -/
def runesBytesSpec : ChangeSpec := { name := "runesBytes", fn := fun _ => fun
  | [d1, d2, d3, d4] => { results := [.lit (.bool true)], args := [d1, d2, d3, d4] }
  | _ => none }
def runesBytesRow : OpenClaim := { program := "ytmppeellnpepfaadoor", sum := "9efdf05359dacd15b161bb37bdbb4c3562c00e869b23fdffb348c4dac8b03b3e", func := "packhorse/packhorselaw1.RunesBytes", spec := "runesBytes", named := ["unicode/utf8.first", "unicode/utf8.acceptRanges"], apart := false, laid := [("unicode/utf8.acceptRanges", laid_unicode_utf8_acceptRanges), ("unicode/utf8.first", laid_unicode_utf8_first)] }
def RunesBytesSaid : Prop := runesBytesRow.holds Tryd.pinned (OpenSpec.ofChange runesBytesSpec)

/-- ITS FALSE NEIGHBOUR: 'it returns false'. Refute it at one input. -/
def runesBytesWrong : ChangeSpec := { name := "runesBytes", fn := fun _ => fun
  | [d1, d2, d3, d4] => { results := [.lit (.bool false)], args := [d1, d2, d3, d4] }
  | _ => none }
def RunesBytesWrongFalsely : Prop := runesBytesRow.holds Tryd.pinned (OpenSpec.ofChange runesBytesWrong)

/-- 'packhorselaw1.RunesKeys': WHATEVER THE INPUT: true; the input reads as it did. -/
def runesKeysSpec : ChangeSpec := { name := "runesKeys", fn := fun _ => fun
  | [d1, d2] => { results := [.lit (.bool true)], args := [d1, d2] }
  | _ => none }
def runesKeysRow : OpenClaim := { program := "ytmppeellnpepfaadoor", sum := "9efdf05359dacd15b161bb37bdbb4c3562c00e869b23fdffb348c4dac8b03b3e", func := "packhorse/packhorselaw1.RunesKeys", spec := "runesKeys", named := ["unicode/utf8.first", "unicode/utf8.acceptRanges"], apart := false, laid := [("unicode/utf8.acceptRanges", laid_unicode_utf8_acceptRanges), ("unicode/utf8.first", laid_unicode_utf8_first)] }
def RunesKeysSaid : Prop := runesKeysRow.holds Tryd.pinned (OpenSpec.ofChange runesKeysSpec)

/-- ITS FALSE NEIGHBOUR: 'it returns false'. Refute it at one input. -/
def runesKeysWrong : ChangeSpec := { name := "runesKeys", fn := fun _ => fun
  | [d1, d2] => { results := [.lit (.bool false)], args := [d1, d2] }
  | _ => none }
def RunesKeysWrongFalsely : Prop := runesKeysRow.holds Tryd.pinned (OpenSpec.ofChange runesKeysWrong)

/-- 'packhorselaw1.RunesBad': WHATEVER THE INPUT: true; the input reads as it did. -/
def runesBadSpec : ChangeSpec := { name := "runesBad", fn := fun _ => fun
  | [d1, d2, d3] => { results := [.lit (.bool true)], args := [d1, d2, d3] }
  | _ => none }
def runesBadRow : OpenClaim := { program := "ytmppeellnpepfaadoor", sum := "9efdf05359dacd15b161bb37bdbb4c3562c00e869b23fdffb348c4dac8b03b3e", func := "packhorse/packhorselaw1.RunesBad", spec := "runesBad", named := ["unicode/utf8.first", "unicode/utf8.acceptRanges"], apart := false, laid := [("unicode/utf8.acceptRanges", laid_unicode_utf8_acceptRanges), ("unicode/utf8.first", laid_unicode_utf8_first)] }
def RunesBadSaid : Prop := runesBadRow.holds Tryd.pinned (OpenSpec.ofChange runesBadSpec)

/-- ITS FALSE NEIGHBOUR: 'it returns false'. Refute it at one input. -/
def runesBadWrong : ChangeSpec := { name := "runesBad", fn := fun _ => fun
  | [d1, d2, d3] => { results := [.lit (.bool false)], args := [d1, d2, d3] }
  | _ => none }
def RunesBadWrongFalsely : Prop := runesBadRow.holds Tryd.pinned (OpenSpec.ofChange runesBadWrong)

/-- 'packhorselaw1.RunesJoin': WHATEVER THE INPUT: true; the input reads as it did. -/
def runesJoinSpec : ChangeSpec := { name := "runesJoin", fn := fun _ => fun
  | [d1, d2] => { results := [.lit (.bool true)], args := [d1, d2] }
  | _ => none }
def runesJoinRow : OpenClaim := { program := "ytmppeellnpepfaadoor", sum := "9efdf05359dacd15b161bb37bdbb4c3562c00e869b23fdffb348c4dac8b03b3e", func := "packhorse/packhorselaw1.RunesJoin", spec := "runesJoin", named := ["unicode/utf8.first", "unicode/utf8.acceptRanges"], apart := false, laid := [("unicode/utf8.acceptRanges", laid_unicode_utf8_acceptRanges), ("unicode/utf8.first", laid_unicode_utf8_first)] }
def RunesJoinSaid : Prop := runesJoinRow.holds Tryd.pinned (OpenSpec.ofChange runesJoinSpec)

/-- ITS FALSE NEIGHBOUR: 'it returns false'. Refute it at one input. -/
def runesJoinWrong : ChangeSpec := { name := "runesJoin", fn := fun _ => fun
  | [d1, d2] => { results := [.lit (.bool false)], args := [d1, d2] }
  | _ => none }
def RunesJoinWrongFalsely : Prop := runesJoinRow.holds Tryd.pinned (OpenSpec.ofChange runesJoinWrong)

/- THE SECOND FORM. 'bulk': how many values and letters a reading holds, each counted each time it is reached (what is shared counts as often as it is met; a slice's spare places count too). A statement '..UptoSaid' is the law's where the arguments, and the package variables that the reading takes, are together of bulk at most 1048576: NARROWER than '..Said'. Prove '..Said' where nothing that the law and all that it calls make is longer than what came in: it says more and counts as full. Else prove '..UptoSaid'. A law counts once. -/
mutual
def uptoBulk {H : Type} : DataW H → Nat
  | .lit (.string bytes) => bytes.length + 1
  | .lit _ => 1
  | .nil => 1
  | .ptr d => uptoBulk d + 1
  | .slice elems spare => uptoBulkAll elems + uptoBulkAll spare + 1
  | .agg parts => uptoBulkAll parts + 1
  | .iface _ d => uptoBulk d + 1
  | .map entries => uptoBulkEntries entries + 1
  | .held _ => 1
def uptoBulkAll {H : Type} : List (DataW H) → Nat
  | [] => 0
  | d :: r => uptoBulk d + uptoBulkAll r
def uptoBulkEntries {H : Type} : List (Lit × DataW H) → Nat
  | [] => 0
  | x :: r => uptoBulkEntry x + uptoBulkEntries r
def uptoBulkEntry {H : Type} : Lit × DataW H → Nat
  | (.string bytes, d) => bytes.length + uptoBulk d + 1
  | (_, d) => uptoBulk d + 1
 end
def uptoSmall : (H : Type) → List (DataW H) → Bool := fun _ ds => decide (uptoBulkAll ds ≤ 1048576)
def OpenSpec.upto (s : _root_.Go.ChangeSpec) : _root_.Go.OpenSpec := { _root_.Go.OpenSpec.ofChange s with cond := some uptoSmall }

/-- 'packhorselaw1.RunesText', WHERE WHAT IT READS IS OF BULK AT MOST 1048576: true; the input reads as it did. -/
def runesTextUptoRow : OpenClaim := { program := "ytmppeellnpepfaadoor", sum := "9efdf05359dacd15b161bb37bdbb4c3562c00e869b23fdffb348c4dac8b03b3e", func := "packhorse/packhorselaw1.RunesText", spec := "runesText", named := ["unicode/utf8.first", "unicode/utf8.acceptRanges"], apart := false, laid := [("unicode/utf8.acceptRanges", laid_unicode_utf8_acceptRanges), ("unicode/utf8.first", laid_unicode_utf8_first)], narrowed := true }
def RunesTextUptoSaid : Prop := runesTextUptoRow.holds Tryd.pinned (OpenSpec.upto runesTextSpec)

/-- 'packhorselaw1.RunesOne', WHERE WHAT IT READS IS OF BULK AT MOST 1048576: true; the input reads as it did. -/
def runesOneUptoRow : OpenClaim := { program := "ytmppeellnpepfaadoor", sum := "9efdf05359dacd15b161bb37bdbb4c3562c00e869b23fdffb348c4dac8b03b3e", func := "packhorse/packhorselaw1.RunesOne", spec := "runesOne", named := ["unicode/utf8.first", "unicode/utf8.acceptRanges"], apart := false, laid := [("unicode/utf8.acceptRanges", laid_unicode_utf8_acceptRanges), ("unicode/utf8.first", laid_unicode_utf8_first)], narrowed := true }
def RunesOneUptoSaid : Prop := runesOneUptoRow.holds Tryd.pinned (OpenSpec.upto runesOneSpec)

/-- 'packhorselaw1.RunesOrder', WHERE WHAT IT READS IS OF BULK AT MOST 1048576: true; the input reads as it did. -/
def runesOrderUptoRow : OpenClaim := { program := "ytmppeellnpepfaadoor", sum := "9efdf05359dacd15b161bb37bdbb4c3562c00e869b23fdffb348c4dac8b03b3e", func := "packhorse/packhorselaw1.RunesOrder", spec := "runesOrder", named := ["unicode/utf8.first", "unicode/utf8.acceptRanges"], apart := false, laid := [("unicode/utf8.acceptRanges", laid_unicode_utf8_acceptRanges), ("unicode/utf8.first", laid_unicode_utf8_first)], narrowed := true }
def RunesOrderUptoSaid : Prop := runesOrderUptoRow.holds Tryd.pinned (OpenSpec.upto runesOrderSpec)

/-- 'packhorselaw1.RunesFold', WHERE WHAT IT READS IS OF BULK AT MOST 1048576: true; the input reads as it did. -/
def runesFoldUptoRow : OpenClaim := { program := "ytmppeellnpepfaadoor", sum := "9efdf05359dacd15b161bb37bdbb4c3562c00e869b23fdffb348c4dac8b03b3e", func := "packhorse/packhorselaw1.RunesFold", spec := "runesFold", named := ["unicode/utf8.first", "unicode/utf8.acceptRanges"], apart := false, laid := [("unicode/utf8.acceptRanges", laid_unicode_utf8_acceptRanges), ("unicode/utf8.first", laid_unicode_utf8_first)], narrowed := true }
def RunesFoldUptoSaid : Prop := runesFoldUptoRow.holds Tryd.pinned (OpenSpec.upto runesFoldSpec)

/-- 'packhorselaw1.RunesParts', WHERE WHAT IT READS IS OF BULK AT MOST 1048576: true; the input reads as it did. -/
def runesPartsUptoRow : OpenClaim := { program := "ytmppeellnpepfaadoor", sum := "9efdf05359dacd15b161bb37bdbb4c3562c00e869b23fdffb348c4dac8b03b3e", func := "packhorse/packhorselaw1.RunesParts", spec := "runesParts", named := ["unicode/utf8.first", "unicode/utf8.acceptRanges"], apart := false, laid := [("unicode/utf8.acceptRanges", laid_unicode_utf8_acceptRanges), ("unicode/utf8.first", laid_unicode_utf8_first)], narrowed := true }
def RunesPartsUptoSaid : Prop := runesPartsUptoRow.holds Tryd.pinned (OpenSpec.upto runesPartsSpec)

/-- 'packhorselaw1.RunesBytes', WHERE WHAT IT READS IS OF BULK AT MOST 1048576: true; the input reads as it did. -/
def runesBytesUptoRow : OpenClaim := { program := "ytmppeellnpepfaadoor", sum := "9efdf05359dacd15b161bb37bdbb4c3562c00e869b23fdffb348c4dac8b03b3e", func := "packhorse/packhorselaw1.RunesBytes", spec := "runesBytes", named := ["unicode/utf8.first", "unicode/utf8.acceptRanges"], apart := false, laid := [("unicode/utf8.acceptRanges", laid_unicode_utf8_acceptRanges), ("unicode/utf8.first", laid_unicode_utf8_first)], narrowed := true }
def RunesBytesUptoSaid : Prop := runesBytesUptoRow.holds Tryd.pinned (OpenSpec.upto runesBytesSpec)

/-- 'packhorselaw1.RunesKeys', WHERE WHAT IT READS IS OF BULK AT MOST 1048576: true; the input reads as it did. -/
def runesKeysUptoRow : OpenClaim := { program := "ytmppeellnpepfaadoor", sum := "9efdf05359dacd15b161bb37bdbb4c3562c00e869b23fdffb348c4dac8b03b3e", func := "packhorse/packhorselaw1.RunesKeys", spec := "runesKeys", named := ["unicode/utf8.first", "unicode/utf8.acceptRanges"], apart := false, laid := [("unicode/utf8.acceptRanges", laid_unicode_utf8_acceptRanges), ("unicode/utf8.first", laid_unicode_utf8_first)], narrowed := true }
def RunesKeysUptoSaid : Prop := runesKeysUptoRow.holds Tryd.pinned (OpenSpec.upto runesKeysSpec)

/-- 'packhorselaw1.RunesBad', WHERE WHAT IT READS IS OF BULK AT MOST 1048576: true; the input reads as it did. -/
def runesBadUptoRow : OpenClaim := { program := "ytmppeellnpepfaadoor", sum := "9efdf05359dacd15b161bb37bdbb4c3562c00e869b23fdffb348c4dac8b03b3e", func := "packhorse/packhorselaw1.RunesBad", spec := "runesBad", named := ["unicode/utf8.first", "unicode/utf8.acceptRanges"], apart := false, laid := [("unicode/utf8.acceptRanges", laid_unicode_utf8_acceptRanges), ("unicode/utf8.first", laid_unicode_utf8_first)], narrowed := true }
def RunesBadUptoSaid : Prop := runesBadUptoRow.holds Tryd.pinned (OpenSpec.upto runesBadSpec)

/-- 'packhorselaw1.RunesJoin', WHERE WHAT IT READS IS OF BULK AT MOST 1048576: true; the input reads as it did. -/
def runesJoinUptoRow : OpenClaim := { program := "ytmppeellnpepfaadoor", sum := "9efdf05359dacd15b161bb37bdbb4c3562c00e869b23fdffb348c4dac8b03b3e", func := "packhorse/packhorselaw1.RunesJoin", spec := "runesJoin", named := ["unicode/utf8.first", "unicode/utf8.acceptRanges"], apart := false, laid := [("unicode/utf8.acceptRanges", laid_unicode_utf8_acceptRanges), ("unicode/utf8.first", laid_unicode_utf8_first)], narrowed := true }
def RunesJoinUptoSaid : Prop := runesJoinUptoRow.holds Tryd.pinned (OpenSpec.upto runesJoinSpec)

end Rows
end Go.Proofs.YtmppeellnpepfaaDoor
