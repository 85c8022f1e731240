/-
  NARROWER THAN 'FOR EVERY INPUT', by the rows' own cells (each row's printed sentence says how): ValueEq: laid · ValueMust: laid · ValueInts: laid · ValueNone: laid · ValueTexts: laid · ValueAny: laid · ValueAll: laid.
  DERIVED. THE GIVEN ROWS OF THIS SEAT. 7 by the template 'for every input the law returns true; each argument reads behind the call as it read before'; 0 by the template 'total and deterministic' (their statements: YtckgicpfgfkndaaDoorTotals.lean).
  GIVEN WITH THE SEED: the statements are not yours to turn. If you find one false, say at which input.
  Laid BY PROGRAM, IN A SANDBOX (cutbox-rows.mjs): the forced cells as the released guide's own fill.sh prints them over the translation afacee1b7ce9e881… (all of the seat's roots in one cut). By AI agents, Wed Nov 11 2026. No macro, syntax, notation, axiom, sorry.
-/
import Derived.Test.YtckgicpfgfkndaaDoorChecked
import GoSem.PinnedTables
import GoSem.Claim
import GoSem.ClaimJoined
import GoSem.ClaimMapViews
import Derived.JoinedTies
import Derived.KernelRfl
namespace Go.Proofs.YtckgicpfgfkndaaDoor
/- THE CELL 'sum', in the pinned program and in every row, IS THE sha256 OF THE DUMP (.gsa) THAT YtckgicpfgfkndaaDoorProg.lean LOADS. Nothing in Lean hashes anything: it is a label: what it is worth is what the hold of that sum in a sandbox is worth. -/
noncomputable def Tryd.pinned : Pinned := { name := "ytckgicpfgfkndaadoor", sum := "afacee1b7ce9e8813899c8da0807f1eb94b89727af2e7d822368dad6098e86c2", checked := Tryd.checked }
namespace Rows
def none {H : Type} : Left H := { results := [], args := [] }

/- WHAT THE LISTED PACKAGE-LEVEL VARIABLES READ AS WHEN THE CALL BEGINS. Each datum BY PROGRAM (the guide's laid-datum.mjs) off the statement by which the dump's own 'gosem.cut.vars' lays the variable. In a bare row this is a premise. The card (YtckgicpfgfkndaaDoorCards.lean) ties it to the program's text. -/
def laid_unicode_utf8_acceptRanges {H : Type} : DataW H := .agg [.agg [.lit (.int .u8 128), .lit (.int .u8 191)], .agg [.lit (.int .u8 160), .lit (.int .u8 191)], .agg [.lit (.int .u8 128), .lit (.int .u8 159)], .agg [.lit (.int .u8 144), .lit (.int .u8 191)], .agg [.lit (.int .u8 128), .lit (.int .u8 143)], .agg [.lit (.int .u8 0), .lit (.int .u8 0)], .agg [.lit (.int .u8 0), .lit (.int .u8 0)], .agg [.lit (.int .u8 0), .lit (.int .u8 0)], .agg [.lit (.int .u8 0), .lit (.int .u8 0)], .agg [.lit (.int .u8 0), .lit (.int .u8 0)], .agg [.lit (.int .u8 0), .lit (.int .u8 0)], .agg [.lit (.int .u8 0), .lit (.int .u8 0)], .agg [.lit (.int .u8 0), .lit (.int .u8 0)], .agg [.lit (.int .u8 0), .lit (.int .u8 0)], .agg [.lit (.int .u8 0), .lit (.int .u8 0)], .agg [.lit (.int .u8 0), .lit (.int .u8 0)]]
/-- One of Go's own tables, pinned by name: the form's constant. -/
def laid_unicode_utf8_first : DataW Unit := Go.Pinned.utf8First

/-- 'packhorselaw4.ValueEq': WHATEVER THE INPUT: true; the input reads as it did. -/
def valueEqSpec : ChangeSpec := { name := "valueEq", fn := fun _ => fun
  | [d1, d2] => { results := [.lit (.bool true)], args := [d1, d2] }
  | _ => none }
def valueEqRow : OpenClaim := { program := "ytckgicpfgfkndaadoor", sum := "afacee1b7ce9e8813899c8da0807f1eb94b89727af2e7d822368dad6098e86c2", func := "packhorse/packhorselaw4.ValueEq", spec := "valueEq", named := ["unicode/utf8.first", "unicode/utf8.acceptRanges"], apart := false, laid := [("unicode/utf8.acceptRanges", laid_unicode_utf8_acceptRanges), ("unicode/utf8.first", laid_unicode_utf8_first)] }
def ValueEqSaid : Prop := valueEqRow.holds Tryd.pinned (OpenSpec.ofChange valueEqSpec)

/-- ITS FALSE NEIGHBOUR: 'it returns false'. Refute it at one input. -/
def valueEqWrong : ChangeSpec := { name := "valueEq", fn := fun _ => fun
  | [d1, d2] => { results := [.lit (.bool false)], args := [d1, d2] }
  | _ => none }
def ValueEqWrongFalsely : Prop := valueEqRow.holds Tryd.pinned (OpenSpec.ofChange valueEqWrong)

/-- 'packhorselaw4.ValueMust': WHATEVER THE INPUT: true; the input reads as it did. -/
def valueMustSpec : ChangeSpec := { name := "valueMust", fn := fun _ => fun
  | [d] => { results := [.lit (.bool true)], args := [d] }
  | _ => none }
def valueMustRow : OpenClaim := { program := "ytckgicpfgfkndaadoor", sum := "afacee1b7ce9e8813899c8da0807f1eb94b89727af2e7d822368dad6098e86c2", func := "packhorse/packhorselaw4.ValueMust", spec := "valueMust", unfollowed := true, recurses := true, named := ["unicode/utf8.first", "unicode/utf8.acceptRanges"], apart := false, laid := [("unicode/utf8.acceptRanges", laid_unicode_utf8_acceptRanges), ("unicode/utf8.first", laid_unicode_utf8_first)] }
def ValueMustSaid : Prop := valueMustRow.holds Tryd.pinned (OpenSpec.ofChange valueMustSpec)

/-- ITS FALSE NEIGHBOUR: 'it returns false'. Refute it at one input. -/
def valueMustWrong : ChangeSpec := { name := "valueMust", fn := fun _ => fun
  | [d] => { results := [.lit (.bool false)], args := [d] }
  | _ => none }
def ValueMustWrongFalsely : Prop := valueMustRow.holds Tryd.pinned (OpenSpec.ofChange valueMustWrong)

/-- 'packhorselaw4.ValueInts': WHATEVER THE INPUT: true; the input reads as it did. -/
def valueIntsSpec : ChangeSpec := { name := "valueInts", fn := fun _ => fun
  | [d] => { results := [.lit (.bool true)], args := [d] }
  | _ => none }
def valueIntsRow : OpenClaim := { program := "ytckgicpfgfkndaadoor", sum := "afacee1b7ce9e8813899c8da0807f1eb94b89727af2e7d822368dad6098e86c2", func := "packhorse/packhorselaw4.ValueInts", spec := "valueInts", unfollowed := true, recurses := true, named := ["unicode/utf8.first", "unicode/utf8.acceptRanges"], apart := false, laid := [("unicode/utf8.acceptRanges", laid_unicode_utf8_acceptRanges), ("unicode/utf8.first", laid_unicode_utf8_first)] }
def ValueIntsSaid : Prop := valueIntsRow.holds Tryd.pinned (OpenSpec.ofChange valueIntsSpec)

/-- ITS FALSE NEIGHBOUR: 'it returns false'. Refute it at one input. -/
def valueIntsWrong : ChangeSpec := { name := "valueInts", fn := fun _ => fun
  | [d] => { results := [.lit (.bool false)], args := [d] }
  | _ => none }
def ValueIntsWrongFalsely : Prop := valueIntsRow.holds Tryd.pinned (OpenSpec.ofChange valueIntsWrong)

/-- 'packhorselaw4.ValueNone': WHATEVER THE INPUT: true; the input reads as it did. -/
def valueNoneSpec : ChangeSpec := { name := "valueNone", fn := fun _ => fun
  | [] => { results := [.lit (.bool true)], args := [] }
  | _ => none }
def valueNoneRow : OpenClaim := { program := "ytckgicpfgfkndaadoor", sum := "afacee1b7ce9e8813899c8da0807f1eb94b89727af2e7d822368dad6098e86c2", func := "packhorse/packhorselaw4.ValueNone", spec := "valueNone", unfollowed := true, recurses := true, named := ["unicode/utf8.first", "unicode/utf8.acceptRanges"], apart := false, laid := [("unicode/utf8.acceptRanges", laid_unicode_utf8_acceptRanges), ("unicode/utf8.first", laid_unicode_utf8_first)] }
def ValueNoneSaid : Prop := valueNoneRow.holds Tryd.pinned (OpenSpec.ofChange valueNoneSpec)

/-- ITS FALSE NEIGHBOUR: 'it returns false'. Refute it at one input. -/
def valueNoneWrong : ChangeSpec := { name := "valueNone", fn := fun _ => fun
  | [] => { results := [.lit (.bool false)], args := [] }
  | _ => none }
def ValueNoneWrongFalsely : Prop := valueNoneRow.holds Tryd.pinned (OpenSpec.ofChange valueNoneWrong)

/-- 'packhorselaw4.ValueTexts': WHATEVER THE INPUT: true; the input reads as it did. -/
def valueTextsSpec : ChangeSpec := { name := "valueTexts", fn := fun _ => fun
  | [d] => { results := [.lit (.bool true)], args := [d] }
  | _ => none }
def valueTextsRow : OpenClaim := { program := "ytckgicpfgfkndaadoor", sum := "afacee1b7ce9e8813899c8da0807f1eb94b89727af2e7d822368dad6098e86c2", func := "packhorse/packhorselaw4.ValueTexts", spec := "valueTexts", unfollowed := true, recurses := true, named := ["unicode/utf8.first", "unicode/utf8.acceptRanges"], apart := false, laid := [("unicode/utf8.acceptRanges", laid_unicode_utf8_acceptRanges), ("unicode/utf8.first", laid_unicode_utf8_first)] }
def ValueTextsSaid : Prop := valueTextsRow.holds Tryd.pinned (OpenSpec.ofChange valueTextsSpec)

/-- ITS FALSE NEIGHBOUR: 'it returns false'. Refute it at one input. -/
def valueTextsWrong : ChangeSpec := { name := "valueTexts", fn := fun _ => fun
  | [d] => { results := [.lit (.bool false)], args := [d] }
  | _ => none }
def ValueTextsWrongFalsely : Prop := valueTextsRow.holds Tryd.pinned (OpenSpec.ofChange valueTextsWrong)

/-- 'packhorselaw4.ValueAny': WHATEVER THE INPUT: true; the input reads as it did. -/
def valueAnySpec : ChangeSpec := { name := "valueAny", fn := fun _ => fun
  | [d1, d2, d3, d4] => { results := [.lit (.bool true)], args := [d1, d2, d3, d4] }
  | _ => none }
def valueAnyRow : OpenClaim := { program := "ytckgicpfgfkndaadoor", sum := "afacee1b7ce9e8813899c8da0807f1eb94b89727af2e7d822368dad6098e86c2", func := "packhorse/packhorselaw4.ValueAny", spec := "valueAny", named := ["unicode/utf8.first", "unicode/utf8.acceptRanges"], apart := false, laid := [("unicode/utf8.acceptRanges", laid_unicode_utf8_acceptRanges), ("unicode/utf8.first", laid_unicode_utf8_first)] }
def ValueAnySaid : Prop := valueAnyRow.holds Tryd.pinned (OpenSpec.ofChange valueAnySpec)

/-- ITS FALSE NEIGHBOUR: 'it returns false'. Refute it at one input. -/
def valueAnyWrong : ChangeSpec := { name := "valueAny", fn := fun _ => fun
  | [d1, d2, d3, d4] => { results := [.lit (.bool false)], args := [d1, d2, d3, d4] }
  | _ => none }
def ValueAnyWrongFalsely : Prop := valueAnyRow.holds Tryd.pinned (OpenSpec.ofChange valueAnyWrong)

/-- 'packhorselaw4.ValueAll': WHATEVER THE INPUT: true; the input reads as it did. -/
def valueAllSpec : ChangeSpec := { name := "valueAll", fn := fun _ => fun
  | [d1, d2] => { results := [.lit (.bool true)], args := [d1, d2] }
  | _ => none }
def valueAllRow : OpenClaim := { program := "ytckgicpfgfkndaadoor", sum := "afacee1b7ce9e8813899c8da0807f1eb94b89727af2e7d822368dad6098e86c2", func := "packhorse/packhorselaw4.ValueAll", spec := "valueAll", unfollowed := true, recurses := true, named := ["unicode/utf8.first", "unicode/utf8.acceptRanges"], apart := false, laid := [("unicode/utf8.acceptRanges", laid_unicode_utf8_acceptRanges), ("unicode/utf8.first", laid_unicode_utf8_first)] }
def ValueAllSaid : Prop := valueAllRow.holds Tryd.pinned (OpenSpec.ofChange valueAllSpec)

/-- ITS FALSE NEIGHBOUR: 'it returns false'. Refute it at one input. -/
def valueAllWrong : ChangeSpec := { name := "valueAll", fn := fun _ => fun
  | [d1, d2] => { results := [.lit (.bool false)], args := [d1, d2] }
  | _ => none }
def ValueAllWrongFalsely : Prop := valueAllRow.holds Tryd.pinned (OpenSpec.ofChange valueAllWrong)

/- THE SECOND FORM. 'bulk': how many values and letters a reading holds, each counted each time it is reached (what is shared counts as often as it is met; a slice's spare places count too). A statement '..UptoSaid' is the law's where the arguments, and the package variables that the reading takes, are together of bulk at most 1048576: NARROWER than '..Said'. Prove '..Said' where nothing that the law and all that it calls make is longer than what came in: it says more and counts as full. Else prove '..UptoSaid'. A law counts once. -/
mutual
def uptoBulk {H : Type} : DataW H → Nat
  | .lit (.string bytes) => bytes.length + 1
  | .lit _ => 1
  | .nil => 1
  | .ptr d => uptoBulk d + 1
  | .slice elems spare => uptoBulkAll elems + uptoBulkAll spare + 1
  | .agg parts => uptoBulkAll parts + 1
  | .iface _ d => uptoBulk d + 1
  | .map entries => uptoBulkEntries entries + 1
  | .held _ => 1
def uptoBulkAll {H : Type} : List (DataW H) → Nat
  | [] => 0
  | d :: r => uptoBulk d + uptoBulkAll r
def uptoBulkEntries {H : Type} : List (Lit × DataW H) → Nat
  | [] => 0
  | x :: r => uptoBulkEntry x + uptoBulkEntries r
def uptoBulkEntry {H : Type} : Lit × DataW H → Nat
  | (.string bytes, d) => bytes.length + uptoBulk d + 1
  | (_, d) => uptoBulk d + 1
 end
def uptoSmall : (H : Type) → List (DataW H) → Bool := fun _ ds => decide (uptoBulkAll ds ≤ 1048576)
def OpenSpec.upto (s : _root_.Go.ChangeSpec) : _root_.Go.OpenSpec := { _root_.Go.OpenSpec.ofChange s with cond := some uptoSmall }

/-- 'packhorselaw4.ValueEq', WHERE WHAT IT READS IS OF BULK AT MOST 1048576: true; the input reads as it did. -/
def valueEqUptoRow : OpenClaim := { program := "ytckgicpfgfkndaadoor", sum := "afacee1b7ce9e8813899c8da0807f1eb94b89727af2e7d822368dad6098e86c2", func := "packhorse/packhorselaw4.ValueEq", spec := "valueEq", named := ["unicode/utf8.first", "unicode/utf8.acceptRanges"], apart := false, laid := [("unicode/utf8.acceptRanges", laid_unicode_utf8_acceptRanges), ("unicode/utf8.first", laid_unicode_utf8_first)], narrowed := true }
def ValueEqUptoSaid : Prop := valueEqUptoRow.holds Tryd.pinned (OpenSpec.upto valueEqSpec)

/-- 'packhorselaw4.ValueMust', WHERE WHAT IT READS IS OF BULK AT MOST 1048576: true; the input reads as it did. -/
def valueMustUptoRow : OpenClaim := { program := "ytckgicpfgfkndaadoor", sum := "afacee1b7ce9e8813899c8da0807f1eb94b89727af2e7d822368dad6098e86c2", func := "packhorse/packhorselaw4.ValueMust", spec := "valueMust", unfollowed := true, recurses := true, named := ["unicode/utf8.first", "unicode/utf8.acceptRanges"], apart := false, laid := [("unicode/utf8.acceptRanges", laid_unicode_utf8_acceptRanges), ("unicode/utf8.first", laid_unicode_utf8_first)], narrowed := true }
def ValueMustUptoSaid : Prop := valueMustUptoRow.holds Tryd.pinned (OpenSpec.upto valueMustSpec)

/-- 'packhorselaw4.ValueInts', WHERE WHAT IT READS IS OF BULK AT MOST 1048576: true; the input reads as it did. -/
def valueIntsUptoRow : OpenClaim := { program := "ytckgicpfgfkndaadoor", sum := "afacee1b7ce9e8813899c8da0807f1eb94b89727af2e7d822368dad6098e86c2", func := "packhorse/packhorselaw4.ValueInts", spec := "valueInts", unfollowed := true, recurses := true, named := ["unicode/utf8.first", "unicode/utf8.acceptRanges"], apart := false, laid := [("unicode/utf8.acceptRanges", laid_unicode_utf8_acceptRanges), ("unicode/utf8.first", laid_unicode_utf8_first)], narrowed := true }
def ValueIntsUptoSaid : Prop := valueIntsUptoRow.holds Tryd.pinned (OpenSpec.upto valueIntsSpec)

/-- 'packhorselaw4.ValueNone', WHERE WHAT IT READS IS OF BULK AT MOST 1048576: true; the input reads as it did. -/
def valueNoneUptoRow : OpenClaim := { program := "ytckgicpfgfkndaadoor", sum := "afacee1b7ce9e8813899c8da0807f1eb94b89727af2e7d822368dad6098e86c2", func := "packhorse/packhorselaw4.ValueNone", spec := "valueNone", unfollowed := true, recurses := true, named := ["unicode/utf8.first", "unicode/utf8.acceptRanges"], apart := false, laid := [("unicode/utf8.acceptRanges", laid_unicode_utf8_acceptRanges), ("unicode/utf8.first", laid_unicode_utf8_first)], narrowed := true }
def ValueNoneUptoSaid : Prop := valueNoneUptoRow.holds Tryd.pinned (OpenSpec.upto valueNoneSpec)

/-- 'packhorselaw4.ValueTexts', WHERE WHAT IT READS IS OF BULK AT MOST 1048576: true; the input reads as it did. -/
def valueTextsUptoRow : OpenClaim := { program := "ytckgicpfgfkndaadoor", sum := "afacee1b7ce9e8813899c8da0807f1eb94b89727af2e7d822368dad6098e86c2", func := "packhorse/packhorselaw4.ValueTexts", spec := "valueTexts", unfollowed := true, recurses := true, named := ["unicode/utf8.first", "unicode/utf8.acceptRanges"], apart := false, laid := [("unicode/utf8.acceptRanges", laid_unicode_utf8_acceptRanges), ("unicode/utf8.first", laid_unicode_utf8_first)], narrowed := true }
def ValueTextsUptoSaid : Prop := valueTextsUptoRow.holds Tryd.pinned (OpenSpec.upto valueTextsSpec)

/-- 'packhorselaw4.ValueAny', WHERE WHAT IT READS IS OF BULK AT MOST 1048576: true; the input reads as it did. -/
def valueAnyUptoRow : OpenClaim := { program := "ytckgicpfgfkndaadoor", sum := "afacee1b7ce9e8813899c8da0807f1eb94b89727af2e7d822368dad6098e86c2", func := "packhorse/packhorselaw4.ValueAny", spec := "valueAny", named := ["unicode/utf8.first", "unicode/utf8.acceptRanges"], apart := false, laid := [("unicode/utf8.acceptRanges", laid_unicode_utf8_acceptRanges), ("unicode/utf8.first", laid_unicode_utf8_first)], narrowed := true }
def ValueAnyUptoSaid : Prop := valueAnyUptoRow.holds Tryd.pinned (OpenSpec.upto valueAnySpec)

/-- 'packhorselaw4.ValueAll', WHERE WHAT IT READS IS OF BULK AT MOST 1048576: true; the input reads as it did. -/
def valueAllUptoRow : OpenClaim := { program := "ytckgicpfgfkndaadoor", sum := "afacee1b7ce9e8813899c8da0807f1eb94b89727af2e7d822368dad6098e86c2", func := "packhorse/packhorselaw4.ValueAll", spec := "valueAll", unfollowed := true, recurses := true, named := ["unicode/utf8.first", "unicode/utf8.acceptRanges"], apart := false, laid := [("unicode/utf8.acceptRanges", laid_unicode_utf8_acceptRanges), ("unicode/utf8.first", laid_unicode_utf8_first)], narrowed := true }
def ValueAllUptoSaid : Prop := valueAllUptoRow.holds Tryd.pinned (OpenSpec.upto valueAllSpec)

end Rows
end Go.Proofs.YtckgicpfgfkndaaDoor
