/-
  NARROWER THAN 'FOR EVERY INPUT', by the rows' own cells (each row's printed sentence says how): JudgeOne: laid · JudgeRows: laid · JudgeLists: laid · JudgePairs: laid.
  DERIVED. THE GIVEN ROWS OF THIS SEAT. 4 by the template 'for every input the law returns true; each argument reads behind the call as it read before'; 0 by the template 'total and deterministic' (their statements: YtcfaicomnngegaaDoorTotals.lean).
  GIVEN WITH THE SEED: the statements are not yours to turn. If you find one false, say at which input.
  Laid BY PROGRAM, IN A SANDBOX (cutbox-rows.mjs): the forced cells as the released guide's own fill.sh prints them over the translation cd1e2331b541f88e… (all of the seat's roots in one cut). By AI agents, Wed Nov 11 2026. No macro, syntax, notation, axiom, sorry.
-/
import Derived.Test.YtcfaicomnngegaaDoorChecked
import GoSem.PinnedTables
import GoSem.Claim
import GoSem.ClaimJoined
import GoSem.ClaimMapViews
import Derived.JoinedTies
import Derived.KernelRfl
namespace Go.Proofs.YtcfaicomnngegaaDoor
/- THE CELL 'sum', in the pinned program and in every row, IS THE sha256 OF THE DUMP (.gsa) THAT YtcfaicomnngegaaDoorProg.lean LOADS. Nothing in Lean hashes anything: it is a label: what it is worth is what the hold of that sum in a sandbox is worth. -/
noncomputable def Tryd.pinned : Pinned := { name := "ytcfaicomnngegaadoor", sum := "cd1e2331b541f88e1a36c454d020fb899f520396a00416b7351ce1f70e3f3258", checked := Tryd.checked }
namespace Rows
def none {H : Type} : Left H := { results := [], args := [] }

/- WHAT THE LISTED PACKAGE-LEVEL VARIABLES READ AS WHEN THE CALL BEGINS. Each datum BY PROGRAM (the guide's laid-datum.mjs) off the statement by which the dump's own 'gosem.cut.vars' lays the variable. In a bare row this is a premise. The card (YtcfaicomnngegaaDoorCards.lean) ties it to the program's text. -/
def laid_unicode_utf8_acceptRanges {H : Type} : DataW H := .agg [.agg [.lit (.int .u8 128), .lit (.int .u8 191)], .agg [.lit (.int .u8 160), .lit (.int .u8 191)], .agg [.lit (.int .u8 128), .lit (.int .u8 159)], .agg [.lit (.int .u8 144), .lit (.int .u8 191)], .agg [.lit (.int .u8 128), .lit (.int .u8 143)], .agg [.lit (.int .u8 0), .lit (.int .u8 0)], .agg [.lit (.int .u8 0), .lit (.int .u8 0)], .agg [.lit (.int .u8 0), .lit (.int .u8 0)], .agg [.lit (.int .u8 0), .lit (.int .u8 0)], .agg [.lit (.int .u8 0), .lit (.int .u8 0)], .agg [.lit (.int .u8 0), .lit (.int .u8 0)], .agg [.lit (.int .u8 0), .lit (.int .u8 0)], .agg [.lit (.int .u8 0), .lit (.int .u8 0)], .agg [.lit (.int .u8 0), .lit (.int .u8 0)], .agg [.lit (.int .u8 0), .lit (.int .u8 0)], .agg [.lit (.int .u8 0), .lit (.int .u8 0)]]
/-- One of Go's own tables, pinned by name: the form's constant. -/
def laid_unicode_utf8_first : DataW Unit := Go.Pinned.utf8First

/-- 'packhorselaw28.JudgeOne': WHATEVER THE INPUT: true; the input reads as it did. -/
def judgeOneSpec : ChangeSpec := { name := "judgeOne", fn := fun _ => fun
  | [d1, d2, d3, d4] => { results := [.lit (.bool true)], args := [d1, d2, d3, d4] }
  | _ => none }
def judgeOneRow : OpenClaim := { program := "ytcfaicomnngegaadoor", sum := "cd1e2331b541f88e1a36c454d020fb899f520396a00416b7351ce1f70e3f3258", func := "packhorse/packhorselaw28.JudgeOne", spec := "judgeOne", unfollowed := true, recurses := true, named := ["unicode/utf8.first", "unicode/utf8.acceptRanges"], apart := false, laid := [("unicode/utf8.acceptRanges", laid_unicode_utf8_acceptRanges), ("unicode/utf8.first", laid_unicode_utf8_first)] }
def JudgeOneSaid : Prop := judgeOneRow.holds Tryd.pinned (OpenSpec.ofChange judgeOneSpec)

/-- ITS FALSE NEIGHBOUR: 'it returns false'. Refute it at one input. -/
def judgeOneWrong : ChangeSpec := { name := "judgeOne", fn := fun _ => fun
  | [d1, d2, d3, d4] => { results := [.lit (.bool false)], args := [d1, d2, d3, d4] }
  | _ => none }
def JudgeOneWrongFalsely : Prop := judgeOneRow.holds Tryd.pinned (OpenSpec.ofChange judgeOneWrong)

/-- 'packhorselaw28.JudgeRows': WHATEVER THE INPUT: true; the input reads as it did. -/
def judgeRowsSpec : ChangeSpec := { name := "judgeRows", fn := fun _ => fun
  | [d1, d2, d3, d4, d5] => { results := [.lit (.bool true)], args := [d1, d2, d3, d4, d5] }
  | _ => none }
def judgeRowsRow : OpenClaim := { program := "ytcfaicomnngegaadoor", sum := "cd1e2331b541f88e1a36c454d020fb899f520396a00416b7351ce1f70e3f3258", func := "packhorse/packhorselaw28.JudgeRows", spec := "judgeRows", unfollowed := true, recurses := true, named := ["unicode/utf8.first", "unicode/utf8.acceptRanges"], apart := false, laid := [("unicode/utf8.acceptRanges", laid_unicode_utf8_acceptRanges), ("unicode/utf8.first", laid_unicode_utf8_first)] }
def JudgeRowsSaid : Prop := judgeRowsRow.holds Tryd.pinned (OpenSpec.ofChange judgeRowsSpec)

/-- ITS FALSE NEIGHBOUR: 'it returns false'. Refute it at one input. -/
def judgeRowsWrong : ChangeSpec := { name := "judgeRows", fn := fun _ => fun
  | [d1, d2, d3, d4, d5] => { results := [.lit (.bool false)], args := [d1, d2, d3, d4, d5] }
  | _ => none }
def JudgeRowsWrongFalsely : Prop := judgeRowsRow.holds Tryd.pinned (OpenSpec.ofChange judgeRowsWrong)

/-- 'packhorselaw28.JudgeLists': WHATEVER THE INPUT: true; the input reads as it did. -/
def judgeListsSpec : ChangeSpec := { name := "judgeLists", fn := fun _ => fun
  | [d] => { results := [.lit (.bool true)], args := [d] }
  | _ => none }
def judgeListsRow : OpenClaim := { program := "ytcfaicomnngegaadoor", sum := "cd1e2331b541f88e1a36c454d020fb899f520396a00416b7351ce1f70e3f3258", func := "packhorse/packhorselaw28.JudgeLists", spec := "judgeLists", unfollowed := true, recurses := true, named := ["unicode/utf8.first", "unicode/utf8.acceptRanges"], apart := false, laid := [("unicode/utf8.acceptRanges", laid_unicode_utf8_acceptRanges), ("unicode/utf8.first", laid_unicode_utf8_first)] }
def JudgeListsSaid : Prop := judgeListsRow.holds Tryd.pinned (OpenSpec.ofChange judgeListsSpec)

/-- ITS FALSE NEIGHBOUR: 'it returns false'. Refute it at one input. -/
def judgeListsWrong : ChangeSpec := { name := "judgeLists", fn := fun _ => fun
  | [d] => { results := [.lit (.bool false)], args := [d] }
  | _ => none }
def JudgeListsWrongFalsely : Prop := judgeListsRow.holds Tryd.pinned (OpenSpec.ofChange judgeListsWrong)

/-- 'packhorselaw28.JudgePairs': WHATEVER THE INPUT: true; the input reads as it did. -/
def judgePairsSpec : ChangeSpec := { name := "judgePairs", fn := fun _ => fun
  | [d1, d2, d3] => { results := [.lit (.bool true)], args := [d1, d2, d3] }
  | _ => none }
def judgePairsRow : OpenClaim := { program := "ytcfaicomnngegaadoor", sum := "cd1e2331b541f88e1a36c454d020fb899f520396a00416b7351ce1f70e3f3258", func := "packhorse/packhorselaw28.JudgePairs", spec := "judgePairs", unfollowed := true, recurses := true, named := ["unicode/utf8.first", "unicode/utf8.acceptRanges"], apart := false, laid := [("unicode/utf8.acceptRanges", laid_unicode_utf8_acceptRanges), ("unicode/utf8.first", laid_unicode_utf8_first)] }
def JudgePairsSaid : Prop := judgePairsRow.holds Tryd.pinned (OpenSpec.ofChange judgePairsSpec)

/-- ITS FALSE NEIGHBOUR: 'it returns false'. Refute it at one input. -/
def judgePairsWrong : ChangeSpec := { name := "judgePairs", fn := fun _ => fun
  | [d1, d2, d3] => { results := [.lit (.bool false)], args := [d1, d2, d3] }
  | _ => none }
def JudgePairsWrongFalsely : Prop := judgePairsRow.holds Tryd.pinned (OpenSpec.ofChange judgePairsWrong)

/- THE SECOND FORM. 'bulk': how many values and letters a reading holds, each counted each time it is reached (what is shared counts as often as it is met; a slice's spare places count too). A statement '..UptoSaid' is the law's where the arguments, and the package variables that the reading takes, are together of bulk at most 1048576: NARROWER than '..Said'. Prove '..Said' where nothing that the law and all that it calls make is longer than what came in: it says more and counts as full. Else prove '..UptoSaid'. A law counts once. -/
mutual
def uptoBulk {H : Type} : DataW H → Nat
  | .lit (.string bytes) => bytes.length + 1
  | .lit _ => 1
  | .nil => 1
  | .ptr d => uptoBulk d + 1
  | .slice elems spare => uptoBulkAll elems + uptoBulkAll spare + 1
  | .agg parts => uptoBulkAll parts + 1
  | .iface _ d => uptoBulk d + 1
  | .map entries => uptoBulkEntries entries + 1
  | .held _ => 1
def uptoBulkAll {H : Type} : List (DataW H) → Nat
  | [] => 0
  | d :: r => uptoBulk d + uptoBulkAll r
def uptoBulkEntries {H : Type} : List (Lit × DataW H) → Nat
  | [] => 0
  | x :: r => uptoBulkEntry x + uptoBulkEntries r
def uptoBulkEntry {H : Type} : Lit × DataW H → Nat
  | (.string bytes, d) => bytes.length + uptoBulk d + 1
  | (_, d) => uptoBulk d + 1
 end
def uptoSmall : (H : Type) → List (DataW H) → Bool := fun _ ds => decide (uptoBulkAll ds ≤ 1048576)
def OpenSpec.upto (s : _root_.Go.ChangeSpec) : _root_.Go.OpenSpec := { _root_.Go.OpenSpec.ofChange s with cond := some uptoSmall }

/-- 'packhorselaw28.JudgeOne', WHERE WHAT IT READS IS OF BULK AT MOST 1048576: true; the input reads as it did. -/
def judgeOneUptoRow : OpenClaim := { program := "ytcfaicomnngegaadoor", sum := "cd1e2331b541f88e1a36c454d020fb899f520396a00416b7351ce1f70e3f3258", func := "packhorse/packhorselaw28.JudgeOne", spec := "judgeOne", unfollowed := true, recurses := true, named := ["unicode/utf8.first", "unicode/utf8.acceptRanges"], apart := false, laid := [("unicode/utf8.acceptRanges", laid_unicode_utf8_acceptRanges), ("unicode/utf8.first", laid_unicode_utf8_first)], narrowed := true }
def JudgeOneUptoSaid : Prop := judgeOneUptoRow.holds Tryd.pinned (OpenSpec.upto judgeOneSpec)

/-- 'packhorselaw28.JudgeRows', WHERE WHAT IT READS IS OF BULK AT MOST 1048576: true; the input reads as it did. -/
def judgeRowsUptoRow : OpenClaim := { program := "ytcfaicomnngegaadoor", sum := "cd1e2331b541f88e1a36c454d020fb899f520396a00416b7351ce1f70e3f3258", func := "packhorse/packhorselaw28.JudgeRows", spec := "judgeRows", unfollowed := true, recurses := true, named := ["unicode/utf8.first", "unicode/utf8.acceptRanges"], apart := false, laid := [("unicode/utf8.acceptRanges", laid_unicode_utf8_acceptRanges), ("unicode/utf8.first", laid_unicode_utf8_first)], narrowed := true }
def JudgeRowsUptoSaid : Prop := judgeRowsUptoRow.holds Tryd.pinned (OpenSpec.upto judgeRowsSpec)

/-- 'packhorselaw28.JudgeLists', WHERE WHAT IT READS IS OF BULK AT MOST 1048576: true; the input reads as it did. -/
def judgeListsUptoRow : OpenClaim := { program := "ytcfaicomnngegaadoor", sum := "cd1e2331b541f88e1a36c454d020fb899f520396a00416b7351ce1f70e3f3258", func := "packhorse/packhorselaw28.JudgeLists", spec := "judgeLists", unfollowed := true, recurses := true, named := ["unicode/utf8.first", "unicode/utf8.acceptRanges"], apart := false, laid := [("unicode/utf8.acceptRanges", laid_unicode_utf8_acceptRanges), ("unicode/utf8.first", laid_unicode_utf8_first)], narrowed := true }
def JudgeListsUptoSaid : Prop := judgeListsUptoRow.holds Tryd.pinned (OpenSpec.upto judgeListsSpec)

/-- 'packhorselaw28.JudgePairs', WHERE WHAT IT READS IS OF BULK AT MOST 1048576: true; the input reads as it did. -/
def judgePairsUptoRow : OpenClaim := { program := "ytcfaicomnngegaadoor", sum := "cd1e2331b541f88e1a36c454d020fb899f520396a00416b7351ce1f70e3f3258", func := "packhorse/packhorselaw28.JudgePairs", spec := "judgePairs", unfollowed := true, recurses := true, named := ["unicode/utf8.first", "unicode/utf8.acceptRanges"], apart := false, laid := [("unicode/utf8.acceptRanges", laid_unicode_utf8_acceptRanges), ("unicode/utf8.first", laid_unicode_utf8_first)], narrowed := true }
def JudgePairsUptoSaid : Prop := judgePairsUptoRow.holds Tryd.pinned (OpenSpec.upto judgePairsSpec)

end Rows
end Go.Proofs.YtcfaicomnngegaaDoor
