/-
  NARROWER THAN 'FOR EVERY INPUT', by the rows' own cells (each row's printed sentence says how): OpMay: laid · BatchBytes: laid · BatchAny: laid · BatchLong: laid · BatchTwins: laid · BatchCut: laid · OpNeeds: laid.
  DERIVED. THE GIVEN ROWS OF THIS SEAT. 7 by the template 'for every input the law returns true; each argument reads behind the call as it read before'; 0 by the template 'total and deterministic' (their statements: YtfnmfofipcnojaaDoorTotals.lean).
  GIVEN WITH THE SEED: the statements are not yours to turn. If you find one false, say at which input.
  Laid BY PROGRAM, IN A SANDBOX (cutbox-rows.mjs): the forced cells as the released guide's own fill.sh prints them over the translation 20ebaf6053c7c21d… (all of the seat's roots in one cut). By AI agents, Wed Nov 11 2026. No macro, syntax, notation, axiom, sorry.
-/
import Derived.Test.YtfnmfofipcnojaaDoorChecked
import GoSem.PinnedTables
import GoSem.Claim
import GoSem.ClaimJoined
import GoSem.ClaimMapViews
import Derived.JoinedTies
import Derived.KernelRfl
namespace Go.Proofs.YtfnmfofipcnojaaDoor
/- THE CELL 'sum', in the pinned program and in every row, IS THE sha256 OF THE DUMP (.gsa) THAT YtfnmfofipcnojaaDoorProg.lean LOADS. Nothing in Lean hashes anything: it is a label: what it is worth is what the hold of that sum in a sandbox is worth. -/
noncomputable def Tryd.pinned : Pinned := { name := "ytfnmfofipcnojaadoor", sum := "20ebaf6053c7c21da28c29be506095fdbe2c5c14d1104dae5ca3ee077803c905", checked := Tryd.checked }
namespace Rows
def none {H : Type} : Left H := { results := [], args := [] }

/- WHAT THE LISTED PACKAGE-LEVEL VARIABLES READ AS WHEN THE CALL BEGINS. Each datum BY PROGRAM (the guide's laid-datum.mjs) off the statement by which the dump's own 'gosem.cut.vars' lays the variable. In a bare row this is a premise. The card (YtfnmfofipcnojaaDoorCards.lean) ties it to the program's text. -/
def laid_unicode_utf8_acceptRanges {H : Type} : DataW H := .agg [.agg [.lit (.int .u8 128), .lit (.int .u8 191)], .agg [.lit (.int .u8 160), .lit (.int .u8 191)], .agg [.lit (.int .u8 128), .lit (.int .u8 159)], .agg [.lit (.int .u8 144), .lit (.int .u8 191)], .agg [.lit (.int .u8 128), .lit (.int .u8 143)], .agg [.lit (.int .u8 0), .lit (.int .u8 0)], .agg [.lit (.int .u8 0), .lit (.int .u8 0)], .agg [.lit (.int .u8 0), .lit (.int .u8 0)], .agg [.lit (.int .u8 0), .lit (.int .u8 0)], .agg [.lit (.int .u8 0), .lit (.int .u8 0)], .agg [.lit (.int .u8 0), .lit (.int .u8 0)], .agg [.lit (.int .u8 0), .lit (.int .u8 0)], .agg [.lit (.int .u8 0), .lit (.int .u8 0)], .agg [.lit (.int .u8 0), .lit (.int .u8 0)], .agg [.lit (.int .u8 0), .lit (.int .u8 0)], .agg [.lit (.int .u8 0), .lit (.int .u8 0)]]
/-- One of Go's own tables, pinned by name: the form's constant. -/
def laid_unicode_utf8_first : DataW Unit := Go.Pinned.utf8First

/-- 'packhorselaw5.OpMay': WHATEVER THE INPUT: true; the input reads as it did. -/
def opMaySpec : ChangeSpec := { name := "opMay", fn := fun _ => fun
  | [d] => { results := [.lit (.bool true)], args := [d] }
  | _ => none }
def opMayRow : OpenClaim := { program := "ytfnmfofipcnojaadoor", sum := "20ebaf6053c7c21da28c29be506095fdbe2c5c14d1104dae5ca3ee077803c905", func := "packhorse/packhorselaw5.OpMay", spec := "opMay", named := ["unicode/utf8.first", "unicode/utf8.acceptRanges"], apart := false, laid := [("unicode/utf8.acceptRanges", laid_unicode_utf8_acceptRanges), ("unicode/utf8.first", laid_unicode_utf8_first)] }
def OpMaySaid : Prop := opMayRow.holds Tryd.pinned (OpenSpec.ofChange opMaySpec)

/-- ITS FALSE NEIGHBOUR: 'it returns false'. Refute it at one input. -/
def opMayWrong : ChangeSpec := { name := "opMay", fn := fun _ => fun
  | [d] => { results := [.lit (.bool false)], args := [d] }
  | _ => none }
def OpMayWrongFalsely : Prop := opMayRow.holds Tryd.pinned (OpenSpec.ofChange opMayWrong)

/-- 'packhorselaw5.BatchBytes': WHATEVER THE INPUT: true; the input reads as it did. -/
def batchBytesSpec : ChangeSpec := { name := "batchBytes", fn := fun _ => fun
  | [d1, d2, d3] => { results := [.lit (.bool true)], args := [d1, d2, d3] }
  | _ => none }
def batchBytesRow : OpenClaim := { program := "ytfnmfofipcnojaadoor", sum := "20ebaf6053c7c21da28c29be506095fdbe2c5c14d1104dae5ca3ee077803c905", func := "packhorse/packhorselaw5.BatchBytes", spec := "batchBytes", named := ["unicode/utf8.first", "unicode/utf8.acceptRanges"], apart := false, laid := [("unicode/utf8.acceptRanges", laid_unicode_utf8_acceptRanges), ("unicode/utf8.first", laid_unicode_utf8_first)] }
def BatchBytesSaid : Prop := batchBytesRow.holds Tryd.pinned (OpenSpec.ofChange batchBytesSpec)

/-- ITS FALSE NEIGHBOUR: 'it returns false'. Refute it at one input. -/
def batchBytesWrong : ChangeSpec := { name := "batchBytes", fn := fun _ => fun
  | [d1, d2, d3] => { results := [.lit (.bool false)], args := [d1, d2, d3] }
  | _ => none }
def BatchBytesWrongFalsely : Prop := batchBytesRow.holds Tryd.pinned (OpenSpec.ofChange batchBytesWrong)

/-- 'packhorselaw5.BatchAny': WHATEVER THE INPUT: true; the input reads as it did. -/
def batchAnySpec : ChangeSpec := { name := "batchAny", fn := fun _ => fun
  | [d] => { results := [.lit (.bool true)], args := [d] }
  | _ => none }
def batchAnyRow : OpenClaim := { program := "ytfnmfofipcnojaadoor", sum := "20ebaf6053c7c21da28c29be506095fdbe2c5c14d1104dae5ca3ee077803c905", func := "packhorse/packhorselaw5.BatchAny", spec := "batchAny", named := ["unicode/utf8.first", "unicode/utf8.acceptRanges"], apart := false, laid := [("unicode/utf8.acceptRanges", laid_unicode_utf8_acceptRanges), ("unicode/utf8.first", laid_unicode_utf8_first)] }
def BatchAnySaid : Prop := batchAnyRow.holds Tryd.pinned (OpenSpec.ofChange batchAnySpec)

/-- ITS FALSE NEIGHBOUR: 'it returns false'. Refute it at one input. -/
def batchAnyWrong : ChangeSpec := { name := "batchAny", fn := fun _ => fun
  | [d] => { results := [.lit (.bool false)], args := [d] }
  | _ => none }
def BatchAnyWrongFalsely : Prop := batchAnyRow.holds Tryd.pinned (OpenSpec.ofChange batchAnyWrong)

/-- 'packhorselaw5.BatchLong': WHATEVER THE INPUT: true; the input reads as it did. -/
def batchLongSpec : ChangeSpec := { name := "batchLong", fn := fun _ => fun
  | [d1, d2] => { results := [.lit (.bool true)], args := [d1, d2] }
  | _ => none }
def batchLongRow : OpenClaim := { program := "ytfnmfofipcnojaadoor", sum := "20ebaf6053c7c21da28c29be506095fdbe2c5c14d1104dae5ca3ee077803c905", func := "packhorse/packhorselaw5.BatchLong", spec := "batchLong", named := ["unicode/utf8.first", "unicode/utf8.acceptRanges"], apart := false, laid := [("unicode/utf8.acceptRanges", laid_unicode_utf8_acceptRanges), ("unicode/utf8.first", laid_unicode_utf8_first)] }
def BatchLongSaid : Prop := batchLongRow.holds Tryd.pinned (OpenSpec.ofChange batchLongSpec)

/-- ITS FALSE NEIGHBOUR: 'it returns false'. Refute it at one input. -/
def batchLongWrong : ChangeSpec := { name := "batchLong", fn := fun _ => fun
  | [d1, d2] => { results := [.lit (.bool false)], args := [d1, d2] }
  | _ => none }
def BatchLongWrongFalsely : Prop := batchLongRow.holds Tryd.pinned (OpenSpec.ofChange batchLongWrong)

/-- 'packhorselaw5.BatchTwins': WHATEVER THE INPUT: true; the input reads as it did. -/
def batchTwinsSpec : ChangeSpec := { name := "batchTwins", fn := fun _ => fun
  | [d1, d2] => { results := [.lit (.bool true)], args := [d1, d2] }
  | _ => none }
def batchTwinsRow : OpenClaim := { program := "ytfnmfofipcnojaadoor", sum := "20ebaf6053c7c21da28c29be506095fdbe2c5c14d1104dae5ca3ee077803c905", func := "packhorse/packhorselaw5.BatchTwins", spec := "batchTwins", named := ["unicode/utf8.first", "unicode/utf8.acceptRanges"], apart := false, laid := [("unicode/utf8.acceptRanges", laid_unicode_utf8_acceptRanges), ("unicode/utf8.first", laid_unicode_utf8_first)] }
def BatchTwinsSaid : Prop := batchTwinsRow.holds Tryd.pinned (OpenSpec.ofChange batchTwinsSpec)

/-- ITS FALSE NEIGHBOUR: 'it returns false'. Refute it at one input. -/
def batchTwinsWrong : ChangeSpec := { name := "batchTwins", fn := fun _ => fun
  | [d1, d2] => { results := [.lit (.bool false)], args := [d1, d2] }
  | _ => none }
def BatchTwinsWrongFalsely : Prop := batchTwinsRow.holds Tryd.pinned (OpenSpec.ofChange batchTwinsWrong)

/-- 'packhorselaw5.BatchCut': WHATEVER THE INPUT: true; the input reads as it did. -/
def batchCutSpec : ChangeSpec := { name := "batchCut", fn := fun _ => fun
  | [d1, d2, d3] => { results := [.lit (.bool true)], args := [d1, d2, d3] }
  | _ => none }
def batchCutRow : OpenClaim := { program := "ytfnmfofipcnojaadoor", sum := "20ebaf6053c7c21da28c29be506095fdbe2c5c14d1104dae5ca3ee077803c905", func := "packhorse/packhorselaw5.BatchCut", spec := "batchCut", named := ["unicode/utf8.first", "unicode/utf8.acceptRanges"], apart := false, laid := [("unicode/utf8.acceptRanges", laid_unicode_utf8_acceptRanges), ("unicode/utf8.first", laid_unicode_utf8_first)] }
def BatchCutSaid : Prop := batchCutRow.holds Tryd.pinned (OpenSpec.ofChange batchCutSpec)

/-- ITS FALSE NEIGHBOUR: 'it returns false'. Refute it at one input. -/
def batchCutWrong : ChangeSpec := { name := "batchCut", fn := fun _ => fun
  | [d1, d2, d3] => { results := [.lit (.bool false)], args := [d1, d2, d3] }
  | _ => none }
def BatchCutWrongFalsely : Prop := batchCutRow.holds Tryd.pinned (OpenSpec.ofChange batchCutWrong)

/-- 'packhorselaw5.OpNeeds': WHATEVER THE INPUT: true; the input reads as it did. -/
def opNeedsSpec : ChangeSpec := { name := "opNeeds", fn := fun _ => fun
  | [d1, d2, d3] => { results := [.lit (.bool true)], args := [d1, d2, d3] }
  | _ => none }
def opNeedsRow : OpenClaim := { program := "ytfnmfofipcnojaadoor", sum := "20ebaf6053c7c21da28c29be506095fdbe2c5c14d1104dae5ca3ee077803c905", func := "packhorse/packhorselaw5.OpNeeds", spec := "opNeeds", named := ["unicode/utf8.first", "unicode/utf8.acceptRanges"], apart := false, laid := [("unicode/utf8.acceptRanges", laid_unicode_utf8_acceptRanges), ("unicode/utf8.first", laid_unicode_utf8_first)] }
def OpNeedsSaid : Prop := opNeedsRow.holds Tryd.pinned (OpenSpec.ofChange opNeedsSpec)

/-- ITS FALSE NEIGHBOUR: 'it returns false'. Refute it at one input. -/
def opNeedsWrong : ChangeSpec := { name := "opNeeds", fn := fun _ => fun
  | [d1, d2, d3] => { results := [.lit (.bool false)], args := [d1, d2, d3] }
  | _ => none }
def OpNeedsWrongFalsely : Prop := opNeedsRow.holds Tryd.pinned (OpenSpec.ofChange opNeedsWrong)

/- THE SECOND FORM. 'bulk': how many values and letters a reading holds, each counted each time it is reached (what is shared counts as often as it is met; a slice's spare places count too). A statement '..UptoSaid' is the law's where the arguments, and the package variables that the reading takes, are together of bulk at most 1048576: NARROWER than '..Said'. Prove '..Said' where nothing that the law and all that it calls make is longer than what came in: it says more and counts as full. Else prove '..UptoSaid'. A law counts once. -/
mutual
def uptoBulk {H : Type} : DataW H → Nat
  | .lit (.string bytes) => bytes.length + 1
  | .lit _ => 1
  | .nil => 1
  | .ptr d => uptoBulk d + 1
  | .slice elems spare => uptoBulkAll elems + uptoBulkAll spare + 1
  | .agg parts => uptoBulkAll parts + 1
  | .iface _ d => uptoBulk d + 1
  | .map entries => uptoBulkEntries entries + 1
  | .held _ => 1
def uptoBulkAll {H : Type} : List (DataW H) → Nat
  | [] => 0
  | d :: r => uptoBulk d + uptoBulkAll r
def uptoBulkEntries {H : Type} : List (Lit × DataW H) → Nat
  | [] => 0
  | x :: r => uptoBulkEntry x + uptoBulkEntries r
def uptoBulkEntry {H : Type} : Lit × DataW H → Nat
  | (.string bytes, d) => bytes.length + uptoBulk d + 1
  | (_, d) => uptoBulk d + 1
 end
def uptoSmall : (H : Type) → List (DataW H) → Bool := fun _ ds => decide (uptoBulkAll ds ≤ 1048576)
def OpenSpec.upto (s : _root_.Go.ChangeSpec) : _root_.Go.OpenSpec := { _root_.Go.OpenSpec.ofChange s with cond := some uptoSmall }

/-- 'packhorselaw5.OpMay', WHERE WHAT IT READS IS OF BULK AT MOST 1048576: true; the input reads as it did. -/
def opMayUptoRow : OpenClaim := { program := "ytfnmfofipcnojaadoor", sum := "20ebaf6053c7c21da28c29be506095fdbe2c5c14d1104dae5ca3ee077803c905", func := "packhorse/packhorselaw5.OpMay", spec := "opMay", named := ["unicode/utf8.first", "unicode/utf8.acceptRanges"], apart := false, laid := [("unicode/utf8.acceptRanges", laid_unicode_utf8_acceptRanges), ("unicode/utf8.first", laid_unicode_utf8_first)], narrowed := true }
def OpMayUptoSaid : Prop := opMayUptoRow.holds Tryd.pinned (OpenSpec.upto opMaySpec)

/-- 'packhorselaw5.BatchBytes', WHERE WHAT IT READS IS OF BULK AT MOST 1048576: true; the input reads as it did. -/
def batchBytesUptoRow : OpenClaim := { program := "ytfnmfofipcnojaadoor", sum := "20ebaf6053c7c21da28c29be506095fdbe2c5c14d1104dae5ca3ee077803c905", func := "packhorse/packhorselaw5.BatchBytes", spec := "batchBytes", named := ["unicode/utf8.first", "unicode/utf8.acceptRanges"], apart := false, laid := [("unicode/utf8.acceptRanges", laid_unicode_utf8_acceptRanges), ("unicode/utf8.first", laid_unicode_utf8_first)], narrowed := true }
def BatchBytesUptoSaid : Prop := batchBytesUptoRow.holds Tryd.pinned (OpenSpec.upto batchBytesSpec)

/-- 'packhorselaw5.BatchAny', WHERE WHAT IT READS IS OF BULK AT MOST 1048576: true; the input reads as it did. -/
def batchAnyUptoRow : OpenClaim := { program := "ytfnmfofipcnojaadoor", sum := "20ebaf6053c7c21da28c29be506095fdbe2c5c14d1104dae5ca3ee077803c905", func := "packhorse/packhorselaw5.BatchAny", spec := "batchAny", named := ["unicode/utf8.first", "unicode/utf8.acceptRanges"], apart := false, laid := [("unicode/utf8.acceptRanges", laid_unicode_utf8_acceptRanges), ("unicode/utf8.first", laid_unicode_utf8_first)], narrowed := true }
def BatchAnyUptoSaid : Prop := batchAnyUptoRow.holds Tryd.pinned (OpenSpec.upto batchAnySpec)

/-- 'packhorselaw5.BatchLong', WHERE WHAT IT READS IS OF BULK AT MOST 1048576: true; the input reads as it did. -/
def batchLongUptoRow : OpenClaim := { program := "ytfnmfofipcnojaadoor", sum := "20ebaf6053c7c21da28c29be506095fdbe2c5c14d1104dae5ca3ee077803c905", func := "packhorse/packhorselaw5.BatchLong", spec := "batchLong", named := ["unicode/utf8.first", "unicode/utf8.acceptRanges"], apart := false, laid := [("unicode/utf8.acceptRanges", laid_unicode_utf8_acceptRanges), ("unicode/utf8.first", laid_unicode_utf8_first)], narrowed := true }
def BatchLongUptoSaid : Prop := batchLongUptoRow.holds Tryd.pinned (OpenSpec.upto batchLongSpec)

/-- 'packhorselaw5.BatchTwins', WHERE WHAT IT READS IS OF BULK AT MOST 1048576: true; the input reads as it did. -/
def batchTwinsUptoRow : OpenClaim := { program := "ytfnmfofipcnojaadoor", sum := "20ebaf6053c7c21da28c29be506095fdbe2c5c14d1104dae5ca3ee077803c905", func := "packhorse/packhorselaw5.BatchTwins", spec := "batchTwins", named := ["unicode/utf8.first", "unicode/utf8.acceptRanges"], apart := false, laid := [("unicode/utf8.acceptRanges", laid_unicode_utf8_acceptRanges), ("unicode/utf8.first", laid_unicode_utf8_first)], narrowed := true }
def BatchTwinsUptoSaid : Prop := batchTwinsUptoRow.holds Tryd.pinned (OpenSpec.upto batchTwinsSpec)

/-- 'packhorselaw5.BatchCut', WHERE WHAT IT READS IS OF BULK AT MOST 1048576: true; the input reads as it did. -/
def batchCutUptoRow : OpenClaim := { program := "ytfnmfofipcnojaadoor", sum := "20ebaf6053c7c21da28c29be506095fdbe2c5c14d1104dae5ca3ee077803c905", func := "packhorse/packhorselaw5.BatchCut", spec := "batchCut", named := ["unicode/utf8.first", "unicode/utf8.acceptRanges"], apart := false, laid := [("unicode/utf8.acceptRanges", laid_unicode_utf8_acceptRanges), ("unicode/utf8.first", laid_unicode_utf8_first)], narrowed := true }
def BatchCutUptoSaid : Prop := batchCutUptoRow.holds Tryd.pinned (OpenSpec.upto batchCutSpec)

/-- 'packhorselaw5.OpNeeds', WHERE WHAT IT READS IS OF BULK AT MOST 1048576: true; the input reads as it did. -/
def opNeedsUptoRow : OpenClaim := { program := "ytfnmfofipcnojaadoor", sum := "20ebaf6053c7c21da28c29be506095fdbe2c5c14d1104dae5ca3ee077803c905", func := "packhorse/packhorselaw5.OpNeeds", spec := "opNeeds", named := ["unicode/utf8.first", "unicode/utf8.acceptRanges"], apart := false, laid := [("unicode/utf8.acceptRanges", laid_unicode_utf8_acceptRanges), ("unicode/utf8.first", laid_unicode_utf8_first)], narrowed := true }
def OpNeedsUptoSaid : Prop := opNeedsUptoRow.holds Tryd.pinned (OpenSpec.upto opNeedsSpec)

end Rows
end Go.Proofs.YtfnmfofipcnojaaDoor
