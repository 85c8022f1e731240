/-
  NARROWER THAN 'FOR EVERY INPUT', by the rows' own cells (each row's printed sentence says how): TopVoteOnce: laid · TopCas: laid · TopReplay: laid · TopEveryFollower: laid · TopBusy: laid · TopSnapClient: laid.
  DERIVED. THE GIVEN ROWS OF THIS SEAT. 6 by the template 'for every input the law returns true; each argument reads behind the call as it read before'; 0 by the template 'total and deterministic' (their statements: YtgpbngfehfbndaaGreatDoorTotals.lean).
  GIVEN WITH THE SEED: the statements are not yours to turn. If you find one false, say at which input.
  Laid BY PROGRAM, IN A SANDBOX (cutbox-rows.mjs): the forced cells as the released guide's own fill.sh prints them over the translation 82e882e9028c1496… (all of the seat's roots in one cut). By AI agents, Wed Nov 11 2026. No macro, syntax, notation, axiom, sorry.
-/
import Derived.Test.YtgpbngfehfbndaaGreatDoorChecked
import GoSem.PinnedTables
import GoSem.Claim
import GoSem.ClaimJoined
import GoSem.ClaimMapViews
import Derived.JoinedTies
import Derived.KernelRfl
namespace Go.Proofs.YtgpbngfehfbndaaGreatDoor
/- THE CELL 'sum', in the pinned program and in every row, IS THE sha256 OF THE DUMP (.gsa) THAT YtgpbngfehfbndaaGreatDoorProg.lean LOADS. Nothing in Lean hashes anything: it is a label: what it is worth is what the hold of that sum in a sandbox is worth. -/
noncomputable def Tryz.pinned : Pinned := { name := "ytgpbngfehfbndaagreatdoor", sum := "82e882e9028c1496672e847202655beafed142c3677d256c0cb250ce5250a57c", checked := Tryz.checked }
namespace Rows
def none {H : Type} : Left H := { results := [], args := [] }

/- WHAT THE LISTED PACKAGE-LEVEL VARIABLES READ AS WHEN THE CALL BEGINS. Each datum BY PROGRAM (the guide's laid-datum.mjs) off the statement by which the dump's own 'gosem.cut.vars' lays the variable. In a bare row this is a premise. The card (YtgpbngfehfbndaaGreatDoorCards.lean) ties it to the program's text. -/
def laid_unicode_utf8_acceptRanges {H : Type} : DataW H := .agg [.agg [.lit (.int .u8 128), .lit (.int .u8 191)], .agg [.lit (.int .u8 160), .lit (.int .u8 191)], .agg [.lit (.int .u8 128), .lit (.int .u8 159)], .agg [.lit (.int .u8 144), .lit (.int .u8 191)], .agg [.lit (.int .u8 128), .lit (.int .u8 143)], .agg [.lit (.int .u8 0), .lit (.int .u8 0)], .agg [.lit (.int .u8 0), .lit (.int .u8 0)], .agg [.lit (.int .u8 0), .lit (.int .u8 0)], .agg [.lit (.int .u8 0), .lit (.int .u8 0)], .agg [.lit (.int .u8 0), .lit (.int .u8 0)], .agg [.lit (.int .u8 0), .lit (.int .u8 0)], .agg [.lit (.int .u8 0), .lit (.int .u8 0)], .agg [.lit (.int .u8 0), .lit (.int .u8 0)], .agg [.lit (.int .u8 0), .lit (.int .u8 0)], .agg [.lit (.int .u8 0), .lit (.int .u8 0)], .agg [.lit (.int .u8 0), .lit (.int .u8 0)]]
/-- One of Go's own tables, pinned by name: the form's constant. -/
def laid_unicode_utf8_first : DataW Unit := Go.Pinned.utf8First

/-- 'packhorsetop.TopVoteOnce': WHATEVER THE INPUT: true; the input reads as it did. -/
def topVoteOnceSpec : ChangeSpec := { name := "topVoteOnce", fn := fun _ => fun
  | [d1, d2] => { results := [.lit (.bool true)], args := [d1, d2] }
  | _ => none }
def topVoteOnceRow : OpenClaim := { program := "ytgpbngfehfbndaagreatdoor", sum := "82e882e9028c1496672e847202655beafed142c3677d256c0cb250ce5250a57c", func := "packhorse/packhorsetop.TopVoteOnce", spec := "topVoteOnce", unfollowed := true, recurses := true, named := ["unicode/utf8.first", "unicode/utf8.acceptRanges"], apart := false, laid := [("unicode/utf8.acceptRanges", laid_unicode_utf8_acceptRanges), ("unicode/utf8.first", laid_unicode_utf8_first)] }
def TopVoteOnceSaid : Prop := topVoteOnceRow.holds Tryz.pinned (OpenSpec.ofChange topVoteOnceSpec)

/-- ITS FALSE NEIGHBOUR: 'it returns false'. Refute it at one input. -/
def topVoteOnceWrong : ChangeSpec := { name := "topVoteOnce", fn := fun _ => fun
  | [d1, d2] => { results := [.lit (.bool false)], args := [d1, d2] }
  | _ => none }
def TopVoteOnceWrongFalsely : Prop := topVoteOnceRow.holds Tryz.pinned (OpenSpec.ofChange topVoteOnceWrong)

/-- 'packhorsetop.TopCas': WHATEVER THE INPUT: true; the input reads as it did. -/
def topCasSpec : ChangeSpec := { name := "topCas", fn := fun _ => fun
  | [d] => { results := [.lit (.bool true)], args := [d] }
  | _ => none }
def topCasRow : OpenClaim := { program := "ytgpbngfehfbndaagreatdoor", sum := "82e882e9028c1496672e847202655beafed142c3677d256c0cb250ce5250a57c", func := "packhorse/packhorsetop.TopCas", spec := "topCas", unfollowed := true, recurses := true, named := ["unicode/utf8.first", "unicode/utf8.acceptRanges"], apart := false, laid := [("unicode/utf8.acceptRanges", laid_unicode_utf8_acceptRanges), ("unicode/utf8.first", laid_unicode_utf8_first)] }
def TopCasSaid : Prop := topCasRow.holds Tryz.pinned (OpenSpec.ofChange topCasSpec)

/-- ITS FALSE NEIGHBOUR: 'it returns false'. Refute it at one input. -/
def topCasWrong : ChangeSpec := { name := "topCas", fn := fun _ => fun
  | [d] => { results := [.lit (.bool false)], args := [d] }
  | _ => none }
def TopCasWrongFalsely : Prop := topCasRow.holds Tryz.pinned (OpenSpec.ofChange topCasWrong)

/-- 'packhorsetop.TopReplay': WHATEVER THE INPUT: true; the input reads as it did. -/
def topReplaySpec : ChangeSpec := { name := "topReplay", fn := fun _ => fun
  | [d] => { results := [.lit (.bool true)], args := [d] }
  | _ => none }
def topReplayRow : OpenClaim := { program := "ytgpbngfehfbndaagreatdoor", sum := "82e882e9028c1496672e847202655beafed142c3677d256c0cb250ce5250a57c", func := "packhorse/packhorsetop.TopReplay", spec := "topReplay", unfollowed := true, recurses := true, named := ["unicode/utf8.first", "unicode/utf8.acceptRanges"], apart := false, laid := [("unicode/utf8.acceptRanges", laid_unicode_utf8_acceptRanges), ("unicode/utf8.first", laid_unicode_utf8_first)] }
def TopReplaySaid : Prop := topReplayRow.holds Tryz.pinned (OpenSpec.ofChange topReplaySpec)

/-- ITS FALSE NEIGHBOUR: 'it returns false'. Refute it at one input. -/
def topReplayWrong : ChangeSpec := { name := "topReplay", fn := fun _ => fun
  | [d] => { results := [.lit (.bool false)], args := [d] }
  | _ => none }
def TopReplayWrongFalsely : Prop := topReplayRow.holds Tryz.pinned (OpenSpec.ofChange topReplayWrong)

/-- 'packhorsetop.TopEveryFollower': WHATEVER THE INPUT: true; the input reads as it did. -/
def topEveryFollowerSpec : ChangeSpec := { name := "topEveryFollower", fn := fun _ => fun
  | [d1, d2] => { results := [.lit (.bool true)], args := [d1, d2] }
  | _ => none }
def topEveryFollowerRow : OpenClaim := { program := "ytgpbngfehfbndaagreatdoor", sum := "82e882e9028c1496672e847202655beafed142c3677d256c0cb250ce5250a57c", func := "packhorse/packhorsetop.TopEveryFollower", spec := "topEveryFollower", unfollowed := true, recurses := true, named := ["unicode/utf8.first", "unicode/utf8.acceptRanges"], apart := false, laid := [("unicode/utf8.acceptRanges", laid_unicode_utf8_acceptRanges), ("unicode/utf8.first", laid_unicode_utf8_first)] }
def TopEveryFollowerSaid : Prop := topEveryFollowerRow.holds Tryz.pinned (OpenSpec.ofChange topEveryFollowerSpec)

/-- ITS FALSE NEIGHBOUR: 'it returns false'. Refute it at one input. -/
def topEveryFollowerWrong : ChangeSpec := { name := "topEveryFollower", fn := fun _ => fun
  | [d1, d2] => { results := [.lit (.bool false)], args := [d1, d2] }
  | _ => none }
def TopEveryFollowerWrongFalsely : Prop := topEveryFollowerRow.holds Tryz.pinned (OpenSpec.ofChange topEveryFollowerWrong)

/-- 'packhorsetop.TopBusy': WHATEVER THE INPUT: true; the input reads as it did. -/
def topBusySpec : ChangeSpec := { name := "topBusy", fn := fun _ => fun
  | [d] => { results := [.lit (.bool true)], args := [d] }
  | _ => none }
def topBusyRow : OpenClaim := { program := "ytgpbngfehfbndaagreatdoor", sum := "82e882e9028c1496672e847202655beafed142c3677d256c0cb250ce5250a57c", func := "packhorse/packhorsetop.TopBusy", spec := "topBusy", unfollowed := true, recurses := true, named := ["unicode/utf8.first", "unicode/utf8.acceptRanges"], apart := false, laid := [("unicode/utf8.acceptRanges", laid_unicode_utf8_acceptRanges), ("unicode/utf8.first", laid_unicode_utf8_first)] }
def TopBusySaid : Prop := topBusyRow.holds Tryz.pinned (OpenSpec.ofChange topBusySpec)

/-- ITS FALSE NEIGHBOUR: 'it returns false'. Refute it at one input. -/
def topBusyWrong : ChangeSpec := { name := "topBusy", fn := fun _ => fun
  | [d] => { results := [.lit (.bool false)], args := [d] }
  | _ => none }
def TopBusyWrongFalsely : Prop := topBusyRow.holds Tryz.pinned (OpenSpec.ofChange topBusyWrong)

/-- 'packhorsetop.TopSnapClient': WHATEVER THE INPUT: true; the input reads as it did. -/
def topSnapClientSpec : ChangeSpec := { name := "topSnapClient", fn := fun _ => fun
  | [d] => { results := [.lit (.bool true)], args := [d] }
  | _ => none }
def topSnapClientRow : OpenClaim := { program := "ytgpbngfehfbndaagreatdoor", sum := "82e882e9028c1496672e847202655beafed142c3677d256c0cb250ce5250a57c", func := "packhorse/packhorsetop.TopSnapClient", spec := "topSnapClient", unfollowed := true, recurses := true, named := ["unicode/utf8.first", "unicode/utf8.acceptRanges"], apart := false, laid := [("unicode/utf8.acceptRanges", laid_unicode_utf8_acceptRanges), ("unicode/utf8.first", laid_unicode_utf8_first)] }
def TopSnapClientSaid : Prop := topSnapClientRow.holds Tryz.pinned (OpenSpec.ofChange topSnapClientSpec)

/-- ITS FALSE NEIGHBOUR: 'it returns false'. Refute it at one input. -/
def topSnapClientWrong : ChangeSpec := { name := "topSnapClient", fn := fun _ => fun
  | [d] => { results := [.lit (.bool false)], args := [d] }
  | _ => none }
def TopSnapClientWrongFalsely : Prop := topSnapClientRow.holds Tryz.pinned (OpenSpec.ofChange topSnapClientWrong)

/- THE SECOND FORM. 'bulk': how many values and letters a reading holds, each counted each time it is reached (what is shared counts as often as it is met; a slice's spare places count too). A statement '..UptoSaid' is the law's where the arguments, and the package variables that the reading takes, are together of bulk at most 1048576: NARROWER than '..Said'. Prove '..Said' where nothing that the law and all that it calls make is longer than what came in: it says more and counts as full. Else prove '..UptoSaid'. A law counts once. -/
mutual
def uptoBulk {H : Type} : DataW H → Nat
  | .lit (.string bytes) => bytes.length + 1
  | .lit _ => 1
  | .nil => 1
  | .ptr d => uptoBulk d + 1
  | .slice elems spare => uptoBulkAll elems + uptoBulkAll spare + 1
  | .agg parts => uptoBulkAll parts + 1
  | .iface _ d => uptoBulk d + 1
  | .map entries => uptoBulkEntries entries + 1
  | .held _ => 1
def uptoBulkAll {H : Type} : List (DataW H) → Nat
  | [] => 0
  | d :: r => uptoBulk d + uptoBulkAll r
def uptoBulkEntries {H : Type} : List (Lit × DataW H) → Nat
  | [] => 0
  | x :: r => uptoBulkEntry x + uptoBulkEntries r
def uptoBulkEntry {H : Type} : Lit × DataW H → Nat
  | (.string bytes, d) => bytes.length + uptoBulk d + 1
  | (_, d) => uptoBulk d + 1
 end
def uptoSmall : (H : Type) → List (DataW H) → Bool := fun _ ds => decide (uptoBulkAll ds ≤ 1048576)
def OpenSpec.upto (s : _root_.Go.ChangeSpec) : _root_.Go.OpenSpec := { _root_.Go.OpenSpec.ofChange s with cond := some uptoSmall }

/-- 'packhorsetop.TopVoteOnce', WHERE WHAT IT READS IS OF BULK AT MOST 1048576: true; the input reads as it did. -/
def topVoteOnceUptoRow : OpenClaim := { program := "ytgpbngfehfbndaagreatdoor", sum := "82e882e9028c1496672e847202655beafed142c3677d256c0cb250ce5250a57c", func := "packhorse/packhorsetop.TopVoteOnce", spec := "topVoteOnce", unfollowed := true, recurses := true, named := ["unicode/utf8.first", "unicode/utf8.acceptRanges"], apart := false, laid := [("unicode/utf8.acceptRanges", laid_unicode_utf8_acceptRanges), ("unicode/utf8.first", laid_unicode_utf8_first)], narrowed := true }
def TopVoteOnceUptoSaid : Prop := topVoteOnceUptoRow.holds Tryz.pinned (OpenSpec.upto topVoteOnceSpec)

/-- 'packhorsetop.TopCas', WHERE WHAT IT READS IS OF BULK AT MOST 1048576: true; the input reads as it did. -/
def topCasUptoRow : OpenClaim := { program := "ytgpbngfehfbndaagreatdoor", sum := "82e882e9028c1496672e847202655beafed142c3677d256c0cb250ce5250a57c", func := "packhorse/packhorsetop.TopCas", spec := "topCas", unfollowed := true, recurses := true, named := ["unicode/utf8.first", "unicode/utf8.acceptRanges"], apart := false, laid := [("unicode/utf8.acceptRanges", laid_unicode_utf8_acceptRanges), ("unicode/utf8.first", laid_unicode_utf8_first)], narrowed := true }
def TopCasUptoSaid : Prop := topCasUptoRow.holds Tryz.pinned (OpenSpec.upto topCasSpec)

/-- 'packhorsetop.TopReplay', WHERE WHAT IT READS IS OF BULK AT MOST 1048576: true; the input reads as it did. -/
def topReplayUptoRow : OpenClaim := { program := "ytgpbngfehfbndaagreatdoor", sum := "82e882e9028c1496672e847202655beafed142c3677d256c0cb250ce5250a57c", func := "packhorse/packhorsetop.TopReplay", spec := "topReplay", unfollowed := true, recurses := true, named := ["unicode/utf8.first", "unicode/utf8.acceptRanges"], apart := false, laid := [("unicode/utf8.acceptRanges", laid_unicode_utf8_acceptRanges), ("unicode/utf8.first", laid_unicode_utf8_first)], narrowed := true }
def TopReplayUptoSaid : Prop := topReplayUptoRow.holds Tryz.pinned (OpenSpec.upto topReplaySpec)

/-- 'packhorsetop.TopEveryFollower', WHERE WHAT IT READS IS OF BULK AT MOST 1048576: true; the input reads as it did. -/
def topEveryFollowerUptoRow : OpenClaim := { program := "ytgpbngfehfbndaagreatdoor", sum := "82e882e9028c1496672e847202655beafed142c3677d256c0cb250ce5250a57c", func := "packhorse/packhorsetop.TopEveryFollower", spec := "topEveryFollower", unfollowed := true, recurses := true, named := ["unicode/utf8.first", "unicode/utf8.acceptRanges"], apart := false, laid := [("unicode/utf8.acceptRanges", laid_unicode_utf8_acceptRanges), ("unicode/utf8.first", laid_unicode_utf8_first)], narrowed := true }
def TopEveryFollowerUptoSaid : Prop := topEveryFollowerUptoRow.holds Tryz.pinned (OpenSpec.upto topEveryFollowerSpec)

/-- 'packhorsetop.TopBusy', WHERE WHAT IT READS IS OF BULK AT MOST 1048576: true; the input reads as it did. -/
def topBusyUptoRow : OpenClaim := { program := "ytgpbngfehfbndaagreatdoor", sum := "82e882e9028c1496672e847202655beafed142c3677d256c0cb250ce5250a57c", func := "packhorse/packhorsetop.TopBusy", spec := "topBusy", unfollowed := true, recurses := true, named := ["unicode/utf8.first", "unicode/utf8.acceptRanges"], apart := false, laid := [("unicode/utf8.acceptRanges", laid_unicode_utf8_acceptRanges), ("unicode/utf8.first", laid_unicode_utf8_first)], narrowed := true }
def TopBusyUptoSaid : Prop := topBusyUptoRow.holds Tryz.pinned (OpenSpec.upto topBusySpec)

/-- 'packhorsetop.TopSnapClient', WHERE WHAT IT READS IS OF BULK AT MOST 1048576: true; the input reads as it did. -/
def topSnapClientUptoRow : OpenClaim := { program := "ytgpbngfehfbndaagreatdoor", sum := "82e882e9028c1496672e847202655beafed142c3677d256c0cb250ce5250a57c", func := "packhorse/packhorsetop.TopSnapClient", spec := "topSnapClient", unfollowed := true, recurses := true, named := ["unicode/utf8.first", "unicode/utf8.acceptRanges"], apart := false, laid := [("unicode/utf8.acceptRanges", laid_unicode_utf8_acceptRanges), ("unicode/utf8.first", laid_unicode_utf8_first)], narrowed := true }
def TopSnapClientUptoSaid : Prop := topSnapClientUptoRow.holds Tryz.pinned (OpenSpec.upto topSnapClientSpec)

end Rows
end Go.Proofs.YtgpbngfehfbndaaGreatDoor
