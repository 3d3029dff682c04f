/-
  NARROWER THAN 'FOR EVERY INPUT', by the rows' own cells (each row's printed sentence says how): TopSharedFlows: laid · TopSharedConnections: laid · TopSharedSegments: laid · TopSharedShares: laid · TopSharedLabels: laid · TopSharedBlockings: laid · TopSharedFrames: laid · TopSharedTransactions: laid.
  DERIVED. THE GIVEN ROWS OF THIS SEAT. 8 by the template 'for every input the law returns true; each argument reads behind the call as it read before'; 0 by the template 'total and deterministic' (their statements: YtiecagflhhmfnaaDoorTotals.lean).
  GIVEN WITH THE SEED: the statements are not yours to turn. If you find one false, say at which input.
  Laid BY PROGRAM, IN A SANDBOX (cutbox-rows.mjs): the forced cells as the released guide's own fill.sh prints them over the translation ac29e4a8c4aeed87… (all of the seat's roots in one cut). By AI agents, Wed Nov 11 2026. No macro, syntax, notation, axiom, sorry.
-/
import Derived.Test.YtiecagflhhmfnaaDoorChecked
import GoSem.PinnedTables
import GoSem.Claim
import GoSem.ClaimJoined
import GoSem.ClaimMapViews
import Derived.JoinedTies
import Derived.KernelRfl
namespace Go.Proofs.YtiecagflhhmfnaaDoor
/- THE CELL 'sum', in the pinned program and in every row, IS THE sha256 OF THE DUMP (.gsa) THAT YtiecagflhhmfnaaDoorProg.lean LOADS. Nothing in Lean hashes anything: it is a label: what it is worth is what the hold of that sum in a sandbox is worth. -/
noncomputable def Tryd.pinned : Pinned := { name := "ytiecagflhhmfnaadoor", sum := "ac29e4a8c4aeed87054accfa14719d2d6b54c9352320f37514b2243c0190a2af", checked := Tryd.checked }
namespace Rows
def none {H : Type} : Left H := { results := [], args := [] }

/- WHAT THE LISTED PACKAGE-LEVEL VARIABLES READ AS WHEN THE CALL BEGINS. Each datum BY PROGRAM (the guide's laid-datum.mjs) off the statement by which the dump's own 'gosem.cut.vars' lays the variable. In a bare row this is a premise. The card (YtiecagflhhmfnaaDoorCards.lean) ties it to the program's text. -/
def laid_unicode_utf8_acceptRanges {H : Type} : DataW H := .agg [.agg [.lit (.int .u8 128), .lit (.int .u8 191)], .agg [.lit (.int .u8 160), .lit (.int .u8 191)], .agg [.lit (.int .u8 128), .lit (.int .u8 159)], .agg [.lit (.int .u8 144), .lit (.int .u8 191)], .agg [.lit (.int .u8 128), .lit (.int .u8 143)], .agg [.lit (.int .u8 0), .lit (.int .u8 0)], .agg [.lit (.int .u8 0), .lit (.int .u8 0)], .agg [.lit (.int .u8 0), .lit (.int .u8 0)], .agg [.lit (.int .u8 0), .lit (.int .u8 0)], .agg [.lit (.int .u8 0), .lit (.int .u8 0)], .agg [.lit (.int .u8 0), .lit (.int .u8 0)], .agg [.lit (.int .u8 0), .lit (.int .u8 0)], .agg [.lit (.int .u8 0), .lit (.int .u8 0)], .agg [.lit (.int .u8 0), .lit (.int .u8 0)], .agg [.lit (.int .u8 0), .lit (.int .u8 0)], .agg [.lit (.int .u8 0), .lit (.int .u8 0)]]
/-- One of Go's own tables, pinned by name: the form's constant. -/
def laid_unicode_utf8_first : DataW Unit := Go.Pinned.utf8First
def laid_pointcode_frames_flag {H : Type} : DataW H := .agg [.lit (.int .u8 0), .lit (.int .u8 1), .lit (.int .u8 1), .lit (.int .u8 1), .lit (.int .u8 1), .lit (.int .u8 1), .lit (.int .u8 1), .lit (.int .u8 0)]

/-- 'pointcodetop.TopSharedFlows': WHATEVER THE INPUT: true; the input reads as it did. -/
def topSharedFlowsSpec : ChangeSpec := { name := "topSharedFlows", fn := fun _ => fun
  | [d] => { results := [.lit (.bool true)], args := [d] }
  | _ => none }
def topSharedFlowsRow : OpenClaim := { program := "ytiecagflhhmfnaadoor", sum := "ac29e4a8c4aeed87054accfa14719d2d6b54c9352320f37514b2243c0190a2af", func := "pointcode/pointcodetop.TopSharedFlows", spec := "topSharedFlows", inPlace := ["internal/bytealg.IndexByteString", "internal/bytealg.IndexString"], unfollowed := true, recurses := true, named := ["unicode/utf8.first", "unicode/utf8.acceptRanges", "internal/bytealg.MaxLen"], apart := false, laid := [("unicode/utf8.acceptRanges", laid_unicode_utf8_acceptRanges), ("unicode/utf8.first", laid_unicode_utf8_first)] }
def TopSharedFlowsSaid : Prop := topSharedFlowsRow.holds Tryd.pinned (OpenSpec.ofChange topSharedFlowsSpec)

/-- ITS FALSE NEIGHBOUR: 'it returns false'. Refute it at one input. -/
def topSharedFlowsWrong : ChangeSpec := { name := "topSharedFlows", fn := fun _ => fun
  | [d] => { results := [.lit (.bool false)], args := [d] }
  | _ => none }
def TopSharedFlowsWrongFalsely : Prop := topSharedFlowsRow.holds Tryd.pinned (OpenSpec.ofChange topSharedFlowsWrong)

/-- 'pointcodetop.TopSharedConnections': WHATEVER THE INPUT: true; the input reads as it did. -/
def topSharedConnectionsSpec : ChangeSpec := { name := "topSharedConnections", fn := fun _ => fun
  | [d] => { results := [.lit (.bool true)], args := [d] }
  | _ => none }
def topSharedConnectionsRow : OpenClaim := { program := "ytiecagflhhmfnaadoor", sum := "ac29e4a8c4aeed87054accfa14719d2d6b54c9352320f37514b2243c0190a2af", func := "pointcode/pointcodetop.TopSharedConnections", spec := "topSharedConnections", inPlace := ["internal/bytealg.IndexByteString", "internal/bytealg.IndexString"], unfollowed := true, recurses := true, named := ["unicode/utf8.first", "unicode/utf8.acceptRanges", "internal/bytealg.MaxLen"], apart := false, laid := [("unicode/utf8.acceptRanges", laid_unicode_utf8_acceptRanges), ("unicode/utf8.first", laid_unicode_utf8_first)] }
def TopSharedConnectionsSaid : Prop := topSharedConnectionsRow.holds Tryd.pinned (OpenSpec.ofChange topSharedConnectionsSpec)

/-- ITS FALSE NEIGHBOUR: 'it returns false'. Refute it at one input. -/
def topSharedConnectionsWrong : ChangeSpec := { name := "topSharedConnections", fn := fun _ => fun
  | [d] => { results := [.lit (.bool false)], args := [d] }
  | _ => none }
def TopSharedConnectionsWrongFalsely : Prop := topSharedConnectionsRow.holds Tryd.pinned (OpenSpec.ofChange topSharedConnectionsWrong)

/-- 'pointcodetop.TopSharedSegments': WHATEVER THE INPUT: true; the input reads as it did. -/
def topSharedSegmentsSpec : ChangeSpec := { name := "topSharedSegments", fn := fun _ => fun
  | [d] => { results := [.lit (.bool true)], args := [d] }
  | _ => none }
def topSharedSegmentsRow : OpenClaim := { program := "ytiecagflhhmfnaadoor", sum := "ac29e4a8c4aeed87054accfa14719d2d6b54c9352320f37514b2243c0190a2af", func := "pointcode/pointcodetop.TopSharedSegments", spec := "topSharedSegments", inPlace := ["internal/bytealg.IndexByteString", "internal/bytealg.IndexString"], unfollowed := true, recurses := true, named := ["unicode/utf8.first", "unicode/utf8.acceptRanges", "internal/bytealg.MaxLen"], apart := false, laid := [("unicode/utf8.acceptRanges", laid_unicode_utf8_acceptRanges), ("unicode/utf8.first", laid_unicode_utf8_first)] }
def TopSharedSegmentsSaid : Prop := topSharedSegmentsRow.holds Tryd.pinned (OpenSpec.ofChange topSharedSegmentsSpec)

/-- ITS FALSE NEIGHBOUR: 'it returns false'. Refute it at one input. -/
def topSharedSegmentsWrong : ChangeSpec := { name := "topSharedSegments", fn := fun _ => fun
  | [d] => { results := [.lit (.bool false)], args := [d] }
  | _ => none }
def TopSharedSegmentsWrongFalsely : Prop := topSharedSegmentsRow.holds Tryd.pinned (OpenSpec.ofChange topSharedSegmentsWrong)

/-- 'pointcodetop.TopSharedShares': WHATEVER THE INPUT: true; the input reads as it did. -/
def topSharedSharesSpec : ChangeSpec := { name := "topSharedShares", fn := fun _ => fun
  | [d] => { results := [.lit (.bool true)], args := [d] }
  | _ => none }
def topSharedSharesRow : OpenClaim := { program := "ytiecagflhhmfnaadoor", sum := "ac29e4a8c4aeed87054accfa14719d2d6b54c9352320f37514b2243c0190a2af", func := "pointcode/pointcodetop.TopSharedShares", spec := "topSharedShares", inPlace := ["internal/bytealg.IndexByteString", "internal/bytealg.IndexString"], unfollowed := true, recurses := true, named := ["unicode/utf8.first", "unicode/utf8.acceptRanges", "internal/bytealg.MaxLen"], apart := false, laid := [("unicode/utf8.acceptRanges", laid_unicode_utf8_acceptRanges), ("unicode/utf8.first", laid_unicode_utf8_first)] }
def TopSharedSharesSaid : Prop := topSharedSharesRow.holds Tryd.pinned (OpenSpec.ofChange topSharedSharesSpec)

/-- ITS FALSE NEIGHBOUR: 'it returns false'. Refute it at one input. -/
def topSharedSharesWrong : ChangeSpec := { name := "topSharedShares", fn := fun _ => fun
  | [d] => { results := [.lit (.bool false)], args := [d] }
  | _ => none }
def TopSharedSharesWrongFalsely : Prop := topSharedSharesRow.holds Tryd.pinned (OpenSpec.ofChange topSharedSharesWrong)

/-- 'pointcodetop.TopSharedLabels': WHATEVER THE INPUT: true; the input reads as it did. -/
def topSharedLabelsSpec : ChangeSpec := { name := "topSharedLabels", fn := fun _ => fun
  | [d] => { results := [.lit (.bool true)], args := [d] }
  | _ => none }
def topSharedLabelsRow : OpenClaim := { program := "ytiecagflhhmfnaadoor", sum := "ac29e4a8c4aeed87054accfa14719d2d6b54c9352320f37514b2243c0190a2af", func := "pointcode/pointcodetop.TopSharedLabels", spec := "topSharedLabels", inPlace := ["internal/bytealg.IndexByteString", "internal/bytealg.IndexString"], unfollowed := true, recurses := true, named := ["unicode/utf8.first", "unicode/utf8.acceptRanges", "internal/bytealg.MaxLen"], apart := false, laid := [("unicode/utf8.acceptRanges", laid_unicode_utf8_acceptRanges), ("unicode/utf8.first", laid_unicode_utf8_first)] }
def TopSharedLabelsSaid : Prop := topSharedLabelsRow.holds Tryd.pinned (OpenSpec.ofChange topSharedLabelsSpec)

/-- ITS FALSE NEIGHBOUR: 'it returns false'. Refute it at one input. -/
def topSharedLabelsWrong : ChangeSpec := { name := "topSharedLabels", fn := fun _ => fun
  | [d] => { results := [.lit (.bool false)], args := [d] }
  | _ => none }
def TopSharedLabelsWrongFalsely : Prop := topSharedLabelsRow.holds Tryd.pinned (OpenSpec.ofChange topSharedLabelsWrong)

/-- 'pointcodetop.TopSharedBlockings': WHATEVER THE INPUT: true; the input reads as it did. -/
def topSharedBlockingsSpec : ChangeSpec := { name := "topSharedBlockings", fn := fun _ => fun
  | [d] => { results := [.lit (.bool true)], args := [d] }
  | _ => none }
def topSharedBlockingsRow : OpenClaim := { program := "ytiecagflhhmfnaadoor", sum := "ac29e4a8c4aeed87054accfa14719d2d6b54c9352320f37514b2243c0190a2af", func := "pointcode/pointcodetop.TopSharedBlockings", spec := "topSharedBlockings", inPlace := ["internal/bytealg.IndexByteString", "internal/bytealg.IndexString"], unfollowed := true, recurses := true, named := ["unicode/utf8.first", "unicode/utf8.acceptRanges", "internal/bytealg.MaxLen"], apart := false, laid := [("unicode/utf8.acceptRanges", laid_unicode_utf8_acceptRanges), ("unicode/utf8.first", laid_unicode_utf8_first)] }
def TopSharedBlockingsSaid : Prop := topSharedBlockingsRow.holds Tryd.pinned (OpenSpec.ofChange topSharedBlockingsSpec)

/-- ITS FALSE NEIGHBOUR: 'it returns false'. Refute it at one input. -/
def topSharedBlockingsWrong : ChangeSpec := { name := "topSharedBlockings", fn := fun _ => fun
  | [d] => { results := [.lit (.bool false)], args := [d] }
  | _ => none }
def TopSharedBlockingsWrongFalsely : Prop := topSharedBlockingsRow.holds Tryd.pinned (OpenSpec.ofChange topSharedBlockingsWrong)

/-- 'pointcodetop.TopSharedFrames': WHATEVER THE INPUT: true; the input reads as it did. -/
def topSharedFramesSpec : ChangeSpec := { name := "topSharedFrames", fn := fun _ => fun
  | [d] => { results := [.lit (.bool true)], args := [d] }
  | _ => none }
def topSharedFramesRow : OpenClaim := { program := "ytiecagflhhmfnaadoor", sum := "ac29e4a8c4aeed87054accfa14719d2d6b54c9352320f37514b2243c0190a2af", func := "pointcode/pointcodetop.TopSharedFrames", spec := "topSharedFrames", inPlace := ["internal/bytealg.IndexByteString", "internal/bytealg.IndexString"], unfollowed := true, recurses := true, named := ["pointcode/frames.flag", "unicode/utf8.first", "unicode/utf8.acceptRanges", "internal/bytealg.MaxLen"], apart := false, laid := [("unicode/utf8.acceptRanges", laid_unicode_utf8_acceptRanges), ("pointcode/frames.flag", laid_pointcode_frames_flag), ("unicode/utf8.first", laid_unicode_utf8_first)] }
def TopSharedFramesSaid : Prop := topSharedFramesRow.holds Tryd.pinned (OpenSpec.ofChange topSharedFramesSpec)

/-- ITS FALSE NEIGHBOUR: 'it returns false'. Refute it at one input. -/
def topSharedFramesWrong : ChangeSpec := { name := "topSharedFrames", fn := fun _ => fun
  | [d] => { results := [.lit (.bool false)], args := [d] }
  | _ => none }
def TopSharedFramesWrongFalsely : Prop := topSharedFramesRow.holds Tryd.pinned (OpenSpec.ofChange topSharedFramesWrong)

/-- 'pointcodetop.TopSharedTransactions': WHATEVER THE INPUT: true; the input reads as it did. -/
def topSharedTransactionsSpec : ChangeSpec := { name := "topSharedTransactions", fn := fun _ => fun
  | [d] => { results := [.lit (.bool true)], args := [d] }
  | _ => none }
def topSharedTransactionsRow : OpenClaim := { program := "ytiecagflhhmfnaadoor", sum := "ac29e4a8c4aeed87054accfa14719d2d6b54c9352320f37514b2243c0190a2af", func := "pointcode/pointcodetop.TopSharedTransactions", spec := "topSharedTransactions", inPlace := ["internal/bytealg.IndexByteString", "internal/bytealg.IndexString"], unfollowed := true, recurses := true, named := ["unicode/utf8.first", "unicode/utf8.acceptRanges", "internal/bytealg.MaxLen"], apart := false, laid := [("unicode/utf8.acceptRanges", laid_unicode_utf8_acceptRanges), ("unicode/utf8.first", laid_unicode_utf8_first)] }
def TopSharedTransactionsSaid : Prop := topSharedTransactionsRow.holds Tryd.pinned (OpenSpec.ofChange topSharedTransactionsSpec)

/-- ITS FALSE NEIGHBOUR: 'it returns false'. Refute it at one input. -/
def topSharedTransactionsWrong : ChangeSpec := { name := "topSharedTransactions", fn := fun _ => fun
  | [d] => { results := [.lit (.bool false)], args := [d] }
  | _ => none }
def TopSharedTransactionsWrongFalsely : Prop := topSharedTransactionsRow.holds Tryd.pinned (OpenSpec.ofChange topSharedTransactionsWrong)

/- THE SECOND FORM. 'bulk': how many values and letters a reading holds, each counted each time it is reached (what is shared counts as often as it is met; a slice's spare places count too). A statement '..UptoSaid' is the law's where the arguments, and the package variables that the reading takes, are together of bulk at most 1048576: NARROWER than '..Said'. Prove '..Said' where nothing that the law and all that it calls make is longer than what came in: it says more and counts as full. Else prove '..UptoSaid'. A law counts once. -/
mutual
def uptoBulk {H : Type} : DataW H → Nat
  | .lit (.string bytes) => bytes.length + 1
  | .lit _ => 1
  | .nil => 1
  | .ptr d => uptoBulk d + 1
  | .slice elems spare => uptoBulkAll elems + uptoBulkAll spare + 1
  | .agg parts => uptoBulkAll parts + 1
  | .iface _ d => uptoBulk d + 1
  | .map entries => uptoBulkEntries entries + 1
  | .held _ => 1
def uptoBulkAll {H : Type} : List (DataW H) → Nat
  | [] => 0
  | d :: r => uptoBulk d + uptoBulkAll r
def uptoBulkEntries {H : Type} : List (Lit × DataW H) → Nat
  | [] => 0
  | x :: r => uptoBulkEntry x + uptoBulkEntries r
def uptoBulkEntry {H : Type} : Lit × DataW H → Nat
  | (.string bytes, d) => bytes.length + uptoBulk d + 1
  | (_, d) => uptoBulk d + 1
 end
def uptoSmall : (H : Type) → List (DataW H) → Bool := fun _ ds => decide (uptoBulkAll ds ≤ 1048576)
def OpenSpec.upto (s : _root_.Go.ChangeSpec) : _root_.Go.OpenSpec := { _root_.Go.OpenSpec.ofChange s with cond := some uptoSmall }

/-- 'pointcodetop.TopSharedFlows', WHERE WHAT IT READS IS OF BULK AT MOST 1048576: true; the input reads as it did. -/
def topSharedFlowsUptoRow : OpenClaim := { program := "ytiecagflhhmfnaadoor", sum := "ac29e4a8c4aeed87054accfa14719d2d6b54c9352320f37514b2243c0190a2af", func := "pointcode/pointcodetop.TopSharedFlows", spec := "topSharedFlows", inPlace := ["internal/bytealg.IndexByteString", "internal/bytealg.IndexString"], unfollowed := true, recurses := true, named := ["unicode/utf8.first", "unicode/utf8.acceptRanges", "internal/bytealg.MaxLen"], apart := false, laid := [("unicode/utf8.acceptRanges", laid_unicode_utf8_acceptRanges), ("unicode/utf8.first", laid_unicode_utf8_first)], narrowed := true }
def TopSharedFlowsUptoSaid : Prop := topSharedFlowsUptoRow.holds Tryd.pinned (OpenSpec.upto topSharedFlowsSpec)

/-- 'pointcodetop.TopSharedConnections', WHERE WHAT IT READS IS OF BULK AT MOST 1048576: true; the input reads as it did. -/
def topSharedConnectionsUptoRow : OpenClaim := { program := "ytiecagflhhmfnaadoor", sum := "ac29e4a8c4aeed87054accfa14719d2d6b54c9352320f37514b2243c0190a2af", func := "pointcode/pointcodetop.TopSharedConnections", spec := "topSharedConnections", inPlace := ["internal/bytealg.IndexByteString", "internal/bytealg.IndexString"], unfollowed := true, recurses := true, named := ["unicode/utf8.first", "unicode/utf8.acceptRanges", "internal/bytealg.MaxLen"], apart := false, laid := [("unicode/utf8.acceptRanges", laid_unicode_utf8_acceptRanges), ("unicode/utf8.first", laid_unicode_utf8_first)], narrowed := true }
def TopSharedConnectionsUptoSaid : Prop := topSharedConnectionsUptoRow.holds Tryd.pinned (OpenSpec.upto topSharedConnectionsSpec)

/-- 'pointcodetop.TopSharedSegments', WHERE WHAT IT READS IS OF BULK AT MOST 1048576: true; the input reads as it did. -/
def topSharedSegmentsUptoRow : OpenClaim := { program := "ytiecagflhhmfnaadoor", sum := "ac29e4a8c4aeed87054accfa14719d2d6b54c9352320f37514b2243c0190a2af", func := "pointcode/pointcodetop.TopSharedSegments", spec := "topSharedSegments", inPlace := ["internal/bytealg.IndexByteString", "internal/bytealg.IndexString"], unfollowed := true, recurses := true, named := ["unicode/utf8.first", "unicode/utf8.acceptRanges", "internal/bytealg.MaxLen"], apart := false, laid := [("unicode/utf8.acceptRanges", laid_unicode_utf8_acceptRanges), ("unicode/utf8.first", laid_unicode_utf8_first)], narrowed := true }
def TopSharedSegmentsUptoSaid : Prop := topSharedSegmentsUptoRow.holds Tryd.pinned (OpenSpec.upto topSharedSegmentsSpec)

/-- 'pointcodetop.TopSharedShares', WHERE WHAT IT READS IS OF BULK AT MOST 1048576: true; the input reads as it did. -/
def topSharedSharesUptoRow : OpenClaim := { program := "ytiecagflhhmfnaadoor", sum := "ac29e4a8c4aeed87054accfa14719d2d6b54c9352320f37514b2243c0190a2af", func := "pointcode/pointcodetop.TopSharedShares", spec := "topSharedShares", inPlace := ["internal/bytealg.IndexByteString", "internal/bytealg.IndexString"], unfollowed := true, recurses := true, named := ["unicode/utf8.first", "unicode/utf8.acceptRanges", "internal/bytealg.MaxLen"], apart := false, laid := [("unicode/utf8.acceptRanges", laid_unicode_utf8_acceptRanges), ("unicode/utf8.first", laid_unicode_utf8_first)], narrowed := true }
def TopSharedSharesUptoSaid : Prop := topSharedSharesUptoRow.holds Tryd.pinned (OpenSpec.upto topSharedSharesSpec)

/-- 'pointcodetop.TopSharedLabels', WHERE WHAT IT READS IS OF BULK AT MOST 1048576: true; the input reads as it did. -/
def topSharedLabelsUptoRow : OpenClaim := { program := "ytiecagflhhmfnaadoor", sum := "ac29e4a8c4aeed87054accfa14719d2d6b54c9352320f37514b2243c0190a2af", func := "pointcode/pointcodetop.TopSharedLabels", spec := "topSharedLabels", inPlace := ["internal/bytealg.IndexByteString", "internal/bytealg.IndexString"], unfollowed := true, recurses := true, named := ["unicode/utf8.first", "unicode/utf8.acceptRanges", "internal/bytealg.MaxLen"], apart := false, laid := [("unicode/utf8.acceptRanges", laid_unicode_utf8_acceptRanges), ("unicode/utf8.first", laid_unicode_utf8_first)], narrowed := true }
def TopSharedLabelsUptoSaid : Prop := topSharedLabelsUptoRow.holds Tryd.pinned (OpenSpec.upto topSharedLabelsSpec)

/-- 'pointcodetop.TopSharedBlockings', WHERE WHAT IT READS IS OF BULK AT MOST 1048576: true; the input reads as it did. -/
def topSharedBlockingsUptoRow : OpenClaim := { program := "ytiecagflhhmfnaadoor", sum := "ac29e4a8c4aeed87054accfa14719d2d6b54c9352320f37514b2243c0190a2af", func := "pointcode/pointcodetop.TopSharedBlockings", spec := "topSharedBlockings", inPlace := ["internal/bytealg.IndexByteString", "internal/bytealg.IndexString"], unfollowed := true, recurses := true, named := ["unicode/utf8.first", "unicode/utf8.acceptRanges", "internal/bytealg.MaxLen"], apart := false, laid := [("unicode/utf8.acceptRanges", laid_unicode_utf8_acceptRanges), ("unicode/utf8.first", laid_unicode_utf8_first)], narrowed := true }
def TopSharedBlockingsUptoSaid : Prop := topSharedBlockingsUptoRow.holds Tryd.pinned (OpenSpec.upto topSharedBlockingsSpec)

/-- 'pointcodetop.TopSharedFrames', WHERE WHAT IT READS IS OF BULK AT MOST 1048576: true; the input reads as it did. -/
def topSharedFramesUptoRow : OpenClaim := { program := "ytiecagflhhmfnaadoor", sum := "ac29e4a8c4aeed87054accfa14719d2d6b54c9352320f37514b2243c0190a2af", func := "pointcode/pointcodetop.TopSharedFrames", spec := "topSharedFrames", inPlace := ["internal/bytealg.IndexByteString", "internal/bytealg.IndexString"], unfollowed := true, recurses := true, named := ["pointcode/frames.flag", "unicode/utf8.first", "unicode/utf8.acceptRanges", "internal/bytealg.MaxLen"], apart := false, laid := [("unicode/utf8.acceptRanges", laid_unicode_utf8_acceptRanges), ("pointcode/frames.flag", laid_pointcode_frames_flag), ("unicode/utf8.first", laid_unicode_utf8_first)], narrowed := true }
def TopSharedFramesUptoSaid : Prop := topSharedFramesUptoRow.holds Tryd.pinned (OpenSpec.upto topSharedFramesSpec)

/-- 'pointcodetop.TopSharedTransactions', WHERE WHAT IT READS IS OF BULK AT MOST 1048576: true; the input reads as it did. -/
def topSharedTransactionsUptoRow : OpenClaim := { program := "ytiecagflhhmfnaadoor", sum := "ac29e4a8c4aeed87054accfa14719d2d6b54c9352320f37514b2243c0190a2af", func := "pointcode/pointcodetop.TopSharedTransactions", spec := "topSharedTransactions", inPlace := ["internal/bytealg.IndexByteString", "internal/bytealg.IndexString"], unfollowed := true, recurses := true, named := ["unicode/utf8.first", "unicode/utf8.acceptRanges", "internal/bytealg.MaxLen"], apart := false, laid := [("unicode/utf8.acceptRanges", laid_unicode_utf8_acceptRanges), ("unicode/utf8.first", laid_unicode_utf8_first)], narrowed := true }
def TopSharedTransactionsUptoSaid : Prop := topSharedTransactionsUptoRow.holds Tryd.pinned (OpenSpec.upto topSharedTransactionsSpec)

end Rows
end Go.Proofs.YtiecagflhhmfnaaDoor
