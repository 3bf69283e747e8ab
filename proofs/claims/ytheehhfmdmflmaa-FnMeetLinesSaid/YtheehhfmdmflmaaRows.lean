/-
  No cell of these rows narrows 'for every input' (looked for: loops, veiled, ifaces, maps, wideKeys, modest, calm, conditions, laid).
  DERIVED. THE GIVEN ROWS OF THIS SEAT. 12 by the template 'for every input the law returns true; each argument reads behind the call as it read before'; 0 by the template 'total and deterministic' (their statements: YtheehhfmdmflmaaTotals.lean).
  GIVEN WITH THE SEED: the statements are not yours to turn. If you find one false, say at which input.
  Laid BY PROGRAM, IN A SANDBOX (cutbox-rows.mjs): the forced cells as the released guide's own fill.sh prints them over the translation 98c07e19346c8e6d… (all of the seat's roots in one cut). By AI agents, Wed Nov 11 2026. No macro, syntax, notation, axiom, sorry.
-/
import Derived.Test.YtheehhfmdmflmaaChecked
import GoSem.Claim
import GoSem.ClaimJoined
import GoSem.ClaimMapViews
import Derived.JoinedTies
import Derived.KernelRfl
namespace Go.Proofs.Ytheehhfmdmflmaa
/- THE CELL 'sum', in the pinned program and in every row, IS THE sha256 OF THE DUMP (.gsa) THAT YtheehhfmdmflmaaProg.lean LOADS. Nothing in Lean hashes anything: it is a label: what it is worth is what the hold of that sum in a sandbox is worth. -/
noncomputable def Try.pinned : Pinned := { name := "ytheehhfmdmflmaa", sum := "98c07e19346c8e6de28a96ec19485fe1c1e3b7e02436c24283c080738b8b51b1", checked := Try.checked }
namespace Rows
def none {H : Type} : Left H := { results := [], args := [] }

/-- 'laws.FnSegmentLine': WHATEVER THE INPUT: true; the input reads as it did. -/
def fnSegmentLineSpec : ChangeSpec := { name := "fnSegmentLine", fn := fun _ => fun
  | [d] => { results := [.lit (.bool true)], args := [d] }
  | _ => none }
def fnSegmentLineRow : OpenClaim := { program := "ytheehhfmdmflmaa", sum := "98c07e19346c8e6de28a96ec19485fe1c1e3b7e02436c24283c080738b8b51b1", func := "loop.example/planargeometry/laws.FnSegmentLine", spec := "fnSegmentLine", unfollowed := true, recurses := true, apart := false }
def FnSegmentLineSaid : Prop := fnSegmentLineRow.holds Try.pinned (OpenSpec.ofChange fnSegmentLineSpec)

/-- ITS FALSE NEIGHBOUR: 'it returns false'. Refute it at one input. -/
def fnSegmentLineWrong : ChangeSpec := { name := "fnSegmentLine", fn := fun _ => fun
  | [d] => { results := [.lit (.bool false)], args := [d] }
  | _ => none }
def FnSegmentLineWrongFalsely : Prop := fnSegmentLineRow.holds Try.pinned (OpenSpec.ofChange fnSegmentLineWrong)

/-- 'laws.FnCircleInside': WHATEVER THE INPUT: true; the input reads as it did. -/
def fnCircleInsideSpec : ChangeSpec := { name := "fnCircleInside", fn := fun _ => fun
  | [d] => { results := [.lit (.bool true)], args := [d] }
  | _ => none }
def fnCircleInsideRow : OpenClaim := { program := "ytheehhfmdmflmaa", sum := "98c07e19346c8e6de28a96ec19485fe1c1e3b7e02436c24283c080738b8b51b1", func := "loop.example/planargeometry/laws.FnCircleInside", spec := "fnCircleInside", unfollowed := true, recurses := true, apart := false }
def FnCircleInsideSaid : Prop := fnCircleInsideRow.holds Try.pinned (OpenSpec.ofChange fnCircleInsideSpec)

/-- ITS FALSE NEIGHBOUR: 'it returns false'. Refute it at one input. -/
def fnCircleInsideWrong : ChangeSpec := { name := "fnCircleInside", fn := fun _ => fun
  | [d] => { results := [.lit (.bool false)], args := [d] }
  | _ => none }
def FnCircleInsideWrongFalsely : Prop := fnCircleInsideRow.holds Try.pinned (OpenSpec.ofChange fnCircleInsideWrong)

/-- 'laws.FnMaximaExtreme': WHATEVER THE INPUT: true; the input reads as it did. -/
def fnMaximaExtremeSpec : ChangeSpec := { name := "fnMaximaExtreme", fn := fun _ => fun
  | [d] => { results := [.lit (.bool true)], args := [d] }
  | _ => none }
def fnMaximaExtremeRow : OpenClaim := { program := "ytheehhfmdmflmaa", sum := "98c07e19346c8e6de28a96ec19485fe1c1e3b7e02436c24283c080738b8b51b1", func := "loop.example/planargeometry/laws.FnMaximaExtreme", spec := "fnMaximaExtreme", unfollowed := true, recurses := true, apart := false }
def FnMaximaExtremeSaid : Prop := fnMaximaExtremeRow.holds Try.pinned (OpenSpec.ofChange fnMaximaExtremeSpec)

/-- ITS FALSE NEIGHBOUR: 'it returns false'. Refute it at one input. -/
def fnMaximaExtremeWrong : ChangeSpec := { name := "fnMaximaExtreme", fn := fun _ => fun
  | [d] => { results := [.lit (.bool false)], args := [d] }
  | _ => none }
def FnMaximaExtremeWrongFalsely : Prop := fnMaximaExtremeRow.holds Try.pinned (OpenSpec.ofChange fnMaximaExtremeWrong)

/-- 'laws.FnLineThrough': WHATEVER THE INPUT: true; the input reads as it did. -/
def fnLineThroughSpec : ChangeSpec := { name := "fnLineThrough", fn := fun _ => fun
  | [d] => { results := [.lit (.bool true)], args := [d] }
  | _ => none }
def fnLineThroughRow : OpenClaim := { program := "ytheehhfmdmflmaa", sum := "98c07e19346c8e6de28a96ec19485fe1c1e3b7e02436c24283c080738b8b51b1", func := "loop.example/planargeometry/laws.FnLineThrough", spec := "fnLineThrough", unfollowed := true, recurses := true, apart := false }
def FnLineThroughSaid : Prop := fnLineThroughRow.holds Try.pinned (OpenSpec.ofChange fnLineThroughSpec)

/-- ITS FALSE NEIGHBOUR: 'it returns false'. Refute it at one input. -/
def fnLineThroughWrong : ChangeSpec := { name := "fnLineThrough", fn := fun _ => fun
  | [d] => { results := [.lit (.bool false)], args := [d] }
  | _ => none }
def FnLineThroughWrongFalsely : Prop := fnLineThroughRow.holds Try.pinned (OpenSpec.ofChange fnLineThroughWrong)

/-- 'laws.FnRectCorners': WHATEVER THE INPUT: true; the input reads as it did. -/
def fnRectCornersSpec : ChangeSpec := { name := "fnRectCorners", fn := fun _ => fun
  | [d] => { results := [.lit (.bool true)], args := [d] }
  | _ => none }
def fnRectCornersRow : OpenClaim := { program := "ytheehhfmdmflmaa", sum := "98c07e19346c8e6de28a96ec19485fe1c1e3b7e02436c24283c080738b8b51b1", func := "loop.example/planargeometry/laws.FnRectCorners", spec := "fnRectCorners", unfollowed := true, recurses := true, apart := false }
def FnRectCornersSaid : Prop := fnRectCornersRow.holds Try.pinned (OpenSpec.ofChange fnRectCornersSpec)

/-- ITS FALSE NEIGHBOUR: 'it returns false'. Refute it at one input. -/
def fnRectCornersWrong : ChangeSpec := { name := "fnRectCorners", fn := fun _ => fun
  | [d] => { results := [.lit (.bool false)], args := [d] }
  | _ => none }
def FnRectCornersWrongFalsely : Prop := fnRectCornersRow.holds Try.pinned (OpenSpec.ofChange fnRectCornersWrong)

/-- 'laws.FnRectHalves': WHATEVER THE INPUT: true; the input reads as it did. -/
def fnRectHalvesSpec : ChangeSpec := { name := "fnRectHalves", fn := fun _ => fun
  | [d1, d2] => { results := [.lit (.bool true)], args := [d1, d2] }
  | _ => none }
def fnRectHalvesRow : OpenClaim := { program := "ytheehhfmdmflmaa", sum := "98c07e19346c8e6de28a96ec19485fe1c1e3b7e02436c24283c080738b8b51b1", func := "loop.example/planargeometry/laws.FnRectHalves", spec := "fnRectHalves", unfollowed := true, recurses := true, apart := false }
def FnRectHalvesSaid : Prop := fnRectHalvesRow.holds Try.pinned (OpenSpec.ofChange fnRectHalvesSpec)

/-- ITS FALSE NEIGHBOUR: 'it returns false'. Refute it at one input. -/
def fnRectHalvesWrong : ChangeSpec := { name := "fnRectHalves", fn := fun _ => fun
  | [d1, d2] => { results := [.lit (.bool false)], args := [d1, d2] }
  | _ => none }
def FnRectHalvesWrongFalsely : Prop := fnRectHalvesRow.holds Try.pinned (OpenSpec.ofChange fnRectHalvesWrong)

/-- 'laws.FnCompareToSegment': WHATEVER THE INPUT: true; the input reads as it did. -/
def fnCompareToSegmentSpec : ChangeSpec := { name := "fnCompareToSegment", fn := fun _ => fun
  | [d] => { results := [.lit (.bool true)], args := [d] }
  | _ => none }
def fnCompareToSegmentRow : OpenClaim := { program := "ytheehhfmdmflmaa", sum := "98c07e19346c8e6de28a96ec19485fe1c1e3b7e02436c24283c080738b8b51b1", func := "loop.example/planargeometry/laws.FnCompareToSegment", spec := "fnCompareToSegment", unfollowed := true, recurses := true, apart := false }
def FnCompareToSegmentSaid : Prop := fnCompareToSegmentRow.holds Try.pinned (OpenSpec.ofChange fnCompareToSegmentSpec)

/-- ITS FALSE NEIGHBOUR: 'it returns false'. Refute it at one input. -/
def fnCompareToSegmentWrong : ChangeSpec := { name := "fnCompareToSegment", fn := fun _ => fun
  | [d] => { results := [.lit (.bool false)], args := [d] }
  | _ => none }
def FnCompareToSegmentWrongFalsely : Prop := fnCompareToSegmentRow.holds Try.pinned (OpenSpec.ofChange fnCompareToSegmentWrong)

/-- 'laws.FnMapPoints': WHATEVER THE INPUT: true; the input reads as it did. -/
def fnMapPointsSpec : ChangeSpec := { name := "fnMapPoints", fn := fun _ => fun
  | [d] => { results := [.lit (.bool true)], args := [d] }
  | _ => none }
def fnMapPointsRow : OpenClaim := { program := "ytheehhfmdmflmaa", sum := "98c07e19346c8e6de28a96ec19485fe1c1e3b7e02436c24283c080738b8b51b1", func := "loop.example/planargeometry/laws.FnMapPoints", spec := "fnMapPoints", unfollowed := true, recurses := true, apart := false }
def FnMapPointsSaid : Prop := fnMapPointsRow.holds Try.pinned (OpenSpec.ofChange fnMapPointsSpec)

/-- ITS FALSE NEIGHBOUR: 'it returns false'. Refute it at one input. -/
def fnMapPointsWrong : ChangeSpec := { name := "fnMapPoints", fn := fun _ => fun
  | [d] => { results := [.lit (.bool false)], args := [d] }
  | _ => none }
def FnMapPointsWrongFalsely : Prop := fnMapPointsRow.holds Try.pinned (OpenSpec.ofChange fnMapPointsWrong)

/-- 'laws.FnTotalLength': WHATEVER THE INPUT: true; the input reads as it did. -/
def fnTotalLengthSpec : ChangeSpec := { name := "fnTotalLength", fn := fun _ => fun
  | [d1, d2] => { results := [.lit (.bool true)], args := [d1, d2] }
  | _ => none }
def fnTotalLengthRow : OpenClaim := { program := "ytheehhfmdmflmaa", sum := "98c07e19346c8e6de28a96ec19485fe1c1e3b7e02436c24283c080738b8b51b1", func := "loop.example/planargeometry/laws.FnTotalLength", spec := "fnTotalLength", unfollowed := true, recurses := true, apart := false }
def FnTotalLengthSaid : Prop := fnTotalLengthRow.holds Try.pinned (OpenSpec.ofChange fnTotalLengthSpec)

/-- ITS FALSE NEIGHBOUR: 'it returns false'. Refute it at one input. -/
def fnTotalLengthWrong : ChangeSpec := { name := "fnTotalLength", fn := fun _ => fun
  | [d1, d2] => { results := [.lit (.bool false)], args := [d1, d2] }
  | _ => none }
def FnTotalLengthWrongFalsely : Prop := fnTotalLengthRow.holds Try.pinned (OpenSpec.ofChange fnTotalLengthWrong)

/-- 'laws.FnPointsInRect': WHATEVER THE INPUT: true; the input reads as it did. -/
def fnPointsInRectSpec : ChangeSpec := { name := "fnPointsInRect", fn := fun _ => fun
  | [d] => { results := [.lit (.bool true)], args := [d] }
  | _ => none }
def fnPointsInRectRow : OpenClaim := { program := "ytheehhfmdmflmaa", sum := "98c07e19346c8e6de28a96ec19485fe1c1e3b7e02436c24283c080738b8b51b1", func := "loop.example/planargeometry/laws.FnPointsInRect", spec := "fnPointsInRect", unfollowed := true, recurses := true, apart := false }
def FnPointsInRectSaid : Prop := fnPointsInRectRow.holds Try.pinned (OpenSpec.ofChange fnPointsInRectSpec)

/-- ITS FALSE NEIGHBOUR: 'it returns false'. Refute it at one input. -/
def fnPointsInRectWrong : ChangeSpec := { name := "fnPointsInRect", fn := fun _ => fun
  | [d] => { results := [.lit (.bool false)], args := [d] }
  | _ => none }
def FnPointsInRectWrongFalsely : Prop := fnPointsInRectRow.holds Try.pinned (OpenSpec.ofChange fnPointsInRectWrong)

/-- 'laws.FnMeetLines': WHATEVER THE INPUT: true; the input reads as it did. -/
def fnMeetLinesSpec : ChangeSpec := { name := "fnMeetLines", fn := fun _ => fun
  | [d] => { results := [.lit (.bool true)], args := [d] }
  | _ => none }
def fnMeetLinesRow : OpenClaim := { program := "ytheehhfmdmflmaa", sum := "98c07e19346c8e6de28a96ec19485fe1c1e3b7e02436c24283c080738b8b51b1", func := "loop.example/planargeometry/laws.FnMeetLines", spec := "fnMeetLines", apart := false }
def FnMeetLinesSaid : Prop := fnMeetLinesRow.holds Try.pinned (OpenSpec.ofChange fnMeetLinesSpec)

/-- ITS FALSE NEIGHBOUR: 'it returns false'. Refute it at one input. -/
def fnMeetLinesWrong : ChangeSpec := { name := "fnMeetLines", fn := fun _ => fun
  | [d] => { results := [.lit (.bool false)], args := [d] }
  | _ => none }
def FnMeetLinesWrongFalsely : Prop := fnMeetLinesRow.holds Try.pinned (OpenSpec.ofChange fnMeetLinesWrong)

/-- 'laws.FnSideOf': WHATEVER THE INPUT: true; the input reads as it did. -/
def fnSideOfSpec : ChangeSpec := { name := "fnSideOf", fn := fun _ => fun
  | [d1, d2] => { results := [.lit (.bool true)], args := [d1, d2] }
  | _ => none }
def fnSideOfRow : OpenClaim := { program := "ytheehhfmdmflmaa", sum := "98c07e19346c8e6de28a96ec19485fe1c1e3b7e02436c24283c080738b8b51b1", func := "loop.example/planargeometry/laws.FnSideOf", spec := "fnSideOf", unfollowed := true, recurses := true, apart := false }
def FnSideOfSaid : Prop := fnSideOfRow.holds Try.pinned (OpenSpec.ofChange fnSideOfSpec)

/-- ITS FALSE NEIGHBOUR: 'it returns false'. Refute it at one input. -/
def fnSideOfWrong : ChangeSpec := { name := "fnSideOf", fn := fun _ => fun
  | [d1, d2] => { results := [.lit (.bool false)], args := [d1, d2] }
  | _ => none }
def FnSideOfWrongFalsely : Prop := fnSideOfRow.holds Try.pinned (OpenSpec.ofChange fnSideOfWrong)

/- THE SECOND FORM. 'bulk': how many values and letters a reading holds, each counted each time it is reached (what is shared counts as often as it is met; a slice's spare places count too). A statement '..UptoSaid' is the law's where the arguments, and the package variables that the reading takes, are together of bulk at most 1048576: NARROWER than '..Said'. Prove '..Said' where nothing that the law and all that it calls make is longer than what came in: it says more and counts as full. Else prove '..UptoSaid'. A law counts once. -/
mutual
def uptoBulk {H : Type} : DataW H → Nat
  | .lit (.string bytes) => bytes.length + 1
  | .lit _ => 1
  | .nil => 1
  | .ptr d => uptoBulk d + 1
  | .slice elems spare => uptoBulkAll elems + uptoBulkAll spare + 1
  | .agg parts => uptoBulkAll parts + 1
  | .iface _ d => uptoBulk d + 1
  | .map entries => uptoBulkEntries entries + 1
  | .held _ => 1
def uptoBulkAll {H : Type} : List (DataW H) → Nat
  | [] => 0
  | d :: r => uptoBulk d + uptoBulkAll r
def uptoBulkEntries {H : Type} : List (Lit × DataW H) → Nat
  | [] => 0
  | x :: r => uptoBulkEntry x + uptoBulkEntries r
def uptoBulkEntry {H : Type} : Lit × DataW H → Nat
  | (.string bytes, d) => bytes.length + uptoBulk d + 1
  | (_, d) => uptoBulk d + 1
 end
def uptoSmall : (H : Type) → List (DataW H) → Bool := fun _ ds => decide (uptoBulkAll ds ≤ 1048576)
def OpenSpec.upto (s : _root_.Go.ChangeSpec) : _root_.Go.OpenSpec := { _root_.Go.OpenSpec.ofChange s with cond := some uptoSmall }

/-- 'laws.FnSegmentLine', WHERE WHAT IT READS IS OF BULK AT MOST 1048576: true; the input reads as it did. -/
def fnSegmentLineUptoRow : OpenClaim := { program := "ytheehhfmdmflmaa", sum := "98c07e19346c8e6de28a96ec19485fe1c1e3b7e02436c24283c080738b8b51b1", func := "loop.example/planargeometry/laws.FnSegmentLine", spec := "fnSegmentLine", unfollowed := true, recurses := true, apart := false, narrowed := true }
def FnSegmentLineUptoSaid : Prop := fnSegmentLineUptoRow.holds Try.pinned (OpenSpec.upto fnSegmentLineSpec)

/-- 'laws.FnCircleInside', WHERE WHAT IT READS IS OF BULK AT MOST 1048576: true; the input reads as it did. -/
def fnCircleInsideUptoRow : OpenClaim := { program := "ytheehhfmdmflmaa", sum := "98c07e19346c8e6de28a96ec19485fe1c1e3b7e02436c24283c080738b8b51b1", func := "loop.example/planargeometry/laws.FnCircleInside", spec := "fnCircleInside", unfollowed := true, recurses := true, apart := false, narrowed := true }
def FnCircleInsideUptoSaid : Prop := fnCircleInsideUptoRow.holds Try.pinned (OpenSpec.upto fnCircleInsideSpec)

/-- 'laws.FnMaximaExtreme', WHERE WHAT IT READS IS OF BULK AT MOST 1048576: true; the input reads as it did. -/
def fnMaximaExtremeUptoRow : OpenClaim := { program := "ytheehhfmdmflmaa", sum := "98c07e19346c8e6de28a96ec19485fe1c1e3b7e02436c24283c080738b8b51b1", func := "loop.example/planargeometry/laws.FnMaximaExtreme", spec := "fnMaximaExtreme", unfollowed := true, recurses := true, apart := false, narrowed := true }
def FnMaximaExtremeUptoSaid : Prop := fnMaximaExtremeUptoRow.holds Try.pinned (OpenSpec.upto fnMaximaExtremeSpec)

/-- 'laws.FnLineThrough', WHERE WHAT IT READS IS OF BULK AT MOST 1048576: true; the input reads as it did. -/
def fnLineThroughUptoRow : OpenClaim := { program := "ytheehhfmdmflmaa", sum := "98c07e19346c8e6de28a96ec19485fe1c1e3b7e02436c24283c080738b8b51b1", func := "loop.example/planargeometry/laws.FnLineThrough", spec := "fnLineThrough", unfollowed := true, recurses := true, apart := false, narrowed := true }
def FnLineThroughUptoSaid : Prop := fnLineThroughUptoRow.holds Try.pinned (OpenSpec.upto fnLineThroughSpec)

/-- 'laws.FnRectCorners', WHERE WHAT IT READS IS OF BULK AT MOST 1048576: true; the input reads as it did. -/
def fnRectCornersUptoRow : OpenClaim := { program := "ytheehhfmdmflmaa", sum := "98c07e19346c8e6de28a96ec19485fe1c1e3b7e02436c24283c080738b8b51b1", func := "loop.example/planargeometry/laws.FnRectCorners", spec := "fnRectCorners", unfollowed := true, recurses := true, apart := false, narrowed := true }
def FnRectCornersUptoSaid : Prop := fnRectCornersUptoRow.holds Try.pinned (OpenSpec.upto fnRectCornersSpec)

/-- 'laws.FnRectHalves', WHERE WHAT IT READS IS OF BULK AT MOST 1048576: true; the input reads as it did. -/
def fnRectHalvesUptoRow : OpenClaim := { program := "ytheehhfmdmflmaa", sum := "98c07e19346c8e6de28a96ec19485fe1c1e3b7e02436c24283c080738b8b51b1", func := "loop.example/planargeometry/laws.FnRectHalves", spec := "fnRectHalves", unfollowed := true, recurses := true, apart := false, narrowed := true }
def FnRectHalvesUptoSaid : Prop := fnRectHalvesUptoRow.holds Try.pinned (OpenSpec.upto fnRectHalvesSpec)

/-- 'laws.FnCompareToSegment', WHERE WHAT IT READS IS OF BULK AT MOST 1048576: true; the input reads as it did. -/
def fnCompareToSegmentUptoRow : OpenClaim := { program := "ytheehhfmdmflmaa", sum := "98c07e19346c8e6de28a96ec19485fe1c1e3b7e02436c24283c080738b8b51b1", func := "loop.example/planargeometry/laws.FnCompareToSegment", spec := "fnCompareToSegment", unfollowed := true, recurses := true, apart := false, narrowed := true }
def FnCompareToSegmentUptoSaid : Prop := fnCompareToSegmentUptoRow.holds Try.pinned (OpenSpec.upto fnCompareToSegmentSpec)

/-- 'laws.FnMapPoints', WHERE WHAT IT READS IS OF BULK AT MOST 1048576: true; the input reads as it did. -/
def fnMapPointsUptoRow : OpenClaim := { program := "ytheehhfmdmflmaa", sum := "98c07e19346c8e6de28a96ec19485fe1c1e3b7e02436c24283c080738b8b51b1", func := "loop.example/planargeometry/laws.FnMapPoints", spec := "fnMapPoints", unfollowed := true, recurses := true, apart := false, narrowed := true }
def FnMapPointsUptoSaid : Prop := fnMapPointsUptoRow.holds Try.pinned (OpenSpec.upto fnMapPointsSpec)

/-- 'laws.FnTotalLength', WHERE WHAT IT READS IS OF BULK AT MOST 1048576: true; the input reads as it did. -/
def fnTotalLengthUptoRow : OpenClaim := { program := "ytheehhfmdmflmaa", sum := "98c07e19346c8e6de28a96ec19485fe1c1e3b7e02436c24283c080738b8b51b1", func := "loop.example/planargeometry/laws.FnTotalLength", spec := "fnTotalLength", unfollowed := true, recurses := true, apart := false, narrowed := true }
def FnTotalLengthUptoSaid : Prop := fnTotalLengthUptoRow.holds Try.pinned (OpenSpec.upto fnTotalLengthSpec)

/-- 'laws.FnPointsInRect', WHERE WHAT IT READS IS OF BULK AT MOST 1048576: true; the input reads as it did. -/
def fnPointsInRectUptoRow : OpenClaim := { program := "ytheehhfmdmflmaa", sum := "98c07e19346c8e6de28a96ec19485fe1c1e3b7e02436c24283c080738b8b51b1", func := "loop.example/planargeometry/laws.FnPointsInRect", spec := "fnPointsInRect", unfollowed := true, recurses := true, apart := false, narrowed := true }
def FnPointsInRectUptoSaid : Prop := fnPointsInRectUptoRow.holds Try.pinned (OpenSpec.upto fnPointsInRectSpec)

/-- 'laws.FnMeetLines', WHERE WHAT IT READS IS OF BULK AT MOST 1048576: true; the input reads as it did. -/
def fnMeetLinesUptoRow : OpenClaim := { program := "ytheehhfmdmflmaa", sum := "98c07e19346c8e6de28a96ec19485fe1c1e3b7e02436c24283c080738b8b51b1", func := "loop.example/planargeometry/laws.FnMeetLines", spec := "fnMeetLines", apart := false, narrowed := true }
def FnMeetLinesUptoSaid : Prop := fnMeetLinesUptoRow.holds Try.pinned (OpenSpec.upto fnMeetLinesSpec)

/-- 'laws.FnSideOf', WHERE WHAT IT READS IS OF BULK AT MOST 1048576: true; the input reads as it did. -/
def fnSideOfUptoRow : OpenClaim := { program := "ytheehhfmdmflmaa", sum := "98c07e19346c8e6de28a96ec19485fe1c1e3b7e02436c24283c080738b8b51b1", func := "loop.example/planargeometry/laws.FnSideOf", spec := "fnSideOf", unfollowed := true, recurses := true, apart := false, narrowed := true }
def FnSideOfUptoSaid : Prop := fnSideOfUptoRow.holds Try.pinned (OpenSpec.upto fnSideOfSpec)

end Rows
end Go.Proofs.Ytheehhfmdmflmaa
