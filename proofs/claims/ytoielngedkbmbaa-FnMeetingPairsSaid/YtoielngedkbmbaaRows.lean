/-
  No cell of these rows narrows 'for every input' (looked for: loops, veiled, ifaces, maps, wideKeys, modest, calm, conditions, laid).
  DERIVED. THE GIVEN ROWS OF THIS SEAT. 12 by the template 'for every input the law returns true; each argument reads behind the call as it read before'; 0 by the template 'total and deterministic' (their statements: YtoielngedkbmbaaTotals.lean).
  GIVEN WITH THE SEED: the statements are not yours to turn. If you find one false, say at which input.
  Laid BY PROGRAM, IN A SANDBOX (cutbox-rows.mjs): the forced cells as the released guide's own fill.sh prints them over the translation c3952d4b162a1478… (all of the seat's roots in one cut). By AI agents, Wed Nov 11 2026. No macro, syntax, notation, axiom, sorry.
-/
import Derived.Test.YtoielngedkbmbaaChecked
import GoSem.Claim
import GoSem.ClaimJoined
import GoSem.ClaimMapViews
import Derived.JoinedTies
import Derived.KernelRfl
namespace Go.Proofs.Ytoielngedkbmbaa
/- THE CELL 'sum', in the pinned program and in every row, IS THE sha256 OF THE DUMP (.gsa) THAT YtoielngedkbmbaaProg.lean LOADS. Nothing in Lean hashes anything: it is a label: what it is worth is what the hold of that sum in a sandbox is worth. -/
noncomputable def Try.pinned : Pinned := { name := "ytoielngedkbmbaa", sum := "c3952d4b162a14785b79414a4b52289a535f2521132c59f13251644bfaebbb97", checked := Try.checked }
namespace Rows
def none {H : Type} : Left H := { results := [], args := [] }

/-- 'laws.FnExactPointsInRect': WHATEVER THE INPUT: true; the input reads as it did. -/
def fnExactPointsInRectSpec : ChangeSpec := { name := "fnExactPointsInRect", fn := fun _ => fun
  | [d1, d2] => { results := [.lit (.bool true)], args := [d1, d2] }
  | _ => none }
def fnExactPointsInRectRow : OpenClaim := { program := "ytoielngedkbmbaa", sum := "c3952d4b162a14785b79414a4b52289a535f2521132c59f13251644bfaebbb97", func := "loop.example/planargeometry/laws.FnExactPointsInRect", spec := "fnExactPointsInRect", unfollowed := true, recurses := true, apart := false }
def FnExactPointsInRectSaid : Prop := fnExactPointsInRectRow.holds Try.pinned (OpenSpec.ofChange fnExactPointsInRectSpec)

/-- ITS FALSE NEIGHBOUR: 'it returns false'. Refute it at one input. -/
def fnExactPointsInRectWrong : ChangeSpec := { name := "fnExactPointsInRect", fn := fun _ => fun
  | [d1, d2] => { results := [.lit (.bool false)], args := [d1, d2] }
  | _ => none }
def FnExactPointsInRectWrongFalsely : Prop := fnExactPointsInRectRow.holds Try.pinned (OpenSpec.ofChange fnExactPointsInRectWrong)

/-- 'laws.FnExactRelation': WHATEVER THE INPUT: true; the input reads as it did. -/
def fnExactRelationSpec : ChangeSpec := { name := "fnExactRelation", fn := fun _ => fun
  | [d1, d2] => { results := [.lit (.bool true)], args := [d1, d2] }
  | _ => none }
def fnExactRelationRow : OpenClaim := { program := "ytoielngedkbmbaa", sum := "c3952d4b162a14785b79414a4b52289a535f2521132c59f13251644bfaebbb97", func := "loop.example/planargeometry/laws.FnExactRelation", spec := "fnExactRelation", unfollowed := true, recurses := true, apart := false }
def FnExactRelationSaid : Prop := fnExactRelationRow.holds Try.pinned (OpenSpec.ofChange fnExactRelationSpec)

/-- ITS FALSE NEIGHBOUR: 'it returns false'. Refute it at one input. -/
def fnExactRelationWrong : ChangeSpec := { name := "fnExactRelation", fn := fun _ => fun
  | [d1, d2] => { results := [.lit (.bool false)], args := [d1, d2] }
  | _ => none }
def FnExactRelationWrongFalsely : Prop := fnExactRelationRow.holds Try.pinned (OpenSpec.ofChange fnExactRelationWrong)

/-- 'laws.FnRelation': WHATEVER THE INPUT: true; the input reads as it did. -/
def fnRelationSpec : ChangeSpec := { name := "fnRelation", fn := fun _ => fun
  | [d] => { results := [.lit (.bool true)], args := [d] }
  | _ => none }
def fnRelationRow : OpenClaim := { program := "ytoielngedkbmbaa", sum := "c3952d4b162a14785b79414a4b52289a535f2521132c59f13251644bfaebbb97", func := "loop.example/planargeometry/laws.FnRelation", spec := "fnRelation", unfollowed := true, recurses := true, apart := false }
def FnRelationSaid : Prop := fnRelationRow.holds Try.pinned (OpenSpec.ofChange fnRelationSpec)

/-- ITS FALSE NEIGHBOUR: 'it returns false'. Refute it at one input. -/
def fnRelationWrong : ChangeSpec := { name := "fnRelation", fn := fun _ => fun
  | [d] => { results := [.lit (.bool false)], args := [d] }
  | _ => none }
def FnRelationWrongFalsely : Prop := fnRelationRow.holds Try.pinned (OpenSpec.ofChange fnRelationWrong)

/-- 'laws.FnRelationEnds': WHATEVER THE INPUT: true; the input reads as it did. -/
def fnRelationEndsSpec : ChangeSpec := { name := "fnRelationEnds", fn := fun _ => fun
  | [d] => { results := [.lit (.bool true)], args := [d] }
  | _ => none }
def fnRelationEndsRow : OpenClaim := { program := "ytoielngedkbmbaa", sum := "c3952d4b162a14785b79414a4b52289a535f2521132c59f13251644bfaebbb97", func := "loop.example/planargeometry/laws.FnRelationEnds", spec := "fnRelationEnds", unfollowed := true, recurses := true, apart := false }
def FnRelationEndsSaid : Prop := fnRelationEndsRow.holds Try.pinned (OpenSpec.ofChange fnRelationEndsSpec)

/-- ITS FALSE NEIGHBOUR: 'it returns false'. Refute it at one input. -/
def fnRelationEndsWrong : ChangeSpec := { name := "fnRelationEnds", fn := fun _ => fun
  | [d] => { results := [.lit (.bool false)], args := [d] }
  | _ => none }
def FnRelationEndsWrongFalsely : Prop := fnRelationEndsRow.holds Try.pinned (OpenSpec.ofChange fnRelationEndsWrong)

/-- 'laws.FnSideOfRat': WHATEVER THE INPUT: true; the input reads as it did. -/
def fnSideOfRatSpec : ChangeSpec := { name := "fnSideOfRat", fn := fun _ => fun
  | [d1, d2] => { results := [.lit (.bool true)], args := [d1, d2] }
  | _ => none }
def fnSideOfRatRow : OpenClaim := { program := "ytoielngedkbmbaa", sum := "c3952d4b162a14785b79414a4b52289a535f2521132c59f13251644bfaebbb97", func := "loop.example/planargeometry/laws.FnSideOfRat", spec := "fnSideOfRat", apart := false }
def FnSideOfRatSaid : Prop := fnSideOfRatRow.holds Try.pinned (OpenSpec.ofChange fnSideOfRatSpec)

/-- ITS FALSE NEIGHBOUR: 'it returns false'. Refute it at one input. -/
def fnSideOfRatWrong : ChangeSpec := { name := "fnSideOfRat", fn := fun _ => fun
  | [d1, d2] => { results := [.lit (.bool false)], args := [d1, d2] }
  | _ => none }
def FnSideOfRatWrongFalsely : Prop := fnSideOfRatRow.holds Try.pinned (OpenSpec.ofChange fnSideOfRatWrong)

/-- 'laws.FnMeetPoint': WHATEVER THE INPUT: true; the input reads as it did. -/
def fnMeetPointSpec : ChangeSpec := { name := "fnMeetPoint", fn := fun _ => fun
  | [d] => { results := [.lit (.bool true)], args := [d] }
  | _ => none }
def fnMeetPointRow : OpenClaim := { program := "ytoielngedkbmbaa", sum := "c3952d4b162a14785b79414a4b52289a535f2521132c59f13251644bfaebbb97", func := "loop.example/planargeometry/laws.FnMeetPoint", spec := "fnMeetPoint", unfollowed := true, recurses := true, apart := false }
def FnMeetPointSaid : Prop := fnMeetPointRow.holds Try.pinned (OpenSpec.ofChange fnMeetPointSpec)

/-- ITS FALSE NEIGHBOUR: 'it returns false'. Refute it at one input. -/
def fnMeetPointWrong : ChangeSpec := { name := "fnMeetPoint", fn := fun _ => fun
  | [d] => { results := [.lit (.bool false)], args := [d] }
  | _ => none }
def FnMeetPointWrongFalsely : Prop := fnMeetPointRow.holds Try.pinned (OpenSpec.ofChange fnMeetPointWrong)

/-- 'laws.FnExactMeetPoint': WHATEVER THE INPUT: true; the input reads as it did. -/
def fnExactMeetPointSpec : ChangeSpec := { name := "fnExactMeetPoint", fn := fun _ => fun
  | [d1, d2] => { results := [.lit (.bool true)], args := [d1, d2] }
  | _ => none }
def fnExactMeetPointRow : OpenClaim := { program := "ytoielngedkbmbaa", sum := "c3952d4b162a14785b79414a4b52289a535f2521132c59f13251644bfaebbb97", func := "loop.example/planargeometry/laws.FnExactMeetPoint", spec := "fnExactMeetPoint", unfollowed := true, recurses := true, apart := false }
def FnExactMeetPointSaid : Prop := fnExactMeetPointRow.holds Try.pinned (OpenSpec.ofChange fnExactMeetPointSpec)

/-- ITS FALSE NEIGHBOUR: 'it returns false'. Refute it at one input. -/
def fnExactMeetPointWrong : ChangeSpec := { name := "fnExactMeetPoint", fn := fun _ => fun
  | [d1, d2] => { results := [.lit (.bool false)], args := [d1, d2] }
  | _ => none }
def FnExactMeetPointWrongFalsely : Prop := fnExactMeetPointRow.holds Try.pinned (OpenSpec.ofChange fnExactMeetPointWrong)

/-- 'laws.FnCrossingLines': WHATEVER THE INPUT: true; the input reads as it did. -/
def fnCrossingLinesSpec : ChangeSpec := { name := "fnCrossingLines", fn := fun _ => fun
  | [d] => { results := [.lit (.bool true)], args := [d] }
  | _ => none }
def fnCrossingLinesRow : OpenClaim := { program := "ytoielngedkbmbaa", sum := "c3952d4b162a14785b79414a4b52289a535f2521132c59f13251644bfaebbb97", func := "loop.example/planargeometry/laws.FnCrossingLines", spec := "fnCrossingLines", unfollowed := true, recurses := true, apart := false }
def FnCrossingLinesSaid : Prop := fnCrossingLinesRow.holds Try.pinned (OpenSpec.ofChange fnCrossingLinesSpec)

/-- ITS FALSE NEIGHBOUR: 'it returns false'. Refute it at one input. -/
def fnCrossingLinesWrong : ChangeSpec := { name := "fnCrossingLines", fn := fun _ => fun
  | [d] => { results := [.lit (.bool false)], args := [d] }
  | _ => none }
def FnCrossingLinesWrongFalsely : Prop := fnCrossingLinesRow.holds Try.pinned (OpenSpec.ofChange fnCrossingLinesWrong)

/-- 'laws.FnExactIsDrawing': WHATEVER THE INPUT: true; the input reads as it did. -/
def fnExactIsDrawingSpec : ChangeSpec := { name := "fnExactIsDrawing", fn := fun _ => fun
  | [d] => { results := [.lit (.bool true)], args := [d] }
  | _ => none }
def fnExactIsDrawingRow : OpenClaim := { program := "ytoielngedkbmbaa", sum := "c3952d4b162a14785b79414a4b52289a535f2521132c59f13251644bfaebbb97", func := "loop.example/planargeometry/laws.FnExactIsDrawing", spec := "fnExactIsDrawing", unfollowed := true, recurses := true, apart := false }
def FnExactIsDrawingSaid : Prop := fnExactIsDrawingRow.holds Try.pinned (OpenSpec.ofChange fnExactIsDrawingSpec)

/-- ITS FALSE NEIGHBOUR: 'it returns false'. Refute it at one input. -/
def fnExactIsDrawingWrong : ChangeSpec := { name := "fnExactIsDrawing", fn := fun _ => fun
  | [d] => { results := [.lit (.bool false)], args := [d] }
  | _ => none }
def FnExactIsDrawingWrongFalsely : Prop := fnExactIsDrawingRow.holds Try.pinned (OpenSpec.ofChange fnExactIsDrawingWrong)

/-- 'laws.FnMeetingPairs': WHATEVER THE INPUT: true; the input reads as it did. -/
def fnMeetingPairsSpec : ChangeSpec := { name := "fnMeetingPairs", fn := fun _ => fun
  | [d] => { results := [.lit (.bool true)], args := [d] }
  | _ => none }
def fnMeetingPairsRow : OpenClaim := { program := "ytoielngedkbmbaa", sum := "c3952d4b162a14785b79414a4b52289a535f2521132c59f13251644bfaebbb97", func := "loop.example/planargeometry/laws.FnMeetingPairs", spec := "fnMeetingPairs", unfollowed := true, recurses := true, apart := false }
def FnMeetingPairsSaid : Prop := fnMeetingPairsRow.holds Try.pinned (OpenSpec.ofChange fnMeetingPairsSpec)

/-- ITS FALSE NEIGHBOUR: 'it returns false'. Refute it at one input. -/
def fnMeetingPairsWrong : ChangeSpec := { name := "fnMeetingPairs", fn := fun _ => fun
  | [d] => { results := [.lit (.bool false)], args := [d] }
  | _ => none }
def FnMeetingPairsWrongFalsely : Prop := fnMeetingPairsRow.holds Try.pinned (OpenSpec.ofChange fnMeetingPairsWrong)

/-- 'laws.FnExactMeetingPairs': WHATEVER THE INPUT: true; the input reads as it did. -/
def fnExactMeetingPairsSpec : ChangeSpec := { name := "fnExactMeetingPairs", fn := fun _ => fun
  | [d] => { results := [.lit (.bool true)], args := [d] }
  | _ => none }
def fnExactMeetingPairsRow : OpenClaim := { program := "ytoielngedkbmbaa", sum := "c3952d4b162a14785b79414a4b52289a535f2521132c59f13251644bfaebbb97", func := "loop.example/planargeometry/laws.FnExactMeetingPairs", spec := "fnExactMeetingPairs", unfollowed := true, recurses := true, apart := false }
def FnExactMeetingPairsSaid : Prop := fnExactMeetingPairsRow.holds Try.pinned (OpenSpec.ofChange fnExactMeetingPairsSpec)

/-- ITS FALSE NEIGHBOUR: 'it returns false'. Refute it at one input. -/
def fnExactMeetingPairsWrong : ChangeSpec := { name := "fnExactMeetingPairs", fn := fun _ => fun
  | [d] => { results := [.lit (.bool false)], args := [d] }
  | _ => none }
def FnExactMeetingPairsWrongFalsely : Prop := fnExactMeetingPairsRow.holds Try.pinned (OpenSpec.ofChange fnExactMeetingPairsWrong)

/-- 'laws.FnExactCircleCenter': WHATEVER THE INPUT: true; the input reads as it did. -/
def fnExactCircleCenterSpec : ChangeSpec := { name := "fnExactCircleCenter", fn := fun _ => fun
  | [d1, d2] => { results := [.lit (.bool true)], args := [d1, d2] }
  | _ => none }
def fnExactCircleCenterRow : OpenClaim := { program := "ytoielngedkbmbaa", sum := "c3952d4b162a14785b79414a4b52289a535f2521132c59f13251644bfaebbb97", func := "loop.example/planargeometry/laws.FnExactCircleCenter", spec := "fnExactCircleCenter", unfollowed := true, recurses := true, apart := false }
def FnExactCircleCenterSaid : Prop := fnExactCircleCenterRow.holds Try.pinned (OpenSpec.ofChange fnExactCircleCenterSpec)

/-- ITS FALSE NEIGHBOUR: 'it returns false'. Refute it at one input. -/
def fnExactCircleCenterWrong : ChangeSpec := { name := "fnExactCircleCenter", fn := fun _ => fun
  | [d1, d2] => { results := [.lit (.bool false)], args := [d1, d2] }
  | _ => none }
def FnExactCircleCenterWrongFalsely : Prop := fnExactCircleCenterRow.holds Try.pinned (OpenSpec.ofChange fnExactCircleCenterWrong)

/- THE SECOND FORM. 'bulk': how many values and letters a reading holds, each counted each time it is reached (what is shared counts as often as it is met; a slice's spare places count too). A statement '..UptoSaid' is the law's where the arguments, and the package variables that the reading takes, are together of bulk at most 1048576: NARROWER than '..Said'. Prove '..Said' where nothing that the law and all that it calls make is longer than what came in: it says more and counts as full. Else prove '..UptoSaid'. A law counts once. -/
mutual
def uptoBulk {H : Type} : DataW H → Nat
  | .lit (.string bytes) => bytes.length + 1
  | .lit _ => 1
  | .nil => 1
  | .ptr d => uptoBulk d + 1
  | .slice elems spare => uptoBulkAll elems + uptoBulkAll spare + 1
  | .agg parts => uptoBulkAll parts + 1
  | .iface _ d => uptoBulk d + 1
  | .map entries => uptoBulkEntries entries + 1
  | .held _ => 1
def uptoBulkAll {H : Type} : List (DataW H) → Nat
  | [] => 0
  | d :: r => uptoBulk d + uptoBulkAll r
def uptoBulkEntries {H : Type} : List (Lit × DataW H) → Nat
  | [] => 0
  | x :: r => uptoBulkEntry x + uptoBulkEntries r
def uptoBulkEntry {H : Type} : Lit × DataW H → Nat
  | (.string bytes, d) => bytes.length + uptoBulk d + 1
  | (_, d) => uptoBulk d + 1
 end
def uptoSmall : (H : Type) → List (DataW H) → Bool := fun _ ds => decide (uptoBulkAll ds ≤ 1048576)
def OpenSpec.upto (s : _root_.Go.ChangeSpec) : _root_.Go.OpenSpec := { _root_.Go.OpenSpec.ofChange s with cond := some uptoSmall }

/-- 'laws.FnExactPointsInRect', WHERE WHAT IT READS IS OF BULK AT MOST 1048576: true; the input reads as it did. -/
def fnExactPointsInRectUptoRow : OpenClaim := { program := "ytoielngedkbmbaa", sum := "c3952d4b162a14785b79414a4b52289a535f2521132c59f13251644bfaebbb97", func := "loop.example/planargeometry/laws.FnExactPointsInRect", spec := "fnExactPointsInRect", unfollowed := true, recurses := true, apart := false, narrowed := true }
def FnExactPointsInRectUptoSaid : Prop := fnExactPointsInRectUptoRow.holds Try.pinned (OpenSpec.upto fnExactPointsInRectSpec)

/-- 'laws.FnExactRelation', WHERE WHAT IT READS IS OF BULK AT MOST 1048576: true; the input reads as it did. -/
def fnExactRelationUptoRow : OpenClaim := { program := "ytoielngedkbmbaa", sum := "c3952d4b162a14785b79414a4b52289a535f2521132c59f13251644bfaebbb97", func := "loop.example/planargeometry/laws.FnExactRelation", spec := "fnExactRelation", unfollowed := true, recurses := true, apart := false, narrowed := true }
def FnExactRelationUptoSaid : Prop := fnExactRelationUptoRow.holds Try.pinned (OpenSpec.upto fnExactRelationSpec)

/-- 'laws.FnRelation', WHERE WHAT IT READS IS OF BULK AT MOST 1048576: true; the input reads as it did. -/
def fnRelationUptoRow : OpenClaim := { program := "ytoielngedkbmbaa", sum := "c3952d4b162a14785b79414a4b52289a535f2521132c59f13251644bfaebbb97", func := "loop.example/planargeometry/laws.FnRelation", spec := "fnRelation", unfollowed := true, recurses := true, apart := false, narrowed := true }
def FnRelationUptoSaid : Prop := fnRelationUptoRow.holds Try.pinned (OpenSpec.upto fnRelationSpec)

/-- 'laws.FnRelationEnds', WHERE WHAT IT READS IS OF BULK AT MOST 1048576: true; the input reads as it did. -/
def fnRelationEndsUptoRow : OpenClaim := { program := "ytoielngedkbmbaa", sum := "c3952d4b162a14785b79414a4b52289a535f2521132c59f13251644bfaebbb97", func := "loop.example/planargeometry/laws.FnRelationEnds", spec := "fnRelationEnds", unfollowed := true, recurses := true, apart := false, narrowed := true }
def FnRelationEndsUptoSaid : Prop := fnRelationEndsUptoRow.holds Try.pinned (OpenSpec.upto fnRelationEndsSpec)

/-- 'laws.FnSideOfRat', WHERE WHAT IT READS IS OF BULK AT MOST 1048576: true; the input reads as it did. -/
def fnSideOfRatUptoRow : OpenClaim := { program := "ytoielngedkbmbaa", sum := "c3952d4b162a14785b79414a4b52289a535f2521132c59f13251644bfaebbb97", func := "loop.example/planargeometry/laws.FnSideOfRat", spec := "fnSideOfRat", apart := false, narrowed := true }
def FnSideOfRatUptoSaid : Prop := fnSideOfRatUptoRow.holds Try.pinned (OpenSpec.upto fnSideOfRatSpec)

/-- 'laws.FnMeetPoint', WHERE WHAT IT READS IS OF BULK AT MOST 1048576: true; the input reads as it did. -/
def fnMeetPointUptoRow : OpenClaim := { program := "ytoielngedkbmbaa", sum := "c3952d4b162a14785b79414a4b52289a535f2521132c59f13251644bfaebbb97", func := "loop.example/planargeometry/laws.FnMeetPoint", spec := "fnMeetPoint", unfollowed := true, recurses := true, apart := false, narrowed := true }
def FnMeetPointUptoSaid : Prop := fnMeetPointUptoRow.holds Try.pinned (OpenSpec.upto fnMeetPointSpec)

/-- 'laws.FnExactMeetPoint', WHERE WHAT IT READS IS OF BULK AT MOST 1048576: true; the input reads as it did. -/
def fnExactMeetPointUptoRow : OpenClaim := { program := "ytoielngedkbmbaa", sum := "c3952d4b162a14785b79414a4b52289a535f2521132c59f13251644bfaebbb97", func := "loop.example/planargeometry/laws.FnExactMeetPoint", spec := "fnExactMeetPoint", unfollowed := true, recurses := true, apart := false, narrowed := true }
def FnExactMeetPointUptoSaid : Prop := fnExactMeetPointUptoRow.holds Try.pinned (OpenSpec.upto fnExactMeetPointSpec)

/-- 'laws.FnCrossingLines', WHERE WHAT IT READS IS OF BULK AT MOST 1048576: true; the input reads as it did. -/
def fnCrossingLinesUptoRow : OpenClaim := { program := "ytoielngedkbmbaa", sum := "c3952d4b162a14785b79414a4b52289a535f2521132c59f13251644bfaebbb97", func := "loop.example/planargeometry/laws.FnCrossingLines", spec := "fnCrossingLines", unfollowed := true, recurses := true, apart := false, narrowed := true }
def FnCrossingLinesUptoSaid : Prop := fnCrossingLinesUptoRow.holds Try.pinned (OpenSpec.upto fnCrossingLinesSpec)

/-- 'laws.FnExactIsDrawing', WHERE WHAT IT READS IS OF BULK AT MOST 1048576: true; the input reads as it did. -/
def fnExactIsDrawingUptoRow : OpenClaim := { program := "ytoielngedkbmbaa", sum := "c3952d4b162a14785b79414a4b52289a535f2521132c59f13251644bfaebbb97", func := "loop.example/planargeometry/laws.FnExactIsDrawing", spec := "fnExactIsDrawing", unfollowed := true, recurses := true, apart := false, narrowed := true }
def FnExactIsDrawingUptoSaid : Prop := fnExactIsDrawingUptoRow.holds Try.pinned (OpenSpec.upto fnExactIsDrawingSpec)

/-- 'laws.FnMeetingPairs', WHERE WHAT IT READS IS OF BULK AT MOST 1048576: true; the input reads as it did. -/
def fnMeetingPairsUptoRow : OpenClaim := { program := "ytoielngedkbmbaa", sum := "c3952d4b162a14785b79414a4b52289a535f2521132c59f13251644bfaebbb97", func := "loop.example/planargeometry/laws.FnMeetingPairs", spec := "fnMeetingPairs", unfollowed := true, recurses := true, apart := false, narrowed := true }
def FnMeetingPairsUptoSaid : Prop := fnMeetingPairsUptoRow.holds Try.pinned (OpenSpec.upto fnMeetingPairsSpec)

/-- 'laws.FnExactMeetingPairs', WHERE WHAT IT READS IS OF BULK AT MOST 1048576: true; the input reads as it did. -/
def fnExactMeetingPairsUptoRow : OpenClaim := { program := "ytoielngedkbmbaa", sum := "c3952d4b162a14785b79414a4b52289a535f2521132c59f13251644bfaebbb97", func := "loop.example/planargeometry/laws.FnExactMeetingPairs", spec := "fnExactMeetingPairs", unfollowed := true, recurses := true, apart := false, narrowed := true }
def FnExactMeetingPairsUptoSaid : Prop := fnExactMeetingPairsUptoRow.holds Try.pinned (OpenSpec.upto fnExactMeetingPairsSpec)

/-- 'laws.FnExactCircleCenter', WHERE WHAT IT READS IS OF BULK AT MOST 1048576: true; the input reads as it did. -/
def fnExactCircleCenterUptoRow : OpenClaim := { program := "ytoielngedkbmbaa", sum := "c3952d4b162a14785b79414a4b52289a535f2521132c59f13251644bfaebbb97", func := "loop.example/planargeometry/laws.FnExactCircleCenter", spec := "fnExactCircleCenter", unfollowed := true, recurses := true, apart := false, narrowed := true }
def FnExactCircleCenterUptoSaid : Prop := fnExactCircleCenterUptoRow.holds Try.pinned (OpenSpec.upto fnExactCircleCenterSpec)

end Rows
end Go.Proofs.Ytoielngedkbmbaa
