/-
  No cell of these rows narrows 'for every input' (looked for: loops, veiled, ifaces, maps, wideKeys, modest, calm, conditions, laid).
  DERIVED. THE GIVEN ROWS OF THIS SEAT. 12 by the template 'for every input the law returns true; each argument reads behind the call as it read before'; 0 by the template 'total and deterministic' (their statements: YtndkhbilefljnaaTotals.lean).
  GIVEN WITH THE SEED: the statements are not yours to turn. If you find one false, say at which input.
  Laid BY PROGRAM, IN A SANDBOX (cutbox-rows.mjs): the forced cells as the released guide's own fill.sh prints them over the translation 4cf615454ec952a5… (all of the seat's roots in one cut). By AI agents, Wed Nov 11 2026. No macro, syntax, notation, axiom, sorry.
-/
import Derived.Test.YtndkhbilefljnaaChecked
import GoSem.Claim
import GoSem.ClaimJoined
import GoSem.ClaimMapViews
import Derived.JoinedTies
import Derived.KernelRfl
namespace Go.Proofs.Ytndkhbilefljnaa
/- THE CELL 'sum', in the pinned program and in every row, IS THE sha256 OF THE DUMP (.gsa) THAT YtndkhbilefljnaaProg.lean LOADS. Nothing in Lean hashes anything: it is a label: what it is worth is what the hold of that sum in a sandbox is worth. -/
noncomputable def Try.pinned : Pinned := { name := "ytndkhbilefljnaa", sum := "4cf615454ec952a5584c805d5a817075909666abe78d73d5548397a6355b80dc", checked := Try.checked }
namespace Rows
def none {H : Type} : Left H := { results := [], args := [] }

/-- 'laws.FnDistribute': WHATEVER THE INPUT: true; the input reads as it did. -/
def fnDistributeSpec : ChangeSpec := { name := "fnDistribute", fn := fun _ => fun
  | [d1, d2] => { results := [.lit (.bool true)], args := [d1, d2] }
  | _ => none }
def fnDistributeRow : OpenClaim := { program := "ytndkhbilefljnaa", sum := "4cf615454ec952a5584c805d5a817075909666abe78d73d5548397a6355b80dc", func := "loop.example/planargeometry/laws.FnDistribute", spec := "fnDistribute", apart := false }
def FnDistributeSaid : Prop := fnDistributeRow.holds Try.pinned (OpenSpec.ofChange fnDistributeSpec)

/-- ITS FALSE NEIGHBOUR: 'it returns false'. Refute it at one input. -/
def fnDistributeWrong : ChangeSpec := { name := "fnDistribute", fn := fun _ => fun
  | [d1, d2] => { results := [.lit (.bool false)], args := [d1, d2] }
  | _ => none }
def FnDistributeWrongFalsely : Prop := fnDistributeRow.holds Try.pinned (OpenSpec.ofChange fnDistributeWrong)

/-- 'laws.FnExactMapPoints': WHATEVER THE INPUT: true; the input reads as it did. -/
def fnExactMapPointsSpec : ChangeSpec := { name := "fnExactMapPoints", fn := fun _ => fun
  | [d1, d2] => { results := [.lit (.bool true)], args := [d1, d2] }
  | _ => none }
def fnExactMapPointsRow : OpenClaim := { program := "ytndkhbilefljnaa", sum := "4cf615454ec952a5584c805d5a817075909666abe78d73d5548397a6355b80dc", func := "loop.example/planargeometry/laws.FnExactMapPoints", spec := "fnExactMapPoints", unfollowed := true, recurses := true, apart := false }
def FnExactMapPointsSaid : Prop := fnExactMapPointsRow.holds Try.pinned (OpenSpec.ofChange fnExactMapPointsSpec)

/-- ITS FALSE NEIGHBOUR: 'it returns false'. Refute it at one input. -/
def fnExactMapPointsWrong : ChangeSpec := { name := "fnExactMapPoints", fn := fun _ => fun
  | [d1, d2] => { results := [.lit (.bool false)], args := [d1, d2] }
  | _ => none }
def FnExactMapPointsWrongFalsely : Prop := fnExactMapPointsRow.holds Try.pinned (OpenSpec.ofChange fnExactMapPointsWrong)

/-- 'laws.FnSegmentParts': WHATEVER THE INPUT: true; the input reads as it did. -/
def fnSegmentPartsSpec : ChangeSpec := { name := "fnSegmentParts", fn := fun _ => fun
  | [d] => { results := [.lit (.bool true)], args := [d] }
  | _ => none }
def fnSegmentPartsRow : OpenClaim := { program := "ytndkhbilefljnaa", sum := "4cf615454ec952a5584c805d5a817075909666abe78d73d5548397a6355b80dc", func := "loop.example/planargeometry/laws.FnSegmentParts", spec := "fnSegmentParts", unfollowed := true, recurses := true, apart := false }
def FnSegmentPartsSaid : Prop := fnSegmentPartsRow.holds Try.pinned (OpenSpec.ofChange fnSegmentPartsSpec)

/-- ITS FALSE NEIGHBOUR: 'it returns false'. Refute it at one input. -/
def fnSegmentPartsWrong : ChangeSpec := { name := "fnSegmentParts", fn := fun _ => fun
  | [d] => { results := [.lit (.bool false)], args := [d] }
  | _ => none }
def FnSegmentPartsWrongFalsely : Prop := fnSegmentPartsRow.holds Try.pinned (OpenSpec.ofChange fnSegmentPartsWrong)

/-- 'laws.FnClosestDiameter': WHATEVER THE INPUT: true; the input reads as it did. -/
def fnClosestDiameterSpec : ChangeSpec := { name := "fnClosestDiameter", fn := fun _ => fun
  | [d] => { results := [.lit (.bool true)], args := [d] }
  | _ => none }
def fnClosestDiameterRow : OpenClaim := { program := "ytndkhbilefljnaa", sum := "4cf615454ec952a5584c805d5a817075909666abe78d73d5548397a6355b80dc", func := "loop.example/planargeometry/laws.FnClosestDiameter", spec := "fnClosestDiameter", unfollowed := true, recurses := true, apart := false }
def FnClosestDiameterSaid : Prop := fnClosestDiameterRow.holds Try.pinned (OpenSpec.ofChange fnClosestDiameterSpec)

/-- ITS FALSE NEIGHBOUR: 'it returns false'. Refute it at one input. -/
def fnClosestDiameterWrong : ChangeSpec := { name := "fnClosestDiameter", fn := fun _ => fun
  | [d] => { results := [.lit (.bool false)], args := [d] }
  | _ => none }
def FnClosestDiameterWrongFalsely : Prop := fnClosestDiameterRow.holds Try.pinned (OpenSpec.ofChange fnClosestDiameterWrong)

/-- 'laws.FnOrientMove': WHATEVER THE INPUT: true; the input reads as it did. -/
def fnOrientMoveSpec : ChangeSpec := { name := "fnOrientMove", fn := fun _ => fun
  | [d1, d2] => { results := [.lit (.bool true)], args := [d1, d2] }
  | _ => none }
def fnOrientMoveRow : OpenClaim := { program := "ytndkhbilefljnaa", sum := "4cf615454ec952a5584c805d5a817075909666abe78d73d5548397a6355b80dc", func := "loop.example/planargeometry/laws.FnOrientMove", spec := "fnOrientMove", unfollowed := true, recurses := true, apart := false }
def FnOrientMoveSaid : Prop := fnOrientMoveRow.holds Try.pinned (OpenSpec.ofChange fnOrientMoveSpec)

/-- ITS FALSE NEIGHBOUR: 'it returns false'. Refute it at one input. -/
def fnOrientMoveWrong : ChangeSpec := { name := "fnOrientMove", fn := fun _ => fun
  | [d1, d2] => { results := [.lit (.bool false)], args := [d1, d2] }
  | _ => none }
def FnOrientMoveWrongFalsely : Prop := fnOrientMoveRow.holds Try.pinned (OpenSpec.ofChange fnOrientMoveWrong)

/-- 'laws.FnNearestTo': WHATEVER THE INPUT: true; the input reads as it did. -/
def fnNearestToSpec : ChangeSpec := { name := "fnNearestTo", fn := fun _ => fun
  | [d] => { results := [.lit (.bool true)], args := [d] }
  | _ => none }
def fnNearestToRow : OpenClaim := { program := "ytndkhbilefljnaa", sum := "4cf615454ec952a5584c805d5a817075909666abe78d73d5548397a6355b80dc", func := "loop.example/planargeometry/laws.FnNearestTo", spec := "fnNearestTo", unfollowed := true, recurses := true, apart := false }
def FnNearestToSaid : Prop := fnNearestToRow.holds Try.pinned (OpenSpec.ofChange fnNearestToSpec)

/-- ITS FALSE NEIGHBOUR: 'it returns false'. Refute it at one input. -/
def fnNearestToWrong : ChangeSpec := { name := "fnNearestTo", fn := fun _ => fun
  | [d] => { results := [.lit (.bool false)], args := [d] }
  | _ => none }
def FnNearestToWrongFalsely : Prop := fnNearestToRow.holds Try.pinned (OpenSpec.ofChange fnNearestToWrong)

/-- 'laws.FnInCircle': WHATEVER THE INPUT: true; the input reads as it did. -/
def fnInCircleSpec : ChangeSpec := { name := "fnInCircle", fn := fun _ => fun
  | [d] => { results := [.lit (.bool true)], args := [d] }
  | _ => none }
def fnInCircleRow : OpenClaim := { program := "ytndkhbilefljnaa", sum := "4cf615454ec952a5584c805d5a817075909666abe78d73d5548397a6355b80dc", func := "loop.example/planargeometry/laws.FnInCircle", spec := "fnInCircle", unfollowed := true, recurses := true, apart := false }
def FnInCircleSaid : Prop := fnInCircleRow.holds Try.pinned (OpenSpec.ofChange fnInCircleSpec)

/-- ITS FALSE NEIGHBOUR: 'it returns false'. Refute it at one input. -/
def fnInCircleWrong : ChangeSpec := { name := "fnInCircle", fn := fun _ => fun
  | [d] => { results := [.lit (.bool false)], args := [d] }
  | _ => none }
def FnInCircleWrongFalsely : Prop := fnInCircleRow.holds Try.pinned (OpenSpec.ofChange fnInCircleWrong)

/-- 'laws.FnExactMaxima': WHATEVER THE INPUT: true; the input reads as it did. -/
def fnExactMaximaSpec : ChangeSpec := { name := "fnExactMaxima", fn := fun _ => fun
  | [d] => { results := [.lit (.bool true)], args := [d] }
  | _ => none }
def fnExactMaximaRow : OpenClaim := { program := "ytndkhbilefljnaa", sum := "4cf615454ec952a5584c805d5a817075909666abe78d73d5548397a6355b80dc", func := "loop.example/planargeometry/laws.FnExactMaxima", spec := "fnExactMaxima", unfollowed := true, recurses := true, apart := false }
def FnExactMaximaSaid : Prop := fnExactMaximaRow.holds Try.pinned (OpenSpec.ofChange fnExactMaximaSpec)

/-- ITS FALSE NEIGHBOUR: 'it returns false'. Refute it at one input. -/
def fnExactMaximaWrong : ChangeSpec := { name := "fnExactMaxima", fn := fun _ => fun
  | [d] => { results := [.lit (.bool false)], args := [d] }
  | _ => none }
def FnExactMaximaWrongFalsely : Prop := fnExactMaximaRow.holds Try.pinned (OpenSpec.ofChange fnExactMaximaWrong)

/-- 'laws.FnExactDominatedCount': WHATEVER THE INPUT: true; the input reads as it did. -/
def fnExactDominatedCountSpec : ChangeSpec := { name := "fnExactDominatedCount", fn := fun _ => fun
  | [d] => { results := [.lit (.bool true)], args := [d] }
  | _ => none }
def fnExactDominatedCountRow : OpenClaim := { program := "ytndkhbilefljnaa", sum := "4cf615454ec952a5584c805d5a817075909666abe78d73d5548397a6355b80dc", func := "loop.example/planargeometry/laws.FnExactDominatedCount", spec := "fnExactDominatedCount", unfollowed := true, recurses := true, apart := false }
def FnExactDominatedCountSaid : Prop := fnExactDominatedCountRow.holds Try.pinned (OpenSpec.ofChange fnExactDominatedCountSpec)

/-- ITS FALSE NEIGHBOUR: 'it returns false'. Refute it at one input. -/
def fnExactDominatedCountWrong : ChangeSpec := { name := "fnExactDominatedCount", fn := fun _ => fun
  | [d] => { results := [.lit (.bool false)], args := [d] }
  | _ => none }
def FnExactDominatedCountWrongFalsely : Prop := fnExactDominatedCountRow.holds Try.pinned (OpenSpec.ofChange fnExactDominatedCountWrong)

/-- 'laws.FnInTriangle': WHATEVER THE INPUT: true; the input reads as it did. -/
def fnInTriangleSpec : ChangeSpec := { name := "fnInTriangle", fn := fun _ => fun
  | [d] => { results := [.lit (.bool true)], args := [d] }
  | _ => none }
def fnInTriangleRow : OpenClaim := { program := "ytndkhbilefljnaa", sum := "4cf615454ec952a5584c805d5a817075909666abe78d73d5548397a6355b80dc", func := "loop.example/planargeometry/laws.FnInTriangle", spec := "fnInTriangle", unfollowed := true, recurses := true, apart := false }
def FnInTriangleSaid : Prop := fnInTriangleRow.holds Try.pinned (OpenSpec.ofChange fnInTriangleSpec)

/-- ITS FALSE NEIGHBOUR: 'it returns false'. Refute it at one input. -/
def fnInTriangleWrong : ChangeSpec := { name := "fnInTriangle", fn := fun _ => fun
  | [d] => { results := [.lit (.bool false)], args := [d] }
  | _ => none }
def FnInTriangleWrongFalsely : Prop := fnInTriangleRow.holds Try.pinned (OpenSpec.ofChange fnInTriangleWrong)

/-- 'laws.FnAddRats': WHATEVER THE INPUT: true; the input reads as it did. -/
def fnAddRatsSpec : ChangeSpec := { name := "fnAddRats", fn := fun _ => fun
  | [d] => { results := [.lit (.bool true)], args := [d] }
  | _ => none }
def fnAddRatsRow : OpenClaim := { program := "ytndkhbilefljnaa", sum := "4cf615454ec952a5584c805d5a817075909666abe78d73d5548397a6355b80dc", func := "loop.example/planargeometry/laws.FnAddRats", spec := "fnAddRats", apart := false }
def FnAddRatsSaid : Prop := fnAddRatsRow.holds Try.pinned (OpenSpec.ofChange fnAddRatsSpec)

/-- ITS FALSE NEIGHBOUR: 'it returns false'. Refute it at one input. -/
def fnAddRatsWrong : ChangeSpec := { name := "fnAddRats", fn := fun _ => fun
  | [d] => { results := [.lit (.bool false)], args := [d] }
  | _ => none }
def FnAddRatsWrongFalsely : Prop := fnAddRatsRow.holds Try.pinned (OpenSpec.ofChange fnAddRatsWrong)

/-- 'laws.FnExactTotalLength': WHATEVER THE INPUT: true; the input reads as it did. -/
def fnExactTotalLengthSpec : ChangeSpec := { name := "fnExactTotalLength", fn := fun _ => fun
  | [d1, d2] => { results := [.lit (.bool true)], args := [d1, d2] }
  | _ => none }
def fnExactTotalLengthRow : OpenClaim := { program := "ytndkhbilefljnaa", sum := "4cf615454ec952a5584c805d5a817075909666abe78d73d5548397a6355b80dc", func := "loop.example/planargeometry/laws.FnExactTotalLength", spec := "fnExactTotalLength", unfollowed := true, recurses := true, apart := false }
def FnExactTotalLengthSaid : Prop := fnExactTotalLengthRow.holds Try.pinned (OpenSpec.ofChange fnExactTotalLengthSpec)

/-- ITS FALSE NEIGHBOUR: 'it returns false'. Refute it at one input. -/
def fnExactTotalLengthWrong : ChangeSpec := { name := "fnExactTotalLength", fn := fun _ => fun
  | [d1, d2] => { results := [.lit (.bool false)], args := [d1, d2] }
  | _ => none }
def FnExactTotalLengthWrongFalsely : Prop := fnExactTotalLengthRow.holds Try.pinned (OpenSpec.ofChange fnExactTotalLengthWrong)

/- THE SECOND FORM. 'bulk': how many values and letters a reading holds, each counted each time it is reached (what is shared counts as often as it is met; a slice's spare places count too). A statement '..UptoSaid' is the law's where the arguments, and the package variables that the reading takes, are together of bulk at most 1048576: NARROWER than '..Said'. Prove '..Said' where nothing that the law and all that it calls make is longer than what came in: it says more and counts as full. Else prove '..UptoSaid'. A law counts once. -/
mutual
def uptoBulk {H : Type} : DataW H → Nat
  | .lit (.string bytes) => bytes.length + 1
  | .lit _ => 1
  | .nil => 1
  | .ptr d => uptoBulk d + 1
  | .slice elems spare => uptoBulkAll elems + uptoBulkAll spare + 1
  | .agg parts => uptoBulkAll parts + 1
  | .iface _ d => uptoBulk d + 1
  | .map entries => uptoBulkEntries entries + 1
  | .held _ => 1
def uptoBulkAll {H : Type} : List (DataW H) → Nat
  | [] => 0
  | d :: r => uptoBulk d + uptoBulkAll r
def uptoBulkEntries {H : Type} : List (Lit × DataW H) → Nat
  | [] => 0
  | x :: r => uptoBulkEntry x + uptoBulkEntries r
def uptoBulkEntry {H : Type} : Lit × DataW H → Nat
  | (.string bytes, d) => bytes.length + uptoBulk d + 1
  | (_, d) => uptoBulk d + 1
 end
def uptoSmall : (H : Type) → List (DataW H) → Bool := fun _ ds => decide (uptoBulkAll ds ≤ 1048576)
def OpenSpec.upto (s : _root_.Go.ChangeSpec) : _root_.Go.OpenSpec := { _root_.Go.OpenSpec.ofChange s with cond := some uptoSmall }

/-- 'laws.FnDistribute', WHERE WHAT IT READS IS OF BULK AT MOST 1048576: true; the input reads as it did. -/
def fnDistributeUptoRow : OpenClaim := { program := "ytndkhbilefljnaa", sum := "4cf615454ec952a5584c805d5a817075909666abe78d73d5548397a6355b80dc", func := "loop.example/planargeometry/laws.FnDistribute", spec := "fnDistribute", apart := false, narrowed := true }
def FnDistributeUptoSaid : Prop := fnDistributeUptoRow.holds Try.pinned (OpenSpec.upto fnDistributeSpec)

/-- 'laws.FnExactMapPoints', WHERE WHAT IT READS IS OF BULK AT MOST 1048576: true; the input reads as it did. -/
def fnExactMapPointsUptoRow : OpenClaim := { program := "ytndkhbilefljnaa", sum := "4cf615454ec952a5584c805d5a817075909666abe78d73d5548397a6355b80dc", func := "loop.example/planargeometry/laws.FnExactMapPoints", spec := "fnExactMapPoints", unfollowed := true, recurses := true, apart := false, narrowed := true }
def FnExactMapPointsUptoSaid : Prop := fnExactMapPointsUptoRow.holds Try.pinned (OpenSpec.upto fnExactMapPointsSpec)

/-- 'laws.FnSegmentParts', WHERE WHAT IT READS IS OF BULK AT MOST 1048576: true; the input reads as it did. -/
def fnSegmentPartsUptoRow : OpenClaim := { program := "ytndkhbilefljnaa", sum := "4cf615454ec952a5584c805d5a817075909666abe78d73d5548397a6355b80dc", func := "loop.example/planargeometry/laws.FnSegmentParts", spec := "fnSegmentParts", unfollowed := true, recurses := true, apart := false, narrowed := true }
def FnSegmentPartsUptoSaid : Prop := fnSegmentPartsUptoRow.holds Try.pinned (OpenSpec.upto fnSegmentPartsSpec)

/-- 'laws.FnClosestDiameter', WHERE WHAT IT READS IS OF BULK AT MOST 1048576: true; the input reads as it did. -/
def fnClosestDiameterUptoRow : OpenClaim := { program := "ytndkhbilefljnaa", sum := "4cf615454ec952a5584c805d5a817075909666abe78d73d5548397a6355b80dc", func := "loop.example/planargeometry/laws.FnClosestDiameter", spec := "fnClosestDiameter", unfollowed := true, recurses := true, apart := false, narrowed := true }
def FnClosestDiameterUptoSaid : Prop := fnClosestDiameterUptoRow.holds Try.pinned (OpenSpec.upto fnClosestDiameterSpec)

/-- 'laws.FnOrientMove', WHERE WHAT IT READS IS OF BULK AT MOST 1048576: true; the input reads as it did. -/
def fnOrientMoveUptoRow : OpenClaim := { program := "ytndkhbilefljnaa", sum := "4cf615454ec952a5584c805d5a817075909666abe78d73d5548397a6355b80dc", func := "loop.example/planargeometry/laws.FnOrientMove", spec := "fnOrientMove", unfollowed := true, recurses := true, apart := false, narrowed := true }
def FnOrientMoveUptoSaid : Prop := fnOrientMoveUptoRow.holds Try.pinned (OpenSpec.upto fnOrientMoveSpec)

/-- 'laws.FnNearestTo', WHERE WHAT IT READS IS OF BULK AT MOST 1048576: true; the input reads as it did. -/
def fnNearestToUptoRow : OpenClaim := { program := "ytndkhbilefljnaa", sum := "4cf615454ec952a5584c805d5a817075909666abe78d73d5548397a6355b80dc", func := "loop.example/planargeometry/laws.FnNearestTo", spec := "fnNearestTo", unfollowed := true, recurses := true, apart := false, narrowed := true }
def FnNearestToUptoSaid : Prop := fnNearestToUptoRow.holds Try.pinned (OpenSpec.upto fnNearestToSpec)

/-- 'laws.FnInCircle', WHERE WHAT IT READS IS OF BULK AT MOST 1048576: true; the input reads as it did. -/
def fnInCircleUptoRow : OpenClaim := { program := "ytndkhbilefljnaa", sum := "4cf615454ec952a5584c805d5a817075909666abe78d73d5548397a6355b80dc", func := "loop.example/planargeometry/laws.FnInCircle", spec := "fnInCircle", unfollowed := true, recurses := true, apart := false, narrowed := true }
def FnInCircleUptoSaid : Prop := fnInCircleUptoRow.holds Try.pinned (OpenSpec.upto fnInCircleSpec)

/-- 'laws.FnExactMaxima', WHERE WHAT IT READS IS OF BULK AT MOST 1048576: true; the input reads as it did. -/
def fnExactMaximaUptoRow : OpenClaim := { program := "ytndkhbilefljnaa", sum := "4cf615454ec952a5584c805d5a817075909666abe78d73d5548397a6355b80dc", func := "loop.example/planargeometry/laws.FnExactMaxima", spec := "fnExactMaxima", unfollowed := true, recurses := true, apart := false, narrowed := true }
def FnExactMaximaUptoSaid : Prop := fnExactMaximaUptoRow.holds Try.pinned (OpenSpec.upto fnExactMaximaSpec)

/-- 'laws.FnExactDominatedCount', WHERE WHAT IT READS IS OF BULK AT MOST 1048576: true; the input reads as it did. -/
def fnExactDominatedCountUptoRow : OpenClaim := { program := "ytndkhbilefljnaa", sum := "4cf615454ec952a5584c805d5a817075909666abe78d73d5548397a6355b80dc", func := "loop.example/planargeometry/laws.FnExactDominatedCount", spec := "fnExactDominatedCount", unfollowed := true, recurses := true, apart := false, narrowed := true }
def FnExactDominatedCountUptoSaid : Prop := fnExactDominatedCountUptoRow.holds Try.pinned (OpenSpec.upto fnExactDominatedCountSpec)

/-- 'laws.FnInTriangle', WHERE WHAT IT READS IS OF BULK AT MOST 1048576: true; the input reads as it did. -/
def fnInTriangleUptoRow : OpenClaim := { program := "ytndkhbilefljnaa", sum := "4cf615454ec952a5584c805d5a817075909666abe78d73d5548397a6355b80dc", func := "loop.example/planargeometry/laws.FnInTriangle", spec := "fnInTriangle", unfollowed := true, recurses := true, apart := false, narrowed := true }
def FnInTriangleUptoSaid : Prop := fnInTriangleUptoRow.holds Try.pinned (OpenSpec.upto fnInTriangleSpec)

/-- 'laws.FnAddRats', WHERE WHAT IT READS IS OF BULK AT MOST 1048576: true; the input reads as it did. -/
def fnAddRatsUptoRow : OpenClaim := { program := "ytndkhbilefljnaa", sum := "4cf615454ec952a5584c805d5a817075909666abe78d73d5548397a6355b80dc", func := "loop.example/planargeometry/laws.FnAddRats", spec := "fnAddRats", apart := false, narrowed := true }
def FnAddRatsUptoSaid : Prop := fnAddRatsUptoRow.holds Try.pinned (OpenSpec.upto fnAddRatsSpec)

/-- 'laws.FnExactTotalLength', WHERE WHAT IT READS IS OF BULK AT MOST 1048576: true; the input reads as it did. -/
def fnExactTotalLengthUptoRow : OpenClaim := { program := "ytndkhbilefljnaa", sum := "4cf615454ec952a5584c805d5a817075909666abe78d73d5548397a6355b80dc", func := "loop.example/planargeometry/laws.FnExactTotalLength", spec := "fnExactTotalLength", unfollowed := true, recurses := true, apart := false, narrowed := true }
def FnExactTotalLengthUptoSaid : Prop := fnExactTotalLengthUptoRow.holds Try.pinned (OpenSpec.upto fnExactTotalLengthSpec)

end Rows
end Go.Proofs.Ytndkhbilefljnaa
