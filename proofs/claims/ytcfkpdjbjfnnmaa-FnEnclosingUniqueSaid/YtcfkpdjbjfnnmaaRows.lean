/-
  No cell of these rows narrows 'for every input' (looked for: loops, veiled, ifaces, maps, wideKeys, modest, calm, conditions, laid).
  DERIVED. THE GIVEN ROWS OF THIS SEAT. 10 by the template 'for every input the law returns true; each argument reads behind the call as it read before'; 0 by the template 'total and deterministic' (their statements: YtcfkpdjbjfnnmaaTotals.lean).
  GIVEN WITH THE SEED: the statements are not yours to turn. If you find one false, say at which input.
  Laid BY PROGRAM, IN A SANDBOX (cutbox-rows.mjs): the forced cells as the released guide's own fill.sh prints them over the translation 5233376f6951e631… (all of the seat's roots in one cut). By AI agents, Wed Nov 11 2026. No macro, syntax, notation, axiom, sorry.
-/
import Derived.Test.YtcfkpdjbjfnnmaaChecked
import GoSem.Claim
import GoSem.ClaimJoined
import GoSem.ClaimMapViews
import Derived.JoinedTies
import Derived.KernelRfl
namespace Go.Proofs.Ytcfkpdjbjfnnmaa
/- THE CELL 'sum', in the pinned program and in every row, IS THE sha256 OF THE DUMP (.gsa) THAT YtcfkpdjbjfnnmaaProg.lean LOADS. Nothing in Lean hashes anything: it is a label: what it is worth is what the hold of that sum in a sandbox is worth. -/
noncomputable def Try.pinned : Pinned := { name := "ytcfkpdjbjfnnmaa", sum := "5233376f6951e6318d9833701174ee311996e9a742043c8fb4dc8f3469f4dde9", checked := Try.checked }
namespace Rows
def none {H : Type} : Left H := { results := [], args := [] }

/-- 'laws.FnExactCheckSpanning': WHATEVER THE INPUT: true; the input reads as it did. -/
def fnExactCheckSpanningSpec : ChangeSpec := { name := "fnExactCheckSpanning", fn := fun _ => fun
  | [d1, d2] => { results := [.lit (.bool true)], args := [d1, d2] }
  | _ => none }
def fnExactCheckSpanningRow : OpenClaim := { program := "ytcfkpdjbjfnnmaa", sum := "5233376f6951e6318d9833701174ee311996e9a742043c8fb4dc8f3469f4dde9", func := "loop.example/planargeometry/laws.FnExactCheckSpanning", spec := "fnExactCheckSpanning", unfollowed := true, recurses := true, apart := false }
def FnExactCheckSpanningSaid : Prop := fnExactCheckSpanningRow.holds Try.pinned (OpenSpec.ofChange fnExactCheckSpanningSpec)

/-- ITS FALSE NEIGHBOUR: 'it returns false'. Refute it at one input. -/
def fnExactCheckSpanningWrong : ChangeSpec := { name := "fnExactCheckSpanning", fn := fun _ => fun
  | [d1, d2] => { results := [.lit (.bool false)], args := [d1, d2] }
  | _ => none }
def FnExactCheckSpanningWrongFalsely : Prop := fnExactCheckSpanningRow.holds Try.pinned (OpenSpec.ofChange fnExactCheckSpanningWrong)

/-- 'laws.FnExactEnclosingSupport': WHATEVER THE INPUT: true; the input reads as it did. -/
def fnExactEnclosingSupportSpec : ChangeSpec := { name := "fnExactEnclosingSupport", fn := fun _ => fun
  | [d] => { results := [.lit (.bool true)], args := [d] }
  | _ => none }
def fnExactEnclosingSupportRow : OpenClaim := { program := "ytcfkpdjbjfnnmaa", sum := "5233376f6951e6318d9833701174ee311996e9a742043c8fb4dc8f3469f4dde9", func := "loop.example/planargeometry/laws.FnExactEnclosingSupport", spec := "fnExactEnclosingSupport", unfollowed := true, recurses := true, apart := false }
def FnExactEnclosingSupportSaid : Prop := fnExactEnclosingSupportRow.holds Try.pinned (OpenSpec.ofChange fnExactEnclosingSupportSpec)

/-- ITS FALSE NEIGHBOUR: 'it returns false'. Refute it at one input. -/
def fnExactEnclosingSupportWrong : ChangeSpec := { name := "fnExactEnclosingSupport", fn := fun _ => fun
  | [d] => { results := [.lit (.bool false)], args := [d] }
  | _ => none }
def FnExactEnclosingSupportWrongFalsely : Prop := fnExactEnclosingSupportRow.holds Try.pinned (OpenSpec.ofChange fnExactEnclosingSupportWrong)

/-- 'laws.FnCircleCenter': WHATEVER THE INPUT: true; the input reads as it did. -/
def fnCircleCenterSpec : ChangeSpec := { name := "fnCircleCenter", fn := fun _ => fun
  | [d] => { results := [.lit (.bool true)], args := [d] }
  | _ => none }
def fnCircleCenterRow : OpenClaim := { program := "ytcfkpdjbjfnnmaa", sum := "5233376f6951e6318d9833701174ee311996e9a742043c8fb4dc8f3469f4dde9", func := "loop.example/planargeometry/laws.FnCircleCenter", spec := "fnCircleCenter", unfollowed := true, recurses := true, apart := false }
def FnCircleCenterSaid : Prop := fnCircleCenterRow.holds Try.pinned (OpenSpec.ofChange fnCircleCenterSpec)

/-- ITS FALSE NEIGHBOUR: 'it returns false'. Refute it at one input. -/
def fnCircleCenterWrong : ChangeSpec := { name := "fnCircleCenter", fn := fun _ => fun
  | [d] => { results := [.lit (.bool false)], args := [d] }
  | _ => none }
def FnCircleCenterWrongFalsely : Prop := fnCircleCenterRow.holds Try.pinned (OpenSpec.ofChange fnCircleCenterWrong)

/-- 'laws.FnEnclosingUnique': WHATEVER THE INPUT: true; the input reads as it did. -/
def fnEnclosingUniqueSpec : ChangeSpec := { name := "fnEnclosingUnique", fn := fun _ => fun
  | [d] => { results := [.lit (.bool true)], args := [d] }
  | _ => none }
def fnEnclosingUniqueRow : OpenClaim := { program := "ytcfkpdjbjfnnmaa", sum := "5233376f6951e6318d9833701174ee311996e9a742043c8fb4dc8f3469f4dde9", func := "loop.example/planargeometry/laws.FnEnclosingUnique", spec := "fnEnclosingUnique", unfollowed := true, recurses := true, apart := false }
def FnEnclosingUniqueSaid : Prop := fnEnclosingUniqueRow.holds Try.pinned (OpenSpec.ofChange fnEnclosingUniqueSpec)

/-- ITS FALSE NEIGHBOUR: 'it returns false'. Refute it at one input. -/
def fnEnclosingUniqueWrong : ChangeSpec := { name := "fnEnclosingUnique", fn := fun _ => fun
  | [d] => { results := [.lit (.bool false)], args := [d] }
  | _ => none }
def FnEnclosingUniqueWrongFalsely : Prop := fnEnclosingUniqueRow.holds Try.pinned (OpenSpec.ofChange fnEnclosingUniqueWrong)

/-- 'laws.FnSpanningPath': WHATEVER THE INPUT: true; the input reads as it did. -/
def fnSpanningPathSpec : ChangeSpec := { name := "fnSpanningPath", fn := fun _ => fun
  | [d] => { results := [.lit (.bool true)], args := [d] }
  | _ => none }
def fnSpanningPathRow : OpenClaim := { program := "ytcfkpdjbjfnnmaa", sum := "5233376f6951e6318d9833701174ee311996e9a742043c8fb4dc8f3469f4dde9", func := "loop.example/planargeometry/laws.FnSpanningPath", spec := "fnSpanningPath", unfollowed := true, recurses := true, apart := false }
def FnSpanningPathSaid : Prop := fnSpanningPathRow.holds Try.pinned (OpenSpec.ofChange fnSpanningPathSpec)

/-- ITS FALSE NEIGHBOUR: 'it returns false'. Refute it at one input. -/
def fnSpanningPathWrong : ChangeSpec := { name := "fnSpanningPath", fn := fun _ => fun
  | [d] => { results := [.lit (.bool false)], args := [d] }
  | _ => none }
def FnSpanningPathWrongFalsely : Prop := fnSpanningPathRow.holds Try.pinned (OpenSpec.ofChange fnSpanningPathWrong)

/-- 'laws.FnExactSpanningTree': WHATEVER THE INPUT: true; the input reads as it did. -/
def fnExactSpanningTreeSpec : ChangeSpec := { name := "fnExactSpanningTree", fn := fun _ => fun
  | [d] => { results := [.lit (.bool true)], args := [d] }
  | _ => none }
def fnExactSpanningTreeRow : OpenClaim := { program := "ytcfkpdjbjfnnmaa", sum := "5233376f6951e6318d9833701174ee311996e9a742043c8fb4dc8f3469f4dde9", func := "loop.example/planargeometry/laws.FnExactSpanningTree", spec := "fnExactSpanningTree", unfollowed := true, recurses := true, apart := false }
def FnExactSpanningTreeSaid : Prop := fnExactSpanningTreeRow.holds Try.pinned (OpenSpec.ofChange fnExactSpanningTreeSpec)

/-- ITS FALSE NEIGHBOUR: 'it returns false'. Refute it at one input. -/
def fnExactSpanningTreeWrong : ChangeSpec := { name := "fnExactSpanningTree", fn := fun _ => fun
  | [d] => { results := [.lit (.bool false)], args := [d] }
  | _ => none }
def FnExactSpanningTreeWrongFalsely : Prop := fnExactSpanningTreeRow.holds Try.pinned (OpenSpec.ofChange fnExactSpanningTreeWrong)

/-- 'laws.FnSpanningTree': WHATEVER THE INPUT: true; the input reads as it did. -/
def fnSpanningTreeSpec : ChangeSpec := { name := "fnSpanningTree", fn := fun _ => fun
  | [d] => { results := [.lit (.bool true)], args := [d] }
  | _ => none }
def fnSpanningTreeRow : OpenClaim := { program := "ytcfkpdjbjfnnmaa", sum := "5233376f6951e6318d9833701174ee311996e9a742043c8fb4dc8f3469f4dde9", func := "loop.example/planargeometry/laws.FnSpanningTree", spec := "fnSpanningTree", unfollowed := true, recurses := true, apart := false }
def FnSpanningTreeSaid : Prop := fnSpanningTreeRow.holds Try.pinned (OpenSpec.ofChange fnSpanningTreeSpec)

/-- ITS FALSE NEIGHBOUR: 'it returns false'. Refute it at one input. -/
def fnSpanningTreeWrong : ChangeSpec := { name := "fnSpanningTree", fn := fun _ => fun
  | [d] => { results := [.lit (.bool false)], args := [d] }
  | _ => none }
def FnSpanningTreeWrongFalsely : Prop := fnSpanningTreeRow.holds Try.pinned (OpenSpec.ofChange fnSpanningTreeWrong)

/-- 'laws.FnSpanningMove': WHATEVER THE INPUT: true; the input reads as it did. -/
def fnSpanningMoveSpec : ChangeSpec := { name := "fnSpanningMove", fn := fun _ => fun
  | [d] => { results := [.lit (.bool true)], args := [d] }
  | _ => none }
def fnSpanningMoveRow : OpenClaim := { program := "ytcfkpdjbjfnnmaa", sum := "5233376f6951e6318d9833701174ee311996e9a742043c8fb4dc8f3469f4dde9", func := "loop.example/planargeometry/laws.FnSpanningMove", spec := "fnSpanningMove", unfollowed := true, recurses := true, apart := false }
def FnSpanningMoveSaid : Prop := fnSpanningMoveRow.holds Try.pinned (OpenSpec.ofChange fnSpanningMoveSpec)

/-- ITS FALSE NEIGHBOUR: 'it returns false'. Refute it at one input. -/
def fnSpanningMoveWrong : ChangeSpec := { name := "fnSpanningMove", fn := fun _ => fun
  | [d] => { results := [.lit (.bool false)], args := [d] }
  | _ => none }
def FnSpanningMoveWrongFalsely : Prop := fnSpanningMoveRow.holds Try.pinned (OpenSpec.ofChange fnSpanningMoveWrong)

/-- 'laws.FnCheckSpanning': WHATEVER THE INPUT: true; the input reads as it did. -/
def fnCheckSpanningSpec : ChangeSpec := { name := "fnCheckSpanning", fn := fun _ => fun
  | [d] => { results := [.lit (.bool true)], args := [d] }
  | _ => none }
def fnCheckSpanningRow : OpenClaim := { program := "ytcfkpdjbjfnnmaa", sum := "5233376f6951e6318d9833701174ee311996e9a742043c8fb4dc8f3469f4dde9", func := "loop.example/planargeometry/laws.FnCheckSpanning", spec := "fnCheckSpanning", unfollowed := true, recurses := true, apart := false }
def FnCheckSpanningSaid : Prop := fnCheckSpanningRow.holds Try.pinned (OpenSpec.ofChange fnCheckSpanningSpec)

/-- ITS FALSE NEIGHBOUR: 'it returns false'. Refute it at one input. -/
def fnCheckSpanningWrong : ChangeSpec := { name := "fnCheckSpanning", fn := fun _ => fun
  | [d] => { results := [.lit (.bool false)], args := [d] }
  | _ => none }
def FnCheckSpanningWrongFalsely : Prop := fnCheckSpanningRow.holds Try.pinned (OpenSpec.ofChange fnCheckSpanningWrong)

/-- 'laws.FnKdParts': WHATEVER THE INPUT: true; the input reads as it did. -/
def fnKdPartsSpec : ChangeSpec := { name := "fnKdParts", fn := fun _ => fun
  | [d] => { results := [.lit (.bool true)], args := [d] }
  | _ => none }
def fnKdPartsRow : OpenClaim := { program := "ytcfkpdjbjfnnmaa", sum := "5233376f6951e6318d9833701174ee311996e9a742043c8fb4dc8f3469f4dde9", func := "loop.example/planargeometry/laws.FnKdParts", spec := "fnKdParts", unfollowed := true, recurses := true, apart := false }
def FnKdPartsSaid : Prop := fnKdPartsRow.holds Try.pinned (OpenSpec.ofChange fnKdPartsSpec)

/-- ITS FALSE NEIGHBOUR: 'it returns false'. Refute it at one input. -/
def fnKdPartsWrong : ChangeSpec := { name := "fnKdParts", fn := fun _ => fun
  | [d] => { results := [.lit (.bool false)], args := [d] }
  | _ => none }
def FnKdPartsWrongFalsely : Prop := fnKdPartsRow.holds Try.pinned (OpenSpec.ofChange fnKdPartsWrong)

/- THE SECOND FORM. 'bulk': how many values and letters a reading holds, each counted each time it is reached (what is shared counts as often as it is met; a slice's spare places count too). A statement '..UptoSaid' is the law's where the arguments, and the package variables that the reading takes, are together of bulk at most 1048576: NARROWER than '..Said'. Prove '..Said' where nothing that the law and all that it calls make is longer than what came in: it says more and counts as full. Else prove '..UptoSaid'. A law counts once. -/
mutual
def uptoBulk {H : Type} : DataW H → Nat
  | .lit (.string bytes) => bytes.length + 1
  | .lit _ => 1
  | .nil => 1
  | .ptr d => uptoBulk d + 1
  | .slice elems spare => uptoBulkAll elems + uptoBulkAll spare + 1
  | .agg parts => uptoBulkAll parts + 1
  | .iface _ d => uptoBulk d + 1
  | .map entries => uptoBulkEntries entries + 1
  | .held _ => 1
def uptoBulkAll {H : Type} : List (DataW H) → Nat
  | [] => 0
  | d :: r => uptoBulk d + uptoBulkAll r
def uptoBulkEntries {H : Type} : List (Lit × DataW H) → Nat
  | [] => 0
  | x :: r => uptoBulkEntry x + uptoBulkEntries r
def uptoBulkEntry {H : Type} : Lit × DataW H → Nat
  | (.string bytes, d) => bytes.length + uptoBulk d + 1
  | (_, d) => uptoBulk d + 1
 end
def uptoSmall : (H : Type) → List (DataW H) → Bool := fun _ ds => decide (uptoBulkAll ds ≤ 1048576)
def OpenSpec.upto (s : _root_.Go.ChangeSpec) : _root_.Go.OpenSpec := { _root_.Go.OpenSpec.ofChange s with cond := some uptoSmall }

/-- 'laws.FnExactCheckSpanning', WHERE WHAT IT READS IS OF BULK AT MOST 1048576: true; the input reads as it did. -/
def fnExactCheckSpanningUptoRow : OpenClaim := { program := "ytcfkpdjbjfnnmaa", sum := "5233376f6951e6318d9833701174ee311996e9a742043c8fb4dc8f3469f4dde9", func := "loop.example/planargeometry/laws.FnExactCheckSpanning", spec := "fnExactCheckSpanning", unfollowed := true, recurses := true, apart := false, narrowed := true }
def FnExactCheckSpanningUptoSaid : Prop := fnExactCheckSpanningUptoRow.holds Try.pinned (OpenSpec.upto fnExactCheckSpanningSpec)

/-- 'laws.FnExactEnclosingSupport', WHERE WHAT IT READS IS OF BULK AT MOST 1048576: true; the input reads as it did. -/
def fnExactEnclosingSupportUptoRow : OpenClaim := { program := "ytcfkpdjbjfnnmaa", sum := "5233376f6951e6318d9833701174ee311996e9a742043c8fb4dc8f3469f4dde9", func := "loop.example/planargeometry/laws.FnExactEnclosingSupport", spec := "fnExactEnclosingSupport", unfollowed := true, recurses := true, apart := false, narrowed := true }
def FnExactEnclosingSupportUptoSaid : Prop := fnExactEnclosingSupportUptoRow.holds Try.pinned (OpenSpec.upto fnExactEnclosingSupportSpec)

/-- 'laws.FnCircleCenter', WHERE WHAT IT READS IS OF BULK AT MOST 1048576: true; the input reads as it did. -/
def fnCircleCenterUptoRow : OpenClaim := { program := "ytcfkpdjbjfnnmaa", sum := "5233376f6951e6318d9833701174ee311996e9a742043c8fb4dc8f3469f4dde9", func := "loop.example/planargeometry/laws.FnCircleCenter", spec := "fnCircleCenter", unfollowed := true, recurses := true, apart := false, narrowed := true }
def FnCircleCenterUptoSaid : Prop := fnCircleCenterUptoRow.holds Try.pinned (OpenSpec.upto fnCircleCenterSpec)

/-- 'laws.FnEnclosingUnique', WHERE WHAT IT READS IS OF BULK AT MOST 1048576: true; the input reads as it did. -/
def fnEnclosingUniqueUptoRow : OpenClaim := { program := "ytcfkpdjbjfnnmaa", sum := "5233376f6951e6318d9833701174ee311996e9a742043c8fb4dc8f3469f4dde9", func := "loop.example/planargeometry/laws.FnEnclosingUnique", spec := "fnEnclosingUnique", unfollowed := true, recurses := true, apart := false, narrowed := true }
def FnEnclosingUniqueUptoSaid : Prop := fnEnclosingUniqueUptoRow.holds Try.pinned (OpenSpec.upto fnEnclosingUniqueSpec)

/-- 'laws.FnSpanningPath', WHERE WHAT IT READS IS OF BULK AT MOST 1048576: true; the input reads as it did. -/
def fnSpanningPathUptoRow : OpenClaim := { program := "ytcfkpdjbjfnnmaa", sum := "5233376f6951e6318d9833701174ee311996e9a742043c8fb4dc8f3469f4dde9", func := "loop.example/planargeometry/laws.FnSpanningPath", spec := "fnSpanningPath", unfollowed := true, recurses := true, apart := false, narrowed := true }
def FnSpanningPathUptoSaid : Prop := fnSpanningPathUptoRow.holds Try.pinned (OpenSpec.upto fnSpanningPathSpec)

/-- 'laws.FnExactSpanningTree', WHERE WHAT IT READS IS OF BULK AT MOST 1048576: true; the input reads as it did. -/
def fnExactSpanningTreeUptoRow : OpenClaim := { program := "ytcfkpdjbjfnnmaa", sum := "5233376f6951e6318d9833701174ee311996e9a742043c8fb4dc8f3469f4dde9", func := "loop.example/planargeometry/laws.FnExactSpanningTree", spec := "fnExactSpanningTree", unfollowed := true, recurses := true, apart := false, narrowed := true }
def FnExactSpanningTreeUptoSaid : Prop := fnExactSpanningTreeUptoRow.holds Try.pinned (OpenSpec.upto fnExactSpanningTreeSpec)

/-- 'laws.FnSpanningTree', WHERE WHAT IT READS IS OF BULK AT MOST 1048576: true; the input reads as it did. -/
def fnSpanningTreeUptoRow : OpenClaim := { program := "ytcfkpdjbjfnnmaa", sum := "5233376f6951e6318d9833701174ee311996e9a742043c8fb4dc8f3469f4dde9", func := "loop.example/planargeometry/laws.FnSpanningTree", spec := "fnSpanningTree", unfollowed := true, recurses := true, apart := false, narrowed := true }
def FnSpanningTreeUptoSaid : Prop := fnSpanningTreeUptoRow.holds Try.pinned (OpenSpec.upto fnSpanningTreeSpec)

/-- 'laws.FnSpanningMove', WHERE WHAT IT READS IS OF BULK AT MOST 1048576: true; the input reads as it did. -/
def fnSpanningMoveUptoRow : OpenClaim := { program := "ytcfkpdjbjfnnmaa", sum := "5233376f6951e6318d9833701174ee311996e9a742043c8fb4dc8f3469f4dde9", func := "loop.example/planargeometry/laws.FnSpanningMove", spec := "fnSpanningMove", unfollowed := true, recurses := true, apart := false, narrowed := true }
def FnSpanningMoveUptoSaid : Prop := fnSpanningMoveUptoRow.holds Try.pinned (OpenSpec.upto fnSpanningMoveSpec)

/-- 'laws.FnCheckSpanning', WHERE WHAT IT READS IS OF BULK AT MOST 1048576: true; the input reads as it did. -/
def fnCheckSpanningUptoRow : OpenClaim := { program := "ytcfkpdjbjfnnmaa", sum := "5233376f6951e6318d9833701174ee311996e9a742043c8fb4dc8f3469f4dde9", func := "loop.example/planargeometry/laws.FnCheckSpanning", spec := "fnCheckSpanning", unfollowed := true, recurses := true, apart := false, narrowed := true }
def FnCheckSpanningUptoSaid : Prop := fnCheckSpanningUptoRow.holds Try.pinned (OpenSpec.upto fnCheckSpanningSpec)

/-- 'laws.FnKdParts', WHERE WHAT IT READS IS OF BULK AT MOST 1048576: true; the input reads as it did. -/
def fnKdPartsUptoRow : OpenClaim := { program := "ytcfkpdjbjfnnmaa", sum := "5233376f6951e6318d9833701174ee311996e9a742043c8fb4dc8f3469f4dde9", func := "loop.example/planargeometry/laws.FnKdParts", spec := "fnKdParts", unfollowed := true, recurses := true, apart := false, narrowed := true }
def FnKdPartsUptoSaid : Prop := fnKdPartsUptoRow.holds Try.pinned (OpenSpec.upto fnKdPartsSpec)

end Rows
end Go.Proofs.Ytcfkpdjbjfnnmaa
