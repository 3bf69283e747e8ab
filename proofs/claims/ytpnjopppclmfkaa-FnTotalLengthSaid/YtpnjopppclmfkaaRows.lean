/-
  No cell of these rows narrows 'for every input' (looked for: loops, veiled, ifaces, maps, wideKeys, modest, calm, conditions, laid).
  DERIVED. THE GIVEN ROWS OF THIS SEAT. 12 by the template 'for every input the law returns true; each argument reads behind the call as it read before'; 0 by the template 'total and deterministic' (their statements: YtpnjopppclmfkaaTotals.lean).
  GIVEN WITH THE SEED: the statements are not yours to turn. If you find one false, say at which input.
  Laid BY PROGRAM, IN A SANDBOX (cutbox-rows.mjs): the forced cells as the released guide's own fill.sh prints them over the translation dfdf219e363db85f… (all of the seat's roots in one cut). By AI agents, Wed Nov 11 2026. No macro, syntax, notation, axiom, sorry.
-/
import Derived.Test.YtpnjopppclmfkaaChecked
import GoSem.Claim
import GoSem.ClaimJoined
import GoSem.ClaimMapViews
import Derived.JoinedTies
import Derived.KernelRfl
namespace Go.Proofs.Ytpnjopppclmfkaa
/- THE CELL 'sum', in the pinned program and in every row, IS THE sha256 OF THE DUMP (.gsa) THAT YtpnjopppclmfkaaProg.lean LOADS. Nothing in Lean hashes anything: it is a label: what it is worth is what the hold of that sum in a sandbox is worth. -/
noncomputable def Try.pinned : Pinned := { name := "ytpnjopppclmfkaa", sum := "dfdf219e363db85fdf3f85914fba15a80e75ed87ae67f776b6c5d4b73fc521fb", checked := Try.checked }
namespace Rows
def none {H : Type} : Left H := { results := [], args := [] }

/-- 'laws.FnExactSortPoints': WHATEVER THE INPUT: true; the input reads as it did. -/
def fnExactSortPointsSpec : ChangeSpec := { name := "fnExactSortPoints", fn := fun _ => fun
  | [d] => { results := [.lit (.bool true)], args := [d] }
  | _ => none }
def fnExactSortPointsRow : OpenClaim := { program := "ytpnjopppclmfkaa", sum := "dfdf219e363db85fdf3f85914fba15a80e75ed87ae67f776b6c5d4b73fc521fb", func := "loop.example/planargeometry/laws.FnExactSortPoints", spec := "fnExactSortPoints", unfollowed := true, recurses := true, apart := false }
def FnExactSortPointsSaid : Prop := fnExactSortPointsRow.holds Try.pinned (OpenSpec.ofChange fnExactSortPointsSpec)

/-- ITS FALSE NEIGHBOUR: 'it returns false'. Refute it at one input. -/
def fnExactSortPointsWrong : ChangeSpec := { name := "fnExactSortPoints", fn := fun _ => fun
  | [d] => { results := [.lit (.bool false)], args := [d] }
  | _ => none }
def FnExactSortPointsWrongFalsely : Prop := fnExactSortPointsRow.holds Try.pinned (OpenSpec.ofChange fnExactSortPointsWrong)

/-- 'laws.FnExactCollinear': WHATEVER THE INPUT: true; the input reads as it did. -/
def fnExactCollinearSpec : ChangeSpec := { name := "fnExactCollinear", fn := fun _ => fun
  | [d] => { results := [.lit (.bool true)], args := [d] }
  | _ => none }
def fnExactCollinearRow : OpenClaim := { program := "ytpnjopppclmfkaa", sum := "dfdf219e363db85fdf3f85914fba15a80e75ed87ae67f776b6c5d4b73fc521fb", func := "loop.example/planargeometry/laws.FnExactCollinear", spec := "fnExactCollinear", unfollowed := true, recurses := true, apart := false }
def FnExactCollinearSaid : Prop := fnExactCollinearRow.holds Try.pinned (OpenSpec.ofChange fnExactCollinearSpec)

/-- ITS FALSE NEIGHBOUR: 'it returns false'. Refute it at one input. -/
def fnExactCollinearWrong : ChangeSpec := { name := "fnExactCollinear", fn := fun _ => fun
  | [d] => { results := [.lit (.bool false)], args := [d] }
  | _ => none }
def FnExactCollinearWrongFalsely : Prop := fnExactCollinearRow.holds Try.pinned (OpenSpec.ofChange fnExactCollinearWrong)

/-- 'laws.FnCollinear': WHATEVER THE INPUT: true; the input reads as it did. -/
def fnCollinearSpec : ChangeSpec := { name := "fnCollinear", fn := fun _ => fun
  | [d] => { results := [.lit (.bool true)], args := [d] }
  | _ => none }
def fnCollinearRow : OpenClaim := { program := "ytpnjopppclmfkaa", sum := "dfdf219e363db85fdf3f85914fba15a80e75ed87ae67f776b6c5d4b73fc521fb", func := "loop.example/planargeometry/laws.FnCollinear", spec := "fnCollinear", unfollowed := true, recurses := true, apart := false }
def FnCollinearSaid : Prop := fnCollinearRow.holds Try.pinned (OpenSpec.ofChange fnCollinearSpec)

/-- ITS FALSE NEIGHBOUR: 'it returns false'. Refute it at one input. -/
def fnCollinearWrong : ChangeSpec := { name := "fnCollinear", fn := fun _ => fun
  | [d] => { results := [.lit (.bool false)], args := [d] }
  | _ => none }
def FnCollinearWrongFalsely : Prop := fnCollinearRow.holds Try.pinned (OpenSpec.ofChange fnCollinearWrong)

/-- 'laws.FnClosestPair': WHATEVER THE INPUT: true; the input reads as it did. -/
def fnClosestPairSpec : ChangeSpec := { name := "fnClosestPair", fn := fun _ => fun
  | [d] => { results := [.lit (.bool true)], args := [d] }
  | _ => none }
def fnClosestPairRow : OpenClaim := { program := "ytpnjopppclmfkaa", sum := "dfdf219e363db85fdf3f85914fba15a80e75ed87ae67f776b6c5d4b73fc521fb", func := "loop.example/planargeometry/laws.FnClosestPair", spec := "fnClosestPair", unfollowed := true, recurses := true, apart := false }
def FnClosestPairSaid : Prop := fnClosestPairRow.holds Try.pinned (OpenSpec.ofChange fnClosestPairSpec)

/-- ITS FALSE NEIGHBOUR: 'it returns false'. Refute it at one input. -/
def fnClosestPairWrong : ChangeSpec := { name := "fnClosestPair", fn := fun _ => fun
  | [d] => { results := [.lit (.bool false)], args := [d] }
  | _ => none }
def FnClosestPairWrongFalsely : Prop := fnClosestPairRow.holds Try.pinned (OpenSpec.ofChange fnClosestPairWrong)

/-- 'laws.FnDominatedCount': WHATEVER THE INPUT: true; the input reads as it did. -/
def fnDominatedCountSpec : ChangeSpec := { name := "fnDominatedCount", fn := fun _ => fun
  | [d] => { results := [.lit (.bool true)], args := [d] }
  | _ => none }
def fnDominatedCountRow : OpenClaim := { program := "ytpnjopppclmfkaa", sum := "dfdf219e363db85fdf3f85914fba15a80e75ed87ae67f776b6c5d4b73fc521fb", func := "loop.example/planargeometry/laws.FnDominatedCount", spec := "fnDominatedCount", unfollowed := true, recurses := true, apart := false }
def FnDominatedCountSaid : Prop := fnDominatedCountRow.holds Try.pinned (OpenSpec.ofChange fnDominatedCountSpec)

/-- ITS FALSE NEIGHBOUR: 'it returns false'. Refute it at one input. -/
def fnDominatedCountWrong : ChangeSpec := { name := "fnDominatedCount", fn := fun _ => fun
  | [d] => { results := [.lit (.bool false)], args := [d] }
  | _ => none }
def FnDominatedCountWrongFalsely : Prop := fnDominatedCountRow.holds Try.pinned (OpenSpec.ofChange fnDominatedCountWrong)

/-- 'laws.FnExactCoveredArea': WHATEVER THE INPUT: true; the input reads as it did. -/
def fnExactCoveredAreaSpec : ChangeSpec := { name := "fnExactCoveredArea", fn := fun _ => fun
  | [d1, d2] => { results := [.lit (.bool true)], args := [d1, d2] }
  | _ => none }
def fnExactCoveredAreaRow : OpenClaim := { program := "ytpnjopppclmfkaa", sum := "dfdf219e363db85fdf3f85914fba15a80e75ed87ae67f776b6c5d4b73fc521fb", func := "loop.example/planargeometry/laws.FnExactCoveredArea", spec := "fnExactCoveredArea", unfollowed := true, recurses := true, apart := false }
def FnExactCoveredAreaSaid : Prop := fnExactCoveredAreaRow.holds Try.pinned (OpenSpec.ofChange fnExactCoveredAreaSpec)

/-- ITS FALSE NEIGHBOUR: 'it returns false'. Refute it at one input. -/
def fnExactCoveredAreaWrong : ChangeSpec := { name := "fnExactCoveredArea", fn := fun _ => fun
  | [d1, d2] => { results := [.lit (.bool false)], args := [d1, d2] }
  | _ => none }
def FnExactCoveredAreaWrongFalsely : Prop := fnExactCoveredAreaRow.holds Try.pinned (OpenSpec.ofChange fnExactCoveredAreaWrong)

/-- 'laws.FnExactMaxDepth': WHATEVER THE INPUT: true; the input reads as it did. -/
def fnExactMaxDepthSpec : ChangeSpec := { name := "fnExactMaxDepth", fn := fun _ => fun
  | [d] => { results := [.lit (.bool true)], args := [d] }
  | _ => none }
def fnExactMaxDepthRow : OpenClaim := { program := "ytpnjopppclmfkaa", sum := "dfdf219e363db85fdf3f85914fba15a80e75ed87ae67f776b6c5d4b73fc521fb", func := "loop.example/planargeometry/laws.FnExactMaxDepth", spec := "fnExactMaxDepth", unfollowed := true, recurses := true, apart := false }
def FnExactMaxDepthSaid : Prop := fnExactMaxDepthRow.holds Try.pinned (OpenSpec.ofChange fnExactMaxDepthSpec)

/-- ITS FALSE NEIGHBOUR: 'it returns false'. Refute it at one input. -/
def fnExactMaxDepthWrong : ChangeSpec := { name := "fnExactMaxDepth", fn := fun _ => fun
  | [d] => { results := [.lit (.bool false)], args := [d] }
  | _ => none }
def FnExactMaxDepthWrongFalsely : Prop := fnExactMaxDepthRow.holds Try.pinned (OpenSpec.ofChange fnExactMaxDepthWrong)

/-- 'laws.FnCoveredArea': WHATEVER THE INPUT: true; the input reads as it did. -/
def fnCoveredAreaSpec : ChangeSpec := { name := "fnCoveredArea", fn := fun _ => fun
  | [d] => { results := [.lit (.bool true)], args := [d] }
  | _ => none }
def fnCoveredAreaRow : OpenClaim := { program := "ytpnjopppclmfkaa", sum := "dfdf219e363db85fdf3f85914fba15a80e75ed87ae67f776b6c5d4b73fc521fb", func := "loop.example/planargeometry/laws.FnCoveredArea", spec := "fnCoveredArea", unfollowed := true, recurses := true, apart := false }
def FnCoveredAreaSaid : Prop := fnCoveredAreaRow.holds Try.pinned (OpenSpec.ofChange fnCoveredAreaSpec)

/-- ITS FALSE NEIGHBOUR: 'it returns false'. Refute it at one input. -/
def fnCoveredAreaWrong : ChangeSpec := { name := "fnCoveredArea", fn := fun _ => fun
  | [d] => { results := [.lit (.bool false)], args := [d] }
  | _ => none }
def FnCoveredAreaWrongFalsely : Prop := fnCoveredAreaRow.holds Try.pinned (OpenSpec.ofChange fnCoveredAreaWrong)

/-- 'laws.FnCoveredMore': WHATEVER THE INPUT: true; the input reads as it did. -/
def fnCoveredMoreSpec : ChangeSpec := { name := "fnCoveredMore", fn := fun _ => fun
  | [d1, d2] => { results := [.lit (.bool true)], args := [d1, d2] }
  | _ => none }
def fnCoveredMoreRow : OpenClaim := { program := "ytpnjopppclmfkaa", sum := "dfdf219e363db85fdf3f85914fba15a80e75ed87ae67f776b6c5d4b73fc521fb", func := "loop.example/planargeometry/laws.FnCoveredMore", spec := "fnCoveredMore", unfollowed := true, recurses := true, apart := false }
def FnCoveredMoreSaid : Prop := fnCoveredMoreRow.holds Try.pinned (OpenSpec.ofChange fnCoveredMoreSpec)

/-- ITS FALSE NEIGHBOUR: 'it returns false'. Refute it at one input. -/
def fnCoveredMoreWrong : ChangeSpec := { name := "fnCoveredMore", fn := fun _ => fun
  | [d1, d2] => { results := [.lit (.bool false)], args := [d1, d2] }
  | _ => none }
def FnCoveredMoreWrongFalsely : Prop := fnCoveredMoreRow.holds Try.pinned (OpenSpec.ofChange fnCoveredMoreWrong)

/-- 'laws.FnDepthMore': WHATEVER THE INPUT: true; the input reads as it did. -/
def fnDepthMoreSpec : ChangeSpec := { name := "fnDepthMore", fn := fun _ => fun
  | [d1, d2] => { results := [.lit (.bool true)], args := [d1, d2] }
  | _ => none }
def fnDepthMoreRow : OpenClaim := { program := "ytpnjopppclmfkaa", sum := "dfdf219e363db85fdf3f85914fba15a80e75ed87ae67f776b6c5d4b73fc521fb", func := "loop.example/planargeometry/laws.FnDepthMore", spec := "fnDepthMore", unfollowed := true, recurses := true, apart := false }
def FnDepthMoreSaid : Prop := fnDepthMoreRow.holds Try.pinned (OpenSpec.ofChange fnDepthMoreSpec)

/-- ITS FALSE NEIGHBOUR: 'it returns false'. Refute it at one input. -/
def fnDepthMoreWrong : ChangeSpec := { name := "fnDepthMore", fn := fun _ => fun
  | [d1, d2] => { results := [.lit (.bool false)], args := [d1, d2] }
  | _ => none }
def FnDepthMoreWrongFalsely : Prop := fnDepthMoreRow.holds Try.pinned (OpenSpec.ofChange fnDepthMoreWrong)

/-- 'laws.FnUnionTwo': WHATEVER THE INPUT: true; the input reads as it did. -/
def fnUnionTwoSpec : ChangeSpec := { name := "fnUnionTwo", fn := fun _ => fun
  | [d] => { results := [.lit (.bool true)], args := [d] }
  | _ => none }
def fnUnionTwoRow : OpenClaim := { program := "ytpnjopppclmfkaa", sum := "dfdf219e363db85fdf3f85914fba15a80e75ed87ae67f776b6c5d4b73fc521fb", func := "loop.example/planargeometry/laws.FnUnionTwo", spec := "fnUnionTwo", unfollowed := true, recurses := true, apart := false }
def FnUnionTwoSaid : Prop := fnUnionTwoRow.holds Try.pinned (OpenSpec.ofChange fnUnionTwoSpec)

/-- ITS FALSE NEIGHBOUR: 'it returns false'. Refute it at one input. -/
def fnUnionTwoWrong : ChangeSpec := { name := "fnUnionTwo", fn := fun _ => fun
  | [d] => { results := [.lit (.bool false)], args := [d] }
  | _ => none }
def FnUnionTwoWrongFalsely : Prop := fnUnionTwoRow.holds Try.pinned (OpenSpec.ofChange fnUnionTwoWrong)

/-- 'laws.FnTotalLength': WHATEVER THE INPUT: true; the input reads as it did. -/
def fnTotalLengthSpec : ChangeSpec := { name := "fnTotalLength", fn := fun _ => fun
  | [d1, d2] => { results := [.lit (.bool true)], args := [d1, d2] }
  | _ => none }
def fnTotalLengthRow : OpenClaim := { program := "ytpnjopppclmfkaa", sum := "dfdf219e363db85fdf3f85914fba15a80e75ed87ae67f776b6c5d4b73fc521fb", func := "loop.example/planargeometry/laws.FnTotalLength", spec := "fnTotalLength", unfollowed := true, recurses := true, apart := false }
def FnTotalLengthSaid : Prop := fnTotalLengthRow.holds Try.pinned (OpenSpec.ofChange fnTotalLengthSpec)

/-- ITS FALSE NEIGHBOUR: 'it returns false'. Refute it at one input. -/
def fnTotalLengthWrong : ChangeSpec := { name := "fnTotalLength", fn := fun _ => fun
  | [d1, d2] => { results := [.lit (.bool false)], args := [d1, d2] }
  | _ => none }
def FnTotalLengthWrongFalsely : Prop := fnTotalLengthRow.holds Try.pinned (OpenSpec.ofChange fnTotalLengthWrong)

/- THE SECOND FORM. 'bulk': how many values and letters a reading holds, each counted each time it is reached (what is shared counts as often as it is met; a slice's spare places count too). A statement '..UptoSaid' is the law's where the arguments, and the package variables that the reading takes, are together of bulk at most 1048576: NARROWER than '..Said'. Prove '..Said' where nothing that the law and all that it calls make is longer than what came in: it says more and counts as full. Else prove '..UptoSaid'. A law counts once. -/
mutual
def uptoBulk {H : Type} : DataW H → Nat
  | .lit (.string bytes) => bytes.length + 1
  | .lit _ => 1
  | .nil => 1
  | .ptr d => uptoBulk d + 1
  | .slice elems spare => uptoBulkAll elems + uptoBulkAll spare + 1
  | .agg parts => uptoBulkAll parts + 1
  | .iface _ d => uptoBulk d + 1
  | .map entries => uptoBulkEntries entries + 1
  | .held _ => 1
def uptoBulkAll {H : Type} : List (DataW H) → Nat
  | [] => 0
  | d :: r => uptoBulk d + uptoBulkAll r
def uptoBulkEntries {H : Type} : List (Lit × DataW H) → Nat
  | [] => 0
  | x :: r => uptoBulkEntry x + uptoBulkEntries r
def uptoBulkEntry {H : Type} : Lit × DataW H → Nat
  | (.string bytes, d) => bytes.length + uptoBulk d + 1
  | (_, d) => uptoBulk d + 1
 end
def uptoSmall : (H : Type) → List (DataW H) → Bool := fun _ ds => decide (uptoBulkAll ds ≤ 1048576)
def OpenSpec.upto (s : _root_.Go.ChangeSpec) : _root_.Go.OpenSpec := { _root_.Go.OpenSpec.ofChange s with cond := some uptoSmall }

/-- 'laws.FnExactSortPoints', WHERE WHAT IT READS IS OF BULK AT MOST 1048576: true; the input reads as it did. -/
def fnExactSortPointsUptoRow : OpenClaim := { program := "ytpnjopppclmfkaa", sum := "dfdf219e363db85fdf3f85914fba15a80e75ed87ae67f776b6c5d4b73fc521fb", func := "loop.example/planargeometry/laws.FnExactSortPoints", spec := "fnExactSortPoints", unfollowed := true, recurses := true, apart := false, narrowed := true }
def FnExactSortPointsUptoSaid : Prop := fnExactSortPointsUptoRow.holds Try.pinned (OpenSpec.upto fnExactSortPointsSpec)

/-- 'laws.FnExactCollinear', WHERE WHAT IT READS IS OF BULK AT MOST 1048576: true; the input reads as it did. -/
def fnExactCollinearUptoRow : OpenClaim := { program := "ytpnjopppclmfkaa", sum := "dfdf219e363db85fdf3f85914fba15a80e75ed87ae67f776b6c5d4b73fc521fb", func := "loop.example/planargeometry/laws.FnExactCollinear", spec := "fnExactCollinear", unfollowed := true, recurses := true, apart := false, narrowed := true }
def FnExactCollinearUptoSaid : Prop := fnExactCollinearUptoRow.holds Try.pinned (OpenSpec.upto fnExactCollinearSpec)

/-- 'laws.FnCollinear', WHERE WHAT IT READS IS OF BULK AT MOST 1048576: true; the input reads as it did. -/
def fnCollinearUptoRow : OpenClaim := { program := "ytpnjopppclmfkaa", sum := "dfdf219e363db85fdf3f85914fba15a80e75ed87ae67f776b6c5d4b73fc521fb", func := "loop.example/planargeometry/laws.FnCollinear", spec := "fnCollinear", unfollowed := true, recurses := true, apart := false, narrowed := true }
def FnCollinearUptoSaid : Prop := fnCollinearUptoRow.holds Try.pinned (OpenSpec.upto fnCollinearSpec)

/-- 'laws.FnClosestPair', WHERE WHAT IT READS IS OF BULK AT MOST 1048576: true; the input reads as it did. -/
def fnClosestPairUptoRow : OpenClaim := { program := "ytpnjopppclmfkaa", sum := "dfdf219e363db85fdf3f85914fba15a80e75ed87ae67f776b6c5d4b73fc521fb", func := "loop.example/planargeometry/laws.FnClosestPair", spec := "fnClosestPair", unfollowed := true, recurses := true, apart := false, narrowed := true }
def FnClosestPairUptoSaid : Prop := fnClosestPairUptoRow.holds Try.pinned (OpenSpec.upto fnClosestPairSpec)

/-- 'laws.FnDominatedCount', WHERE WHAT IT READS IS OF BULK AT MOST 1048576: true; the input reads as it did. -/
def fnDominatedCountUptoRow : OpenClaim := { program := "ytpnjopppclmfkaa", sum := "dfdf219e363db85fdf3f85914fba15a80e75ed87ae67f776b6c5d4b73fc521fb", func := "loop.example/planargeometry/laws.FnDominatedCount", spec := "fnDominatedCount", unfollowed := true, recurses := true, apart := false, narrowed := true }
def FnDominatedCountUptoSaid : Prop := fnDominatedCountUptoRow.holds Try.pinned (OpenSpec.upto fnDominatedCountSpec)

/-- 'laws.FnExactCoveredArea', WHERE WHAT IT READS IS OF BULK AT MOST 1048576: true; the input reads as it did. -/
def fnExactCoveredAreaUptoRow : OpenClaim := { program := "ytpnjopppclmfkaa", sum := "dfdf219e363db85fdf3f85914fba15a80e75ed87ae67f776b6c5d4b73fc521fb", func := "loop.example/planargeometry/laws.FnExactCoveredArea", spec := "fnExactCoveredArea", unfollowed := true, recurses := true, apart := false, narrowed := true }
def FnExactCoveredAreaUptoSaid : Prop := fnExactCoveredAreaUptoRow.holds Try.pinned (OpenSpec.upto fnExactCoveredAreaSpec)

/-- 'laws.FnExactMaxDepth', WHERE WHAT IT READS IS OF BULK AT MOST 1048576: true; the input reads as it did. -/
def fnExactMaxDepthUptoRow : OpenClaim := { program := "ytpnjopppclmfkaa", sum := "dfdf219e363db85fdf3f85914fba15a80e75ed87ae67f776b6c5d4b73fc521fb", func := "loop.example/planargeometry/laws.FnExactMaxDepth", spec := "fnExactMaxDepth", unfollowed := true, recurses := true, apart := false, narrowed := true }
def FnExactMaxDepthUptoSaid : Prop := fnExactMaxDepthUptoRow.holds Try.pinned (OpenSpec.upto fnExactMaxDepthSpec)

/-- 'laws.FnCoveredArea', WHERE WHAT IT READS IS OF BULK AT MOST 1048576: true; the input reads as it did. -/
def fnCoveredAreaUptoRow : OpenClaim := { program := "ytpnjopppclmfkaa", sum := "dfdf219e363db85fdf3f85914fba15a80e75ed87ae67f776b6c5d4b73fc521fb", func := "loop.example/planargeometry/laws.FnCoveredArea", spec := "fnCoveredArea", unfollowed := true, recurses := true, apart := false, narrowed := true }
def FnCoveredAreaUptoSaid : Prop := fnCoveredAreaUptoRow.holds Try.pinned (OpenSpec.upto fnCoveredAreaSpec)

/-- 'laws.FnCoveredMore', WHERE WHAT IT READS IS OF BULK AT MOST 1048576: true; the input reads as it did. -/
def fnCoveredMoreUptoRow : OpenClaim := { program := "ytpnjopppclmfkaa", sum := "dfdf219e363db85fdf3f85914fba15a80e75ed87ae67f776b6c5d4b73fc521fb", func := "loop.example/planargeometry/laws.FnCoveredMore", spec := "fnCoveredMore", unfollowed := true, recurses := true, apart := false, narrowed := true }
def FnCoveredMoreUptoSaid : Prop := fnCoveredMoreUptoRow.holds Try.pinned (OpenSpec.upto fnCoveredMoreSpec)

/-- 'laws.FnDepthMore', WHERE WHAT IT READS IS OF BULK AT MOST 1048576: true; the input reads as it did. -/
def fnDepthMoreUptoRow : OpenClaim := { program := "ytpnjopppclmfkaa", sum := "dfdf219e363db85fdf3f85914fba15a80e75ed87ae67f776b6c5d4b73fc521fb", func := "loop.example/planargeometry/laws.FnDepthMore", spec := "fnDepthMore", unfollowed := true, recurses := true, apart := false, narrowed := true }
def FnDepthMoreUptoSaid : Prop := fnDepthMoreUptoRow.holds Try.pinned (OpenSpec.upto fnDepthMoreSpec)

/-- 'laws.FnUnionTwo', WHERE WHAT IT READS IS OF BULK AT MOST 1048576: true; the input reads as it did. -/
def fnUnionTwoUptoRow : OpenClaim := { program := "ytpnjopppclmfkaa", sum := "dfdf219e363db85fdf3f85914fba15a80e75ed87ae67f776b6c5d4b73fc521fb", func := "loop.example/planargeometry/laws.FnUnionTwo", spec := "fnUnionTwo", unfollowed := true, recurses := true, apart := false, narrowed := true }
def FnUnionTwoUptoSaid : Prop := fnUnionTwoUptoRow.holds Try.pinned (OpenSpec.upto fnUnionTwoSpec)

/-- 'laws.FnTotalLength', WHERE WHAT IT READS IS OF BULK AT MOST 1048576: true; the input reads as it did. -/
def fnTotalLengthUptoRow : OpenClaim := { program := "ytpnjopppclmfkaa", sum := "dfdf219e363db85fdf3f85914fba15a80e75ed87ae67f776b6c5d4b73fc521fb", func := "loop.example/planargeometry/laws.FnTotalLength", spec := "fnTotalLength", unfollowed := true, recurses := true, apart := false, narrowed := true }
def FnTotalLengthUptoSaid : Prop := fnTotalLengthUptoRow.holds Try.pinned (OpenSpec.upto fnTotalLengthSpec)

end Rows
end Go.Proofs.Ytpnjopppclmfkaa
