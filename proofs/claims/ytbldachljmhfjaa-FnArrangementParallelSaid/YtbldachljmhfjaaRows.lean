/-
  No cell of these rows narrows 'for every input' (looked for: loops, veiled, ifaces, maps, wideKeys, modest, calm, conditions, laid).
  DERIVED. THE GIVEN ROWS OF THIS SEAT. 5 by the template 'for every input the law returns true; each argument reads behind the call as it read before'; 0 by the template 'total and deterministic' (their statements: YtbldachljmhfjaaTotals.lean).
  GIVEN WITH THE SEED: the statements are not yours to turn. If you find one false, say at which input.
  Laid BY PROGRAM, IN A SANDBOX (cutbox-rows.mjs): the forced cells as the released guide's own fill.sh prints them over the translation dd45d808f552de01… (all of the seat's roots in one cut). By AI agents, Wed Nov 11 2026. No macro, syntax, notation, axiom, sorry.
-/
import Derived.Test.YtbldachljmhfjaaChecked
import GoSem.Claim
import GoSem.ClaimJoined
import GoSem.ClaimMapViews
import Derived.JoinedTies
import Derived.KernelRfl
namespace Go.Proofs.Ytbldachljmhfjaa
/- THE CELL 'sum', in the pinned program and in every row, IS THE sha256 OF THE DUMP (.gsa) THAT YtbldachljmhfjaaProg.lean LOADS. Nothing in Lean hashes anything: it is a label: what it is worth is what the hold of that sum in a sandbox is worth. -/
noncomputable def Try.pinned : Pinned := { name := "ytbldachljmhfjaa", sum := "dd45d808f552de0175bb46d1be40800c2377699ea1af4091be601ded2134bf24", checked := Try.checked }
namespace Rows
def none {H : Type} : Left H := { results := [], args := [] }

/-- 'laws.FnExactArrangement': WHATEVER THE INPUT: true; the input reads as it did. -/
def fnExactArrangementSpec : ChangeSpec := { name := "fnExactArrangement", fn := fun _ => fun
  | [d] => { results := [.lit (.bool true)], args := [d] }
  | _ => none }
def fnExactArrangementRow : OpenClaim := { program := "ytbldachljmhfjaa", sum := "dd45d808f552de0175bb46d1be40800c2377699ea1af4091be601ded2134bf24", func := "loop.example/planargeometry/laws.FnExactArrangement", spec := "fnExactArrangement", plainKeys := false, apart := false }
def FnExactArrangementSaid : Prop := fnExactArrangementRow.holds Try.pinned (OpenSpec.ofChange fnExactArrangementSpec)

/-- ITS FALSE NEIGHBOUR: 'it returns false'. Refute it at one input. -/
def fnExactArrangementWrong : ChangeSpec := { name := "fnExactArrangement", fn := fun _ => fun
  | [d] => { results := [.lit (.bool false)], args := [d] }
  | _ => none }
def FnExactArrangementWrongFalsely : Prop := fnExactArrangementRow.holds Try.pinned (OpenSpec.ofChange fnExactArrangementWrong)

/-- 'laws.FnArrangement': WHATEVER THE INPUT: true; the input reads as it did. -/
def fnArrangementSpec : ChangeSpec := { name := "fnArrangement", fn := fun _ => fun
  | [d] => { results := [.lit (.bool true)], args := [d] }
  | _ => none }
def fnArrangementRow : OpenClaim := { program := "ytbldachljmhfjaa", sum := "dd45d808f552de0175bb46d1be40800c2377699ea1af4091be601ded2134bf24", func := "loop.example/planargeometry/laws.FnArrangement", spec := "fnArrangement", plainKeys := false, apart := false }
def FnArrangementSaid : Prop := fnArrangementRow.holds Try.pinned (OpenSpec.ofChange fnArrangementSpec)

/-- ITS FALSE NEIGHBOUR: 'it returns false'. Refute it at one input. -/
def fnArrangementWrong : ChangeSpec := { name := "fnArrangement", fn := fun _ => fun
  | [d] => { results := [.lit (.bool false)], args := [d] }
  | _ => none }
def FnArrangementWrongFalsely : Prop := fnArrangementRow.holds Try.pinned (OpenSpec.ofChange fnArrangementWrong)

/-- 'laws.FnArrangementMore': WHATEVER THE INPUT: true; the input reads as it did. -/
def fnArrangementMoreSpec : ChangeSpec := { name := "fnArrangementMore", fn := fun _ => fun
  | [d1, d2] => { results := [.lit (.bool true)], args := [d1, d2] }
  | _ => none }
def fnArrangementMoreRow : OpenClaim := { program := "ytbldachljmhfjaa", sum := "dd45d808f552de0175bb46d1be40800c2377699ea1af4091be601ded2134bf24", func := "loop.example/planargeometry/laws.FnArrangementMore", spec := "fnArrangementMore", plainKeys := false, apart := false }
def FnArrangementMoreSaid : Prop := fnArrangementMoreRow.holds Try.pinned (OpenSpec.ofChange fnArrangementMoreSpec)

/-- ITS FALSE NEIGHBOUR: 'it returns false'. Refute it at one input. -/
def fnArrangementMoreWrong : ChangeSpec := { name := "fnArrangementMore", fn := fun _ => fun
  | [d1, d2] => { results := [.lit (.bool false)], args := [d1, d2] }
  | _ => none }
def FnArrangementMoreWrongFalsely : Prop := fnArrangementMoreRow.holds Try.pinned (OpenSpec.ofChange fnArrangementMoreWrong)

/-- 'laws.FnArrangementParallel': WHATEVER THE INPUT: true; the input reads as it did. -/
def fnArrangementParallelSpec : ChangeSpec := { name := "fnArrangementParallel", fn := fun _ => fun
  | [d] => { results := [.lit (.bool true)], args := [d] }
  | _ => none }
def fnArrangementParallelRow : OpenClaim := { program := "ytbldachljmhfjaa", sum := "dd45d808f552de0175bb46d1be40800c2377699ea1af4091be601ded2134bf24", func := "loop.example/planargeometry/laws.FnArrangementParallel", spec := "fnArrangementParallel", plainKeys := false, apart := false }
def FnArrangementParallelSaid : Prop := fnArrangementParallelRow.holds Try.pinned (OpenSpec.ofChange fnArrangementParallelSpec)

/-- ITS FALSE NEIGHBOUR: 'it returns false'. Refute it at one input. -/
def fnArrangementParallelWrong : ChangeSpec := { name := "fnArrangementParallel", fn := fun _ => fun
  | [d] => { results := [.lit (.bool false)], args := [d] }
  | _ => none }
def FnArrangementParallelWrongFalsely : Prop := fnArrangementParallelRow.holds Try.pinned (OpenSpec.ofChange fnArrangementParallelWrong)

/-- 'laws.FnExactCheckSpanning': WHATEVER THE INPUT: true; the input reads as it did. -/
def fnExactCheckSpanningSpec : ChangeSpec := { name := "fnExactCheckSpanning", fn := fun _ => fun
  | [d1, d2] => { results := [.lit (.bool true)], args := [d1, d2] }
  | _ => none }
def fnExactCheckSpanningRow : OpenClaim := { program := "ytbldachljmhfjaa", sum := "dd45d808f552de0175bb46d1be40800c2377699ea1af4091be601ded2134bf24", func := "loop.example/planargeometry/laws.FnExactCheckSpanning", spec := "fnExactCheckSpanning", unfollowed := true, recurses := true, plainKeys := false, apart := false }
def FnExactCheckSpanningSaid : Prop := fnExactCheckSpanningRow.holds Try.pinned (OpenSpec.ofChange fnExactCheckSpanningSpec)

/-- ITS FALSE NEIGHBOUR: 'it returns false'. Refute it at one input. -/
def fnExactCheckSpanningWrong : ChangeSpec := { name := "fnExactCheckSpanning", fn := fun _ => fun
  | [d1, d2] => { results := [.lit (.bool false)], args := [d1, d2] }
  | _ => none }
def FnExactCheckSpanningWrongFalsely : Prop := fnExactCheckSpanningRow.holds Try.pinned (OpenSpec.ofChange fnExactCheckSpanningWrong)

/- THE SECOND FORM. 'bulk': how many values and letters a reading holds, each counted each time it is reached (what is shared counts as often as it is met; a slice's spare places count too). A statement '..UptoSaid' is the law's where the arguments, and the package variables that the reading takes, are together of bulk at most 1048576: NARROWER than '..Said'. Prove '..Said' where nothing that the law and all that it calls make is longer than what came in: it says more and counts as full. Else prove '..UptoSaid'. A law counts once. -/
mutual
def uptoBulk {H : Type} : DataW H → Nat
  | .lit (.string bytes) => bytes.length + 1
  | .lit _ => 1
  | .nil => 1
  | .ptr d => uptoBulk d + 1
  | .slice elems spare => uptoBulkAll elems + uptoBulkAll spare + 1
  | .agg parts => uptoBulkAll parts + 1
  | .iface _ d => uptoBulk d + 1
  | .map entries => uptoBulkEntries entries + 1
  | .held _ => 1
def uptoBulkAll {H : Type} : List (DataW H) → Nat
  | [] => 0
  | d :: r => uptoBulk d + uptoBulkAll r
def uptoBulkEntries {H : Type} : List (Lit × DataW H) → Nat
  | [] => 0
  | x :: r => uptoBulkEntry x + uptoBulkEntries r
def uptoBulkEntry {H : Type} : Lit × DataW H → Nat
  | (.string bytes, d) => bytes.length + uptoBulk d + 1
  | (_, d) => uptoBulk d + 1
 end
def uptoSmall : (H : Type) → List (DataW H) → Bool := fun _ ds => decide (uptoBulkAll ds ≤ 1048576)
def OpenSpec.upto (s : _root_.Go.ChangeSpec) : _root_.Go.OpenSpec := { _root_.Go.OpenSpec.ofChange s with cond := some uptoSmall }

/-- 'laws.FnExactArrangement', WHERE WHAT IT READS IS OF BULK AT MOST 1048576: true; the input reads as it did. -/
def fnExactArrangementUptoRow : OpenClaim := { program := "ytbldachljmhfjaa", sum := "dd45d808f552de0175bb46d1be40800c2377699ea1af4091be601ded2134bf24", func := "loop.example/planargeometry/laws.FnExactArrangement", spec := "fnExactArrangement", plainKeys := false, apart := false, narrowed := true }
def FnExactArrangementUptoSaid : Prop := fnExactArrangementUptoRow.holds Try.pinned (OpenSpec.upto fnExactArrangementSpec)

/-- 'laws.FnArrangement', WHERE WHAT IT READS IS OF BULK AT MOST 1048576: true; the input reads as it did. -/
def fnArrangementUptoRow : OpenClaim := { program := "ytbldachljmhfjaa", sum := "dd45d808f552de0175bb46d1be40800c2377699ea1af4091be601ded2134bf24", func := "loop.example/planargeometry/laws.FnArrangement", spec := "fnArrangement", plainKeys := false, apart := false, narrowed := true }
def FnArrangementUptoSaid : Prop := fnArrangementUptoRow.holds Try.pinned (OpenSpec.upto fnArrangementSpec)

/-- 'laws.FnArrangementMore', WHERE WHAT IT READS IS OF BULK AT MOST 1048576: true; the input reads as it did. -/
def fnArrangementMoreUptoRow : OpenClaim := { program := "ytbldachljmhfjaa", sum := "dd45d808f552de0175bb46d1be40800c2377699ea1af4091be601ded2134bf24", func := "loop.example/planargeometry/laws.FnArrangementMore", spec := "fnArrangementMore", plainKeys := false, apart := false, narrowed := true }
def FnArrangementMoreUptoSaid : Prop := fnArrangementMoreUptoRow.holds Try.pinned (OpenSpec.upto fnArrangementMoreSpec)

/-- 'laws.FnArrangementParallel', WHERE WHAT IT READS IS OF BULK AT MOST 1048576: true; the input reads as it did. -/
def fnArrangementParallelUptoRow : OpenClaim := { program := "ytbldachljmhfjaa", sum := "dd45d808f552de0175bb46d1be40800c2377699ea1af4091be601ded2134bf24", func := "loop.example/planargeometry/laws.FnArrangementParallel", spec := "fnArrangementParallel", plainKeys := false, apart := false, narrowed := true }
def FnArrangementParallelUptoSaid : Prop := fnArrangementParallelUptoRow.holds Try.pinned (OpenSpec.upto fnArrangementParallelSpec)

/-- 'laws.FnExactCheckSpanning', WHERE WHAT IT READS IS OF BULK AT MOST 1048576: true; the input reads as it did. -/
def fnExactCheckSpanningUptoRow : OpenClaim := { program := "ytbldachljmhfjaa", sum := "dd45d808f552de0175bb46d1be40800c2377699ea1af4091be601ded2134bf24", func := "loop.example/planargeometry/laws.FnExactCheckSpanning", spec := "fnExactCheckSpanning", unfollowed := true, recurses := true, plainKeys := false, apart := false, narrowed := true }
def FnExactCheckSpanningUptoSaid : Prop := fnExactCheckSpanningUptoRow.holds Try.pinned (OpenSpec.upto fnExactCheckSpanningSpec)

end Rows
end Go.Proofs.Ytbldachljmhfjaa
