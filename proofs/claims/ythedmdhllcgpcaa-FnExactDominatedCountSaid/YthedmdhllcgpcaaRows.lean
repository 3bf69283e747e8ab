/-
  No cell of these rows narrows 'for every input' (looked for: loops, veiled, ifaces, maps, wideKeys, modest, calm, conditions, laid).
  DERIVED. THE GIVEN ROWS OF THIS SEAT. 3 by the template 'for every input the law returns true; each argument reads behind the call as it read before'; 0 by the template 'total and deterministic' (their statements: YthedmdhllcgpcaaTotals.lean).
  GIVEN WITH THE SEED: the statements are not yours to turn. If you find one false, say at which input.
  Laid BY PROGRAM, IN A SANDBOX (cutbox-rows.mjs): the forced cells as the released guide's own fill.sh prints them over the translation 35f105f03e3247bf… (all of the seat's roots in one cut). By AI agents, Wed Nov 11 2026. No macro, syntax, notation, axiom, sorry.
-/
import Derived.Test.YthedmdhllcgpcaaChecked
import GoSem.Claim
import GoSem.ClaimJoined
import GoSem.ClaimMapViews
import Derived.JoinedTies
import Derived.KernelRfl
namespace Go.Proofs.Ythedmdhllcgpcaa
/- THE CELL 'sum', in the pinned program and in every row, IS THE sha256 OF THE DUMP (.gsa) THAT YthedmdhllcgpcaaProg.lean LOADS. Nothing in Lean hashes anything: it is a label: what it is worth is what the hold of that sum in a sandbox is worth. -/
noncomputable def Try.pinned : Pinned := { name := "ythedmdhllcgpcaa", sum := "35f105f03e3247bfd9451498efed5f6553a1f00b1b439ef7c6a28578cac7084b", checked := Try.checked }
namespace Rows
def none {H : Type} : Left H := { results := [], args := [] }

/-- 'laws.FnExactCheckEnclosing': WHATEVER THE INPUT: true; the input reads as it did. -/
def fnExactCheckEnclosingSpec : ChangeSpec := { name := "fnExactCheckEnclosing", fn := fun _ => fun
  | [d1, d2] => { results := [.lit (.bool true)], args := [d1, d2] }
  | _ => none }
def fnExactCheckEnclosingRow : OpenClaim := { program := "ythedmdhllcgpcaa", sum := "35f105f03e3247bfd9451498efed5f6553a1f00b1b439ef7c6a28578cac7084b", func := "loop.example/planargeometry/laws.FnExactCheckEnclosing", spec := "fnExactCheckEnclosing", unfollowed := true, recurses := true, apart := false }
def FnExactCheckEnclosingSaid : Prop := fnExactCheckEnclosingRow.holds Try.pinned (OpenSpec.ofChange fnExactCheckEnclosingSpec)

/-- ITS FALSE NEIGHBOUR: 'it returns false'. Refute it at one input. -/
def fnExactCheckEnclosingWrong : ChangeSpec := { name := "fnExactCheckEnclosing", fn := fun _ => fun
  | [d1, d2] => { results := [.lit (.bool false)], args := [d1, d2] }
  | _ => none }
def FnExactCheckEnclosingWrongFalsely : Prop := fnExactCheckEnclosingRow.holds Try.pinned (OpenSpec.ofChange fnExactCheckEnclosingWrong)

/-- 'laws.FnMapPoints': WHATEVER THE INPUT: true; the input reads as it did. -/
def fnMapPointsSpec : ChangeSpec := { name := "fnMapPoints", fn := fun _ => fun
  | [d] => { results := [.lit (.bool true)], args := [d] }
  | _ => none }
def fnMapPointsRow : OpenClaim := { program := "ythedmdhllcgpcaa", sum := "35f105f03e3247bfd9451498efed5f6553a1f00b1b439ef7c6a28578cac7084b", func := "loop.example/planargeometry/laws.FnMapPoints", spec := "fnMapPoints", unfollowed := true, recurses := true, apart := false }
def FnMapPointsSaid : Prop := fnMapPointsRow.holds Try.pinned (OpenSpec.ofChange fnMapPointsSpec)

/-- ITS FALSE NEIGHBOUR: 'it returns false'. Refute it at one input. -/
def fnMapPointsWrong : ChangeSpec := { name := "fnMapPoints", fn := fun _ => fun
  | [d] => { results := [.lit (.bool false)], args := [d] }
  | _ => none }
def FnMapPointsWrongFalsely : Prop := fnMapPointsRow.holds Try.pinned (OpenSpec.ofChange fnMapPointsWrong)

/-- 'laws.FnExactDominatedCount': WHATEVER THE INPUT: true; the input reads as it did. -/
def fnExactDominatedCountSpec : ChangeSpec := { name := "fnExactDominatedCount", fn := fun _ => fun
  | [d] => { results := [.lit (.bool true)], args := [d] }
  | _ => none }
def fnExactDominatedCountRow : OpenClaim := { program := "ythedmdhllcgpcaa", sum := "35f105f03e3247bfd9451498efed5f6553a1f00b1b439ef7c6a28578cac7084b", func := "loop.example/planargeometry/laws.FnExactDominatedCount", spec := "fnExactDominatedCount", unfollowed := true, recurses := true, apart := false }
def FnExactDominatedCountSaid : Prop := fnExactDominatedCountRow.holds Try.pinned (OpenSpec.ofChange fnExactDominatedCountSpec)

/-- ITS FALSE NEIGHBOUR: 'it returns false'. Refute it at one input. -/
def fnExactDominatedCountWrong : ChangeSpec := { name := "fnExactDominatedCount", fn := fun _ => fun
  | [d] => { results := [.lit (.bool false)], args := [d] }
  | _ => none }
def FnExactDominatedCountWrongFalsely : Prop := fnExactDominatedCountRow.holds Try.pinned (OpenSpec.ofChange fnExactDominatedCountWrong)

/- THE SECOND FORM. 'bulk': how many values and letters a reading holds, each counted each time it is reached (what is shared counts as often as it is met; a slice's spare places count too). A statement '..UptoSaid' is the law's where the arguments, and the package variables that the reading takes, are together of bulk at most 1048576: NARROWER than '..Said'. Prove '..Said' where nothing that the law and all that it calls make is longer than what came in: it says more and counts as full. Else prove '..UptoSaid'. A law counts once. -/
mutual
def uptoBulk {H : Type} : DataW H → Nat
  | .lit (.string bytes) => bytes.length + 1
  | .lit _ => 1
  | .nil => 1
  | .ptr d => uptoBulk d + 1
  | .slice elems spare => uptoBulkAll elems + uptoBulkAll spare + 1
  | .agg parts => uptoBulkAll parts + 1
  | .iface _ d => uptoBulk d + 1
  | .map entries => uptoBulkEntries entries + 1
  | .held _ => 1
def uptoBulkAll {H : Type} : List (DataW H) → Nat
  | [] => 0
  | d :: r => uptoBulk d + uptoBulkAll r
def uptoBulkEntries {H : Type} : List (Lit × DataW H) → Nat
  | [] => 0
  | x :: r => uptoBulkEntry x + uptoBulkEntries r
def uptoBulkEntry {H : Type} : Lit × DataW H → Nat
  | (.string bytes, d) => bytes.length + uptoBulk d + 1
  | (_, d) => uptoBulk d + 1
 end
def uptoSmall : (H : Type) → List (DataW H) → Bool := fun _ ds => decide (uptoBulkAll ds ≤ 1048576)
def OpenSpec.upto (s : _root_.Go.ChangeSpec) : _root_.Go.OpenSpec := { _root_.Go.OpenSpec.ofChange s with cond := some uptoSmall }

/-- 'laws.FnExactCheckEnclosing', WHERE WHAT IT READS IS OF BULK AT MOST 1048576: true; the input reads as it did. -/
def fnExactCheckEnclosingUptoRow : OpenClaim := { program := "ythedmdhllcgpcaa", sum := "35f105f03e3247bfd9451498efed5f6553a1f00b1b439ef7c6a28578cac7084b", func := "loop.example/planargeometry/laws.FnExactCheckEnclosing", spec := "fnExactCheckEnclosing", unfollowed := true, recurses := true, apart := false, narrowed := true }
def FnExactCheckEnclosingUptoSaid : Prop := fnExactCheckEnclosingUptoRow.holds Try.pinned (OpenSpec.upto fnExactCheckEnclosingSpec)

/-- 'laws.FnMapPoints', WHERE WHAT IT READS IS OF BULK AT MOST 1048576: true; the input reads as it did. -/
def fnMapPointsUptoRow : OpenClaim := { program := "ythedmdhllcgpcaa", sum := "35f105f03e3247bfd9451498efed5f6553a1f00b1b439ef7c6a28578cac7084b", func := "loop.example/planargeometry/laws.FnMapPoints", spec := "fnMapPoints", unfollowed := true, recurses := true, apart := false, narrowed := true }
def FnMapPointsUptoSaid : Prop := fnMapPointsUptoRow.holds Try.pinned (OpenSpec.upto fnMapPointsSpec)

/-- 'laws.FnExactDominatedCount', WHERE WHAT IT READS IS OF BULK AT MOST 1048576: true; the input reads as it did. -/
def fnExactDominatedCountUptoRow : OpenClaim := { program := "ythedmdhllcgpcaa", sum := "35f105f03e3247bfd9451498efed5f6553a1f00b1b439ef7c6a28578cac7084b", func := "loop.example/planargeometry/laws.FnExactDominatedCount", spec := "fnExactDominatedCount", unfollowed := true, recurses := true, apart := false, narrowed := true }
def FnExactDominatedCountUptoSaid : Prop := fnExactDominatedCountUptoRow.holds Try.pinned (OpenSpec.upto fnExactDominatedCountSpec)

end Rows
end Go.Proofs.Ythedmdhllcgpcaa
