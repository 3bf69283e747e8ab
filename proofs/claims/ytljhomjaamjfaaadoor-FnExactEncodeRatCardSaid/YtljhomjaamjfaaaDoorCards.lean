/-
  DERIVED. GIVEN WITH THE SEED: THE CARDS: each row of YtljhomjaamjfaaaDoorRows.lean that lists a variable, with what it lists TIED to the program's text (the seventh form; the later family's looks); each row that meets fmt, with fmt's text TOLD by the authors' own Lean function (tested against real Go, not proved from fmt's source: count such statements apart). THE CARD IS WHAT COUNTS. Prove the row's statement (the work); the ties are given (YtljhomjaamjfaaaDoorTie.lean); close each card by the builder's one call (the guide's Derived/Test/ToyasCard.lean, 'card_holds'). Laid BY PROGRAM, IN A SANDBOX (cutbox-door.mjs). By AI agents, Wed Nov 11 2026. No macro, syntax, notation, axiom, sorry.
-/
import Derived.Test.YtljhomjaamjfaaaDoorRows
import GoSem.ClaimSeven
namespace Go.Proofs.YtljhomjaamjfaaaDoor
namespace Rows

/-- THE TIED CARD OF 'laws.FnExactEncodeRat'. -/
def fnExactEncodeRatCard : Claim7 := { stood := { row := fnExactEncodeRatRow, standIns := [], harness := (true, "96628600e7dca4dff2e5fee7652305dcf95f8f5d57fdd07d5178d110276693ad"), looks := false }, kinds := [], alts := [], laidByText := true, laidKinds := [.data, .data, .data], laidTests := true, laidLooks := .later }
def FnExactEncodeRatCardSaid : Prop := Claim7.holds Tryd.pinned (.plain (OpenSpec.ofChange fnExactEncodeRatSpec)) fnExactEncodeRatCard

/-- THE SECOND FORM's CARD OF 'laws.FnExactEncodeRat'. -/
def fnExactEncodeRatUptoCard : Claim7 := { stood := { row := fnExactEncodeRatUptoRow, standIns := [], harness := (true, "96628600e7dca4dff2e5fee7652305dcf95f8f5d57fdd07d5178d110276693ad"), looks := false }, kinds := [], alts := [], laidByText := true, laidKinds := [.data, .data, .data], laidTests := true, laidLooks := .later }
def FnExactEncodeRatUptoCardSaid : Prop := Claim7.holds Tryd.pinned (.plain (OpenSpec.upto fnExactEncodeRatSpec)) fnExactEncodeRatUptoCard
end Rows
end Go.Proofs.YtljhomjaamjfaaaDoor
