/-
  DERIVED. GIVEN WITH THE SEED: THE CARDS: each row of YtbbibjophmilaaaDoorRows.lean that lists a variable, with what it lists TIED to the program's text (the seventh form; the later family's looks); each row that meets fmt, with fmt's text TOLD by the authors' own Lean function (tested against real Go, not proved from fmt's source: count such statements apart). THE CARD IS WHAT COUNTS. Prove the row's statement (the work); the ties are given (YtbbibjophmilaaaDoorTie.lean); close each card by the builder's one call (the guide's Derived/Test/ToyasCard.lean, 'card_holds'). Laid BY PROGRAM, IN A SANDBOX (cutbox-door.mjs). By AI agents, Wed Nov 11 2026. No macro, syntax, notation, axiom, sorry.
-/
import Derived.Test.YtbbibjophmilaaaDoorRows
import GoSem.ClaimSeven
namespace Go.Proofs.YtbbibjophmilaaaDoor
namespace Rows

/-- THE TIED CARD OF 'laws.FnExactSendCost'. -/
def fnExactSendCostCard : Claim7 := { stood := { row := fnExactSendCostRow, standIns := [], harness := (true, "b9ed92181e9a6867351ebcdc47533efb28f2553748816e9cbceeafe3d0d9281d"), looks := false }, kinds := [], alts := [], laidByText := true, laidKinds := [.data, .data, .data], laidTests := true, laidLooks := .later }
def FnExactSendCostCardSaid : Prop := Claim7.holds Tryd.pinned (.plain (OpenSpec.ofChange fnExactSendCostSpec)) fnExactSendCostCard

/-- THE SECOND FORM's CARD OF 'laws.FnExactSendCost'. -/
def fnExactSendCostUptoCard : Claim7 := { stood := { row := fnExactSendCostUptoRow, standIns := [], harness := (true, "b9ed92181e9a6867351ebcdc47533efb28f2553748816e9cbceeafe3d0d9281d"), looks := false }, kinds := [], alts := [], laidByText := true, laidKinds := [.data, .data, .data], laidTests := true, laidLooks := .later }
def FnExactSendCostUptoCardSaid : Prop := Claim7.holds Tryd.pinned (.plain (OpenSpec.upto fnExactSendCostSpec)) fnExactSendCostUptoCard
end Rows
end Go.Proofs.YtbbibjophmilaaaDoor
