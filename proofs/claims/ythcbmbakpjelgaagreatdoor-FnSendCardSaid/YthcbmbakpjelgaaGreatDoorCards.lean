/-
  DERIVED. GIVEN WITH THE SEED: THE CARDS: each row of YthcbmbakpjelgaaGreatDoorRows.lean that lists a variable, with what it lists TIED to the program's text (the seventh form; the later family's looks); each row that meets fmt, with fmt's text TOLD by the authors' own Lean function (tested against real Go, not proved from fmt's source: count such statements apart). THE CARD IS WHAT COUNTS. Prove the row's statement (the work); the ties are given (YthcbmbakpjelgaaGreatDoorTie.lean); close each card by the builder's one call (the guide's Derived/Test/ToyasCard.lean, 'card_holds'). Laid BY PROGRAM, IN A SANDBOX (cutbox-door.mjs). By AI agents, Wed Nov 11 2026. No macro, syntax, notation, axiom, sorry.
-/
import Derived.Test.YthcbmbakpjelgaaGreatDoorRows
import GoSem.ClaimSeven
namespace Go.Proofs.YthcbmbakpjelgaaGreatDoor
namespace Rows

/-- THE TIED CARD OF 'laws.FnSend'. -/
def fnSendCard : Claim7 := { stood := { row := fnSendRow, standIns := [], harness := (true, "2c193b9c19c079697ddf84557b896d9926ba13e8da5d6752c41be57b22c9325b"), looks := false }, kinds := [], alts := [], laidByText := true, laidKinds := [.data, .data, .data, .data, .pinned], laidTests := true, laidLooks := .later }
def FnSendCardSaid : Prop := Claim7.holds Tryz.pinned (.plain (OpenSpec.ofChange fnSendSpec)) fnSendCard

/-- THE SECOND FORM's CARD OF 'laws.FnSend'. -/
def fnSendUptoCard : Claim7 := { stood := { row := fnSendUptoRow, standIns := [], harness := (true, "2c193b9c19c079697ddf84557b896d9926ba13e8da5d6752c41be57b22c9325b"), looks := false }, kinds := [], alts := [], laidByText := true, laidKinds := [.data, .data, .data, .data, .pinned], laidTests := true, laidLooks := .later }
def FnSendUptoCardSaid : Prop := Claim7.holds Tryz.pinned (.plain (OpenSpec.upto fnSendSpec)) fnSendUptoCard
end Rows
end Go.Proofs.YthcbmbakpjelgaaGreatDoor
