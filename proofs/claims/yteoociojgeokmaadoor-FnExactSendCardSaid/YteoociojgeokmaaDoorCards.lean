/-
  DERIVED. GIVEN WITH THE SEED: THE CARDS: each row of YteoociojgeokmaaDoorRows.lean that lists a variable, with what it lists TIED to the program's text (the seventh form; the later family's looks); each row that meets fmt, with fmt's text TOLD by the authors' own Lean function (tested against real Go, not proved from fmt's source: count such statements apart). THE CARD IS WHAT COUNTS. Prove the row's statement (the work); the ties are given (YteoociojgeokmaaDoorTie.lean); close each card by the builder's one call (the guide's Derived/Test/ToyasCard.lean, 'card_holds'). Laid BY PROGRAM, IN A SANDBOX (cutbox-door.mjs). By AI agents, Wed Nov 11 2026. No macro, syntax, notation, axiom, sorry.
-/
import Derived.Test.YteoociojgeokmaaDoorRows
import GoSem.ClaimSeven
namespace Go.Proofs.YteoociojgeokmaaDoor
namespace Rows

/-- THE TIED CARD OF 'laws.FnExactSend'. -/
def fnExactSendCard : Claim7 := { stood := { row := fnExactSendRow, standIns := [], harness := (true, "06c4e54fa93e7a38ef23424e05401c4a74441711eac2be06e0c8b06352a0629b"), looks := false }, kinds := [], alts := [], laidByText := true, laidKinds := [.data, .data, .data], laidTests := true, laidLooks := .later }
def FnExactSendCardSaid : Prop := Claim7.holds Tryd.pinned (.plain (OpenSpec.ofChange fnExactSendSpec)) fnExactSendCard

/-- THE SECOND FORM's CARD OF 'laws.FnExactSend'. -/
def fnExactSendUptoCard : Claim7 := { stood := { row := fnExactSendUptoRow, standIns := [], harness := (true, "06c4e54fa93e7a38ef23424e05401c4a74441711eac2be06e0c8b06352a0629b"), looks := false }, kinds := [], alts := [], laidByText := true, laidKinds := [.data, .data, .data], laidTests := true, laidLooks := .later }
def FnExactSendUptoCardSaid : Prop := Claim7.holds Tryd.pinned (.plain (OpenSpec.upto fnExactSendSpec)) fnExactSendUptoCard
end Rows
end Go.Proofs.YteoociojgeokmaaDoor
