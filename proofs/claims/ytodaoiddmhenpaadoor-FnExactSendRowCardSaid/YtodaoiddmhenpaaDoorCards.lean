/-
  DERIVED. GIVEN WITH THE SEED: THE CARDS: each row of YtodaoiddmhenpaaDoorRows.lean that lists a variable, with what it lists TIED to the program's text (the seventh form; the later family's looks); each row that meets fmt, with fmt's text TOLD by the authors' own Lean function (tested against real Go, not proved from fmt's source: count such statements apart). THE CARD IS WHAT COUNTS. Prove the row's statement (the work); the ties are given (YtodaoiddmhenpaaDoorTie.lean); close each card by the builder's one call (the guide's Derived/Test/ToyasCard.lean, 'card_holds'). Laid BY PROGRAM, IN A SANDBOX (cutbox-door.mjs). By AI agents, Wed Nov 11 2026. No macro, syntax, notation, axiom, sorry.
-/
import Derived.Test.YtodaoiddmhenpaaDoorRows
import GoSem.ClaimSeven
namespace Go.Proofs.YtodaoiddmhenpaaDoor
namespace Rows

/-- THE TIED CARD OF 'laws.FnExactSendRow'. -/
def fnExactSendRowCard : Claim7 := { stood := { row := fnExactSendRowRow, standIns := [], harness := (true, "b3f79deb541d1205e0ca6725e8f902f2c506f9142764673f9e9823edca281dc9"), looks := false }, kinds := [], alts := [], laidByText := true, laidKinds := [.data, .data, .data], laidTests := true, laidLooks := .later }
def FnExactSendRowCardSaid : Prop := Claim7.holds Tryd.pinned (.plain (OpenSpec.ofChange fnExactSendRowSpec)) fnExactSendRowCard

/-- THE SECOND FORM's CARD OF 'laws.FnExactSendRow'. -/
def fnExactSendRowUptoCard : Claim7 := { stood := { row := fnExactSendRowUptoRow, standIns := [], harness := (true, "b3f79deb541d1205e0ca6725e8f902f2c506f9142764673f9e9823edca281dc9"), looks := false }, kinds := [], alts := [], laidByText := true, laidKinds := [.data, .data, .data], laidTests := true, laidLooks := .later }
def FnExactSendRowUptoCardSaid : Prop := Claim7.holds Tryd.pinned (.plain (OpenSpec.upto fnExactSendRowSpec)) fnExactSendRowUptoCard
end Rows
end Go.Proofs.YtodaoiddmhenpaaDoor
