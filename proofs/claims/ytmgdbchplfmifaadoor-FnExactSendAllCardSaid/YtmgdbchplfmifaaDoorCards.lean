/-
  DERIVED. GIVEN WITH THE SEED: THE CARDS: each row of YtmgdbchplfmifaaDoorRows.lean that lists a variable, with what it lists TIED to the program's text (the seventh form; the later family's looks); each row that meets fmt, with fmt's text TOLD by the authors' own Lean function (tested against real Go, not proved from fmt's source: count such statements apart). THE CARD IS WHAT COUNTS. Prove the row's statement (the work); the ties are given (YtmgdbchplfmifaaDoorTie.lean); close each card by the builder's one call (the guide's Derived/Test/ToyasCard.lean, 'card_holds'). Laid BY PROGRAM, IN A SANDBOX (cutbox-door.mjs). By AI agents, Wed Nov 11 2026. No macro, syntax, notation, axiom, sorry.
-/
import Derived.Test.YtmgdbchplfmifaaDoorRows
import GoSem.ClaimSeven
namespace Go.Proofs.YtmgdbchplfmifaaDoor
namespace Rows

/-- THE TIED CARD OF 'laws.FnExactSendAll'. -/
def fnExactSendAllCard : Claim7 := { stood := { row := fnExactSendAllRow, standIns := [], harness := (true, "ec1dfcc3876b6d8c5ac0e27e605dc0b1c482d4aafee7122ade32193b816ef08d"), looks := false }, kinds := [], alts := [], laidByText := true, laidKinds := [.data, .data, .data], laidTests := true, laidLooks := .later }
def FnExactSendAllCardSaid : Prop := Claim7.holds Tryd.pinned (.plain (OpenSpec.ofChange fnExactSendAllSpec)) fnExactSendAllCard

/-- THE SECOND FORM's CARD OF 'laws.FnExactSendAll'. -/
def fnExactSendAllUptoCard : Claim7 := { stood := { row := fnExactSendAllUptoRow, standIns := [], harness := (true, "ec1dfcc3876b6d8c5ac0e27e605dc0b1c482d4aafee7122ade32193b816ef08d"), looks := false }, kinds := [], alts := [], laidByText := true, laidKinds := [.data, .data, .data], laidTests := true, laidLooks := .later }
def FnExactSendAllUptoCardSaid : Prop := Claim7.holds Tryd.pinned (.plain (OpenSpec.upto fnExactSendAllSpec)) fnExactSendAllUptoCard
end Rows
end Go.Proofs.YtmgdbchplfmifaaDoor
