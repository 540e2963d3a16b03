/-
  DERIVED. GIVEN WITH THE SEED: THE CARDS: each row of YtgljdfgbcfdmbaaGreatDoorRows.lean that lists a variable, with what it lists TIED to the program's text (the seventh form; the later family's looks); each row that meets fmt, with fmt's text TOLD by the authors' own Lean function (tested against real Go, not proved from fmt's source: count such statements apart). THE CARD IS WHAT COUNTS. Prove the row's statement (the work); the ties are given (YtgljdfgbcfdmbaaGreatDoorTie.lean); close each card by the builder's one call (the guide's Derived/Test/ToyasCard.lean, 'card_holds'). Laid BY PROGRAM, IN A SANDBOX (cutbox-door.mjs). By AI agents, Wed Nov 11 2026. No macro, syntax, notation, axiom, sorry.
-/
import Derived.Test.YtgljdfgbcfdmbaaGreatDoorRows
import GoSem.ClaimSeven
namespace Go.Proofs.YtgljdfgbcfdmbaaGreatDoor
namespace Rows

/-- THE TIED CARD OF 'laws.FnSendAll'. -/
def fnSendAllCard : Claim7 := { stood := { row := fnSendAllRow, standIns := [], harness := (true, "e3ea3d15791976765a281140a03129deca53b69cc64ecf22dbe23b92d0406344"), looks := false }, kinds := [], alts := [], laidByText := true, laidKinds := [.data, .data, .data, .data, .pinned], laidTests := true, laidLooks := .later }
def FnSendAllCardSaid : Prop := Claim7.holds Tryz.pinned (.plain (OpenSpec.ofChange fnSendAllSpec)) fnSendAllCard

/-- THE SECOND FORM's CARD OF 'laws.FnSendAll'. -/
def fnSendAllUptoCard : Claim7 := { stood := { row := fnSendAllUptoRow, standIns := [], harness := (true, "e3ea3d15791976765a281140a03129deca53b69cc64ecf22dbe23b92d0406344"), looks := false }, kinds := [], alts := [], laidByText := true, laidKinds := [.data, .data, .data, .data, .pinned], laidTests := true, laidLooks := .later }
def FnSendAllUptoCardSaid : Prop := Claim7.holds Tryz.pinned (.plain (OpenSpec.upto fnSendAllSpec)) fnSendAllUptoCard
end Rows
end Go.Proofs.YtgljdfgbcfdmbaaGreatDoor
