/-
  DERIVED. GIVEN WITH THE SEED: THE CARDS: each row of YtpajbcpdhpnjlaaGreatDoorRows.lean that lists a variable, with what it lists TIED to the program's text (the seventh form; the later family's looks); each row that meets fmt, with fmt's text TOLD by the authors' own Lean function (tested against real Go, not proved from fmt's source: count such statements apart). THE CARD IS WHAT COUNTS. Prove the row's statement (the work); the ties are given (YtpajbcpdhpnjlaaGreatDoorTie.lean); close each card by the builder's one call (the guide's Derived/Test/ToyasCard.lean, 'card_holds'). Laid BY PROGRAM, IN A SANDBOX (cutbox-door.mjs). By AI agents, Wed Nov 11 2026. No macro, syntax, notation, axiom, sorry.
-/
import Derived.Test.YtpajbcpdhpnjlaaGreatDoorRows
import GoSem.ClaimSeven
namespace Go.Proofs.YtpajbcpdhpnjlaaGreatDoor
namespace Rows

/-- THE TIED CARD OF 'gleelaw2.ConcertsLate'. -/
def concertsLateCard : Claim7 := { stood := { row := concertsLateRow, standIns := [], harness := (true, "cd69e473359e4a6fb854237b6199f5a70c63e2ee61efdd289b5dbdb144f7422c"), looks := false }, kinds := [], alts := [], laidByText := true, laidKinds := [.data, .pinned], laidTests := true, laidLooks := .later }
def ConcertsLateCardSaid : Prop := Claim7.holds Tryz.pinned (.plain (OpenSpec.ofChange concertsLateSpec)) concertsLateCard

/-- THE SECOND FORM's CARD OF 'gleelaw2.ConcertsLate'. -/
def concertsLateUptoCard : Claim7 := { stood := { row := concertsLateUptoRow, standIns := [], harness := (true, "cd69e473359e4a6fb854237b6199f5a70c63e2ee61efdd289b5dbdb144f7422c"), looks := false }, kinds := [], alts := [], laidByText := true, laidKinds := [.data, .pinned], laidTests := true, laidLooks := .later }
def ConcertsLateUptoCardSaid : Prop := Claim7.holds Tryz.pinned (.plain (OpenSpec.upto concertsLateSpec)) concertsLateUptoCard
end Rows
end Go.Proofs.YtpajbcpdhpnjlaaGreatDoor
