/-
  DERIVED. GIVEN WITH THE SEED: THE CARDS: each row of YtpajbcpdhpnjlaaDoorRows.lean that lists a variable, with what it lists TIED to the program's text (the seventh form; the later family's looks); each row that meets fmt, with fmt's text TOLD by the authors' own Lean function (tested against real Go, not proved from fmt's source: count such statements apart). THE CARD IS WHAT COUNTS. Prove the row's statement (the work); the ties are given (YtpajbcpdhpnjlaaDoorTie.lean); close each card by the builder's one call (the guide's Derived/Test/ToyasCard.lean, 'card_holds'). Laid BY PROGRAM, IN A SANDBOX (cutbox-door.mjs). By AI agents, Wed Nov 11 2026. No macro, syntax, notation, axiom, sorry.
-/
import Derived.Test.YtpajbcpdhpnjlaaDoorRows
import GoSem.ClaimSeven
namespace Go.Proofs.YtpajbcpdhpnjlaaDoor
namespace Rows

/-- THE TIED CARD OF 'gleelaw2.ConcertsTimed'. -/
def concertsTimedCard : Claim7 := { stood := { row := concertsTimedRow, standIns := [], harness := (true, "e88c696ae36d0b3696bcc8bcd133d5a84269a66ac72e77c59ee9fc72ddf4df95"), looks := false }, kinds := [], alts := [], laidByText := true, laidKinds := [.data, .pinned], laidTests := true, laidLooks := .later }
def ConcertsTimedCardSaid : Prop := Claim7.holds Tryd.pinned (.plain (OpenSpec.ofChange concertsTimedSpec)) concertsTimedCard

/-- THE TIED CARD OF 'gleelaw2.ConcertsOrdered'. -/
def concertsOrderedCard : Claim7 := { stood := { row := concertsOrderedRow, standIns := [], harness := (true, "e88c696ae36d0b3696bcc8bcd133d5a84269a66ac72e77c59ee9fc72ddf4df95"), looks := false }, kinds := [], alts := [], laidByText := true, laidKinds := [.data, .pinned], laidTests := true, laidLooks := .later }
def ConcertsOrderedCardSaid : Prop := Claim7.holds Tryd.pinned (.plain (OpenSpec.ofChange concertsOrderedSpec)) concertsOrderedCard

/-- THE TIED CARD OF 'gleelaw2.ConcertsFit'. -/
def concertsFitCard : Claim7 := { stood := { row := concertsFitRow, standIns := [], harness := (true, "e88c696ae36d0b3696bcc8bcd133d5a84269a66ac72e77c59ee9fc72ddf4df95"), looks := false }, kinds := [], alts := [], laidByText := true, laidKinds := [.data, .pinned], laidTests := true, laidLooks := .later }
def ConcertsFitCardSaid : Prop := Claim7.holds Tryd.pinned (.plain (OpenSpec.ofChange concertsFitSpec)) concertsFitCard

/-- THE SECOND FORM's CARD OF 'gleelaw2.ConcertsTimed'. -/
def concertsTimedUptoCard : Claim7 := { stood := { row := concertsTimedUptoRow, standIns := [], harness := (true, "e88c696ae36d0b3696bcc8bcd133d5a84269a66ac72e77c59ee9fc72ddf4df95"), looks := false }, kinds := [], alts := [], laidByText := true, laidKinds := [.data, .pinned], laidTests := true, laidLooks := .later }
def ConcertsTimedUptoCardSaid : Prop := Claim7.holds Tryd.pinned (.plain (OpenSpec.upto concertsTimedSpec)) concertsTimedUptoCard

/-- THE SECOND FORM's CARD OF 'gleelaw2.ConcertsOrdered'. -/
def concertsOrderedUptoCard : Claim7 := { stood := { row := concertsOrderedUptoRow, standIns := [], harness := (true, "e88c696ae36d0b3696bcc8bcd133d5a84269a66ac72e77c59ee9fc72ddf4df95"), looks := false }, kinds := [], alts := [], laidByText := true, laidKinds := [.data, .pinned], laidTests := true, laidLooks := .later }
def ConcertsOrderedUptoCardSaid : Prop := Claim7.holds Tryd.pinned (.plain (OpenSpec.upto concertsOrderedSpec)) concertsOrderedUptoCard

/-- THE SECOND FORM's CARD OF 'gleelaw2.ConcertsFit'. -/
def concertsFitUptoCard : Claim7 := { stood := { row := concertsFitUptoRow, standIns := [], harness := (true, "e88c696ae36d0b3696bcc8bcd133d5a84269a66ac72e77c59ee9fc72ddf4df95"), looks := false }, kinds := [], alts := [], laidByText := true, laidKinds := [.data, .pinned], laidTests := true, laidLooks := .later }
def ConcertsFitUptoCardSaid : Prop := Claim7.holds Tryd.pinned (.plain (OpenSpec.upto concertsFitSpec)) concertsFitUptoCard
end Rows
end Go.Proofs.YtpajbcpdhpnjlaaDoor
