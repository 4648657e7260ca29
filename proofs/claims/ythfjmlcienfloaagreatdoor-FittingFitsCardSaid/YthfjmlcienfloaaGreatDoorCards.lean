/-
  DERIVED. GIVEN WITH THE SEED: THE CARDS: each row of YthfjmlcienfloaaGreatDoorRows.lean that lists a variable, with what it lists TIED to the program's text (the seventh form; the later family's looks); each row that meets fmt, with fmt's text TOLD by the authors' own Lean function (tested against real Go, not proved from fmt's source: count such statements apart). THE CARD IS WHAT COUNTS. Prove the row's statement (the work); the ties are given (YthfjmlcienfloaaGreatDoorTie.lean); close each card by the builder's one call (the guide's Derived/Test/ToyasCard.lean, 'card_holds'). Laid BY PROGRAM, IN A SANDBOX (cutbox-door.mjs). By AI agents, Wed Nov 11 2026. No macro, syntax, notation, axiom, sorry.
-/
import Derived.Test.YthfjmlcienfloaaGreatDoorRows
import GoSem.ClaimSeven
namespace Go.Proofs.YthfjmlcienfloaaGreatDoor
namespace Rows

/-- THE TIED CARD OF 'gleekeep2.HalvesAreEven'. -/
def halvesAreEvenCard : Claim7 := { stood := { row := halvesAreEvenRow, standIns := [], harness := (true, "42c3d1ee77a27ac2f1aa4e2c20a66027122afe6f8f00d484bc2a06cf6ea23032"), looks := false }, kinds := [], alts := [], laidByText := true, laidKinds := [.data, .data, .data, .data, .pinned], laidTests := true, laidLooks := .later }
def HalvesAreEvenCardSaid : Prop := Claim7.holds Tryz.pinned (.plain (OpenSpec.ofChange halvesAreEvenSpec)) halvesAreEvenCard

/-- THE TIED CARD OF 'gleekeep2.ConcertsHaveNoGaps'. -/
def concertsHaveNoGapsCard : Claim7 := { stood := { row := concertsHaveNoGapsRow, standIns := [], harness := (true, "42c3d1ee77a27ac2f1aa4e2c20a66027122afe6f8f00d484bc2a06cf6ea23032"), looks := false }, kinds := [], alts := [], laidByText := true, laidKinds := [.data, .data, .data, .data, .pinned], laidTests := true, laidLooks := .later }
def ConcertsHaveNoGapsCardSaid : Prop := Claim7.holds Tryz.pinned (.plain (OpenSpec.ofChange concertsHaveNoGapsSpec)) concertsHaveNoGapsCard

/-- THE TIED CARD OF 'gleekeep2.FittingFits'. -/
def fittingFitsCard : Claim7 := { stood := { row := fittingFitsRow, standIns := [], harness := (true, "42c3d1ee77a27ac2f1aa4e2c20a66027122afe6f8f00d484bc2a06cf6ea23032"), looks := false }, kinds := [], alts := [], laidByText := true, laidKinds := [.data, .data, .data, .data, .pinned], laidTests := true, laidLooks := .later }
def FittingFitsCardSaid : Prop := Claim7.holds Tryz.pinned (.plain (OpenSpec.ofChange fittingFitsSpec)) fittingFitsCard

/-- THE TIED CARD OF 'gleekeep2.OrdersAreShortest'. -/
def ordersAreShortestCard : Claim7 := { stood := { row := ordersAreShortestRow, standIns := [], harness := (true, "42c3d1ee77a27ac2f1aa4e2c20a66027122afe6f8f00d484bc2a06cf6ea23032"), looks := false }, kinds := [], alts := [], laidByText := true, laidKinds := [.data, .data, .data, .data, .pinned], laidTests := true, laidLooks := .later }
def OrdersAreShortestCardSaid : Prop := Claim7.holds Tryz.pinned (.plain (OpenSpec.ofChange ordersAreShortestSpec)) ordersAreShortestCard

/-- THE TIED CARD OF 'gleekeep2.ConcertsStay'. -/
def concertsStayCard : Claim7 := { stood := { row := concertsStayRow, standIns := [], harness := (true, "42c3d1ee77a27ac2f1aa4e2c20a66027122afe6f8f00d484bc2a06cf6ea23032"), looks := false }, kinds := [], alts := [], laidByText := true, laidKinds := [.data, .data, .data, .data, .pinned], laidTests := true, laidLooks := .later }
def ConcertsStayCardSaid : Prop := Claim7.holds Tryz.pinned (.plain (OpenSpec.ofChange concertsStaySpec)) concertsStayCard

/-- THE SECOND FORM's CARD OF 'gleekeep2.HalvesAreEven'. -/
def halvesAreEvenUptoCard : Claim7 := { stood := { row := halvesAreEvenUptoRow, standIns := [], harness := (true, "42c3d1ee77a27ac2f1aa4e2c20a66027122afe6f8f00d484bc2a06cf6ea23032"), looks := false }, kinds := [], alts := [], laidByText := true, laidKinds := [.data, .data, .data, .data, .pinned], laidTests := true, laidLooks := .later }
def HalvesAreEvenUptoCardSaid : Prop := Claim7.holds Tryz.pinned (.plain (OpenSpec.upto halvesAreEvenSpec)) halvesAreEvenUptoCard

/-- THE SECOND FORM's CARD OF 'gleekeep2.ConcertsHaveNoGaps'. -/
def concertsHaveNoGapsUptoCard : Claim7 := { stood := { row := concertsHaveNoGapsUptoRow, standIns := [], harness := (true, "42c3d1ee77a27ac2f1aa4e2c20a66027122afe6f8f00d484bc2a06cf6ea23032"), looks := false }, kinds := [], alts := [], laidByText := true, laidKinds := [.data, .data, .data, .data, .pinned], laidTests := true, laidLooks := .later }
def ConcertsHaveNoGapsUptoCardSaid : Prop := Claim7.holds Tryz.pinned (.plain (OpenSpec.upto concertsHaveNoGapsSpec)) concertsHaveNoGapsUptoCard

/-- THE SECOND FORM's CARD OF 'gleekeep2.FittingFits'. -/
def fittingFitsUptoCard : Claim7 := { stood := { row := fittingFitsUptoRow, standIns := [], harness := (true, "42c3d1ee77a27ac2f1aa4e2c20a66027122afe6f8f00d484bc2a06cf6ea23032"), looks := false }, kinds := [], alts := [], laidByText := true, laidKinds := [.data, .data, .data, .data, .pinned], laidTests := true, laidLooks := .later }
def FittingFitsUptoCardSaid : Prop := Claim7.holds Tryz.pinned (.plain (OpenSpec.upto fittingFitsSpec)) fittingFitsUptoCard

/-- THE SECOND FORM's CARD OF 'gleekeep2.OrdersAreShortest'. -/
def ordersAreShortestUptoCard : Claim7 := { stood := { row := ordersAreShortestUptoRow, standIns := [], harness := (true, "42c3d1ee77a27ac2f1aa4e2c20a66027122afe6f8f00d484bc2a06cf6ea23032"), looks := false }, kinds := [], alts := [], laidByText := true, laidKinds := [.data, .data, .data, .data, .pinned], laidTests := true, laidLooks := .later }
def OrdersAreShortestUptoCardSaid : Prop := Claim7.holds Tryz.pinned (.plain (OpenSpec.upto ordersAreShortestSpec)) ordersAreShortestUptoCard

/-- THE SECOND FORM's CARD OF 'gleekeep2.ConcertsStay'. -/
def concertsStayUptoCard : Claim7 := { stood := { row := concertsStayUptoRow, standIns := [], harness := (true, "42c3d1ee77a27ac2f1aa4e2c20a66027122afe6f8f00d484bc2a06cf6ea23032"), looks := false }, kinds := [], alts := [], laidByText := true, laidKinds := [.data, .data, .data, .data, .pinned], laidTests := true, laidLooks := .later }
def ConcertsStayUptoCardSaid : Prop := Claim7.holds Tryz.pinned (.plain (OpenSpec.upto concertsStaySpec)) concertsStayUptoCard
end Rows
end Go.Proofs.YthfjmlcienfloaaGreatDoor
