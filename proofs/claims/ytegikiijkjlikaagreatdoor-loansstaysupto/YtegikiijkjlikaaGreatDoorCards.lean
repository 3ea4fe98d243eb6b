/-
  DERIVED. GIVEN WITH THE SEED: THE CARDS: each row of YtegikiijkjlikaaGreatDoorRows.lean that lists a variable, with what it lists TIED to the program's text (the seventh form; the later family's looks); each row that meets fmt, with fmt's text TOLD by the authors' own Lean function (tested against real Go, not proved from fmt's source: count such statements apart). THE CARD IS WHAT COUNTS. Prove the row's statement (the work); the ties are given (YtegikiijkjlikaaGreatDoorTie.lean); close each card by the builder's one call (the guide's Derived/Test/ToyasCard.lean, 'card_holds'). Laid BY PROGRAM, IN A SANDBOX (cutbox-door.mjs). By AI agents, Wed Nov 11 2026. No macro, syntax, notation, axiom, sorry.
-/
import Derived.Test.YtegikiijkjlikaaGreatDoorRows
import GoSem.ClaimSeven
namespace Go.Proofs.YtegikiijkjlikaaGreatDoor
namespace Rows

/-- THE TIED CARD OF 'ablautlaw28.LoansPlaces'. -/
def loansPlacesCard : Claim7 := { stood := { row := loansPlacesRow, standIns := [], harness := (true, "454364a2428980585d0818448a0730d704709460fb72402037818b2b589004b1"), looks := true }, kinds := [], alts := [], laidByText := true, laidKinds := [.data, .data, .pinned], laidTests := true, laidLooks := .later }
def LoansPlacesCardSaid : Prop := Claim7.holds Tryz.pinned (.plain (OpenSpec.ofChange loansPlacesSpec)) loansPlacesCard

/-- THE TIED CARD OF 'ablautlaw28.LoansMissed'. -/
def loansMissedCard : Claim7 := { stood := { row := loansMissedRow, standIns := [], harness := (true, "454364a2428980585d0818448a0730d704709460fb72402037818b2b589004b1"), looks := true }, kinds := [], alts := [], laidByText := true, laidKinds := [.data, .data, .pinned], laidTests := true, laidLooks := .later }
def LoansMissedCardSaid : Prop := Claim7.holds Tryz.pinned (.plain (OpenSpec.ofChange loansMissedSpec)) loansMissedCard

/-- THE TIED CARD OF 'ablautlaw28.LoansEnds'. -/
def loansEndsCard : Claim7 := { stood := { row := loansEndsRow, standIns := [], harness := (true, "454364a2428980585d0818448a0730d704709460fb72402037818b2b589004b1"), looks := true }, kinds := [], alts := [], laidByText := true, laidKinds := [.data, .data, .pinned], laidTests := true, laidLooks := .later }
def LoansEndsCardSaid : Prop := Claim7.holds Tryz.pinned (.plain (OpenSpec.ofChange loansEndsSpec)) loansEndsCard

/-- THE TIED CARD OF 'ablautlaw28.LoansWithout'. -/
def loansWithoutCard : Claim7 := { stood := { row := loansWithoutRow, standIns := [], harness := (true, "454364a2428980585d0818448a0730d704709460fb72402037818b2b589004b1"), looks := true }, kinds := [], alts := [], laidByText := true, laidKinds := [.data, .data, .pinned], laidTests := true, laidLooks := .later }
def LoansWithoutCardSaid : Prop := Claim7.holds Tryz.pinned (.plain (OpenSpec.ofChange loansWithoutSpec)) loansWithoutCard

/-- THE TIED CARD OF 'ablautlaw28.LoansRests'. -/
def loansRestsCard : Claim7 := { stood := { row := loansRestsRow, standIns := [], harness := (true, "454364a2428980585d0818448a0730d704709460fb72402037818b2b589004b1"), looks := true }, kinds := [], alts := [], laidByText := true, laidKinds := [.data, .data, .pinned], laidTests := true, laidLooks := .later }
def LoansRestsCardSaid : Prop := Claim7.holds Tryz.pinned (.plain (OpenSpec.ofChange loansRestsSpec)) loansRestsCard

/-- THE TIED CARD OF 'ablautlaw28.LoansDates'. -/
def loansDatesCard : Claim7 := { stood := { row := loansDatesRow, standIns := [], harness := (true, "454364a2428980585d0818448a0730d704709460fb72402037818b2b589004b1"), looks := true }, kinds := [], alts := [], laidByText := true, laidKinds := [.data, .data, .pinned], laidTests := true, laidLooks := .later }
def LoansDatesCardSaid : Prop := Claim7.holds Tryz.pinned (.plain (OpenSpec.ofChange loansDatesSpec)) loansDatesCard

/-- THE TIED CARD OF 'ablautlaw28.LoansStays'. -/
def loansStaysCard : Claim7 := { stood := { row := loansStaysRow, standIns := [], harness := (true, "454364a2428980585d0818448a0730d704709460fb72402037818b2b589004b1"), looks := true }, kinds := [], alts := [], laidByText := true, laidKinds := [.data, .data, .pinned], laidTests := true, laidLooks := .later }
def LoansStaysCardSaid : Prop := Claim7.holds Tryz.pinned (.plain (OpenSpec.ofChange loansStaysSpec)) loansStaysCard

/-- THE TIED CARD OF 'ablautlaw28.LoansLast'. -/
def loansLastCard : Claim7 := { stood := { row := loansLastRow, standIns := [], harness := (true, "454364a2428980585d0818448a0730d704709460fb72402037818b2b589004b1"), looks := true }, kinds := [], alts := [], laidByText := true, laidKinds := [.data, .data, .pinned], laidTests := true, laidLooks := .later }
def LoansLastCardSaid : Prop := Claim7.holds Tryz.pinned (.plain (OpenSpec.ofChange loansLastSpec)) loansLastCard

/-- THE TIED CARD OF 'ablautlaw28.LoansLayers'. -/
def loansLayersCard : Claim7 := { stood := { row := loansLayersRow, standIns := [], harness := (true, "454364a2428980585d0818448a0730d704709460fb72402037818b2b589004b1"), looks := true }, kinds := [], alts := [], laidByText := true, laidKinds := [.data, .data, .pinned], laidTests := true, laidLooks := .later }
def LoansLayersCardSaid : Prop := Claim7.holds Tryz.pinned (.plain (OpenSpec.ofChange loansLayersSpec)) loansLayersCard

/-- THE TIED CARD OF 'ablautlaw28.LoansDonors'. -/
def loansDonorsCard : Claim7 := { stood := { row := loansDonorsRow, standIns := [], harness := (true, "454364a2428980585d0818448a0730d704709460fb72402037818b2b589004b1"), looks := true }, kinds := [], alts := [], laidByText := true, laidKinds := [.data, .data, .pinned], laidTests := true, laidLooks := .later }
def LoansDonorsCardSaid : Prop := Claim7.holds Tryz.pinned (.plain (OpenSpec.ofChange loansDonorsSpec)) loansDonorsCard

/-- THE TIED CARD OF 'ablautlaw28.LoansSuspect'. -/
def loansSuspectCard : Claim7 := { stood := { row := loansSuspectRow, standIns := [], harness := (true, "454364a2428980585d0818448a0730d704709460fb72402037818b2b589004b1"), looks := true }, kinds := [], alts := [], laidByText := true, laidKinds := [.data, .data, .pinned], laidTests := true, laidLooks := .later }
def LoansSuspectCardSaid : Prop := Claim7.holds Tryz.pinned (.plain (OpenSpec.ofChange loansSuspectSpec)) loansSuspectCard

/-- THE SECOND FORM's CARD OF 'ablautlaw28.LoansPlaces'. -/
def loansPlacesUptoCard : Claim7 := { stood := { row := loansPlacesUptoRow, standIns := [], harness := (true, "454364a2428980585d0818448a0730d704709460fb72402037818b2b589004b1"), looks := true }, kinds := [], alts := [], laidByText := true, laidKinds := [.data, .data, .pinned], laidTests := true, laidLooks := .later }
def LoansPlacesUptoCardSaid : Prop := Claim7.holds Tryz.pinned (.plain (OpenSpec.upto loansPlacesSpec)) loansPlacesUptoCard

/-- THE SECOND FORM's CARD OF 'ablautlaw28.LoansMissed'. -/
def loansMissedUptoCard : Claim7 := { stood := { row := loansMissedUptoRow, standIns := [], harness := (true, "454364a2428980585d0818448a0730d704709460fb72402037818b2b589004b1"), looks := true }, kinds := [], alts := [], laidByText := true, laidKinds := [.data, .data, .pinned], laidTests := true, laidLooks := .later }
def LoansMissedUptoCardSaid : Prop := Claim7.holds Tryz.pinned (.plain (OpenSpec.upto loansMissedSpec)) loansMissedUptoCard

/-- THE SECOND FORM's CARD OF 'ablautlaw28.LoansEnds'. -/
def loansEndsUptoCard : Claim7 := { stood := { row := loansEndsUptoRow, standIns := [], harness := (true, "454364a2428980585d0818448a0730d704709460fb72402037818b2b589004b1"), looks := true }, kinds := [], alts := [], laidByText := true, laidKinds := [.data, .data, .pinned], laidTests := true, laidLooks := .later }
def LoansEndsUptoCardSaid : Prop := Claim7.holds Tryz.pinned (.plain (OpenSpec.upto loansEndsSpec)) loansEndsUptoCard

/-- THE SECOND FORM's CARD OF 'ablautlaw28.LoansWithout'. -/
def loansWithoutUptoCard : Claim7 := { stood := { row := loansWithoutUptoRow, standIns := [], harness := (true, "454364a2428980585d0818448a0730d704709460fb72402037818b2b589004b1"), looks := true }, kinds := [], alts := [], laidByText := true, laidKinds := [.data, .data, .pinned], laidTests := true, laidLooks := .later }
def LoansWithoutUptoCardSaid : Prop := Claim7.holds Tryz.pinned (.plain (OpenSpec.upto loansWithoutSpec)) loansWithoutUptoCard

/-- THE SECOND FORM's CARD OF 'ablautlaw28.LoansRests'. -/
def loansRestsUptoCard : Claim7 := { stood := { row := loansRestsUptoRow, standIns := [], harness := (true, "454364a2428980585d0818448a0730d704709460fb72402037818b2b589004b1"), looks := true }, kinds := [], alts := [], laidByText := true, laidKinds := [.data, .data, .pinned], laidTests := true, laidLooks := .later }
def LoansRestsUptoCardSaid : Prop := Claim7.holds Tryz.pinned (.plain (OpenSpec.upto loansRestsSpec)) loansRestsUptoCard

/-- THE SECOND FORM's CARD OF 'ablautlaw28.LoansDates'. -/
def loansDatesUptoCard : Claim7 := { stood := { row := loansDatesUptoRow, standIns := [], harness := (true, "454364a2428980585d0818448a0730d704709460fb72402037818b2b589004b1"), looks := true }, kinds := [], alts := [], laidByText := true, laidKinds := [.data, .data, .pinned], laidTests := true, laidLooks := .later }
def LoansDatesUptoCardSaid : Prop := Claim7.holds Tryz.pinned (.plain (OpenSpec.upto loansDatesSpec)) loansDatesUptoCard

/-- THE SECOND FORM's CARD OF 'ablautlaw28.LoansStays'. -/
def loansStaysUptoCard : Claim7 := { stood := { row := loansStaysUptoRow, standIns := [], harness := (true, "454364a2428980585d0818448a0730d704709460fb72402037818b2b589004b1"), looks := true }, kinds := [], alts := [], laidByText := true, laidKinds := [.data, .data, .pinned], laidTests := true, laidLooks := .later }
def LoansStaysUptoCardSaid : Prop := Claim7.holds Tryz.pinned (.plain (OpenSpec.upto loansStaysSpec)) loansStaysUptoCard

/-- THE SECOND FORM's CARD OF 'ablautlaw28.LoansLast'. -/
def loansLastUptoCard : Claim7 := { stood := { row := loansLastUptoRow, standIns := [], harness := (true, "454364a2428980585d0818448a0730d704709460fb72402037818b2b589004b1"), looks := true }, kinds := [], alts := [], laidByText := true, laidKinds := [.data, .data, .pinned], laidTests := true, laidLooks := .later }
def LoansLastUptoCardSaid : Prop := Claim7.holds Tryz.pinned (.plain (OpenSpec.upto loansLastSpec)) loansLastUptoCard

/-- THE SECOND FORM's CARD OF 'ablautlaw28.LoansLayers'. -/
def loansLayersUptoCard : Claim7 := { stood := { row := loansLayersUptoRow, standIns := [], harness := (true, "454364a2428980585d0818448a0730d704709460fb72402037818b2b589004b1"), looks := true }, kinds := [], alts := [], laidByText := true, laidKinds := [.data, .data, .pinned], laidTests := true, laidLooks := .later }
def LoansLayersUptoCardSaid : Prop := Claim7.holds Tryz.pinned (.plain (OpenSpec.upto loansLayersSpec)) loansLayersUptoCard

/-- THE SECOND FORM's CARD OF 'ablautlaw28.LoansDonors'. -/
def loansDonorsUptoCard : Claim7 := { stood := { row := loansDonorsUptoRow, standIns := [], harness := (true, "454364a2428980585d0818448a0730d704709460fb72402037818b2b589004b1"), looks := true }, kinds := [], alts := [], laidByText := true, laidKinds := [.data, .data, .pinned], laidTests := true, laidLooks := .later }
def LoansDonorsUptoCardSaid : Prop := Claim7.holds Tryz.pinned (.plain (OpenSpec.upto loansDonorsSpec)) loansDonorsUptoCard

/-- THE SECOND FORM's CARD OF 'ablautlaw28.LoansSuspect'. -/
def loansSuspectUptoCard : Claim7 := { stood := { row := loansSuspectUptoRow, standIns := [], harness := (true, "454364a2428980585d0818448a0730d704709460fb72402037818b2b589004b1"), looks := true }, kinds := [], alts := [], laidByText := true, laidKinds := [.data, .data, .pinned], laidTests := true, laidLooks := .later }
def LoansSuspectUptoCardSaid : Prop := Claim7.holds Tryz.pinned (.plain (OpenSpec.upto loansSuspectSpec)) loansSuspectUptoCard
end Rows
end Go.Proofs.YtegikiijkjlikaaGreatDoor
