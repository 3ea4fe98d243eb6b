/-
  DERIVED. GIVEN WITH THE SEED: THE CARDS: each row of YtcoileenpgjmoaaGreatDoorRows.lean that lists a variable, with what it lists TIED to the program's text (the seventh form; the later family's looks); each row that meets fmt, with fmt's text TOLD by the authors' own Lean function (tested against real Go, not proved from fmt's source: count such statements apart). THE CARD IS WHAT COUNTS. Prove the row's statement (the work); the ties are given (YtcoileenpgjmoaaGreatDoorTie.lean); close each card by the builder's one call (the guide's Derived/Test/ToyasCard.lean, 'card_holds'). Laid BY PROGRAM, IN A SANDBOX (cutbox-door.mjs). By AI agents, Wed Nov 11 2026. No macro, syntax, notation, axiom, sorry.
-/
import Derived.Test.YtcoileenpgjmoaaGreatDoorRows
import GoSem.ClaimSeven
namespace Go.Proofs.YtcoileenpgjmoaaGreatDoor
namespace Rows

/-- THE TIED CARD OF 'ablautlaw45.ProofHolds'. -/
def proofHoldsCard : Claim7 := { stood := { row := proofHoldsRow, standIns := [], harness := (true, "802f88275ab1fb2c948dccb9a1bc15cf0d9468bc445f68e73f075b69fba48c16"), looks := true }, kinds := [], alts := [], laidByText := true, laidKinds := [.data, .data, .data, .data, .pinned], laidTests := true, laidLooks := .later }
def ProofHoldsCardSaid : Prop := Claim7.holds Tryz.pinned (.plain (OpenSpec.ofChange proofHoldsSpec)) proofHoldsCard

/-- THE TIED CARD OF 'ablautlaw45.ProofExceptions'. -/
def proofExceptionsCard : Claim7 := { stood := { row := proofExceptionsRow, standIns := [], harness := (true, "802f88275ab1fb2c948dccb9a1bc15cf0d9468bc445f68e73f075b69fba48c16"), looks := true }, kinds := [], alts := [], laidByText := true, laidKinds := [.data, .data, .data, .data, .pinned], laidTests := true, laidLooks := .later }
def ProofExceptionsCardSaid : Prop := Claim7.holds Tryz.pinned (.plain (OpenSpec.ofChange proofExceptionsSpec)) proofExceptionsCard

/-- THE TIED CARD OF 'ablautlaw45.ProofCandidates'. -/
def proofCandidatesCard : Claim7 := { stood := { row := proofCandidatesRow, standIns := [], harness := (true, "802f88275ab1fb2c948dccb9a1bc15cf0d9468bc445f68e73f075b69fba48c16"), looks := true }, kinds := [], alts := [], laidByText := true, laidKinds := [.data, .data, .data, .data, .pinned], laidTests := true, laidLooks := .later }
def ProofCandidatesCardSaid : Prop := Claim7.holds Tryz.pinned (.plain (OpenSpec.ofChange proofCandidatesSpec)) proofCandidatesCard

/-- THE TIED CARD OF 'ablautlaw45.ProofLines'. -/
def proofLinesCard : Claim7 := { stood := { row := proofLinesRow, standIns := [], harness := (true, "802f88275ab1fb2c948dccb9a1bc15cf0d9468bc445f68e73f075b69fba48c16"), looks := true }, kinds := [], alts := [], laidByText := true, laidKinds := [.data, .data, .data, .data, .pinned], laidTests := true, laidLooks := .later }
def ProofLinesCardSaid : Prop := Claim7.holds Tryz.pinned (.plain (OpenSpec.ofChange proofLinesSpec)) proofLinesCard

/-- THE SECOND FORM's CARD OF 'ablautlaw45.ProofHolds'. -/
def proofHoldsUptoCard : Claim7 := { stood := { row := proofHoldsUptoRow, standIns := [], harness := (true, "802f88275ab1fb2c948dccb9a1bc15cf0d9468bc445f68e73f075b69fba48c16"), looks := true }, kinds := [], alts := [], laidByText := true, laidKinds := [.data, .data, .data, .data, .pinned], laidTests := true, laidLooks := .later }
def ProofHoldsUptoCardSaid : Prop := Claim7.holds Tryz.pinned (.plain (OpenSpec.upto proofHoldsSpec)) proofHoldsUptoCard

/-- THE SECOND FORM's CARD OF 'ablautlaw45.ProofExceptions'. -/
def proofExceptionsUptoCard : Claim7 := { stood := { row := proofExceptionsUptoRow, standIns := [], harness := (true, "802f88275ab1fb2c948dccb9a1bc15cf0d9468bc445f68e73f075b69fba48c16"), looks := true }, kinds := [], alts := [], laidByText := true, laidKinds := [.data, .data, .data, .data, .pinned], laidTests := true, laidLooks := .later }
def ProofExceptionsUptoCardSaid : Prop := Claim7.holds Tryz.pinned (.plain (OpenSpec.upto proofExceptionsSpec)) proofExceptionsUptoCard

/-- THE SECOND FORM's CARD OF 'ablautlaw45.ProofCandidates'. -/
def proofCandidatesUptoCard : Claim7 := { stood := { row := proofCandidatesUptoRow, standIns := [], harness := (true, "802f88275ab1fb2c948dccb9a1bc15cf0d9468bc445f68e73f075b69fba48c16"), looks := true }, kinds := [], alts := [], laidByText := true, laidKinds := [.data, .data, .data, .data, .pinned], laidTests := true, laidLooks := .later }
def ProofCandidatesUptoCardSaid : Prop := Claim7.holds Tryz.pinned (.plain (OpenSpec.upto proofCandidatesSpec)) proofCandidatesUptoCard

/-- THE SECOND FORM's CARD OF 'ablautlaw45.ProofLines'. -/
def proofLinesUptoCard : Claim7 := { stood := { row := proofLinesUptoRow, standIns := [], harness := (true, "802f88275ab1fb2c948dccb9a1bc15cf0d9468bc445f68e73f075b69fba48c16"), looks := true }, kinds := [], alts := [], laidByText := true, laidKinds := [.data, .data, .data, .data, .pinned], laidTests := true, laidLooks := .later }
def ProofLinesUptoCardSaid : Prop := Claim7.holds Tryz.pinned (.plain (OpenSpec.upto proofLinesSpec)) proofLinesUptoCard
end Rows
end Go.Proofs.YtcoileenpgjmoaaGreatDoor
