/-
  DERIVED. GIVEN WITH THE SEED: THE CARDS: each row of YtnpnbnncocgaeaaGreatDoorRows.lean that lists a variable, with what it lists TIED to the program's text (the seventh form; the later family's looks); each row that meets fmt, with fmt's text TOLD by the authors' own Lean function (tested against real Go, not proved from fmt's source: count such statements apart). THE CARD IS WHAT COUNTS. Prove the row's statement (the work); the ties are given (YtnpnbnncocgaeaaGreatDoorTie.lean); close each card by the builder's one call (the guide's Derived/Test/ToyasCard.lean, 'card_holds'). Laid BY PROGRAM, IN A SANDBOX (cutbox-door.mjs). By AI agents, Wed Nov 11 2026. No macro, syntax, notation, axiom, sorry.
-/
import Derived.Test.YtnpnbnncocgaeaaGreatDoorRows
import GoSem.ClaimSeven
namespace Go.Proofs.YtnpnbnncocgaeaaGreatDoor
namespace Rows

/-- THE TIED CARD OF 'ablautlaw45.ProofLeast'. -/
def proofLeastCard : Claim7 := { stood := { row := proofLeastRow, standIns := [], harness := (true, "e93fe6dcd16b95775f3000ab64dfd043341319a185323f46f4eda313324ce2c9"), looks := true }, kinds := [], alts := [], laidByText := true, laidKinds := [.data, .data, .data, .data, .pinned], laidTests := true, laidLooks := .later }
def ProofLeastCardSaid : Prop := Claim7.holds Tryz.pinned (.plain (OpenSpec.ofChange proofLeastSpec)) proofLeastCard

/-- THE SECOND FORM's CARD OF 'ablautlaw45.ProofLeast'. -/
def proofLeastUptoCard : Claim7 := { stood := { row := proofLeastUptoRow, standIns := [], harness := (true, "e93fe6dcd16b95775f3000ab64dfd043341319a185323f46f4eda313324ce2c9"), looks := true }, kinds := [], alts := [], laidByText := true, laidKinds := [.data, .data, .data, .data, .pinned], laidTests := true, laidLooks := .later }
def ProofLeastUptoCardSaid : Prop := Claim7.holds Tryz.pinned (.plain (OpenSpec.upto proofLeastSpec)) proofLeastUptoCard
end Rows
end Go.Proofs.YtnpnbnncocgaeaaGreatDoor
