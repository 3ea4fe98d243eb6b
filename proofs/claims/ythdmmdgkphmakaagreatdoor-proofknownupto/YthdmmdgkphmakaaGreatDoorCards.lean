/-
  DERIVED. GIVEN WITH THE SEED: THE CARDS: each row of YthdmmdgkphmakaaGreatDoorRows.lean that lists a variable, with what it lists TIED to the program's text (the seventh form; the later family's looks); each row that meets fmt, with fmt's text TOLD by the authors' own Lean function (tested against real Go, not proved from fmt's source: count such statements apart). THE CARD IS WHAT COUNTS. Prove the row's statement (the work); the ties are given (YthdmmdgkphmakaaGreatDoorTie.lean); close each card by the builder's one call (the guide's Derived/Test/ToyasCard.lean, 'card_holds'). Laid BY PROGRAM, IN A SANDBOX (cutbox-door.mjs). By AI agents, Wed Nov 11 2026. No macro, syntax, notation, axiom, sorry.
-/
import Derived.Test.YthdmmdgkphmakaaGreatDoorRows
import GoSem.ClaimSeven
namespace Go.Proofs.YthdmmdgkphmakaaGreatDoor
namespace Rows

/-- THE TIED CARD OF 'ablautlaw45.ProofKnown'. -/
def proofKnownCard : Claim7 := { stood := { row := proofKnownRow, standIns := [], harness := (true, "e12f530e11ebf85dcd7b1040c9fd43a6d4d8a6fab36fd0b21b42706310d07d0b"), looks := true }, kinds := [], alts := [], laidByText := true, laidKinds := [.data, .data, .data, .data, .pinned], laidTests := true, laidLooks := .later }
def ProofKnownCardSaid : Prop := Claim7.holds Tryz.pinned (.plain (OpenSpec.ofChange proofKnownSpec)) proofKnownCard

/-- THE SECOND FORM's CARD OF 'ablautlaw45.ProofKnown'. -/
def proofKnownUptoCard : Claim7 := { stood := { row := proofKnownUptoRow, standIns := [], harness := (true, "e12f530e11ebf85dcd7b1040c9fd43a6d4d8a6fab36fd0b21b42706310d07d0b"), looks := true }, kinds := [], alts := [], laidByText := true, laidKinds := [.data, .data, .data, .data, .pinned], laidTests := true, laidLooks := .later }
def ProofKnownUptoCardSaid : Prop := Claim7.holds Tryz.pinned (.plain (OpenSpec.upto proofKnownSpec)) proofKnownUptoCard
end Rows
end Go.Proofs.YthdmmdgkphmakaaGreatDoor
