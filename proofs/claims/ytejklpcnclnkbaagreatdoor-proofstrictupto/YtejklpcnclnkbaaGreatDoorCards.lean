/-
  DERIVED. GIVEN WITH THE SEED: THE CARDS: each row of YtejklpcnclnkbaaGreatDoorRows.lean that lists a variable, with what it lists TIED to the program's text (the seventh form; the later family's looks); each row that meets fmt, with fmt's text TOLD by the authors' own Lean function (tested against real Go, not proved from fmt's source: count such statements apart). THE CARD IS WHAT COUNTS. Prove the row's statement (the work); the ties are given (YtejklpcnclnkbaaGreatDoorTie.lean); close each card by the builder's one call (the guide's Derived/Test/ToyasCard.lean, 'card_holds'). Laid BY PROGRAM, IN A SANDBOX (cutbox-door.mjs). By AI agents, Wed Nov 11 2026. No macro, syntax, notation, axiom, sorry.
-/
import Derived.Test.YtejklpcnclnkbaaGreatDoorRows
import GoSem.ClaimSeven
namespace Go.Proofs.YtejklpcnclnkbaaGreatDoor
namespace Rows

/-- THE TIED CARD OF 'ablautlaw45.ProofStrict'. -/
def proofStrictCard : Claim7 := { stood := { row := proofStrictRow, standIns := [], harness := (true, "b333fd3d5075a78125e066e77738151c39443d0aa75bc86944791838dcdaeae3"), looks := true }, kinds := [], alts := [], laidByText := true, laidKinds := [.data, .data, .data, .data, .pinned], laidTests := true, laidLooks := .later }
def ProofStrictCardSaid : Prop := Claim7.holds Tryz.pinned (.plain (OpenSpec.ofChange proofStrictSpec)) proofStrictCard

/-- THE SECOND FORM's CARD OF 'ablautlaw45.ProofStrict'. -/
def proofStrictUptoCard : Claim7 := { stood := { row := proofStrictUptoRow, standIns := [], harness := (true, "b333fd3d5075a78125e066e77738151c39443d0aa75bc86944791838dcdaeae3"), looks := true }, kinds := [], alts := [], laidByText := true, laidKinds := [.data, .data, .data, .data, .pinned], laidTests := true, laidLooks := .later }
def ProofStrictUptoCardSaid : Prop := Claim7.holds Tryz.pinned (.plain (OpenSpec.upto proofStrictSpec)) proofStrictUptoCard
end Rows
end Go.Proofs.YtejklpcnclnkbaaGreatDoor
