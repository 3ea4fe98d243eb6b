/-
  DERIVED. GIVEN WITH THE SEED: THE CARDS: each row of YtppapmfonjmfbaaGreatDoorRows.lean that lists a variable, with what it lists TIED to the program's text (the seventh form; the later family's looks); each row that meets fmt, with fmt's text TOLD by the authors' own Lean function (tested against real Go, not proved from fmt's source: count such statements apart). THE CARD IS WHAT COUNTS. Prove the row's statement (the work); the ties are given (YtppapmfonjmfbaaGreatDoorTie.lean); close each card by the builder's one call (the guide's Derived/Test/ToyasCard.lean, 'card_holds'). Laid BY PROGRAM, IN A SANDBOX (cutbox-door.mjs). By AI agents, Wed Nov 11 2026. No macro, syntax, notation, axiom, sorry.
-/
import Derived.Test.YtppapmfonjmfbaaGreatDoorRows
import GoSem.ClaimSeven
namespace Go.Proofs.YtppapmfonjmfbaaGreatDoor
namespace Rows

/-- THE TIED CARD OF 'ablauttop.TopReconstruction'. -/
def topReconstructionCard : Claim7 := { stood := { row := topReconstructionRow, standIns := [], harness := (true, "b187502f7a4f4e511ae612e694e4a6dc60d83d10ad2bfe7ad5d2b467807066db"), looks := true }, kinds := [], alts := [], laidByText := true, laidKinds := [.data, .data, .pinned], laidTests := true, laidLooks := .later }
def TopReconstructionCardSaid : Prop := Claim7.holds Tryz.pinned (.plain (OpenSpec.ofChange topReconstructionSpec)) topReconstructionCard

/-- THE TIED CARD OF 'ablauttop.TopSame'. -/
def topSameCard : Claim7 := { stood := { row := topSameRow, standIns := [], harness := (true, "b187502f7a4f4e511ae612e694e4a6dc60d83d10ad2bfe7ad5d2b467807066db"), looks := true }, kinds := [], alts := [], laidByText := true, laidKinds := [.data, .data, .pinned], laidTests := true, laidLooks := .later }
def TopSameCardSaid : Prop := Claim7.holds Tryz.pinned (.plain (OpenSpec.ofChange topSameSpec)) topSameCard

/-- THE SECOND FORM's CARD OF 'ablauttop.TopReconstruction'. -/
def topReconstructionUptoCard : Claim7 := { stood := { row := topReconstructionUptoRow, standIns := [], harness := (true, "b187502f7a4f4e511ae612e694e4a6dc60d83d10ad2bfe7ad5d2b467807066db"), looks := true }, kinds := [], alts := [], laidByText := true, laidKinds := [.data, .data, .pinned], laidTests := true, laidLooks := .later }
def TopReconstructionUptoCardSaid : Prop := Claim7.holds Tryz.pinned (.plain (OpenSpec.upto topReconstructionSpec)) topReconstructionUptoCard

/-- THE SECOND FORM's CARD OF 'ablauttop.TopSame'. -/
def topSameUptoCard : Claim7 := { stood := { row := topSameUptoRow, standIns := [], harness := (true, "b187502f7a4f4e511ae612e694e4a6dc60d83d10ad2bfe7ad5d2b467807066db"), looks := true }, kinds := [], alts := [], laidByText := true, laidKinds := [.data, .data, .pinned], laidTests := true, laidLooks := .later }
def TopSameUptoCardSaid : Prop := Claim7.holds Tryz.pinned (.plain (OpenSpec.upto topSameSpec)) topSameUptoCard
end Rows
end Go.Proofs.YtppapmfonjmfbaaGreatDoor
