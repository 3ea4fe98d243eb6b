/-
  DERIVED. GIVEN WITH THE SEED: THE CARDS: each row of YtpnbhddgjlobmaaGreatDoorRows.lean that lists a variable, with what it lists TIED to the program's text (the seventh form; the later family's looks); each row that meets fmt, with fmt's text TOLD by the authors' own Lean function (tested against real Go, not proved from fmt's source: count such statements apart). THE CARD IS WHAT COUNTS. Prove the row's statement (the work); the ties are given (YtpnbhddgjlobmaaGreatDoorTie.lean); close each card by the builder's one call (the guide's Derived/Test/ToyasCard.lean, 'card_holds'). Laid BY PROGRAM, IN A SANDBOX (cutbox-door.mjs). By AI agents, Wed Nov 11 2026. No macro, syntax, notation, axiom, sorry.
-/
import Derived.Test.YtpnbhddgjlobmaaGreatDoorRows
import GoSem.ClaimSeven
namespace Go.Proofs.YtpnbhddgjlobmaaGreatDoor
namespace Rows

/-- THE TIED CARD OF 'ablautlaw45.ProofJudges'. -/
def proofJudgesCard : Claim7 := { stood := { row := proofJudgesRow, standIns := [], harness := (true, "df2d9822dbeb88c2a5f5dc9089ebf2c430995c48e5805feabb4949d73e2b6378"), looks := true }, kinds := [], alts := [], laidByText := true, laidKinds := [.data, .data, .data, .data, .pinned], laidTests := true, laidLooks := .later }
def ProofJudgesCardSaid : Prop := Claim7.holds Tryz.pinned (.plain (OpenSpec.ofChange proofJudgesSpec)) proofJudgesCard

/-- THE SECOND FORM's CARD OF 'ablautlaw45.ProofJudges'. -/
def proofJudgesUptoCard : Claim7 := { stood := { row := proofJudgesUptoRow, standIns := [], harness := (true, "df2d9822dbeb88c2a5f5dc9089ebf2c430995c48e5805feabb4949d73e2b6378"), looks := true }, kinds := [], alts := [], laidByText := true, laidKinds := [.data, .data, .data, .data, .pinned], laidTests := true, laidLooks := .later }
def ProofJudgesUptoCardSaid : Prop := Claim7.holds Tryz.pinned (.plain (OpenSpec.upto proofJudgesSpec)) proofJudgesUptoCard
end Rows
end Go.Proofs.YtpnbhddgjlobmaaGreatDoor
