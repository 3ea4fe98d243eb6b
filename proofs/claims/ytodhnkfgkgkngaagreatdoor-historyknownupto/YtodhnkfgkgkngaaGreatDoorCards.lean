/-
  DERIVED. GIVEN WITH THE SEED: THE CARDS: each row of YtodhnkfgkgkngaaGreatDoorRows.lean that lists a variable, with what it lists TIED to the program's text (the seventh form; the later family's looks); each row that meets fmt, with fmt's text TOLD by the authors' own Lean function (tested against real Go, not proved from fmt's source: count such statements apart). THE CARD IS WHAT COUNTS. Prove the row's statement (the work); the ties are given (YtodhnkfgkgkngaaGreatDoorTie.lean); close each card by the builder's one call (the guide's Derived/Test/ToyasCard.lean, 'card_holds'). Laid BY PROGRAM, IN A SANDBOX (cutbox-door.mjs). By AI agents, Wed Nov 11 2026. No macro, syntax, notation, axiom, sorry.
-/
import Derived.Test.YtodhnkfgkgkngaaGreatDoorRows
import GoSem.ClaimSeven
namespace Go.Proofs.YtodhnkfgkgkngaaGreatDoor
namespace Rows

/-- THE TIED CARD OF 'ablautlaw25.HistoryForms'. -/
def historyFormsCard : Claim7 := { stood := { row := historyFormsRow, standIns := [], harness := (true, "6b607b1cf11236762f1ba38c801dd70eb65eb79617c464199bfb0736f20fdadc"), looks := true }, kinds := [], alts := [], laidByText := true, laidKinds := [.data, .data, .pinned], laidTests := true, laidLooks := .later }
def HistoryFormsCardSaid : Prop := Claim7.holds Tryz.pinned (.plain (OpenSpec.ofChange historyFormsSpec)) historyFormsCard

/-- THE TIED CARD OF 'ablautlaw25.HistorySame'. -/
def historySameCard : Claim7 := { stood := { row := historySameRow, standIns := [], harness := (true, "6b607b1cf11236762f1ba38c801dd70eb65eb79617c464199bfb0736f20fdadc"), looks := true }, kinds := [], alts := [], laidByText := true, laidKinds := [.data, .data, .pinned], laidTests := true, laidLooks := .later }
def HistorySameCardSaid : Prop := Claim7.holds Tryz.pinned (.plain (OpenSpec.ofChange historySameSpec)) historySameCard

/-- THE TIED CARD OF 'ablautlaw25.HistorySwaps'. -/
def historySwapsCard : Claim7 := { stood := { row := historySwapsRow, standIns := [], harness := (true, "6b607b1cf11236762f1ba38c801dd70eb65eb79617c464199bfb0736f20fdadc"), looks := true }, kinds := [], alts := [], laidByText := true, laidKinds := [.data, .data, .pinned], laidTests := true, laidLooks := .later }
def HistorySwapsCardSaid : Prop := Claim7.holds Tryz.pinned (.plain (OpenSpec.ofChange historySwapsSpec)) historySwapsCard

/-- THE TIED CARD OF 'ablautlaw25.HistorySteps'. -/
def historyStepsCard : Claim7 := { stood := { row := historyStepsRow, standIns := [], harness := (true, "6b607b1cf11236762f1ba38c801dd70eb65eb79617c464199bfb0736f20fdadc"), looks := true }, kinds := [], alts := [], laidByText := true, laidKinds := [.data, .data, .pinned], laidTests := true, laidLooks := .later }
def HistoryStepsCardSaid : Prop := Claim7.holds Tryz.pinned (.plain (OpenSpec.ofChange historyStepsSpec)) historyStepsCard

/-- THE TIED CARD OF 'ablautlaw25.HistoryTwice'. -/
def historyTwiceCard : Claim7 := { stood := { row := historyTwiceRow, standIns := [], harness := (true, "6b607b1cf11236762f1ba38c801dd70eb65eb79617c464199bfb0736f20fdadc"), looks := true }, kinds := [], alts := [], laidByText := true, laidKinds := [.data, .data, .pinned], laidTests := true, laidLooks := .later }
def HistoryTwiceCardSaid : Prop := Claim7.holds Tryz.pinned (.plain (OpenSpec.ofChange historyTwiceSpec)) historyTwiceCard

/-- THE TIED CARD OF 'ablautlaw25.HistoryOutcomes'. -/
def historyOutcomesCard : Claim7 := { stood := { row := historyOutcomesRow, standIns := [], harness := (true, "6b607b1cf11236762f1ba38c801dd70eb65eb79617c464199bfb0736f20fdadc"), looks := true }, kinds := [], alts := [], laidByText := true, laidKinds := [.data, .data, .pinned], laidTests := true, laidLooks := .later }
def HistoryOutcomesCardSaid : Prop := Claim7.holds Tryz.pinned (.plain (OpenSpec.ofChange historyOutcomesSpec)) historyOutcomesCard

/-- THE TIED CARD OF 'ablautlaw25.HistoryKnown'. -/
def historyKnownCard : Claim7 := { stood := { row := historyKnownRow, standIns := [], harness := (true, "6b607b1cf11236762f1ba38c801dd70eb65eb79617c464199bfb0736f20fdadc"), looks := true }, kinds := [], alts := [], laidByText := true, laidKinds := [.data, .data, .pinned], laidTests := true, laidLooks := .later }
def HistoryKnownCardSaid : Prop := Claim7.holds Tryz.pinned (.plain (OpenSpec.ofChange historyKnownSpec)) historyKnownCard

/-- THE TIED CARD OF 'ablautlaw25.HistoryChecks'. -/
def historyChecksCard : Claim7 := { stood := { row := historyChecksRow, standIns := [], harness := (true, "6b607b1cf11236762f1ba38c801dd70eb65eb79617c464199bfb0736f20fdadc"), looks := true }, kinds := [], alts := [], laidByText := true, laidKinds := [.data, .data, .pinned], laidTests := true, laidLooks := .later }
def HistoryChecksCardSaid : Prop := Claim7.holds Tryz.pinned (.plain (OpenSpec.ofChange historyChecksSpec)) historyChecksCard

/-- THE TIED CARD OF 'ablautlaw25.HistoryWheres'. -/
def historyWheresCard : Claim7 := { stood := { row := historyWheresRow, standIns := [], harness := (true, "6b607b1cf11236762f1ba38c801dd70eb65eb79617c464199bfb0736f20fdadc"), looks := true }, kinds := [], alts := [], laidByText := true, laidKinds := [.data, .data, .pinned], laidTests := true, laidLooks := .later }
def HistoryWheresCardSaid : Prop := Claim7.holds Tryz.pinned (.plain (OpenSpec.ofChange historyWheresSpec)) historyWheresCard

/-- THE SECOND FORM's CARD OF 'ablautlaw25.HistoryForms'. -/
def historyFormsUptoCard : Claim7 := { stood := { row := historyFormsUptoRow, standIns := [], harness := (true, "6b607b1cf11236762f1ba38c801dd70eb65eb79617c464199bfb0736f20fdadc"), looks := true }, kinds := [], alts := [], laidByText := true, laidKinds := [.data, .data, .pinned], laidTests := true, laidLooks := .later }
def HistoryFormsUptoCardSaid : Prop := Claim7.holds Tryz.pinned (.plain (OpenSpec.upto historyFormsSpec)) historyFormsUptoCard

/-- THE SECOND FORM's CARD OF 'ablautlaw25.HistorySame'. -/
def historySameUptoCard : Claim7 := { stood := { row := historySameUptoRow, standIns := [], harness := (true, "6b607b1cf11236762f1ba38c801dd70eb65eb79617c464199bfb0736f20fdadc"), looks := true }, kinds := [], alts := [], laidByText := true, laidKinds := [.data, .data, .pinned], laidTests := true, laidLooks := .later }
def HistorySameUptoCardSaid : Prop := Claim7.holds Tryz.pinned (.plain (OpenSpec.upto historySameSpec)) historySameUptoCard

/-- THE SECOND FORM's CARD OF 'ablautlaw25.HistorySwaps'. -/
def historySwapsUptoCard : Claim7 := { stood := { row := historySwapsUptoRow, standIns := [], harness := (true, "6b607b1cf11236762f1ba38c801dd70eb65eb79617c464199bfb0736f20fdadc"), looks := true }, kinds := [], alts := [], laidByText := true, laidKinds := [.data, .data, .pinned], laidTests := true, laidLooks := .later }
def HistorySwapsUptoCardSaid : Prop := Claim7.holds Tryz.pinned (.plain (OpenSpec.upto historySwapsSpec)) historySwapsUptoCard

/-- THE SECOND FORM's CARD OF 'ablautlaw25.HistorySteps'. -/
def historyStepsUptoCard : Claim7 := { stood := { row := historyStepsUptoRow, standIns := [], harness := (true, "6b607b1cf11236762f1ba38c801dd70eb65eb79617c464199bfb0736f20fdadc"), looks := true }, kinds := [], alts := [], laidByText := true, laidKinds := [.data, .data, .pinned], laidTests := true, laidLooks := .later }
def HistoryStepsUptoCardSaid : Prop := Claim7.holds Tryz.pinned (.plain (OpenSpec.upto historyStepsSpec)) historyStepsUptoCard

/-- THE SECOND FORM's CARD OF 'ablautlaw25.HistoryTwice'. -/
def historyTwiceUptoCard : Claim7 := { stood := { row := historyTwiceUptoRow, standIns := [], harness := (true, "6b607b1cf11236762f1ba38c801dd70eb65eb79617c464199bfb0736f20fdadc"), looks := true }, kinds := [], alts := [], laidByText := true, laidKinds := [.data, .data, .pinned], laidTests := true, laidLooks := .later }
def HistoryTwiceUptoCardSaid : Prop := Claim7.holds Tryz.pinned (.plain (OpenSpec.upto historyTwiceSpec)) historyTwiceUptoCard

/-- THE SECOND FORM's CARD OF 'ablautlaw25.HistoryOutcomes'. -/
def historyOutcomesUptoCard : Claim7 := { stood := { row := historyOutcomesUptoRow, standIns := [], harness := (true, "6b607b1cf11236762f1ba38c801dd70eb65eb79617c464199bfb0736f20fdadc"), looks := true }, kinds := [], alts := [], laidByText := true, laidKinds := [.data, .data, .pinned], laidTests := true, laidLooks := .later }
def HistoryOutcomesUptoCardSaid : Prop := Claim7.holds Tryz.pinned (.plain (OpenSpec.upto historyOutcomesSpec)) historyOutcomesUptoCard

/-- THE SECOND FORM's CARD OF 'ablautlaw25.HistoryKnown'. -/
def historyKnownUptoCard : Claim7 := { stood := { row := historyKnownUptoRow, standIns := [], harness := (true, "6b607b1cf11236762f1ba38c801dd70eb65eb79617c464199bfb0736f20fdadc"), looks := true }, kinds := [], alts := [], laidByText := true, laidKinds := [.data, .data, .pinned], laidTests := true, laidLooks := .later }
def HistoryKnownUptoCardSaid : Prop := Claim7.holds Tryz.pinned (.plain (OpenSpec.upto historyKnownSpec)) historyKnownUptoCard

/-- THE SECOND FORM's CARD OF 'ablautlaw25.HistoryChecks'. -/
def historyChecksUptoCard : Claim7 := { stood := { row := historyChecksUptoRow, standIns := [], harness := (true, "6b607b1cf11236762f1ba38c801dd70eb65eb79617c464199bfb0736f20fdadc"), looks := true }, kinds := [], alts := [], laidByText := true, laidKinds := [.data, .data, .pinned], laidTests := true, laidLooks := .later }
def HistoryChecksUptoCardSaid : Prop := Claim7.holds Tryz.pinned (.plain (OpenSpec.upto historyChecksSpec)) historyChecksUptoCard

/-- THE SECOND FORM's CARD OF 'ablautlaw25.HistoryWheres'. -/
def historyWheresUptoCard : Claim7 := { stood := { row := historyWheresUptoRow, standIns := [], harness := (true, "6b607b1cf11236762f1ba38c801dd70eb65eb79617c464199bfb0736f20fdadc"), looks := true }, kinds := [], alts := [], laidByText := true, laidKinds := [.data, .data, .pinned], laidTests := true, laidLooks := .later }
def HistoryWheresUptoCardSaid : Prop := Claim7.holds Tryz.pinned (.plain (OpenSpec.upto historyWheresSpec)) historyWheresUptoCard
end Rows
end Go.Proofs.YtodhnkfgkgkngaaGreatDoor
