/-
  DERIVED. GIVEN WITH THE SEED: THE CARDS: each row of YtfcfdofmgkpmbaaGreatDoorRows.lean that lists a variable, with what it lists TIED to the program's text (the seventh form; the later family's looks); each row that meets fmt, with fmt's text TOLD by the authors' own Lean function (tested against real Go, not proved from fmt's source: count such statements apart). THE CARD IS WHAT COUNTS. Prove the row's statement (the work); the ties are given (YtfcfdofmgkpmbaaGreatDoorTie.lean); close each card by the builder's one call (the guide's Derived/Test/ToyasCard.lean, 'card_holds'). Laid BY PROGRAM, IN A SANDBOX (cutbox-door.mjs). By AI agents, Wed Nov 11 2026. No macro, syntax, notation, axiom, sorry.
-/
import Derived.Test.YtfcfdofmgkpmbaaGreatDoorRows
import GoSem.ClaimSeven
namespace Go.Proofs.YtfcfdofmgkpmbaaGreatDoor
namespace Rows

/-- THE TIED CARD OF 'ablautlaw31.InnovChecks'. -/
def innovChecksCard : Claim7 := { stood := { row := innovChecksRow, standIns := [], harness := (true, "373f1560b2e28ab87bbc6b1088cfa59980043a9274f74fee19f952f0692a3624"), looks := true }, kinds := [], alts := [], laidByText := true, laidKinds := [.data, .data, .pinned], laidTests := true, laidLooks := .later }
def InnovChecksCardSaid : Prop := Claim7.holds Tryz.pinned (.plain (OpenSpec.ofChange innovChecksSpec)) innovChecksCard

/-- THE TIED CARD OF 'ablautlaw31.InnovOnly'. -/
def innovOnlyCard : Claim7 := { stood := { row := innovOnlyRow, standIns := [], harness := (true, "373f1560b2e28ab87bbc6b1088cfa59980043a9274f74fee19f952f0692a3624"), looks := true }, kinds := [], alts := [], laidByText := true, laidKinds := [.data, .data, .pinned], laidTests := true, laidLooks := .later }
def InnovOnlyCardSaid : Prop := Claim7.holds Tryz.pinned (.plain (OpenSpec.ofChange innovOnlySpec)) innovOnlyCard

/-- THE TIED CARD OF 'ablautlaw31.InnovFrom'. -/
def innovFromCard : Claim7 := { stood := { row := innovFromRow, standIns := [], harness := (true, "373f1560b2e28ab87bbc6b1088cfa59980043a9274f74fee19f952f0692a3624"), looks := true }, kinds := [], alts := [], laidByText := true, laidKinds := [.data, .data, .pinned], laidTests := true, laidLooks := .later }
def InnovFromCardSaid : Prop := Claim7.holds Tryz.pinned (.plain (OpenSpec.ofChange innovFromSpec)) innovFromCard

/-- THE TIED CARD OF 'ablautlaw31.InnovWords'. -/
def innovWordsCard : Claim7 := { stood := { row := innovWordsRow, standIns := [], harness := (true, "373f1560b2e28ab87bbc6b1088cfa59980043a9274f74fee19f952f0692a3624"), looks := true }, kinds := [], alts := [], laidByText := true, laidKinds := [.data, .data, .pinned], laidTests := true, laidLooks := .later }
def InnovWordsCardSaid : Prop := Claim7.holds Tryz.pinned (.plain (OpenSpec.ofChange innovWordsSpec)) innovWordsCard

/-- THE TIED CARD OF 'ablautlaw31.InnovPairs'. -/
def innovPairsCard : Claim7 := { stood := { row := innovPairsRow, standIns := [], harness := (true, "373f1560b2e28ab87bbc6b1088cfa59980043a9274f74fee19f952f0692a3624"), looks := true }, kinds := [], alts := [], laidByText := true, laidKinds := [.data, .data, .pinned], laidTests := true, laidLooks := .later }
def InnovPairsCardSaid : Prop := Claim7.holds Tryz.pinned (.plain (OpenSpec.ofChange innovPairsSpec)) innovPairsCard

/-- THE TIED CARD OF 'ablautlaw31.InnovClasses'. -/
def innovClassesCard : Claim7 := { stood := { row := innovClassesRow, standIns := [], harness := (true, "373f1560b2e28ab87bbc6b1088cfa59980043a9274f74fee19f952f0692a3624"), looks := true }, kinds := [], alts := [], laidByText := true, laidKinds := [.data, .data, .pinned], laidTests := true, laidLooks := .later }
def InnovClassesCardSaid : Prop := Claim7.holds Tryz.pinned (.plain (OpenSpec.ofChange innovClassesSpec)) innovClassesCard

/-- THE TIED CARD OF 'ablautlaw31.InnovParts'. -/
def innovPartsCard : Claim7 := { stood := { row := innovPartsRow, standIns := [], harness := (true, "373f1560b2e28ab87bbc6b1088cfa59980043a9274f74fee19f952f0692a3624"), looks := true }, kinds := [], alts := [], laidByText := true, laidKinds := [.data, .data, .pinned], laidTests := true, laidLooks := .later }
def InnovPartsCardSaid : Prop := Claim7.holds Tryz.pinned (.plain (OpenSpec.ofChange innovPartsSpec)) innovPartsCard

/-- THE TIED CARD OF 'ablautlaw31.InnovNumbers'. -/
def innovNumbersCard : Claim7 := { stood := { row := innovNumbersRow, standIns := [], harness := (true, "373f1560b2e28ab87bbc6b1088cfa59980043a9274f74fee19f952f0692a3624"), looks := true }, kinds := [], alts := [], laidByText := true, laidKinds := [.data, .data, .pinned], laidTests := true, laidLooks := .later }
def InnovNumbersCardSaid : Prop := Claim7.holds Tryz.pinned (.plain (OpenSpec.ofChange innovNumbersSpec)) innovNumbersCard

/-- THE TIED CARD OF 'ablautlaw31.InnovClades'. -/
def innovCladesCard : Claim7 := { stood := { row := innovCladesRow, standIns := [], harness := (true, "373f1560b2e28ab87bbc6b1088cfa59980043a9274f74fee19f952f0692a3624"), looks := true }, kinds := [], alts := [], laidByText := true, laidKinds := [.data, .data, .pinned], laidTests := true, laidLooks := .later }
def InnovCladesCardSaid : Prop := Claim7.holds Tryz.pinned (.plain (OpenSpec.ofChange innovCladesSpec)) innovCladesCard

/-- THE TIED CARD OF 'ablautlaw31.InnovMany'. -/
def innovManyCard : Claim7 := { stood := { row := innovManyRow, standIns := [], harness := (true, "373f1560b2e28ab87bbc6b1088cfa59980043a9274f74fee19f952f0692a3624"), looks := true }, kinds := [], alts := [], laidByText := true, laidKinds := [.data, .data, .pinned], laidTests := true, laidLooks := .later }
def InnovManyCardSaid : Prop := Claim7.holds Tryz.pinned (.plain (OpenSpec.ofChange innovManySpec)) innovManyCard

/-- THE TIED CARD OF 'ablautlaw31.InnovTwo'. -/
def innovTwoCard : Claim7 := { stood := { row := innovTwoRow, standIns := [], harness := (true, "373f1560b2e28ab87bbc6b1088cfa59980043a9274f74fee19f952f0692a3624"), looks := true }, kinds := [], alts := [], laidByText := true, laidKinds := [.data, .data, .pinned], laidTests := true, laidLooks := .later }
def InnovTwoCardSaid : Prop := Claim7.holds Tryz.pinned (.plain (OpenSpec.ofChange innovTwoSpec)) innovTwoCard

/-- THE SECOND FORM's CARD OF 'ablautlaw31.InnovChecks'. -/
def innovChecksUptoCard : Claim7 := { stood := { row := innovChecksUptoRow, standIns := [], harness := (true, "373f1560b2e28ab87bbc6b1088cfa59980043a9274f74fee19f952f0692a3624"), looks := true }, kinds := [], alts := [], laidByText := true, laidKinds := [.data, .data, .pinned], laidTests := true, laidLooks := .later }
def InnovChecksUptoCardSaid : Prop := Claim7.holds Tryz.pinned (.plain (OpenSpec.upto innovChecksSpec)) innovChecksUptoCard

/-- THE SECOND FORM's CARD OF 'ablautlaw31.InnovOnly'. -/
def innovOnlyUptoCard : Claim7 := { stood := { row := innovOnlyUptoRow, standIns := [], harness := (true, "373f1560b2e28ab87bbc6b1088cfa59980043a9274f74fee19f952f0692a3624"), looks := true }, kinds := [], alts := [], laidByText := true, laidKinds := [.data, .data, .pinned], laidTests := true, laidLooks := .later }
def InnovOnlyUptoCardSaid : Prop := Claim7.holds Tryz.pinned (.plain (OpenSpec.upto innovOnlySpec)) innovOnlyUptoCard

/-- THE SECOND FORM's CARD OF 'ablautlaw31.InnovFrom'. -/
def innovFromUptoCard : Claim7 := { stood := { row := innovFromUptoRow, standIns := [], harness := (true, "373f1560b2e28ab87bbc6b1088cfa59980043a9274f74fee19f952f0692a3624"), looks := true }, kinds := [], alts := [], laidByText := true, laidKinds := [.data, .data, .pinned], laidTests := true, laidLooks := .later }
def InnovFromUptoCardSaid : Prop := Claim7.holds Tryz.pinned (.plain (OpenSpec.upto innovFromSpec)) innovFromUptoCard

/-- THE SECOND FORM's CARD OF 'ablautlaw31.InnovWords'. -/
def innovWordsUptoCard : Claim7 := { stood := { row := innovWordsUptoRow, standIns := [], harness := (true, "373f1560b2e28ab87bbc6b1088cfa59980043a9274f74fee19f952f0692a3624"), looks := true }, kinds := [], alts := [], laidByText := true, laidKinds := [.data, .data, .pinned], laidTests := true, laidLooks := .later }
def InnovWordsUptoCardSaid : Prop := Claim7.holds Tryz.pinned (.plain (OpenSpec.upto innovWordsSpec)) innovWordsUptoCard

/-- THE SECOND FORM's CARD OF 'ablautlaw31.InnovPairs'. -/
def innovPairsUptoCard : Claim7 := { stood := { row := innovPairsUptoRow, standIns := [], harness := (true, "373f1560b2e28ab87bbc6b1088cfa59980043a9274f74fee19f952f0692a3624"), looks := true }, kinds := [], alts := [], laidByText := true, laidKinds := [.data, .data, .pinned], laidTests := true, laidLooks := .later }
def InnovPairsUptoCardSaid : Prop := Claim7.holds Tryz.pinned (.plain (OpenSpec.upto innovPairsSpec)) innovPairsUptoCard

/-- THE SECOND FORM's CARD OF 'ablautlaw31.InnovClasses'. -/
def innovClassesUptoCard : Claim7 := { stood := { row := innovClassesUptoRow, standIns := [], harness := (true, "373f1560b2e28ab87bbc6b1088cfa59980043a9274f74fee19f952f0692a3624"), looks := true }, kinds := [], alts := [], laidByText := true, laidKinds := [.data, .data, .pinned], laidTests := true, laidLooks := .later }
def InnovClassesUptoCardSaid : Prop := Claim7.holds Tryz.pinned (.plain (OpenSpec.upto innovClassesSpec)) innovClassesUptoCard

/-- THE SECOND FORM's CARD OF 'ablautlaw31.InnovParts'. -/
def innovPartsUptoCard : Claim7 := { stood := { row := innovPartsUptoRow, standIns := [], harness := (true, "373f1560b2e28ab87bbc6b1088cfa59980043a9274f74fee19f952f0692a3624"), looks := true }, kinds := [], alts := [], laidByText := true, laidKinds := [.data, .data, .pinned], laidTests := true, laidLooks := .later }
def InnovPartsUptoCardSaid : Prop := Claim7.holds Tryz.pinned (.plain (OpenSpec.upto innovPartsSpec)) innovPartsUptoCard

/-- THE SECOND FORM's CARD OF 'ablautlaw31.InnovNumbers'. -/
def innovNumbersUptoCard : Claim7 := { stood := { row := innovNumbersUptoRow, standIns := [], harness := (true, "373f1560b2e28ab87bbc6b1088cfa59980043a9274f74fee19f952f0692a3624"), looks := true }, kinds := [], alts := [], laidByText := true, laidKinds := [.data, .data, .pinned], laidTests := true, laidLooks := .later }
def InnovNumbersUptoCardSaid : Prop := Claim7.holds Tryz.pinned (.plain (OpenSpec.upto innovNumbersSpec)) innovNumbersUptoCard

/-- THE SECOND FORM's CARD OF 'ablautlaw31.InnovClades'. -/
def innovCladesUptoCard : Claim7 := { stood := { row := innovCladesUptoRow, standIns := [], harness := (true, "373f1560b2e28ab87bbc6b1088cfa59980043a9274f74fee19f952f0692a3624"), looks := true }, kinds := [], alts := [], laidByText := true, laidKinds := [.data, .data, .pinned], laidTests := true, laidLooks := .later }
def InnovCladesUptoCardSaid : Prop := Claim7.holds Tryz.pinned (.plain (OpenSpec.upto innovCladesSpec)) innovCladesUptoCard

/-- THE SECOND FORM's CARD OF 'ablautlaw31.InnovMany'. -/
def innovManyUptoCard : Claim7 := { stood := { row := innovManyUptoRow, standIns := [], harness := (true, "373f1560b2e28ab87bbc6b1088cfa59980043a9274f74fee19f952f0692a3624"), looks := true }, kinds := [], alts := [], laidByText := true, laidKinds := [.data, .data, .pinned], laidTests := true, laidLooks := .later }
def InnovManyUptoCardSaid : Prop := Claim7.holds Tryz.pinned (.plain (OpenSpec.upto innovManySpec)) innovManyUptoCard

/-- THE SECOND FORM's CARD OF 'ablautlaw31.InnovTwo'. -/
def innovTwoUptoCard : Claim7 := { stood := { row := innovTwoUptoRow, standIns := [], harness := (true, "373f1560b2e28ab87bbc6b1088cfa59980043a9274f74fee19f952f0692a3624"), looks := true }, kinds := [], alts := [], laidByText := true, laidKinds := [.data, .data, .pinned], laidTests := true, laidLooks := .later }
def InnovTwoUptoCardSaid : Prop := Claim7.holds Tryz.pinned (.plain (OpenSpec.upto innovTwoSpec)) innovTwoUptoCard
end Rows
end Go.Proofs.YtfcfdofmgkpmbaaGreatDoor
