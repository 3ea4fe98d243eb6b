/-
  DERIVED. GIVEN WITH THE SEED: THE CARDS: each row of YtlbooedblpdmaaaGreatDoorRows.lean that lists a variable, with what it lists TIED to the program's text (the seventh form; the later family's looks); each row that meets fmt, with fmt's text TOLD by the authors' own Lean function (tested against real Go, not proved from fmt's source: count such statements apart). THE CARD IS WHAT COUNTS. Prove the row's statement (the work); the ties are given (YtlbooedblpdmaaaGreatDoorTie.lean); close each card by the builder's one call (the guide's Derived/Test/ToyasCard.lean, 'card_holds'). Laid BY PROGRAM, IN A SANDBOX (cutbox-door.mjs). By AI agents, Wed Nov 11 2026. No macro, syntax, notation, axiom, sorry.
-/
import Derived.Test.YtlbooedblpdmaaaGreatDoorRows
import GoSem.ClaimSeven
namespace Go.Proofs.YtlbooedblpdmaaaGreatDoor
namespace Rows

/-- THE TIED CARD OF 'ablautlaw26.AttestBads'. -/
def attestBadsCard : Claim7 := { stood := { row := attestBadsRow, standIns := [], harness := (true, "ecd80461ddfa59c04811c91a4beee66ef70f48707faa462e322682fe2c3f1b4f"), looks := true }, kinds := [], alts := [], laidByText := true, laidKinds := [.data, .data, .pinned], laidTests := true, laidLooks := .later }
def AttestBadsCardSaid : Prop := Claim7.holds Tryz.pinned (.plain (OpenSpec.ofChange attestBadsSpec)) attestBadsCard

/-- THE TIED CARD OF 'ablautlaw26.AttestLaws'. -/
def attestLawsCard : Claim7 := { stood := { row := attestLawsRow, standIns := [], harness := (true, "ecd80461ddfa59c04811c91a4beee66ef70f48707faa462e322682fe2c3f1b4f"), looks := true }, kinds := [], alts := [], laidByText := true, laidKinds := [.data, .data, .pinned], laidTests := true, laidLooks := .later }
def AttestLawsCardSaid : Prop := Claim7.holds Tryz.pinned (.plain (OpenSpec.ofChange attestLawsSpec)) attestLawsCard

/-- THE TIED CARD OF 'ablautlaw26.AttestBests'. -/
def attestBestsCard : Claim7 := { stood := { row := attestBestsRow, standIns := [], harness := (true, "ecd80461ddfa59c04811c91a4beee66ef70f48707faa462e322682fe2c3f1b4f"), looks := true }, kinds := [], alts := [], laidByText := true, laidKinds := [.data, .data, .pinned], laidTests := true, laidLooks := .later }
def AttestBestsCardSaid : Prop := Claim7.holds Tryz.pinned (.plain (OpenSpec.ofChange attestBestsSpec)) attestBestsCard

/-- THE TIED CARD OF 'ablautlaw26.AttestNeeds'. -/
def attestNeedsCard : Claim7 := { stood := { row := attestNeedsRow, standIns := [], harness := (true, "ecd80461ddfa59c04811c91a4beee66ef70f48707faa462e322682fe2c3f1b4f"), looks := true }, kinds := [], alts := [], laidByText := true, laidKinds := [.data, .data, .pinned], laidTests := true, laidLooks := .later }
def AttestNeedsCardSaid : Prop := Claim7.holds Tryz.pinned (.plain (OpenSpec.ofChange attestNeedsSpec)) attestNeedsCard

/-- THE TIED CARD OF 'ablautlaw26.AttestApart'. -/
def attestApartCard : Claim7 := { stood := { row := attestApartRow, standIns := [], harness := (true, "ecd80461ddfa59c04811c91a4beee66ef70f48707faa462e322682fe2c3f1b4f"), looks := true }, kinds := [], alts := [], laidByText := true, laidKinds := [.data, .data, .pinned], laidTests := true, laidLooks := .later }
def AttestApartCardSaid : Prop := Claim7.holds Tryz.pinned (.plain (OpenSpec.ofChange attestApartSpec)) attestApartCard

/-- THE TIED CARD OF 'ablautlaw26.AttestCosts'. -/
def attestCostsCard : Claim7 := { stood := { row := attestCostsRow, standIns := [], harness := (true, "ecd80461ddfa59c04811c91a4beee66ef70f48707faa462e322682fe2c3f1b4f"), looks := true }, kinds := [], alts := [], laidByText := true, laidKinds := [.data, .data, .pinned], laidTests := true, laidLooks := .later }
def AttestCostsCardSaid : Prop := Claim7.holds Tryz.pinned (.plain (OpenSpec.ofChange attestCostsSpec)) attestCostsCard

/-- THE TIED CARD OF 'ablautlaw26.AttestExplains'. -/
def attestExplainsCard : Claim7 := { stood := { row := attestExplainsRow, standIns := [], harness := (true, "ecd80461ddfa59c04811c91a4beee66ef70f48707faa462e322682fe2c3f1b4f"), looks := true }, kinds := [], alts := [], laidByText := true, laidKinds := [.data, .data, .pinned], laidTests := true, laidLooks := .later }
def AttestExplainsCardSaid : Prop := Claim7.holds Tryz.pinned (.plain (OpenSpec.ofChange attestExplainsSpec)) attestExplainsCard

/-- THE TIED CARD OF 'ablautlaw26.AttestNamed'. -/
def attestNamedCard : Claim7 := { stood := { row := attestNamedRow, standIns := [], harness := (true, "ecd80461ddfa59c04811c91a4beee66ef70f48707faa462e322682fe2c3f1b4f"), looks := true }, kinds := [], alts := [], laidByText := true, laidKinds := [.data, .data, .pinned], laidTests := true, laidLooks := .later }
def AttestNamedCardSaid : Prop := Claim7.holds Tryz.pinned (.plain (OpenSpec.ofChange attestNamedSpec)) attestNamedCard

/-- THE TIED CARD OF 'ablautlaw26.AttestKnown'. -/
def attestKnownCard : Claim7 := { stood := { row := attestKnownRow, standIns := [], harness := (true, "ecd80461ddfa59c04811c91a4beee66ef70f48707faa462e322682fe2c3f1b4f"), looks := true }, kinds := [], alts := [], laidByText := true, laidKinds := [.data, .data, .pinned], laidTests := true, laidLooks := .later }
def AttestKnownCardSaid : Prop := Claim7.holds Tryz.pinned (.plain (OpenSpec.ofChange attestKnownSpec)) attestKnownCard

/-- THE TIED CARD OF 'ablautlaw26.AttestRegular'. -/
def attestRegularCard : Claim7 := { stood := { row := attestRegularRow, standIns := [], harness := (true, "ecd80461ddfa59c04811c91a4beee66ef70f48707faa462e322682fe2c3f1b4f"), looks := true }, kinds := [], alts := [], laidByText := true, laidKinds := [.data, .data, .pinned], laidTests := true, laidLooks := .later }
def AttestRegularCardSaid : Prop := Claim7.holds Tryz.pinned (.plain (OpenSpec.ofChange attestRegularSpec)) attestRegularCard

/-- THE TIED CARD OF 'ablautlaw26.AttestMade'. -/
def attestMadeCard : Claim7 := { stood := { row := attestMadeRow, standIns := [], harness := (true, "ecd80461ddfa59c04811c91a4beee66ef70f48707faa462e322682fe2c3f1b4f"), looks := true }, kinds := [], alts := [], laidByText := true, laidKinds := [.data, .data, .pinned], laidTests := true, laidLooks := .later }
def AttestMadeCardSaid : Prop := Claim7.holds Tryz.pinned (.plain (OpenSpec.ofChange attestMadeSpec)) attestMadeCard

/-- THE SECOND FORM's CARD OF 'ablautlaw26.AttestBads'. -/
def attestBadsUptoCard : Claim7 := { stood := { row := attestBadsUptoRow, standIns := [], harness := (true, "ecd80461ddfa59c04811c91a4beee66ef70f48707faa462e322682fe2c3f1b4f"), looks := true }, kinds := [], alts := [], laidByText := true, laidKinds := [.data, .data, .pinned], laidTests := true, laidLooks := .later }
def AttestBadsUptoCardSaid : Prop := Claim7.holds Tryz.pinned (.plain (OpenSpec.upto attestBadsSpec)) attestBadsUptoCard

/-- THE SECOND FORM's CARD OF 'ablautlaw26.AttestLaws'. -/
def attestLawsUptoCard : Claim7 := { stood := { row := attestLawsUptoRow, standIns := [], harness := (true, "ecd80461ddfa59c04811c91a4beee66ef70f48707faa462e322682fe2c3f1b4f"), looks := true }, kinds := [], alts := [], laidByText := true, laidKinds := [.data, .data, .pinned], laidTests := true, laidLooks := .later }
def AttestLawsUptoCardSaid : Prop := Claim7.holds Tryz.pinned (.plain (OpenSpec.upto attestLawsSpec)) attestLawsUptoCard

/-- THE SECOND FORM's CARD OF 'ablautlaw26.AttestBests'. -/
def attestBestsUptoCard : Claim7 := { stood := { row := attestBestsUptoRow, standIns := [], harness := (true, "ecd80461ddfa59c04811c91a4beee66ef70f48707faa462e322682fe2c3f1b4f"), looks := true }, kinds := [], alts := [], laidByText := true, laidKinds := [.data, .data, .pinned], laidTests := true, laidLooks := .later }
def AttestBestsUptoCardSaid : Prop := Claim7.holds Tryz.pinned (.plain (OpenSpec.upto attestBestsSpec)) attestBestsUptoCard

/-- THE SECOND FORM's CARD OF 'ablautlaw26.AttestNeeds'. -/
def attestNeedsUptoCard : Claim7 := { stood := { row := attestNeedsUptoRow, standIns := [], harness := (true, "ecd80461ddfa59c04811c91a4beee66ef70f48707faa462e322682fe2c3f1b4f"), looks := true }, kinds := [], alts := [], laidByText := true, laidKinds := [.data, .data, .pinned], laidTests := true, laidLooks := .later }
def AttestNeedsUptoCardSaid : Prop := Claim7.holds Tryz.pinned (.plain (OpenSpec.upto attestNeedsSpec)) attestNeedsUptoCard

/-- THE SECOND FORM's CARD OF 'ablautlaw26.AttestApart'. -/
def attestApartUptoCard : Claim7 := { stood := { row := attestApartUptoRow, standIns := [], harness := (true, "ecd80461ddfa59c04811c91a4beee66ef70f48707faa462e322682fe2c3f1b4f"), looks := true }, kinds := [], alts := [], laidByText := true, laidKinds := [.data, .data, .pinned], laidTests := true, laidLooks := .later }
def AttestApartUptoCardSaid : Prop := Claim7.holds Tryz.pinned (.plain (OpenSpec.upto attestApartSpec)) attestApartUptoCard

/-- THE SECOND FORM's CARD OF 'ablautlaw26.AttestCosts'. -/
def attestCostsUptoCard : Claim7 := { stood := { row := attestCostsUptoRow, standIns := [], harness := (true, "ecd80461ddfa59c04811c91a4beee66ef70f48707faa462e322682fe2c3f1b4f"), looks := true }, kinds := [], alts := [], laidByText := true, laidKinds := [.data, .data, .pinned], laidTests := true, laidLooks := .later }
def AttestCostsUptoCardSaid : Prop := Claim7.holds Tryz.pinned (.plain (OpenSpec.upto attestCostsSpec)) attestCostsUptoCard

/-- THE SECOND FORM's CARD OF 'ablautlaw26.AttestExplains'. -/
def attestExplainsUptoCard : Claim7 := { stood := { row := attestExplainsUptoRow, standIns := [], harness := (true, "ecd80461ddfa59c04811c91a4beee66ef70f48707faa462e322682fe2c3f1b4f"), looks := true }, kinds := [], alts := [], laidByText := true, laidKinds := [.data, .data, .pinned], laidTests := true, laidLooks := .later }
def AttestExplainsUptoCardSaid : Prop := Claim7.holds Tryz.pinned (.plain (OpenSpec.upto attestExplainsSpec)) attestExplainsUptoCard

/-- THE SECOND FORM's CARD OF 'ablautlaw26.AttestNamed'. -/
def attestNamedUptoCard : Claim7 := { stood := { row := attestNamedUptoRow, standIns := [], harness := (true, "ecd80461ddfa59c04811c91a4beee66ef70f48707faa462e322682fe2c3f1b4f"), looks := true }, kinds := [], alts := [], laidByText := true, laidKinds := [.data, .data, .pinned], laidTests := true, laidLooks := .later }
def AttestNamedUptoCardSaid : Prop := Claim7.holds Tryz.pinned (.plain (OpenSpec.upto attestNamedSpec)) attestNamedUptoCard

/-- THE SECOND FORM's CARD OF 'ablautlaw26.AttestKnown'. -/
def attestKnownUptoCard : Claim7 := { stood := { row := attestKnownUptoRow, standIns := [], harness := (true, "ecd80461ddfa59c04811c91a4beee66ef70f48707faa462e322682fe2c3f1b4f"), looks := true }, kinds := [], alts := [], laidByText := true, laidKinds := [.data, .data, .pinned], laidTests := true, laidLooks := .later }
def AttestKnownUptoCardSaid : Prop := Claim7.holds Tryz.pinned (.plain (OpenSpec.upto attestKnownSpec)) attestKnownUptoCard

/-- THE SECOND FORM's CARD OF 'ablautlaw26.AttestRegular'. -/
def attestRegularUptoCard : Claim7 := { stood := { row := attestRegularUptoRow, standIns := [], harness := (true, "ecd80461ddfa59c04811c91a4beee66ef70f48707faa462e322682fe2c3f1b4f"), looks := true }, kinds := [], alts := [], laidByText := true, laidKinds := [.data, .data, .pinned], laidTests := true, laidLooks := .later }
def AttestRegularUptoCardSaid : Prop := Claim7.holds Tryz.pinned (.plain (OpenSpec.upto attestRegularSpec)) attestRegularUptoCard

/-- THE SECOND FORM's CARD OF 'ablautlaw26.AttestMade'. -/
def attestMadeUptoCard : Claim7 := { stood := { row := attestMadeUptoRow, standIns := [], harness := (true, "ecd80461ddfa59c04811c91a4beee66ef70f48707faa462e322682fe2c3f1b4f"), looks := true }, kinds := [], alts := [], laidByText := true, laidKinds := [.data, .data, .pinned], laidTests := true, laidLooks := .later }
def AttestMadeUptoCardSaid : Prop := Claim7.holds Tryz.pinned (.plain (OpenSpec.upto attestMadeSpec)) attestMadeUptoCard
end Rows
end Go.Proofs.YtlbooedblpdmaaaGreatDoor
