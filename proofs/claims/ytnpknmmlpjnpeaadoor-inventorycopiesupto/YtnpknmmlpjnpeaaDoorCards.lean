/-
  DERIVED. GIVEN WITH THE SEED: THE CARDS: each row of YtnpknmmlpjnpeaaDoorRows.lean that lists a variable, with what it lists TIED to the program's text (the seventh form; the later family's looks); each row that meets fmt, with fmt's text TOLD by the authors' own Lean function (tested against real Go, not proved from fmt's source: count such statements apart). THE CARD IS WHAT COUNTS. Prove the row's statement (the work); the ties are given (YtnpknmmlpjnpeaaDoorTie.lean); close each card by the builder's one call (the guide's Derived/Test/ToyasCard.lean, 'card_holds'). Laid BY PROGRAM, IN A SANDBOX (cutbox-door.mjs). By AI agents, Wed Nov 11 2026. No macro, syntax, notation, axiom, sorry.
-/
import Derived.Test.YtnpknmmlpjnpeaaDoorRows
import GoSem.ClaimSeven
namespace Go.Proofs.YtnpknmmlpjnpeaaDoor
namespace Rows

/-- THE TIED CARD OF 'ablautlaw03.InventoryBundles'. -/
def inventoryBundlesCard : Claim7 := { stood := { row := inventoryBundlesRow, standIns := [], harness := (true, "d1f3b4c9699abd6499878063943b616a7e1c74a2a6f8d92a0c6ce735086244e0"), looks := false }, kinds := [], alts := [], laidByText := true, laidKinds := [.data, .pinned], laidTests := true, laidLooks := .later }
def InventoryBundlesCardSaid : Prop := Claim7.holds Tryd.pinned (.plain (OpenSpec.ofChange inventoryBundlesSpec)) inventoryBundlesCard

/-- THE TIED CARD OF 'ablautlaw03.InventoryTexts'. -/
def inventoryTextsCard : Claim7 := { stood := { row := inventoryTextsRow, standIns := [], harness := (true, "d1f3b4c9699abd6499878063943b616a7e1c74a2a6f8d92a0c6ce735086244e0"), looks := false }, kinds := [], alts := [], laidByText := true, laidKinds := [.data, .pinned], laidTests := true, laidLooks := .later }
def InventoryTextsCardSaid : Prop := Claim7.holds Tryd.pinned (.plain (OpenSpec.ofChange inventoryTextsSpec)) inventoryTextsCard

/-- THE TIED CARD OF 'ablautlaw03.InventoryFull'. -/
def inventoryFullCard : Claim7 := { stood := { row := inventoryFullRow, standIns := [], harness := (true, "d1f3b4c9699abd6499878063943b616a7e1c74a2a6f8d92a0c6ce735086244e0"), looks := false }, kinds := [], alts := [], laidByText := true, laidKinds := [.data, .pinned], laidTests := true, laidLooks := .later }
def InventoryFullCardSaid : Prop := Claim7.holds Tryd.pinned (.plain (OpenSpec.ofChange inventoryFullSpec)) inventoryFullCard

/-- THE TIED CARD OF 'ablautlaw03.InventoryBack'. -/
def inventoryBackCard : Claim7 := { stood := { row := inventoryBackRow, standIns := [], harness := (true, "d1f3b4c9699abd6499878063943b616a7e1c74a2a6f8d92a0c6ce735086244e0"), looks := false }, kinds := [], alts := [], laidByText := true, laidKinds := [.data, .pinned], laidTests := true, laidLooks := .later }
def InventoryBackCardSaid : Prop := Claim7.holds Tryd.pinned (.plain (OpenSpec.ofChange inventoryBackSpec)) inventoryBackCard

/-- THE TIED CARD OF 'ablautlaw03.InventoryLongest'. -/
def inventoryLongestCard : Claim7 := { stood := { row := inventoryLongestRow, standIns := [], harness := (true, "d1f3b4c9699abd6499878063943b616a7e1c74a2a6f8d92a0c6ce735086244e0"), looks := false }, kinds := [], alts := [], laidByText := true, laidKinds := [.data, .pinned], laidTests := true, laidLooks := .later }
def InventoryLongestCardSaid : Prop := Claim7.holds Tryd.pinned (.plain (OpenSpec.ofChange inventoryLongestSpec)) inventoryLongestCard

/-- THE TIED CARD OF 'ablautlaw03.InventoryNews'. -/
def inventoryNewsCard : Claim7 := { stood := { row := inventoryNewsRow, standIns := [], harness := (true, "d1f3b4c9699abd6499878063943b616a7e1c74a2a6f8d92a0c6ce735086244e0"), looks := false }, kinds := [], alts := [], laidByText := true, laidKinds := [.data, .pinned], laidTests := true, laidLooks := .later }
def InventoryNewsCardSaid : Prop := Claim7.holds Tryd.pinned (.plain (OpenSpec.ofChange inventoryNewsSpec)) inventoryNewsCard

/-- THE TIED CARD OF 'ablautlaw03.InventoryCopies'. -/
def inventoryCopiesCard : Claim7 := { stood := { row := inventoryCopiesRow, standIns := [], harness := (true, "d1f3b4c9699abd6499878063943b616a7e1c74a2a6f8d92a0c6ce735086244e0"), looks := false }, kinds := [], alts := [], laidByText := true, laidKinds := [.data, .pinned], laidTests := true, laidLooks := .later }
def InventoryCopiesCardSaid : Prop := Claim7.holds Tryd.pinned (.plain (OpenSpec.ofChange inventoryCopiesSpec)) inventoryCopiesCard

/-- THE TIED CARD OF 'ablautlaw03.InventoryPlays'. -/
def inventoryPlaysCard : Claim7 := { stood := { row := inventoryPlaysRow, standIns := [], harness := (true, "d1f3b4c9699abd6499878063943b616a7e1c74a2a6f8d92a0c6ce735086244e0"), looks := false }, kinds := [], alts := [], laidByText := true, laidKinds := [.data, .pinned], laidTests := true, laidLooks := .later }
def InventoryPlaysCardSaid : Prop := Claim7.holds Tryd.pinned (.plain (OpenSpec.ofChange inventoryPlaysSpec)) inventoryPlaysCard

/-- THE TIED CARD OF 'ablautlaw03.InventoryFinds'. -/
def inventoryFindsCard : Claim7 := { stood := { row := inventoryFindsRow, standIns := [], harness := (true, "d1f3b4c9699abd6499878063943b616a7e1c74a2a6f8d92a0c6ce735086244e0"), looks := false }, kinds := [], alts := [], laidByText := true, laidKinds := [.data, .pinned], laidTests := true, laidLooks := .later }
def InventoryFindsCardSaid : Prop := Claim7.holds Tryd.pinned (.plain (OpenSpec.ofChange inventoryFindsSpec)) inventoryFindsCard

/-- THE TIED CARD OF 'ablautlaw03.InventoryNil'. -/
def inventoryNilCard : Claim7 := { stood := { row := inventoryNilRow, standIns := [], harness := (true, "d1f3b4c9699abd6499878063943b616a7e1c74a2a6f8d92a0c6ce735086244e0"), looks := false }, kinds := [], alts := [], laidByText := true, laidKinds := [.data, .pinned], laidTests := true, laidLooks := .later }
def InventoryNilCardSaid : Prop := Claim7.holds Tryd.pinned (.plain (OpenSpec.ofChange inventoryNilSpec)) inventoryNilCard

/-- THE TIED CARD OF 'ablautlaw03.InventoryAny'. -/
def inventoryAnyCard : Claim7 := { stood := { row := inventoryAnyRow, standIns := [], harness := (true, "d1f3b4c9699abd6499878063943b616a7e1c74a2a6f8d92a0c6ce735086244e0"), looks := false }, kinds := [], alts := [], laidByText := true, laidKinds := [.data, .pinned], laidTests := true, laidLooks := .later }
def InventoryAnyCardSaid : Prop := Claim7.holds Tryd.pinned (.plain (OpenSpec.ofChange inventoryAnySpec)) inventoryAnyCard

/-- THE SECOND FORM's CARD OF 'ablautlaw03.InventoryBundles'. -/
def inventoryBundlesUptoCard : Claim7 := { stood := { row := inventoryBundlesUptoRow, standIns := [], harness := (true, "d1f3b4c9699abd6499878063943b616a7e1c74a2a6f8d92a0c6ce735086244e0"), looks := false }, kinds := [], alts := [], laidByText := true, laidKinds := [.data, .pinned], laidTests := true, laidLooks := .later }
def InventoryBundlesUptoCardSaid : Prop := Claim7.holds Tryd.pinned (.plain (OpenSpec.upto inventoryBundlesSpec)) inventoryBundlesUptoCard

/-- THE SECOND FORM's CARD OF 'ablautlaw03.InventoryTexts'. -/
def inventoryTextsUptoCard : Claim7 := { stood := { row := inventoryTextsUptoRow, standIns := [], harness := (true, "d1f3b4c9699abd6499878063943b616a7e1c74a2a6f8d92a0c6ce735086244e0"), looks := false }, kinds := [], alts := [], laidByText := true, laidKinds := [.data, .pinned], laidTests := true, laidLooks := .later }
def InventoryTextsUptoCardSaid : Prop := Claim7.holds Tryd.pinned (.plain (OpenSpec.upto inventoryTextsSpec)) inventoryTextsUptoCard

/-- THE SECOND FORM's CARD OF 'ablautlaw03.InventoryFull'. -/
def inventoryFullUptoCard : Claim7 := { stood := { row := inventoryFullUptoRow, standIns := [], harness := (true, "d1f3b4c9699abd6499878063943b616a7e1c74a2a6f8d92a0c6ce735086244e0"), looks := false }, kinds := [], alts := [], laidByText := true, laidKinds := [.data, .pinned], laidTests := true, laidLooks := .later }
def InventoryFullUptoCardSaid : Prop := Claim7.holds Tryd.pinned (.plain (OpenSpec.upto inventoryFullSpec)) inventoryFullUptoCard

/-- THE SECOND FORM's CARD OF 'ablautlaw03.InventoryBack'. -/
def inventoryBackUptoCard : Claim7 := { stood := { row := inventoryBackUptoRow, standIns := [], harness := (true, "d1f3b4c9699abd6499878063943b616a7e1c74a2a6f8d92a0c6ce735086244e0"), looks := false }, kinds := [], alts := [], laidByText := true, laidKinds := [.data, .pinned], laidTests := true, laidLooks := .later }
def InventoryBackUptoCardSaid : Prop := Claim7.holds Tryd.pinned (.plain (OpenSpec.upto inventoryBackSpec)) inventoryBackUptoCard

/-- THE SECOND FORM's CARD OF 'ablautlaw03.InventoryLongest'. -/
def inventoryLongestUptoCard : Claim7 := { stood := { row := inventoryLongestUptoRow, standIns := [], harness := (true, "d1f3b4c9699abd6499878063943b616a7e1c74a2a6f8d92a0c6ce735086244e0"), looks := false }, kinds := [], alts := [], laidByText := true, laidKinds := [.data, .pinned], laidTests := true, laidLooks := .later }
def InventoryLongestUptoCardSaid : Prop := Claim7.holds Tryd.pinned (.plain (OpenSpec.upto inventoryLongestSpec)) inventoryLongestUptoCard

/-- THE SECOND FORM's CARD OF 'ablautlaw03.InventoryNews'. -/
def inventoryNewsUptoCard : Claim7 := { stood := { row := inventoryNewsUptoRow, standIns := [], harness := (true, "d1f3b4c9699abd6499878063943b616a7e1c74a2a6f8d92a0c6ce735086244e0"), looks := false }, kinds := [], alts := [], laidByText := true, laidKinds := [.data, .pinned], laidTests := true, laidLooks := .later }
def InventoryNewsUptoCardSaid : Prop := Claim7.holds Tryd.pinned (.plain (OpenSpec.upto inventoryNewsSpec)) inventoryNewsUptoCard

/-- THE SECOND FORM's CARD OF 'ablautlaw03.InventoryCopies'. -/
def inventoryCopiesUptoCard : Claim7 := { stood := { row := inventoryCopiesUptoRow, standIns := [], harness := (true, "d1f3b4c9699abd6499878063943b616a7e1c74a2a6f8d92a0c6ce735086244e0"), looks := false }, kinds := [], alts := [], laidByText := true, laidKinds := [.data, .pinned], laidTests := true, laidLooks := .later }
def InventoryCopiesUptoCardSaid : Prop := Claim7.holds Tryd.pinned (.plain (OpenSpec.upto inventoryCopiesSpec)) inventoryCopiesUptoCard

/-- THE SECOND FORM's CARD OF 'ablautlaw03.InventoryPlays'. -/
def inventoryPlaysUptoCard : Claim7 := { stood := { row := inventoryPlaysUptoRow, standIns := [], harness := (true, "d1f3b4c9699abd6499878063943b616a7e1c74a2a6f8d92a0c6ce735086244e0"), looks := false }, kinds := [], alts := [], laidByText := true, laidKinds := [.data, .pinned], laidTests := true, laidLooks := .later }
def InventoryPlaysUptoCardSaid : Prop := Claim7.holds Tryd.pinned (.plain (OpenSpec.upto inventoryPlaysSpec)) inventoryPlaysUptoCard

/-- THE SECOND FORM's CARD OF 'ablautlaw03.InventoryFinds'. -/
def inventoryFindsUptoCard : Claim7 := { stood := { row := inventoryFindsUptoRow, standIns := [], harness := (true, "d1f3b4c9699abd6499878063943b616a7e1c74a2a6f8d92a0c6ce735086244e0"), looks := false }, kinds := [], alts := [], laidByText := true, laidKinds := [.data, .pinned], laidTests := true, laidLooks := .later }
def InventoryFindsUptoCardSaid : Prop := Claim7.holds Tryd.pinned (.plain (OpenSpec.upto inventoryFindsSpec)) inventoryFindsUptoCard

/-- THE SECOND FORM's CARD OF 'ablautlaw03.InventoryNil'. -/
def inventoryNilUptoCard : Claim7 := { stood := { row := inventoryNilUptoRow, standIns := [], harness := (true, "d1f3b4c9699abd6499878063943b616a7e1c74a2a6f8d92a0c6ce735086244e0"), looks := false }, kinds := [], alts := [], laidByText := true, laidKinds := [.data, .pinned], laidTests := true, laidLooks := .later }
def InventoryNilUptoCardSaid : Prop := Claim7.holds Tryd.pinned (.plain (OpenSpec.upto inventoryNilSpec)) inventoryNilUptoCard

/-- THE SECOND FORM's CARD OF 'ablautlaw03.InventoryAny'. -/
def inventoryAnyUptoCard : Claim7 := { stood := { row := inventoryAnyUptoRow, standIns := [], harness := (true, "d1f3b4c9699abd6499878063943b616a7e1c74a2a6f8d92a0c6ce735086244e0"), looks := false }, kinds := [], alts := [], laidByText := true, laidKinds := [.data, .pinned], laidTests := true, laidLooks := .later }
def InventoryAnyUptoCardSaid : Prop := Claim7.holds Tryd.pinned (.plain (OpenSpec.upto inventoryAnySpec)) inventoryAnyUptoCard
end Rows
end Go.Proofs.YtnpknmmlpjnpeaaDoor
