/-
  NARROWER THAN 'FOR EVERY INPUT', by the rows' own cells (each row's printed sentence says how): InventoryBundles: laid · InventoryTexts: laid · InventoryFull: laid · InventoryBack: laid · InventoryLongest: laid · InventoryNews: laid · InventoryCopies: laid · InventoryPlays: laid · InventoryFinds: laid · InventoryNil: laid · InventoryAny: laid.
  DERIVED. THE GIVEN ROWS OF THIS SEAT. 11 by the template 'for every input the law returns true; each argument reads behind the call as it read before'; 0 by the template 'total and deterministic' (their statements: YtnpknmmlpjnpeaaDoorTotals.lean).
  GIVEN WITH THE SEED: the statements are not yours to turn. If you find one false, say at which input.
  Laid BY PROGRAM, IN A SANDBOX (cutbox-rows.mjs): the forced cells as the released guide's own fill.sh prints them over the translation dd4628f9c96ad29d… (all of the seat's roots in one cut). By AI agents, Wed Nov 11 2026. No macro, syntax, notation, axiom, sorry.
-/
import Derived.Test.YtnpknmmlpjnpeaaDoorChecked
import GoSem.PinnedTables
import GoSem.Claim
import GoSem.ClaimJoined
import GoSem.ClaimMapViews
import Derived.JoinedTies
import Derived.KernelRfl
namespace Go.Proofs.YtnpknmmlpjnpeaaDoor
/- THE CELL 'sum', in the pinned program and in every row, IS THE sha256 OF THE DUMP (.gsa) THAT YtnpknmmlpjnpeaaDoorProg.lean LOADS. Nothing in Lean hashes anything: it is a label: what it is worth is what the hold of that sum in a sandbox is worth. -/
noncomputable def Tryd.pinned : Pinned := { name := "ytnpknmmlpjnpeaadoor", sum := "dd4628f9c96ad29de6710c608274f9513a61cb6c20fc7ffbe02a622f27c29000", checked := Tryd.checked }
namespace Rows
def none {H : Type} : Left H := { results := [], args := [] }

/- WHAT THE LISTED PACKAGE-LEVEL VARIABLES READ AS WHEN THE CALL BEGINS. Each datum BY PROGRAM (the guide's laid-datum.mjs) off the statement by which the dump's own 'gosem.cut.vars' lays the variable. In a bare row this is a premise. The card (YtnpknmmlpjnpeaaDoorCards.lean) ties it to the program's text. -/
def laid_unicode_utf8_acceptRanges {H : Type} : DataW H := .agg [.agg [.lit (.int .u8 128), .lit (.int .u8 191)], .agg [.lit (.int .u8 160), .lit (.int .u8 191)], .agg [.lit (.int .u8 128), .lit (.int .u8 159)], .agg [.lit (.int .u8 144), .lit (.int .u8 191)], .agg [.lit (.int .u8 128), .lit (.int .u8 143)], .agg [.lit (.int .u8 0), .lit (.int .u8 0)], .agg [.lit (.int .u8 0), .lit (.int .u8 0)], .agg [.lit (.int .u8 0), .lit (.int .u8 0)], .agg [.lit (.int .u8 0), .lit (.int .u8 0)], .agg [.lit (.int .u8 0), .lit (.int .u8 0)], .agg [.lit (.int .u8 0), .lit (.int .u8 0)], .agg [.lit (.int .u8 0), .lit (.int .u8 0)], .agg [.lit (.int .u8 0), .lit (.int .u8 0)], .agg [.lit (.int .u8 0), .lit (.int .u8 0)], .agg [.lit (.int .u8 0), .lit (.int .u8 0)], .agg [.lit (.int .u8 0), .lit (.int .u8 0)]]
/-- One of Go's own tables, pinned by name: the form's constant. -/
def laid_unicode_utf8_first : DataW Unit := Go.Pinned.utf8First

/-- 'ablautlaw03.InventoryBundles': WHATEVER THE INPUT: true; the input reads as it did. -/
def inventoryBundlesSpec : ChangeSpec := { name := "inventoryBundles", fn := fun _ => fun
  | [d1, d2] => { results := [.lit (.bool true)], args := [d1, d2] }
  | _ => none }
def inventoryBundlesRow : OpenClaim := { program := "ytnpknmmlpjnpeaadoor", sum := "dd4628f9c96ad29de6710c608274f9513a61cb6c20fc7ffbe02a622f27c29000", func := "ablaut/ablautlaw03.InventoryBundles", spec := "inventoryBundles", inPlace := ["internal/bytealg.IndexByteString", "internal/bytealg.IndexString", "internal/abi.NoEscape", "internal/bytealg.MakeNoZero"], unfollowed := true, recurses := true, named := ["unicode/utf8.first", "unicode/utf8.acceptRanges", "internal/bytealg.MaxLen"], plainKeys := false, apart := false, laid := [("unicode/utf8.acceptRanges", laid_unicode_utf8_acceptRanges), ("unicode/utf8.first", laid_unicode_utf8_first)] }
def InventoryBundlesSaid : Prop := inventoryBundlesRow.holds Tryd.pinned (OpenSpec.ofChange inventoryBundlesSpec)

/-- ITS FALSE NEIGHBOUR: 'it returns false'. Refute it at one input. -/
def inventoryBundlesWrong : ChangeSpec := { name := "inventoryBundles", fn := fun _ => fun
  | [d1, d2] => { results := [.lit (.bool false)], args := [d1, d2] }
  | _ => none }
def InventoryBundlesWrongFalsely : Prop := inventoryBundlesRow.holds Tryd.pinned (OpenSpec.ofChange inventoryBundlesWrong)

/-- 'ablautlaw03.InventoryTexts': WHATEVER THE INPUT: true; the input reads as it did. -/
def inventoryTextsSpec : ChangeSpec := { name := "inventoryTexts", fn := fun _ => fun
  | [d1, d2] => { results := [.lit (.bool true)], args := [d1, d2] }
  | _ => none }
def inventoryTextsRow : OpenClaim := { program := "ytnpknmmlpjnpeaadoor", sum := "dd4628f9c96ad29de6710c608274f9513a61cb6c20fc7ffbe02a622f27c29000", func := "ablaut/ablautlaw03.InventoryTexts", spec := "inventoryTexts", inPlace := ["internal/bytealg.IndexByteString", "internal/bytealg.IndexString", "internal/abi.NoEscape", "internal/bytealg.MakeNoZero"], unfollowed := true, recurses := true, named := ["unicode/utf8.first", "unicode/utf8.acceptRanges", "internal/bytealg.MaxLen"], plainKeys := false, apart := false, laid := [("unicode/utf8.acceptRanges", laid_unicode_utf8_acceptRanges), ("unicode/utf8.first", laid_unicode_utf8_first)] }
def InventoryTextsSaid : Prop := inventoryTextsRow.holds Tryd.pinned (OpenSpec.ofChange inventoryTextsSpec)

/-- ITS FALSE NEIGHBOUR: 'it returns false'. Refute it at one input. -/
def inventoryTextsWrong : ChangeSpec := { name := "inventoryTexts", fn := fun _ => fun
  | [d1, d2] => { results := [.lit (.bool false)], args := [d1, d2] }
  | _ => none }
def InventoryTextsWrongFalsely : Prop := inventoryTextsRow.holds Tryd.pinned (OpenSpec.ofChange inventoryTextsWrong)

/-- 'ablautlaw03.InventoryFull': WHATEVER THE INPUT: true; the input reads as it did. -/
def inventoryFullSpec : ChangeSpec := { name := "inventoryFull", fn := fun _ => fun
  | [d] => { results := [.lit (.bool true)], args := [d] }
  | _ => none }
def inventoryFullRow : OpenClaim := { program := "ytnpknmmlpjnpeaadoor", sum := "dd4628f9c96ad29de6710c608274f9513a61cb6c20fc7ffbe02a622f27c29000", func := "ablaut/ablautlaw03.InventoryFull", spec := "inventoryFull", inPlace := ["internal/bytealg.IndexByteString", "internal/bytealg.IndexString", "internal/abi.NoEscape", "internal/bytealg.MakeNoZero"], unfollowed := true, recurses := true, named := ["unicode/utf8.first", "unicode/utf8.acceptRanges", "internal/bytealg.MaxLen"], plainKeys := false, apart := false, laid := [("unicode/utf8.acceptRanges", laid_unicode_utf8_acceptRanges), ("unicode/utf8.first", laid_unicode_utf8_first)] }
def InventoryFullSaid : Prop := inventoryFullRow.holds Tryd.pinned (OpenSpec.ofChange inventoryFullSpec)

/-- ITS FALSE NEIGHBOUR: 'it returns false'. Refute it at one input. -/
def inventoryFullWrong : ChangeSpec := { name := "inventoryFull", fn := fun _ => fun
  | [d] => { results := [.lit (.bool false)], args := [d] }
  | _ => none }
def InventoryFullWrongFalsely : Prop := inventoryFullRow.holds Tryd.pinned (OpenSpec.ofChange inventoryFullWrong)

/-- 'ablautlaw03.InventoryBack': WHATEVER THE INPUT: true; the input reads as it did. -/
def inventoryBackSpec : ChangeSpec := { name := "inventoryBack", fn := fun _ => fun
  | [d1, d2] => { results := [.lit (.bool true)], args := [d1, d2] }
  | _ => none }
def inventoryBackRow : OpenClaim := { program := "ytnpknmmlpjnpeaadoor", sum := "dd4628f9c96ad29de6710c608274f9513a61cb6c20fc7ffbe02a622f27c29000", func := "ablaut/ablautlaw03.InventoryBack", spec := "inventoryBack", inPlace := ["internal/abi.NoEscape", "internal/bytealg.MakeNoZero", "internal/bytealg.IndexByteString", "internal/bytealg.IndexString"], unfollowed := true, recurses := true, named := ["unicode/utf8.first", "unicode/utf8.acceptRanges", "internal/bytealg.MaxLen"], plainKeys := false, apart := false, laid := [("unicode/utf8.acceptRanges", laid_unicode_utf8_acceptRanges), ("unicode/utf8.first", laid_unicode_utf8_first)] }
def InventoryBackSaid : Prop := inventoryBackRow.holds Tryd.pinned (OpenSpec.ofChange inventoryBackSpec)

/-- ITS FALSE NEIGHBOUR: 'it returns false'. Refute it at one input. -/
def inventoryBackWrong : ChangeSpec := { name := "inventoryBack", fn := fun _ => fun
  | [d1, d2] => { results := [.lit (.bool false)], args := [d1, d2] }
  | _ => none }
def InventoryBackWrongFalsely : Prop := inventoryBackRow.holds Tryd.pinned (OpenSpec.ofChange inventoryBackWrong)

/-- 'ablautlaw03.InventoryLongest': WHATEVER THE INPUT: true; the input reads as it did. -/
def inventoryLongestSpec : ChangeSpec := { name := "inventoryLongest", fn := fun _ => fun
  | [d1, d2] => { results := [.lit (.bool true)], args := [d1, d2] }
  | _ => none }
def inventoryLongestRow : OpenClaim := { program := "ytnpknmmlpjnpeaadoor", sum := "dd4628f9c96ad29de6710c608274f9513a61cb6c20fc7ffbe02a622f27c29000", func := "ablaut/ablautlaw03.InventoryLongest", spec := "inventoryLongest", inPlace := ["internal/bytealg.IndexByteString", "internal/bytealg.IndexString", "internal/abi.NoEscape", "internal/bytealg.MakeNoZero"], unfollowed := true, recurses := true, named := ["unicode/utf8.first", "unicode/utf8.acceptRanges", "internal/bytealg.MaxLen"], plainKeys := false, apart := false, laid := [("unicode/utf8.acceptRanges", laid_unicode_utf8_acceptRanges), ("unicode/utf8.first", laid_unicode_utf8_first)] }
def InventoryLongestSaid : Prop := inventoryLongestRow.holds Tryd.pinned (OpenSpec.ofChange inventoryLongestSpec)

/-- ITS FALSE NEIGHBOUR: 'it returns false'. Refute it at one input. -/
def inventoryLongestWrong : ChangeSpec := { name := "inventoryLongest", fn := fun _ => fun
  | [d1, d2] => { results := [.lit (.bool false)], args := [d1, d2] }
  | _ => none }
def InventoryLongestWrongFalsely : Prop := inventoryLongestRow.holds Tryd.pinned (OpenSpec.ofChange inventoryLongestWrong)

/-- 'ablautlaw03.InventoryNews': WHATEVER THE INPUT: true; the input reads as it did. -/
def inventoryNewsSpec : ChangeSpec := { name := "inventoryNews", fn := fun _ => fun
  | [d1, d2] => { results := [.lit (.bool true)], args := [d1, d2] }
  | _ => none }
def inventoryNewsRow : OpenClaim := { program := "ytnpknmmlpjnpeaadoor", sum := "dd4628f9c96ad29de6710c608274f9513a61cb6c20fc7ffbe02a622f27c29000", func := "ablaut/ablautlaw03.InventoryNews", spec := "inventoryNews", inPlace := ["internal/bytealg.IndexByteString", "internal/bytealg.IndexString", "internal/abi.NoEscape", "internal/bytealg.MakeNoZero"], unfollowed := true, recurses := true, named := ["unicode/utf8.first", "unicode/utf8.acceptRanges", "internal/bytealg.MaxLen"], plainKeys := false, apart := false, laid := [("unicode/utf8.acceptRanges", laid_unicode_utf8_acceptRanges), ("unicode/utf8.first", laid_unicode_utf8_first)] }
def InventoryNewsSaid : Prop := inventoryNewsRow.holds Tryd.pinned (OpenSpec.ofChange inventoryNewsSpec)

/-- ITS FALSE NEIGHBOUR: 'it returns false'. Refute it at one input. -/
def inventoryNewsWrong : ChangeSpec := { name := "inventoryNews", fn := fun _ => fun
  | [d1, d2] => { results := [.lit (.bool false)], args := [d1, d2] }
  | _ => none }
def InventoryNewsWrongFalsely : Prop := inventoryNewsRow.holds Tryd.pinned (OpenSpec.ofChange inventoryNewsWrong)

/-- 'ablautlaw03.InventoryCopies': WHATEVER THE INPUT: true; the input reads as it did. -/
def inventoryCopiesSpec : ChangeSpec := { name := "inventoryCopies", fn := fun _ => fun
  | [d1, d2, d3] => { results := [.lit (.bool true)], args := [d1, d2, d3] }
  | _ => none }
def inventoryCopiesRow : OpenClaim := { program := "ytnpknmmlpjnpeaadoor", sum := "dd4628f9c96ad29de6710c608274f9513a61cb6c20fc7ffbe02a622f27c29000", func := "ablaut/ablautlaw03.InventoryCopies", spec := "inventoryCopies", inPlace := ["internal/bytealg.IndexByteString", "internal/bytealg.IndexString", "internal/abi.NoEscape", "internal/bytealg.MakeNoZero"], unfollowed := true, recurses := true, named := ["unicode/utf8.first", "unicode/utf8.acceptRanges", "internal/bytealg.MaxLen"], plainKeys := false, apart := false, laid := [("unicode/utf8.acceptRanges", laid_unicode_utf8_acceptRanges), ("unicode/utf8.first", laid_unicode_utf8_first)] }
def InventoryCopiesSaid : Prop := inventoryCopiesRow.holds Tryd.pinned (OpenSpec.ofChange inventoryCopiesSpec)

/-- ITS FALSE NEIGHBOUR: 'it returns false'. Refute it at one input. -/
def inventoryCopiesWrong : ChangeSpec := { name := "inventoryCopies", fn := fun _ => fun
  | [d1, d2, d3] => { results := [.lit (.bool false)], args := [d1, d2, d3] }
  | _ => none }
def InventoryCopiesWrongFalsely : Prop := inventoryCopiesRow.holds Tryd.pinned (OpenSpec.ofChange inventoryCopiesWrong)

/-- 'ablautlaw03.InventoryPlays': WHATEVER THE INPUT: true; the input reads as it did. -/
def inventoryPlaysSpec : ChangeSpec := { name := "inventoryPlays", fn := fun _ => fun
  | [d1, d2, d3] => { results := [.lit (.bool true)], args := [d1, d2, d3] }
  | _ => none }
def inventoryPlaysRow : OpenClaim := { program := "ytnpknmmlpjnpeaadoor", sum := "dd4628f9c96ad29de6710c608274f9513a61cb6c20fc7ffbe02a622f27c29000", func := "ablaut/ablautlaw03.InventoryPlays", spec := "inventoryPlays", inPlace := ["internal/bytealg.IndexByteString", "internal/bytealg.IndexString", "internal/abi.NoEscape", "internal/bytealg.MakeNoZero"], unfollowed := true, recurses := true, named := ["unicode/utf8.first", "unicode/utf8.acceptRanges", "internal/bytealg.MaxLen"], plainKeys := false, apart := false, laid := [("unicode/utf8.acceptRanges", laid_unicode_utf8_acceptRanges), ("unicode/utf8.first", laid_unicode_utf8_first)] }
def InventoryPlaysSaid : Prop := inventoryPlaysRow.holds Tryd.pinned (OpenSpec.ofChange inventoryPlaysSpec)

/-- ITS FALSE NEIGHBOUR: 'it returns false'. Refute it at one input. -/
def inventoryPlaysWrong : ChangeSpec := { name := "inventoryPlays", fn := fun _ => fun
  | [d1, d2, d3] => { results := [.lit (.bool false)], args := [d1, d2, d3] }
  | _ => none }
def InventoryPlaysWrongFalsely : Prop := inventoryPlaysRow.holds Tryd.pinned (OpenSpec.ofChange inventoryPlaysWrong)

/-- 'ablautlaw03.InventoryFinds': WHATEVER THE INPUT: true; the input reads as it did. -/
def inventoryFindsSpec : ChangeSpec := { name := "inventoryFinds", fn := fun _ => fun
  | [d1, d2, d3] => { results := [.lit (.bool true)], args := [d1, d2, d3] }
  | _ => none }
def inventoryFindsRow : OpenClaim := { program := "ytnpknmmlpjnpeaadoor", sum := "dd4628f9c96ad29de6710c608274f9513a61cb6c20fc7ffbe02a622f27c29000", func := "ablaut/ablautlaw03.InventoryFinds", spec := "inventoryFinds", inPlace := ["internal/bytealg.IndexByteString", "internal/bytealg.IndexString", "internal/abi.NoEscape", "internal/bytealg.MakeNoZero"], unfollowed := true, recurses := true, named := ["unicode/utf8.first", "unicode/utf8.acceptRanges", "internal/bytealg.MaxLen"], plainKeys := false, apart := false, laid := [("unicode/utf8.acceptRanges", laid_unicode_utf8_acceptRanges), ("unicode/utf8.first", laid_unicode_utf8_first)] }
def InventoryFindsSaid : Prop := inventoryFindsRow.holds Tryd.pinned (OpenSpec.ofChange inventoryFindsSpec)

/-- ITS FALSE NEIGHBOUR: 'it returns false'. Refute it at one input. -/
def inventoryFindsWrong : ChangeSpec := { name := "inventoryFinds", fn := fun _ => fun
  | [d1, d2, d3] => { results := [.lit (.bool false)], args := [d1, d2, d3] }
  | _ => none }
def InventoryFindsWrongFalsely : Prop := inventoryFindsRow.holds Tryd.pinned (OpenSpec.ofChange inventoryFindsWrong)

/-- 'ablautlaw03.InventoryNil': WHATEVER THE INPUT: true; the input reads as it did. -/
def inventoryNilSpec : ChangeSpec := { name := "inventoryNil", fn := fun _ => fun
  | [d1, d2] => { results := [.lit (.bool true)], args := [d1, d2] }
  | _ => none }
def inventoryNilRow : OpenClaim := { program := "ytnpknmmlpjnpeaadoor", sum := "dd4628f9c96ad29de6710c608274f9513a61cb6c20fc7ffbe02a622f27c29000", func := "ablaut/ablautlaw03.InventoryNil", spec := "inventoryNil", inPlace := ["internal/bytealg.IndexByteString", "internal/bytealg.IndexString", "internal/abi.NoEscape", "internal/bytealg.MakeNoZero"], unfollowed := true, recurses := true, named := ["unicode/utf8.first", "unicode/utf8.acceptRanges", "internal/bytealg.MaxLen"], plainKeys := false, apart := false, laid := [("unicode/utf8.acceptRanges", laid_unicode_utf8_acceptRanges), ("unicode/utf8.first", laid_unicode_utf8_first)] }
def InventoryNilSaid : Prop := inventoryNilRow.holds Tryd.pinned (OpenSpec.ofChange inventoryNilSpec)

/-- ITS FALSE NEIGHBOUR: 'it returns false'. Refute it at one input. -/
def inventoryNilWrong : ChangeSpec := { name := "inventoryNil", fn := fun _ => fun
  | [d1, d2] => { results := [.lit (.bool false)], args := [d1, d2] }
  | _ => none }
def InventoryNilWrongFalsely : Prop := inventoryNilRow.holds Tryd.pinned (OpenSpec.ofChange inventoryNilWrong)

/-- 'ablautlaw03.InventoryAny': WHATEVER THE INPUT: true; the input reads as it did. -/
def inventoryAnySpec : ChangeSpec := { name := "inventoryAny", fn := fun _ => fun
  | [d1, d2, d3] => { results := [.lit (.bool true)], args := [d1, d2, d3] }
  | _ => none }
def inventoryAnyRow : OpenClaim := { program := "ytnpknmmlpjnpeaadoor", sum := "dd4628f9c96ad29de6710c608274f9513a61cb6c20fc7ffbe02a622f27c29000", func := "ablaut/ablautlaw03.InventoryAny", spec := "inventoryAny", inPlace := ["internal/abi.NoEscape", "internal/bytealg.MakeNoZero", "internal/bytealg.IndexByteString", "internal/bytealg.IndexString", "internal/bytealg.CountString"], unfollowed := true, recurses := true, named := ["unicode/utf8.first", "unicode/utf8.acceptRanges", "internal/bytealg.MaxLen"], plainKeys := false, apart := false, laid := [("unicode/utf8.acceptRanges", laid_unicode_utf8_acceptRanges), ("unicode/utf8.first", laid_unicode_utf8_first)] }
def InventoryAnySaid : Prop := inventoryAnyRow.holds Tryd.pinned (OpenSpec.ofChange inventoryAnySpec)

/-- ITS FALSE NEIGHBOUR: 'it returns false'. Refute it at one input. -/
def inventoryAnyWrong : ChangeSpec := { name := "inventoryAny", fn := fun _ => fun
  | [d1, d2, d3] => { results := [.lit (.bool false)], args := [d1, d2, d3] }
  | _ => none }
def InventoryAnyWrongFalsely : Prop := inventoryAnyRow.holds Tryd.pinned (OpenSpec.ofChange inventoryAnyWrong)

/- THE SECOND FORM. 'bulk': how many values and letters a reading holds, each counted each time it is reached (what is shared counts as often as it is met; a slice's spare places count too). A statement '..UptoSaid' is the law's where the arguments, and the package variables that the reading takes, are together of bulk at most 1048576: NARROWER than '..Said'. Prove '..Said' where nothing that the law and all that it calls make is longer than what came in: it says more and counts as full. Else prove '..UptoSaid'. A law counts once. -/
mutual
def uptoBulk {H : Type} : DataW H → Nat
  | .lit (.string bytes) => bytes.length + 1
  | .lit _ => 1
  | .nil => 1
  | .ptr d => uptoBulk d + 1
  | .slice elems spare => uptoBulkAll elems + uptoBulkAll spare + 1
  | .agg parts => uptoBulkAll parts + 1
  | .iface _ d => uptoBulk d + 1
  | .map entries => uptoBulkEntries entries + 1
  | .held _ => 1
def uptoBulkAll {H : Type} : List (DataW H) → Nat
  | [] => 0
  | d :: r => uptoBulk d + uptoBulkAll r
def uptoBulkEntries {H : Type} : List (Lit × DataW H) → Nat
  | [] => 0
  | x :: r => uptoBulkEntry x + uptoBulkEntries r
def uptoBulkEntry {H : Type} : Lit × DataW H → Nat
  | (.string bytes, d) => bytes.length + uptoBulk d + 1
  | (_, d) => uptoBulk d + 1
 end
def uptoSmall : (H : Type) → List (DataW H) → Bool := fun _ ds => decide (uptoBulkAll ds ≤ 1048576)
def OpenSpec.upto (s : _root_.Go.ChangeSpec) : _root_.Go.OpenSpec := { _root_.Go.OpenSpec.ofChange s with cond := some uptoSmall }

/-- 'ablautlaw03.InventoryBundles', WHERE WHAT IT READS IS OF BULK AT MOST 1048576: true; the input reads as it did. -/
def inventoryBundlesUptoRow : OpenClaim := { program := "ytnpknmmlpjnpeaadoor", sum := "dd4628f9c96ad29de6710c608274f9513a61cb6c20fc7ffbe02a622f27c29000", func := "ablaut/ablautlaw03.InventoryBundles", spec := "inventoryBundles", inPlace := ["internal/bytealg.IndexByteString", "internal/bytealg.IndexString", "internal/abi.NoEscape", "internal/bytealg.MakeNoZero"], unfollowed := true, recurses := true, named := ["unicode/utf8.first", "unicode/utf8.acceptRanges", "internal/bytealg.MaxLen"], plainKeys := false, apart := false, laid := [("unicode/utf8.acceptRanges", laid_unicode_utf8_acceptRanges), ("unicode/utf8.first", laid_unicode_utf8_first)], narrowed := true }
def InventoryBundlesUptoSaid : Prop := inventoryBundlesUptoRow.holds Tryd.pinned (OpenSpec.upto inventoryBundlesSpec)

/-- 'ablautlaw03.InventoryTexts', WHERE WHAT IT READS IS OF BULK AT MOST 1048576: true; the input reads as it did. -/
def inventoryTextsUptoRow : OpenClaim := { program := "ytnpknmmlpjnpeaadoor", sum := "dd4628f9c96ad29de6710c608274f9513a61cb6c20fc7ffbe02a622f27c29000", func := "ablaut/ablautlaw03.InventoryTexts", spec := "inventoryTexts", inPlace := ["internal/bytealg.IndexByteString", "internal/bytealg.IndexString", "internal/abi.NoEscape", "internal/bytealg.MakeNoZero"], unfollowed := true, recurses := true, named := ["unicode/utf8.first", "unicode/utf8.acceptRanges", "internal/bytealg.MaxLen"], plainKeys := false, apart := false, laid := [("unicode/utf8.acceptRanges", laid_unicode_utf8_acceptRanges), ("unicode/utf8.first", laid_unicode_utf8_first)], narrowed := true }
def InventoryTextsUptoSaid : Prop := inventoryTextsUptoRow.holds Tryd.pinned (OpenSpec.upto inventoryTextsSpec)

/-- 'ablautlaw03.InventoryFull', WHERE WHAT IT READS IS OF BULK AT MOST 1048576: true; the input reads as it did. -/
def inventoryFullUptoRow : OpenClaim := { program := "ytnpknmmlpjnpeaadoor", sum := "dd4628f9c96ad29de6710c608274f9513a61cb6c20fc7ffbe02a622f27c29000", func := "ablaut/ablautlaw03.InventoryFull", spec := "inventoryFull", inPlace := ["internal/bytealg.IndexByteString", "internal/bytealg.IndexString", "internal/abi.NoEscape", "internal/bytealg.MakeNoZero"], unfollowed := true, recurses := true, named := ["unicode/utf8.first", "unicode/utf8.acceptRanges", "internal/bytealg.MaxLen"], plainKeys := false, apart := false, laid := [("unicode/utf8.acceptRanges", laid_unicode_utf8_acceptRanges), ("unicode/utf8.first", laid_unicode_utf8_first)], narrowed := true }
def InventoryFullUptoSaid : Prop := inventoryFullUptoRow.holds Tryd.pinned (OpenSpec.upto inventoryFullSpec)

/-- 'ablautlaw03.InventoryBack', WHERE WHAT IT READS IS OF BULK AT MOST 1048576: true; the input reads as it did. -/
def inventoryBackUptoRow : OpenClaim := { program := "ytnpknmmlpjnpeaadoor", sum := "dd4628f9c96ad29de6710c608274f9513a61cb6c20fc7ffbe02a622f27c29000", func := "ablaut/ablautlaw03.InventoryBack", spec := "inventoryBack", inPlace := ["internal/abi.NoEscape", "internal/bytealg.MakeNoZero", "internal/bytealg.IndexByteString", "internal/bytealg.IndexString"], unfollowed := true, recurses := true, named := ["unicode/utf8.first", "unicode/utf8.acceptRanges", "internal/bytealg.MaxLen"], plainKeys := false, apart := false, laid := [("unicode/utf8.acceptRanges", laid_unicode_utf8_acceptRanges), ("unicode/utf8.first", laid_unicode_utf8_first)], narrowed := true }
def InventoryBackUptoSaid : Prop := inventoryBackUptoRow.holds Tryd.pinned (OpenSpec.upto inventoryBackSpec)

/-- 'ablautlaw03.InventoryLongest', WHERE WHAT IT READS IS OF BULK AT MOST 1048576: true; the input reads as it did. -/
def inventoryLongestUptoRow : OpenClaim := { program := "ytnpknmmlpjnpeaadoor", sum := "dd4628f9c96ad29de6710c608274f9513a61cb6c20fc7ffbe02a622f27c29000", func := "ablaut/ablautlaw03.InventoryLongest", spec := "inventoryLongest", inPlace := ["internal/bytealg.IndexByteString", "internal/bytealg.IndexString", "internal/abi.NoEscape", "internal/bytealg.MakeNoZero"], unfollowed := true, recurses := true, named := ["unicode/utf8.first", "unicode/utf8.acceptRanges", "internal/bytealg.MaxLen"], plainKeys := false, apart := false, laid := [("unicode/utf8.acceptRanges", laid_unicode_utf8_acceptRanges), ("unicode/utf8.first", laid_unicode_utf8_first)], narrowed := true }
def InventoryLongestUptoSaid : Prop := inventoryLongestUptoRow.holds Tryd.pinned (OpenSpec.upto inventoryLongestSpec)

/-- 'ablautlaw03.InventoryNews', WHERE WHAT IT READS IS OF BULK AT MOST 1048576: true; the input reads as it did. -/
def inventoryNewsUptoRow : OpenClaim := { program := "ytnpknmmlpjnpeaadoor", sum := "dd4628f9c96ad29de6710c608274f9513a61cb6c20fc7ffbe02a622f27c29000", func := "ablaut/ablautlaw03.InventoryNews", spec := "inventoryNews", inPlace := ["internal/bytealg.IndexByteString", "internal/bytealg.IndexString", "internal/abi.NoEscape", "internal/bytealg.MakeNoZero"], unfollowed := true, recurses := true, named := ["unicode/utf8.first", "unicode/utf8.acceptRanges", "internal/bytealg.MaxLen"], plainKeys := false, apart := false, laid := [("unicode/utf8.acceptRanges", laid_unicode_utf8_acceptRanges), ("unicode/utf8.first", laid_unicode_utf8_first)], narrowed := true }
def InventoryNewsUptoSaid : Prop := inventoryNewsUptoRow.holds Tryd.pinned (OpenSpec.upto inventoryNewsSpec)

/-- 'ablautlaw03.InventoryCopies', WHERE WHAT IT READS IS OF BULK AT MOST 1048576: true; the input reads as it did. -/
def inventoryCopiesUptoRow : OpenClaim := { program := "ytnpknmmlpjnpeaadoor", sum := "dd4628f9c96ad29de6710c608274f9513a61cb6c20fc7ffbe02a622f27c29000", func := "ablaut/ablautlaw03.InventoryCopies", spec := "inventoryCopies", inPlace := ["internal/bytealg.IndexByteString", "internal/bytealg.IndexString", "internal/abi.NoEscape", "internal/bytealg.MakeNoZero"], unfollowed := true, recurses := true, named := ["unicode/utf8.first", "unicode/utf8.acceptRanges", "internal/bytealg.MaxLen"], plainKeys := false, apart := false, laid := [("unicode/utf8.acceptRanges", laid_unicode_utf8_acceptRanges), ("unicode/utf8.first", laid_unicode_utf8_first)], narrowed := true }
def InventoryCopiesUptoSaid : Prop := inventoryCopiesUptoRow.holds Tryd.pinned (OpenSpec.upto inventoryCopiesSpec)

/-- 'ablautlaw03.InventoryPlays', WHERE WHAT IT READS IS OF BULK AT MOST 1048576: true; the input reads as it did. -/
def inventoryPlaysUptoRow : OpenClaim := { program := "ytnpknmmlpjnpeaadoor", sum := "dd4628f9c96ad29de6710c608274f9513a61cb6c20fc7ffbe02a622f27c29000", func := "ablaut/ablautlaw03.InventoryPlays", spec := "inventoryPlays", inPlace := ["internal/bytealg.IndexByteString", "internal/bytealg.IndexString", "internal/abi.NoEscape", "internal/bytealg.MakeNoZero"], unfollowed := true, recurses := true, named := ["unicode/utf8.first", "unicode/utf8.acceptRanges", "internal/bytealg.MaxLen"], plainKeys := false, apart := false, laid := [("unicode/utf8.acceptRanges", laid_unicode_utf8_acceptRanges), ("unicode/utf8.first", laid_unicode_utf8_first)], narrowed := true }
def InventoryPlaysUptoSaid : Prop := inventoryPlaysUptoRow.holds Tryd.pinned (OpenSpec.upto inventoryPlaysSpec)

/-- 'ablautlaw03.InventoryFinds', WHERE WHAT IT READS IS OF BULK AT MOST 1048576: true; the input reads as it did. -/
def inventoryFindsUptoRow : OpenClaim := { program := "ytnpknmmlpjnpeaadoor", sum := "dd4628f9c96ad29de6710c608274f9513a61cb6c20fc7ffbe02a622f27c29000", func := "ablaut/ablautlaw03.InventoryFinds", spec := "inventoryFinds", inPlace := ["internal/bytealg.IndexByteString", "internal/bytealg.IndexString", "internal/abi.NoEscape", "internal/bytealg.MakeNoZero"], unfollowed := true, recurses := true, named := ["unicode/utf8.first", "unicode/utf8.acceptRanges", "internal/bytealg.MaxLen"], plainKeys := false, apart := false, laid := [("unicode/utf8.acceptRanges", laid_unicode_utf8_acceptRanges), ("unicode/utf8.first", laid_unicode_utf8_first)], narrowed := true }
def InventoryFindsUptoSaid : Prop := inventoryFindsUptoRow.holds Tryd.pinned (OpenSpec.upto inventoryFindsSpec)

/-- 'ablautlaw03.InventoryNil', WHERE WHAT IT READS IS OF BULK AT MOST 1048576: true; the input reads as it did. -/
def inventoryNilUptoRow : OpenClaim := { program := "ytnpknmmlpjnpeaadoor", sum := "dd4628f9c96ad29de6710c608274f9513a61cb6c20fc7ffbe02a622f27c29000", func := "ablaut/ablautlaw03.InventoryNil", spec := "inventoryNil", inPlace := ["internal/bytealg.IndexByteString", "internal/bytealg.IndexString", "internal/abi.NoEscape", "internal/bytealg.MakeNoZero"], unfollowed := true, recurses := true, named := ["unicode/utf8.first", "unicode/utf8.acceptRanges", "internal/bytealg.MaxLen"], plainKeys := false, apart := false, laid := [("unicode/utf8.acceptRanges", laid_unicode_utf8_acceptRanges), ("unicode/utf8.first", laid_unicode_utf8_first)], narrowed := true }
def InventoryNilUptoSaid : Prop := inventoryNilUptoRow.holds Tryd.pinned (OpenSpec.upto inventoryNilSpec)

/-- 'ablautlaw03.InventoryAny', WHERE WHAT IT READS IS OF BULK AT MOST 1048576: true; the input reads as it did. -/
def inventoryAnyUptoRow : OpenClaim := { program := "ytnpknmmlpjnpeaadoor", sum := "dd4628f9c96ad29de6710c608274f9513a61cb6c20fc7ffbe02a622f27c29000", func := "ablaut/ablautlaw03.InventoryAny", spec := "inventoryAny", inPlace := ["internal/abi.NoEscape", "internal/bytealg.MakeNoZero", "internal/bytealg.IndexByteString", "internal/bytealg.IndexString", "internal/bytealg.CountString"], unfollowed := true, recurses := true, named := ["unicode/utf8.first", "unicode/utf8.acceptRanges", "internal/bytealg.MaxLen"], plainKeys := false, apart := false, laid := [("unicode/utf8.acceptRanges", laid_unicode_utf8_acceptRanges), ("unicode/utf8.first", laid_unicode_utf8_first)], narrowed := true }
def InventoryAnyUptoSaid : Prop := inventoryAnyUptoRow.holds Tryd.pinned (OpenSpec.upto inventoryAnySpec)

end Rows
end Go.Proofs.YtnpknmmlpjnpeaaDoor
