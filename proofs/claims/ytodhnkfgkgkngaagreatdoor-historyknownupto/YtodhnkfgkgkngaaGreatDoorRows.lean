/-
  NARROWER THAN 'FOR EVERY INPUT', by the rows' own cells (each row's printed sentence says how): HistoryForms: loops, laid · HistorySame: loops, laid · HistorySwaps: loops, laid · HistorySteps: loops, laid · HistoryTwice: loops, laid · HistoryOutcomes: loops, laid · HistoryKnown: laid · HistoryChecks: loops, laid · HistoryWheres: loops, laid.
  DERIVED. THE GIVEN ROWS OF THIS SEAT. 9 by the template 'for every input the law returns true; each argument reads behind the call as it read before'; 0 by the template 'total and deterministic' (their statements: YtodhnkfgkgkngaaGreatDoorTotals.lean).
  GIVEN WITH THE SEED: the statements are not yours to turn. If you find one false, say at which input.
  Laid BY PROGRAM, IN A SANDBOX (cutbox-rows.mjs): the forced cells as the released guide's own fill.sh prints them over the translation 9e0a8f50b23174d9… (all of the seat's roots in one cut). By AI agents, Wed Nov 11 2026. No macro, syntax, notation, axiom, sorry.
-/
import Derived.Test.YtodhnkfgkgkngaaGreatDoorChecked
import GoSem.PinnedTables
import GoSem.Claim
import GoSem.ClaimJoined
import GoSem.ClaimMapViews
import Derived.JoinedTies
import Derived.KernelRfl
namespace Go.Proofs.YtodhnkfgkgkngaaGreatDoor
/- THE CELL 'sum', in the pinned program and in every row, IS THE sha256 OF THE DUMP (.gsa) THAT YtodhnkfgkgkngaaGreatDoorProg.lean LOADS. Nothing in Lean hashes anything: it is a label: what it is worth is what the hold of that sum in a sandbox is worth. -/
noncomputable def Tryz.pinned : Pinned := { name := "ytodhnkfgkgkngaagreatdoor", sum := "9e0a8f50b23174d980f3492d535f866cd1d3cd48597547993a92a805c7c32723", checked := Tryz.checked }
namespace Rows
def none {H : Type} : Left H := { results := [], args := [] }

/- WHAT THE LISTED PACKAGE-LEVEL VARIABLES READ AS WHEN THE CALL BEGINS. Each datum BY PROGRAM (the guide's laid-datum.mjs) off the statement by which the dump's own 'gosem.cut.vars' lays the variable. In a bare row this is a premise. The card (YtodhnkfgkgkngaaGreatDoorCards.lean) ties it to the program's text. -/
def laid_math_bits_deBruijn64tab {H : Type} : DataW H := .agg [.lit (.int .u8 0), .lit (.int .u8 1), .lit (.int .u8 56), .lit (.int .u8 2), .lit (.int .u8 57), .lit (.int .u8 49), .lit (.int .u8 28), .lit (.int .u8 3), .lit (.int .u8 61), .lit (.int .u8 58), .lit (.int .u8 42), .lit (.int .u8 50), .lit (.int .u8 38), .lit (.int .u8 29), .lit (.int .u8 17), .lit (.int .u8 4), .lit (.int .u8 62), .lit (.int .u8 47), .lit (.int .u8 59), .lit (.int .u8 36), .lit (.int .u8 45), .lit (.int .u8 43), .lit (.int .u8 51), .lit (.int .u8 22), .lit (.int .u8 53), .lit (.int .u8 39), .lit (.int .u8 33), .lit (.int .u8 30), .lit (.int .u8 24), .lit (.int .u8 18), .lit (.int .u8 12), .lit (.int .u8 5), .lit (.int .u8 63), .lit (.int .u8 55), .lit (.int .u8 48), .lit (.int .u8 27), .lit (.int .u8 60), .lit (.int .u8 41), .lit (.int .u8 37), .lit (.int .u8 16), .lit (.int .u8 46), .lit (.int .u8 35), .lit (.int .u8 44), .lit (.int .u8 21), .lit (.int .u8 52), .lit (.int .u8 32), .lit (.int .u8 23), .lit (.int .u8 11), .lit (.int .u8 54), .lit (.int .u8 26), .lit (.int .u8 40), .lit (.int .u8 15), .lit (.int .u8 34), .lit (.int .u8 20), .lit (.int .u8 31), .lit (.int .u8 10), .lit (.int .u8 25), .lit (.int .u8 14), .lit (.int .u8 19), .lit (.int .u8 9), .lit (.int .u8 13), .lit (.int .u8 8), .lit (.int .u8 7), .lit (.int .u8 6)]
def laid_unicode_utf8_acceptRanges {H : Type} : DataW H := .agg [.agg [.lit (.int .u8 128), .lit (.int .u8 191)], .agg [.lit (.int .u8 160), .lit (.int .u8 191)], .agg [.lit (.int .u8 128), .lit (.int .u8 159)], .agg [.lit (.int .u8 144), .lit (.int .u8 191)], .agg [.lit (.int .u8 128), .lit (.int .u8 143)], .agg [.lit (.int .u8 0), .lit (.int .u8 0)], .agg [.lit (.int .u8 0), .lit (.int .u8 0)], .agg [.lit (.int .u8 0), .lit (.int .u8 0)], .agg [.lit (.int .u8 0), .lit (.int .u8 0)], .agg [.lit (.int .u8 0), .lit (.int .u8 0)], .agg [.lit (.int .u8 0), .lit (.int .u8 0)], .agg [.lit (.int .u8 0), .lit (.int .u8 0)], .agg [.lit (.int .u8 0), .lit (.int .u8 0)], .agg [.lit (.int .u8 0), .lit (.int .u8 0)], .agg [.lit (.int .u8 0), .lit (.int .u8 0)], .agg [.lit (.int .u8 0), .lit (.int .u8 0)]]
/-- One of Go's own tables, pinned by name: the form's constant. -/
def laid_unicode_utf8_first : DataW Unit := Go.Pinned.utf8First

/-- 'ablautlaw25.HistoryForms': WHATEVER THE INPUT: true; the input reads as it did. -/
def historyFormsSpec : ChangeSpec := { name := "historyForms", fn := fun _ => fun
  | [d1, d2, d3] => { results := [.lit (.bool true)], args := [d1, d2, d3] }
  | _ => none }
def historyFormsRow : OpenClaim := { program := "ytodhnkfgkgkngaagreatdoor", sum := "9e0a8f50b23174d980f3492d535f866cd1d3cd48597547993a92a805c7c32723", func := "ablaut/ablautlaw25.HistoryForms", spec := "historyForms", inPlace := ["internal/bytealg.IndexByteString", "internal/bytealg.IndexString"], unfollowed := true, recurses := true, named := ["unicode/utf8.first", "unicode/utf8.acceptRanges", "math/bits.deBruijn64tab", "internal/bytealg.MaxLen"], loops := true, apart := false, laid := [("math/bits.deBruijn64tab", laid_math_bits_deBruijn64tab), ("unicode/utf8.acceptRanges", laid_unicode_utf8_acceptRanges), ("unicode/utf8.first", laid_unicode_utf8_first)] }
def HistoryFormsSaid : Prop := historyFormsRow.holds Tryz.pinned (OpenSpec.ofChange historyFormsSpec)

/-- ITS FALSE NEIGHBOUR: 'it returns false'. Refute it at one input. -/
def historyFormsWrong : ChangeSpec := { name := "historyForms", fn := fun _ => fun
  | [d1, d2, d3] => { results := [.lit (.bool false)], args := [d1, d2, d3] }
  | _ => none }
def HistoryFormsWrongFalsely : Prop := historyFormsRow.holds Tryz.pinned (OpenSpec.ofChange historyFormsWrong)

/-- 'ablautlaw25.HistorySame': WHATEVER THE INPUT: true; the input reads as it did. -/
def historySameSpec : ChangeSpec := { name := "historySame", fn := fun _ => fun
  | [d1, d2, d3] => { results := [.lit (.bool true)], args := [d1, d2, d3] }
  | _ => none }
def historySameRow : OpenClaim := { program := "ytodhnkfgkgkngaagreatdoor", sum := "9e0a8f50b23174d980f3492d535f866cd1d3cd48597547993a92a805c7c32723", func := "ablaut/ablautlaw25.HistorySame", spec := "historySame", inPlace := ["internal/bytealg.IndexByteString", "internal/bytealg.IndexString"], unfollowed := true, recurses := true, named := ["unicode/utf8.first", "unicode/utf8.acceptRanges", "math/bits.deBruijn64tab", "internal/bytealg.MaxLen"], loops := true, apart := false, laid := [("math/bits.deBruijn64tab", laid_math_bits_deBruijn64tab), ("unicode/utf8.acceptRanges", laid_unicode_utf8_acceptRanges), ("unicode/utf8.first", laid_unicode_utf8_first)] }
def HistorySameSaid : Prop := historySameRow.holds Tryz.pinned (OpenSpec.ofChange historySameSpec)

/-- ITS FALSE NEIGHBOUR: 'it returns false'. Refute it at one input. -/
def historySameWrong : ChangeSpec := { name := "historySame", fn := fun _ => fun
  | [d1, d2, d3] => { results := [.lit (.bool false)], args := [d1, d2, d3] }
  | _ => none }
def HistorySameWrongFalsely : Prop := historySameRow.holds Tryz.pinned (OpenSpec.ofChange historySameWrong)

/-- 'ablautlaw25.HistorySwaps': WHATEVER THE INPUT: true; the input reads as it did. -/
def historySwapsSpec : ChangeSpec := { name := "historySwaps", fn := fun _ => fun
  | [d1, d2, d3] => { results := [.lit (.bool true)], args := [d1, d2, d3] }
  | _ => none }
def historySwapsRow : OpenClaim := { program := "ytodhnkfgkgkngaagreatdoor", sum := "9e0a8f50b23174d980f3492d535f866cd1d3cd48597547993a92a805c7c32723", func := "ablaut/ablautlaw25.HistorySwaps", spec := "historySwaps", inPlace := ["internal/bytealg.IndexByteString", "internal/bytealg.IndexString"], unfollowed := true, recurses := true, named := ["unicode/utf8.first", "unicode/utf8.acceptRanges", "math/bits.deBruijn64tab", "internal/bytealg.MaxLen"], loops := true, apart := false, laid := [("math/bits.deBruijn64tab", laid_math_bits_deBruijn64tab), ("unicode/utf8.acceptRanges", laid_unicode_utf8_acceptRanges), ("unicode/utf8.first", laid_unicode_utf8_first)] }
def HistorySwapsSaid : Prop := historySwapsRow.holds Tryz.pinned (OpenSpec.ofChange historySwapsSpec)

/-- ITS FALSE NEIGHBOUR: 'it returns false'. Refute it at one input. -/
def historySwapsWrong : ChangeSpec := { name := "historySwaps", fn := fun _ => fun
  | [d1, d2, d3] => { results := [.lit (.bool false)], args := [d1, d2, d3] }
  | _ => none }
def HistorySwapsWrongFalsely : Prop := historySwapsRow.holds Tryz.pinned (OpenSpec.ofChange historySwapsWrong)

/-- 'ablautlaw25.HistorySteps': WHATEVER THE INPUT: true; the input reads as it did. -/
def historyStepsSpec : ChangeSpec := { name := "historySteps", fn := fun _ => fun
  | [d1, d2] => { results := [.lit (.bool true)], args := [d1, d2] }
  | _ => none }
def historyStepsRow : OpenClaim := { program := "ytodhnkfgkgkngaagreatdoor", sum := "9e0a8f50b23174d980f3492d535f866cd1d3cd48597547993a92a805c7c32723", func := "ablaut/ablautlaw25.HistorySteps", spec := "historySteps", inPlace := ["internal/bytealg.IndexByteString", "internal/bytealg.IndexString"], unfollowed := true, recurses := true, named := ["unicode/utf8.first", "unicode/utf8.acceptRanges", "math/bits.deBruijn64tab", "internal/bytealg.MaxLen"], loops := true, apart := false, laid := [("math/bits.deBruijn64tab", laid_math_bits_deBruijn64tab), ("unicode/utf8.acceptRanges", laid_unicode_utf8_acceptRanges), ("unicode/utf8.first", laid_unicode_utf8_first)] }
def HistoryStepsSaid : Prop := historyStepsRow.holds Tryz.pinned (OpenSpec.ofChange historyStepsSpec)

/-- ITS FALSE NEIGHBOUR: 'it returns false'. Refute it at one input. -/
def historyStepsWrong : ChangeSpec := { name := "historySteps", fn := fun _ => fun
  | [d1, d2] => { results := [.lit (.bool false)], args := [d1, d2] }
  | _ => none }
def HistoryStepsWrongFalsely : Prop := historyStepsRow.holds Tryz.pinned (OpenSpec.ofChange historyStepsWrong)

/-- 'ablautlaw25.HistoryTwice': WHATEVER THE INPUT: true; the input reads as it did. -/
def historyTwiceSpec : ChangeSpec := { name := "historyTwice", fn := fun _ => fun
  | [d1, d2, d3] => { results := [.lit (.bool true)], args := [d1, d2, d3] }
  | _ => none }
def historyTwiceRow : OpenClaim := { program := "ytodhnkfgkgkngaagreatdoor", sum := "9e0a8f50b23174d980f3492d535f866cd1d3cd48597547993a92a805c7c32723", func := "ablaut/ablautlaw25.HistoryTwice", spec := "historyTwice", inPlace := ["internal/bytealg.IndexByteString", "internal/bytealg.IndexString"], unfollowed := true, recurses := true, named := ["unicode/utf8.first", "unicode/utf8.acceptRanges", "math/bits.deBruijn64tab", "internal/bytealg.MaxLen"], loops := true, apart := false, laid := [("math/bits.deBruijn64tab", laid_math_bits_deBruijn64tab), ("unicode/utf8.acceptRanges", laid_unicode_utf8_acceptRanges), ("unicode/utf8.first", laid_unicode_utf8_first)] }
def HistoryTwiceSaid : Prop := historyTwiceRow.holds Tryz.pinned (OpenSpec.ofChange historyTwiceSpec)

/-- ITS FALSE NEIGHBOUR: 'it returns false'. Refute it at one input. -/
def historyTwiceWrong : ChangeSpec := { name := "historyTwice", fn := fun _ => fun
  | [d1, d2, d3] => { results := [.lit (.bool false)], args := [d1, d2, d3] }
  | _ => none }
def HistoryTwiceWrongFalsely : Prop := historyTwiceRow.holds Tryz.pinned (OpenSpec.ofChange historyTwiceWrong)

/-- 'ablautlaw25.HistoryOutcomes': WHATEVER THE INPUT: true; the input reads as it did. -/
def historyOutcomesSpec : ChangeSpec := { name := "historyOutcomes", fn := fun _ => fun
  | [d1, d2, d3] => { results := [.lit (.bool true)], args := [d1, d2, d3] }
  | _ => none }
def historyOutcomesRow : OpenClaim := { program := "ytodhnkfgkgkngaagreatdoor", sum := "9e0a8f50b23174d980f3492d535f866cd1d3cd48597547993a92a805c7c32723", func := "ablaut/ablautlaw25.HistoryOutcomes", spec := "historyOutcomes", inPlace := ["internal/bytealg.IndexByteString", "internal/bytealg.IndexString"], unfollowed := true, recurses := true, named := ["unicode/utf8.first", "unicode/utf8.acceptRanges", "math/bits.deBruijn64tab", "internal/bytealg.MaxLen"], loops := true, apart := false, laid := [("math/bits.deBruijn64tab", laid_math_bits_deBruijn64tab), ("unicode/utf8.acceptRanges", laid_unicode_utf8_acceptRanges), ("unicode/utf8.first", laid_unicode_utf8_first)] }
def HistoryOutcomesSaid : Prop := historyOutcomesRow.holds Tryz.pinned (OpenSpec.ofChange historyOutcomesSpec)

/-- ITS FALSE NEIGHBOUR: 'it returns false'. Refute it at one input. -/
def historyOutcomesWrong : ChangeSpec := { name := "historyOutcomes", fn := fun _ => fun
  | [d1, d2, d3] => { results := [.lit (.bool false)], args := [d1, d2, d3] }
  | _ => none }
def HistoryOutcomesWrongFalsely : Prop := historyOutcomesRow.holds Tryz.pinned (OpenSpec.ofChange historyOutcomesWrong)

/-- 'ablautlaw25.HistoryKnown': WHATEVER THE INPUT: true; the input reads as it did. -/
def historyKnownSpec : ChangeSpec := { name := "historyKnown", fn := fun _ => fun
  | [] => { results := [.lit (.bool true)], args := [] }
  | _ => none }
def historyKnownRow : OpenClaim := { program := "ytodhnkfgkgkngaagreatdoor", sum := "9e0a8f50b23174d980f3492d535f866cd1d3cd48597547993a92a805c7c32723", func := "ablaut/ablautlaw25.HistoryKnown", spec := "historyKnown", inPlace := ["internal/bytealg.IndexByteString", "internal/bytealg.IndexString"], unfollowed := true, recurses := true, named := ["unicode/utf8.first", "unicode/utf8.acceptRanges", "math/bits.deBruijn64tab", "internal/bytealg.MaxLen"], apart := false, laid := [("math/bits.deBruijn64tab", laid_math_bits_deBruijn64tab), ("unicode/utf8.acceptRanges", laid_unicode_utf8_acceptRanges), ("unicode/utf8.first", laid_unicode_utf8_first)] }
def HistoryKnownSaid : Prop := historyKnownRow.holds Tryz.pinned (OpenSpec.ofChange historyKnownSpec)

/-- ITS FALSE NEIGHBOUR: 'it returns false'. Refute it at one input. -/
def historyKnownWrong : ChangeSpec := { name := "historyKnown", fn := fun _ => fun
  | [] => { results := [.lit (.bool false)], args := [] }
  | _ => none }
def HistoryKnownWrongFalsely : Prop := historyKnownRow.holds Tryz.pinned (OpenSpec.ofChange historyKnownWrong)

/-- 'ablautlaw25.HistoryChecks': WHATEVER THE INPUT: true; the input reads as it did. -/
def historyChecksSpec : ChangeSpec := { name := "historyChecks", fn := fun _ => fun
  | [d1, d2, d3] => { results := [.lit (.bool true)], args := [d1, d2, d3] }
  | _ => none }
def historyChecksRow : OpenClaim := { program := "ytodhnkfgkgkngaagreatdoor", sum := "9e0a8f50b23174d980f3492d535f866cd1d3cd48597547993a92a805c7c32723", func := "ablaut/ablautlaw25.HistoryChecks", spec := "historyChecks", inPlace := ["internal/bytealg.IndexByteString", "internal/bytealg.IndexString"], unfollowed := true, recurses := true, named := ["unicode/utf8.first", "unicode/utf8.acceptRanges", "math/bits.deBruijn64tab", "internal/bytealg.MaxLen"], loops := true, apart := false, laid := [("math/bits.deBruijn64tab", laid_math_bits_deBruijn64tab), ("unicode/utf8.acceptRanges", laid_unicode_utf8_acceptRanges), ("unicode/utf8.first", laid_unicode_utf8_first)] }
def HistoryChecksSaid : Prop := historyChecksRow.holds Tryz.pinned (OpenSpec.ofChange historyChecksSpec)

/-- ITS FALSE NEIGHBOUR: 'it returns false'. Refute it at one input. -/
def historyChecksWrong : ChangeSpec := { name := "historyChecks", fn := fun _ => fun
  | [d1, d2, d3] => { results := [.lit (.bool false)], args := [d1, d2, d3] }
  | _ => none }
def HistoryChecksWrongFalsely : Prop := historyChecksRow.holds Tryz.pinned (OpenSpec.ofChange historyChecksWrong)

/-- 'ablautlaw25.HistoryWheres': WHATEVER THE INPUT: true; the input reads as it did. -/
def historyWheresSpec : ChangeSpec := { name := "historyWheres", fn := fun _ => fun
  | [d1, d2, d3] => { results := [.lit (.bool true)], args := [d1, d2, d3] }
  | _ => none }
def historyWheresRow : OpenClaim := { program := "ytodhnkfgkgkngaagreatdoor", sum := "9e0a8f50b23174d980f3492d535f866cd1d3cd48597547993a92a805c7c32723", func := "ablaut/ablautlaw25.HistoryWheres", spec := "historyWheres", inPlace := ["internal/bytealg.IndexByteString", "internal/bytealg.IndexString"], unfollowed := true, recurses := true, named := ["unicode/utf8.first", "unicode/utf8.acceptRanges", "math/bits.deBruijn64tab", "internal/bytealg.MaxLen"], loops := true, apart := false, laid := [("math/bits.deBruijn64tab", laid_math_bits_deBruijn64tab), ("unicode/utf8.acceptRanges", laid_unicode_utf8_acceptRanges), ("unicode/utf8.first", laid_unicode_utf8_first)] }
def HistoryWheresSaid : Prop := historyWheresRow.holds Tryz.pinned (OpenSpec.ofChange historyWheresSpec)

/-- ITS FALSE NEIGHBOUR: 'it returns false'. Refute it at one input. -/
def historyWheresWrong : ChangeSpec := { name := "historyWheres", fn := fun _ => fun
  | [d1, d2, d3] => { results := [.lit (.bool false)], args := [d1, d2, d3] }
  | _ => none }
def HistoryWheresWrongFalsely : Prop := historyWheresRow.holds Tryz.pinned (OpenSpec.ofChange historyWheresWrong)

/- THE SECOND FORM. 'bulk': how many values and letters a reading holds, each counted each time it is reached (what is shared counts as often as it is met; a slice's spare places count too). A statement '..UptoSaid' is the law's where the arguments, and the package variables that the reading takes, are together of bulk at most 1048576: NARROWER than '..Said'. Prove '..Said' where nothing that the law and all that it calls make is longer than what came in: it says more and counts as full. Else prove '..UptoSaid'. A law counts once. -/
mutual
def uptoBulk {H : Type} : DataW H → Nat
  | .lit (.string bytes) => bytes.length + 1
  | .lit _ => 1
  | .nil => 1
  | .ptr d => uptoBulk d + 1
  | .slice elems spare => uptoBulkAll elems + uptoBulkAll spare + 1
  | .agg parts => uptoBulkAll parts + 1
  | .iface _ d => uptoBulk d + 1
  | .map entries => uptoBulkEntries entries + 1
  | .held _ => 1
def uptoBulkAll {H : Type} : List (DataW H) → Nat
  | [] => 0
  | d :: r => uptoBulk d + uptoBulkAll r
def uptoBulkEntries {H : Type} : List (Lit × DataW H) → Nat
  | [] => 0
  | x :: r => uptoBulkEntry x + uptoBulkEntries r
def uptoBulkEntry {H : Type} : Lit × DataW H → Nat
  | (.string bytes, d) => bytes.length + uptoBulk d + 1
  | (_, d) => uptoBulk d + 1
 end
def uptoSmall : (H : Type) → List (DataW H) → Bool := fun _ ds => decide (uptoBulkAll ds ≤ 1048576)
def OpenSpec.upto (s : _root_.Go.ChangeSpec) : _root_.Go.OpenSpec := { _root_.Go.OpenSpec.ofChange s with cond := some uptoSmall }

/-- 'ablautlaw25.HistoryForms', WHERE WHAT IT READS IS OF BULK AT MOST 1048576: true; the input reads as it did. -/
def historyFormsUptoRow : OpenClaim := { program := "ytodhnkfgkgkngaagreatdoor", sum := "9e0a8f50b23174d980f3492d535f866cd1d3cd48597547993a92a805c7c32723", func := "ablaut/ablautlaw25.HistoryForms", spec := "historyForms", inPlace := ["internal/bytealg.IndexByteString", "internal/bytealg.IndexString"], unfollowed := true, recurses := true, named := ["unicode/utf8.first", "unicode/utf8.acceptRanges", "math/bits.deBruijn64tab", "internal/bytealg.MaxLen"], loops := true, apart := false, laid := [("math/bits.deBruijn64tab", laid_math_bits_deBruijn64tab), ("unicode/utf8.acceptRanges", laid_unicode_utf8_acceptRanges), ("unicode/utf8.first", laid_unicode_utf8_first)], narrowed := true }
def HistoryFormsUptoSaid : Prop := historyFormsUptoRow.holds Tryz.pinned (OpenSpec.upto historyFormsSpec)

/-- 'ablautlaw25.HistorySame', WHERE WHAT IT READS IS OF BULK AT MOST 1048576: true; the input reads as it did. -/
def historySameUptoRow : OpenClaim := { program := "ytodhnkfgkgkngaagreatdoor", sum := "9e0a8f50b23174d980f3492d535f866cd1d3cd48597547993a92a805c7c32723", func := "ablaut/ablautlaw25.HistorySame", spec := "historySame", inPlace := ["internal/bytealg.IndexByteString", "internal/bytealg.IndexString"], unfollowed := true, recurses := true, named := ["unicode/utf8.first", "unicode/utf8.acceptRanges", "math/bits.deBruijn64tab", "internal/bytealg.MaxLen"], loops := true, apart := false, laid := [("math/bits.deBruijn64tab", laid_math_bits_deBruijn64tab), ("unicode/utf8.acceptRanges", laid_unicode_utf8_acceptRanges), ("unicode/utf8.first", laid_unicode_utf8_first)], narrowed := true }
def HistorySameUptoSaid : Prop := historySameUptoRow.holds Tryz.pinned (OpenSpec.upto historySameSpec)

/-- 'ablautlaw25.HistorySwaps', WHERE WHAT IT READS IS OF BULK AT MOST 1048576: true; the input reads as it did. -/
def historySwapsUptoRow : OpenClaim := { program := "ytodhnkfgkgkngaagreatdoor", sum := "9e0a8f50b23174d980f3492d535f866cd1d3cd48597547993a92a805c7c32723", func := "ablaut/ablautlaw25.HistorySwaps", spec := "historySwaps", inPlace := ["internal/bytealg.IndexByteString", "internal/bytealg.IndexString"], unfollowed := true, recurses := true, named := ["unicode/utf8.first", "unicode/utf8.acceptRanges", "math/bits.deBruijn64tab", "internal/bytealg.MaxLen"], loops := true, apart := false, laid := [("math/bits.deBruijn64tab", laid_math_bits_deBruijn64tab), ("unicode/utf8.acceptRanges", laid_unicode_utf8_acceptRanges), ("unicode/utf8.first", laid_unicode_utf8_first)], narrowed := true }
def HistorySwapsUptoSaid : Prop := historySwapsUptoRow.holds Tryz.pinned (OpenSpec.upto historySwapsSpec)

/-- 'ablautlaw25.HistorySteps', WHERE WHAT IT READS IS OF BULK AT MOST 1048576: true; the input reads as it did. -/
def historyStepsUptoRow : OpenClaim := { program := "ytodhnkfgkgkngaagreatdoor", sum := "9e0a8f50b23174d980f3492d535f866cd1d3cd48597547993a92a805c7c32723", func := "ablaut/ablautlaw25.HistorySteps", spec := "historySteps", inPlace := ["internal/bytealg.IndexByteString", "internal/bytealg.IndexString"], unfollowed := true, recurses := true, named := ["unicode/utf8.first", "unicode/utf8.acceptRanges", "math/bits.deBruijn64tab", "internal/bytealg.MaxLen"], loops := true, apart := false, laid := [("math/bits.deBruijn64tab", laid_math_bits_deBruijn64tab), ("unicode/utf8.acceptRanges", laid_unicode_utf8_acceptRanges), ("unicode/utf8.first", laid_unicode_utf8_first)], narrowed := true }
def HistoryStepsUptoSaid : Prop := historyStepsUptoRow.holds Tryz.pinned (OpenSpec.upto historyStepsSpec)

/-- 'ablautlaw25.HistoryTwice', WHERE WHAT IT READS IS OF BULK AT MOST 1048576: true; the input reads as it did. -/
def historyTwiceUptoRow : OpenClaim := { program := "ytodhnkfgkgkngaagreatdoor", sum := "9e0a8f50b23174d980f3492d535f866cd1d3cd48597547993a92a805c7c32723", func := "ablaut/ablautlaw25.HistoryTwice", spec := "historyTwice", inPlace := ["internal/bytealg.IndexByteString", "internal/bytealg.IndexString"], unfollowed := true, recurses := true, named := ["unicode/utf8.first", "unicode/utf8.acceptRanges", "math/bits.deBruijn64tab", "internal/bytealg.MaxLen"], loops := true, apart := false, laid := [("math/bits.deBruijn64tab", laid_math_bits_deBruijn64tab), ("unicode/utf8.acceptRanges", laid_unicode_utf8_acceptRanges), ("unicode/utf8.first", laid_unicode_utf8_first)], narrowed := true }
def HistoryTwiceUptoSaid : Prop := historyTwiceUptoRow.holds Tryz.pinned (OpenSpec.upto historyTwiceSpec)

/-- 'ablautlaw25.HistoryOutcomes', WHERE WHAT IT READS IS OF BULK AT MOST 1048576: true; the input reads as it did. -/
def historyOutcomesUptoRow : OpenClaim := { program := "ytodhnkfgkgkngaagreatdoor", sum := "9e0a8f50b23174d980f3492d535f866cd1d3cd48597547993a92a805c7c32723", func := "ablaut/ablautlaw25.HistoryOutcomes", spec := "historyOutcomes", inPlace := ["internal/bytealg.IndexByteString", "internal/bytealg.IndexString"], unfollowed := true, recurses := true, named := ["unicode/utf8.first", "unicode/utf8.acceptRanges", "math/bits.deBruijn64tab", "internal/bytealg.MaxLen"], loops := true, apart := false, laid := [("math/bits.deBruijn64tab", laid_math_bits_deBruijn64tab), ("unicode/utf8.acceptRanges", laid_unicode_utf8_acceptRanges), ("unicode/utf8.first", laid_unicode_utf8_first)], narrowed := true }
def HistoryOutcomesUptoSaid : Prop := historyOutcomesUptoRow.holds Tryz.pinned (OpenSpec.upto historyOutcomesSpec)

/-- 'ablautlaw25.HistoryKnown', WHERE WHAT IT READS IS OF BULK AT MOST 1048576: true; the input reads as it did. -/
def historyKnownUptoRow : OpenClaim := { program := "ytodhnkfgkgkngaagreatdoor", sum := "9e0a8f50b23174d980f3492d535f866cd1d3cd48597547993a92a805c7c32723", func := "ablaut/ablautlaw25.HistoryKnown", spec := "historyKnown", inPlace := ["internal/bytealg.IndexByteString", "internal/bytealg.IndexString"], unfollowed := true, recurses := true, named := ["unicode/utf8.first", "unicode/utf8.acceptRanges", "math/bits.deBruijn64tab", "internal/bytealg.MaxLen"], apart := false, laid := [("math/bits.deBruijn64tab", laid_math_bits_deBruijn64tab), ("unicode/utf8.acceptRanges", laid_unicode_utf8_acceptRanges), ("unicode/utf8.first", laid_unicode_utf8_first)], narrowed := true }
def HistoryKnownUptoSaid : Prop := historyKnownUptoRow.holds Tryz.pinned (OpenSpec.upto historyKnownSpec)

/-- 'ablautlaw25.HistoryChecks', WHERE WHAT IT READS IS OF BULK AT MOST 1048576: true; the input reads as it did. -/
def historyChecksUptoRow : OpenClaim := { program := "ytodhnkfgkgkngaagreatdoor", sum := "9e0a8f50b23174d980f3492d535f866cd1d3cd48597547993a92a805c7c32723", func := "ablaut/ablautlaw25.HistoryChecks", spec := "historyChecks", inPlace := ["internal/bytealg.IndexByteString", "internal/bytealg.IndexString"], unfollowed := true, recurses := true, named := ["unicode/utf8.first", "unicode/utf8.acceptRanges", "math/bits.deBruijn64tab", "internal/bytealg.MaxLen"], loops := true, apart := false, laid := [("math/bits.deBruijn64tab", laid_math_bits_deBruijn64tab), ("unicode/utf8.acceptRanges", laid_unicode_utf8_acceptRanges), ("unicode/utf8.first", laid_unicode_utf8_first)], narrowed := true }
def HistoryChecksUptoSaid : Prop := historyChecksUptoRow.holds Tryz.pinned (OpenSpec.upto historyChecksSpec)

/-- 'ablautlaw25.HistoryWheres', WHERE WHAT IT READS IS OF BULK AT MOST 1048576: true; the input reads as it did. -/
def historyWheresUptoRow : OpenClaim := { program := "ytodhnkfgkgkngaagreatdoor", sum := "9e0a8f50b23174d980f3492d535f866cd1d3cd48597547993a92a805c7c32723", func := "ablaut/ablautlaw25.HistoryWheres", spec := "historyWheres", inPlace := ["internal/bytealg.IndexByteString", "internal/bytealg.IndexString"], unfollowed := true, recurses := true, named := ["unicode/utf8.first", "unicode/utf8.acceptRanges", "math/bits.deBruijn64tab", "internal/bytealg.MaxLen"], loops := true, apart := false, laid := [("math/bits.deBruijn64tab", laid_math_bits_deBruijn64tab), ("unicode/utf8.acceptRanges", laid_unicode_utf8_acceptRanges), ("unicode/utf8.first", laid_unicode_utf8_first)], narrowed := true }
def HistoryWheresUptoSaid : Prop := historyWheresUptoRow.holds Tryz.pinned (OpenSpec.upto historyWheresSpec)

end Rows
end Go.Proofs.YtodhnkfgkgkngaaGreatDoor
