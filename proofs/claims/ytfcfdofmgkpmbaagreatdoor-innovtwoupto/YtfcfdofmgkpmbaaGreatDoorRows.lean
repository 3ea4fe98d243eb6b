/-
  NARROWER THAN 'FOR EVERY INPUT', by the rows' own cells (each row's printed sentence says how): InnovChecks: laid · InnovOnly: laid · InnovFrom: loops, laid · InnovWords: loops, laid · InnovPairs: laid · InnovClasses: loops, laid · InnovParts: laid · InnovNumbers: laid · InnovClades: loops, laid · InnovMany: laid · InnovTwo: laid.
  DERIVED. THE GIVEN ROWS OF THIS SEAT. 11 by the template 'for every input the law returns true; each argument reads behind the call as it read before'; 0 by the template 'total and deterministic' (their statements: YtfcfdofmgkpmbaaGreatDoorTotals.lean).
  GIVEN WITH THE SEED: the statements are not yours to turn. If you find one false, say at which input.
  Laid BY PROGRAM, IN A SANDBOX (cutbox-rows.mjs): the forced cells as the released guide's own fill.sh prints them over the translation 93f8abad9bbce5ce… (all of the seat's roots in one cut). By AI agents, Wed Nov 11 2026. No macro, syntax, notation, axiom, sorry.
-/
import Derived.Test.YtfcfdofmgkpmbaaGreatDoorChecked
import GoSem.PinnedTables
import GoSem.Claim
import GoSem.ClaimJoined
import GoSem.ClaimMapViews
import Derived.JoinedTies
import Derived.KernelRfl
namespace Go.Proofs.YtfcfdofmgkpmbaaGreatDoor
/- THE CELL 'sum', in the pinned program and in every row, IS THE sha256 OF THE DUMP (.gsa) THAT YtfcfdofmgkpmbaaGreatDoorProg.lean LOADS. Nothing in Lean hashes anything: it is a label: what it is worth is what the hold of that sum in a sandbox is worth. -/
noncomputable def Tryz.pinned : Pinned := { name := "ytfcfdofmgkpmbaagreatdoor", sum := "93f8abad9bbce5cef3ccbbf6b03d459e7162638361498f3829e909773820c84e", checked := Tryz.checked }
namespace Rows
def none {H : Type} : Left H := { results := [], args := [] }

/- WHAT THE LISTED PACKAGE-LEVEL VARIABLES READ AS WHEN THE CALL BEGINS. Each datum BY PROGRAM (the guide's laid-datum.mjs) off the statement by which the dump's own 'gosem.cut.vars' lays the variable. In a bare row this is a premise. The card (YtfcfdofmgkpmbaaGreatDoorCards.lean) ties it to the program's text. -/
def laid_math_bits_deBruijn64tab {H : Type} : DataW H := .agg [.lit (.int .u8 0), .lit (.int .u8 1), .lit (.int .u8 56), .lit (.int .u8 2), .lit (.int .u8 57), .lit (.int .u8 49), .lit (.int .u8 28), .lit (.int .u8 3), .lit (.int .u8 61), .lit (.int .u8 58), .lit (.int .u8 42), .lit (.int .u8 50), .lit (.int .u8 38), .lit (.int .u8 29), .lit (.int .u8 17), .lit (.int .u8 4), .lit (.int .u8 62), .lit (.int .u8 47), .lit (.int .u8 59), .lit (.int .u8 36), .lit (.int .u8 45), .lit (.int .u8 43), .lit (.int .u8 51), .lit (.int .u8 22), .lit (.int .u8 53), .lit (.int .u8 39), .lit (.int .u8 33), .lit (.int .u8 30), .lit (.int .u8 24), .lit (.int .u8 18), .lit (.int .u8 12), .lit (.int .u8 5), .lit (.int .u8 63), .lit (.int .u8 55), .lit (.int .u8 48), .lit (.int .u8 27), .lit (.int .u8 60), .lit (.int .u8 41), .lit (.int .u8 37), .lit (.int .u8 16), .lit (.int .u8 46), .lit (.int .u8 35), .lit (.int .u8 44), .lit (.int .u8 21), .lit (.int .u8 52), .lit (.int .u8 32), .lit (.int .u8 23), .lit (.int .u8 11), .lit (.int .u8 54), .lit (.int .u8 26), .lit (.int .u8 40), .lit (.int .u8 15), .lit (.int .u8 34), .lit (.int .u8 20), .lit (.int .u8 31), .lit (.int .u8 10), .lit (.int .u8 25), .lit (.int .u8 14), .lit (.int .u8 19), .lit (.int .u8 9), .lit (.int .u8 13), .lit (.int .u8 8), .lit (.int .u8 7), .lit (.int .u8 6)]
def laid_unicode_utf8_acceptRanges {H : Type} : DataW H := .agg [.agg [.lit (.int .u8 128), .lit (.int .u8 191)], .agg [.lit (.int .u8 160), .lit (.int .u8 191)], .agg [.lit (.int .u8 128), .lit (.int .u8 159)], .agg [.lit (.int .u8 144), .lit (.int .u8 191)], .agg [.lit (.int .u8 128), .lit (.int .u8 143)], .agg [.lit (.int .u8 0), .lit (.int .u8 0)], .agg [.lit (.int .u8 0), .lit (.int .u8 0)], .agg [.lit (.int .u8 0), .lit (.int .u8 0)], .agg [.lit (.int .u8 0), .lit (.int .u8 0)], .agg [.lit (.int .u8 0), .lit (.int .u8 0)], .agg [.lit (.int .u8 0), .lit (.int .u8 0)], .agg [.lit (.int .u8 0), .lit (.int .u8 0)], .agg [.lit (.int .u8 0), .lit (.int .u8 0)], .agg [.lit (.int .u8 0), .lit (.int .u8 0)], .agg [.lit (.int .u8 0), .lit (.int .u8 0)], .agg [.lit (.int .u8 0), .lit (.int .u8 0)]]
/-- One of Go's own tables, pinned by name: the form's constant. -/
def laid_unicode_utf8_first : DataW Unit := Go.Pinned.utf8First

/-- 'ablautlaw31.InnovChecks': WHATEVER THE INPUT: true; the input reads as it did. -/
def innovChecksSpec : ChangeSpec := { name := "innovChecks", fn := fun _ => fun
  | [d] => { results := [.lit (.bool true)], args := [d] }
  | _ => none }
def innovChecksRow : OpenClaim := { program := "ytfcfdofmgkpmbaagreatdoor", sum := "93f8abad9bbce5cef3ccbbf6b03d459e7162638361498f3829e909773820c84e", func := "ablaut/ablautlaw31.InnovChecks", spec := "innovChecks", inPlace := ["internal/bytealg.IndexByteString", "internal/bytealg.IndexString", "internal/abi.NoEscape"], unfollowed := true, recurses := true, named := ["math/bits.deBruijn64tab", "unicode/utf8.first", "unicode/utf8.acceptRanges", "internal/bytealg.MaxLen"], apart := false, laid := [("math/bits.deBruijn64tab", laid_math_bits_deBruijn64tab), ("unicode/utf8.acceptRanges", laid_unicode_utf8_acceptRanges), ("unicode/utf8.first", laid_unicode_utf8_first)] }
def InnovChecksSaid : Prop := innovChecksRow.holds Tryz.pinned (OpenSpec.ofChange innovChecksSpec)

/-- ITS FALSE NEIGHBOUR: 'it returns false'. Refute it at one input. -/
def innovChecksWrong : ChangeSpec := { name := "innovChecks", fn := fun _ => fun
  | [d] => { results := [.lit (.bool false)], args := [d] }
  | _ => none }
def InnovChecksWrongFalsely : Prop := innovChecksRow.holds Tryz.pinned (OpenSpec.ofChange innovChecksWrong)

/-- 'ablautlaw31.InnovOnly': WHATEVER THE INPUT: true; the input reads as it did. -/
def innovOnlySpec : ChangeSpec := { name := "innovOnly", fn := fun _ => fun
  | [d1, d2] => { results := [.lit (.bool true)], args := [d1, d2] }
  | _ => none }
def innovOnlyRow : OpenClaim := { program := "ytfcfdofmgkpmbaagreatdoor", sum := "93f8abad9bbce5cef3ccbbf6b03d459e7162638361498f3829e909773820c84e", func := "ablaut/ablautlaw31.InnovOnly", spec := "innovOnly", inPlace := ["internal/bytealg.IndexByteString", "internal/bytealg.IndexString", "internal/abi.NoEscape"], unfollowed := true, recurses := true, named := ["math/bits.deBruijn64tab", "unicode/utf8.first", "unicode/utf8.acceptRanges", "internal/bytealg.MaxLen"], apart := false, laid := [("math/bits.deBruijn64tab", laid_math_bits_deBruijn64tab), ("unicode/utf8.acceptRanges", laid_unicode_utf8_acceptRanges), ("unicode/utf8.first", laid_unicode_utf8_first)] }
def InnovOnlySaid : Prop := innovOnlyRow.holds Tryz.pinned (OpenSpec.ofChange innovOnlySpec)

/-- ITS FALSE NEIGHBOUR: 'it returns false'. Refute it at one input. -/
def innovOnlyWrong : ChangeSpec := { name := "innovOnly", fn := fun _ => fun
  | [d1, d2] => { results := [.lit (.bool false)], args := [d1, d2] }
  | _ => none }
def InnovOnlyWrongFalsely : Prop := innovOnlyRow.holds Tryz.pinned (OpenSpec.ofChange innovOnlyWrong)

/-- 'ablautlaw31.InnovFrom': WHATEVER THE INPUT: true; the input reads as it did. -/
def innovFromSpec : ChangeSpec := { name := "innovFrom", fn := fun _ => fun
  | [d] => { results := [.lit (.bool true)], args := [d] }
  | _ => none }
def innovFromRow : OpenClaim := { program := "ytfcfdofmgkpmbaagreatdoor", sum := "93f8abad9bbce5cef3ccbbf6b03d459e7162638361498f3829e909773820c84e", func := "ablaut/ablautlaw31.InnovFrom", spec := "innovFrom", inPlace := ["internal/bytealg.IndexByteString", "internal/bytealg.IndexString", "internal/abi.NoEscape"], unfollowed := true, recurses := true, named := ["math/bits.deBruijn64tab", "unicode/utf8.first", "unicode/utf8.acceptRanges", "internal/bytealg.MaxLen"], loops := true, apart := false, laid := [("math/bits.deBruijn64tab", laid_math_bits_deBruijn64tab), ("unicode/utf8.acceptRanges", laid_unicode_utf8_acceptRanges), ("unicode/utf8.first", laid_unicode_utf8_first)] }
def InnovFromSaid : Prop := innovFromRow.holds Tryz.pinned (OpenSpec.ofChange innovFromSpec)

/-- ITS FALSE NEIGHBOUR: 'it returns false'. Refute it at one input. -/
def innovFromWrong : ChangeSpec := { name := "innovFrom", fn := fun _ => fun
  | [d] => { results := [.lit (.bool false)], args := [d] }
  | _ => none }
def InnovFromWrongFalsely : Prop := innovFromRow.holds Tryz.pinned (OpenSpec.ofChange innovFromWrong)

/-- 'ablautlaw31.InnovWords': WHATEVER THE INPUT: true; the input reads as it did. -/
def innovWordsSpec : ChangeSpec := { name := "innovWords", fn := fun _ => fun
  | [d1, d2] => { results := [.lit (.bool true)], args := [d1, d2] }
  | _ => none }
def innovWordsRow : OpenClaim := { program := "ytfcfdofmgkpmbaagreatdoor", sum := "93f8abad9bbce5cef3ccbbf6b03d459e7162638361498f3829e909773820c84e", func := "ablaut/ablautlaw31.InnovWords", spec := "innovWords", inPlace := ["internal/bytealg.IndexByteString", "internal/bytealg.IndexString", "internal/abi.NoEscape"], unfollowed := true, recurses := true, named := ["math/bits.deBruijn64tab", "unicode/utf8.first", "unicode/utf8.acceptRanges", "internal/bytealg.MaxLen"], loops := true, apart := false, laid := [("math/bits.deBruijn64tab", laid_math_bits_deBruijn64tab), ("unicode/utf8.acceptRanges", laid_unicode_utf8_acceptRanges), ("unicode/utf8.first", laid_unicode_utf8_first)] }
def InnovWordsSaid : Prop := innovWordsRow.holds Tryz.pinned (OpenSpec.ofChange innovWordsSpec)

/-- ITS FALSE NEIGHBOUR: 'it returns false'. Refute it at one input. -/
def innovWordsWrong : ChangeSpec := { name := "innovWords", fn := fun _ => fun
  | [d1, d2] => { results := [.lit (.bool false)], args := [d1, d2] }
  | _ => none }
def InnovWordsWrongFalsely : Prop := innovWordsRow.holds Tryz.pinned (OpenSpec.ofChange innovWordsWrong)

/-- 'ablautlaw31.InnovPairs': WHATEVER THE INPUT: true; the input reads as it did. -/
def innovPairsSpec : ChangeSpec := { name := "innovPairs", fn := fun _ => fun
  | [d1, d2, d3] => { results := [.lit (.bool true)], args := [d1, d2, d3] }
  | _ => none }
def innovPairsRow : OpenClaim := { program := "ytfcfdofmgkpmbaagreatdoor", sum := "93f8abad9bbce5cef3ccbbf6b03d459e7162638361498f3829e909773820c84e", func := "ablaut/ablautlaw31.InnovPairs", spec := "innovPairs", inPlace := ["internal/bytealg.IndexByteString", "internal/bytealg.IndexString", "internal/abi.NoEscape"], unfollowed := true, recurses := true, named := ["math/bits.deBruijn64tab", "unicode/utf8.first", "unicode/utf8.acceptRanges", "internal/bytealg.MaxLen"], apart := false, laid := [("math/bits.deBruijn64tab", laid_math_bits_deBruijn64tab), ("unicode/utf8.acceptRanges", laid_unicode_utf8_acceptRanges), ("unicode/utf8.first", laid_unicode_utf8_first)] }
def InnovPairsSaid : Prop := innovPairsRow.holds Tryz.pinned (OpenSpec.ofChange innovPairsSpec)

/-- ITS FALSE NEIGHBOUR: 'it returns false'. Refute it at one input. -/
def innovPairsWrong : ChangeSpec := { name := "innovPairs", fn := fun _ => fun
  | [d1, d2, d3] => { results := [.lit (.bool false)], args := [d1, d2, d3] }
  | _ => none }
def InnovPairsWrongFalsely : Prop := innovPairsRow.holds Tryz.pinned (OpenSpec.ofChange innovPairsWrong)

/-- 'ablautlaw31.InnovClasses': WHATEVER THE INPUT: true; the input reads as it did. -/
def innovClassesSpec : ChangeSpec := { name := "innovClasses", fn := fun _ => fun
  | [d1, d2] => { results := [.lit (.bool true)], args := [d1, d2] }
  | _ => none }
def innovClassesRow : OpenClaim := { program := "ytfcfdofmgkpmbaagreatdoor", sum := "93f8abad9bbce5cef3ccbbf6b03d459e7162638361498f3829e909773820c84e", func := "ablaut/ablautlaw31.InnovClasses", spec := "innovClasses", inPlace := ["internal/bytealg.IndexByteString", "internal/bytealg.IndexString", "internal/abi.NoEscape"], unfollowed := true, recurses := true, named := ["unicode/utf8.first", "unicode/utf8.acceptRanges", "math/bits.deBruijn64tab", "internal/bytealg.MaxLen"], loops := true, apart := false, laid := [("math/bits.deBruijn64tab", laid_math_bits_deBruijn64tab), ("unicode/utf8.acceptRanges", laid_unicode_utf8_acceptRanges), ("unicode/utf8.first", laid_unicode_utf8_first)] }
def InnovClassesSaid : Prop := innovClassesRow.holds Tryz.pinned (OpenSpec.ofChange innovClassesSpec)

/-- ITS FALSE NEIGHBOUR: 'it returns false'. Refute it at one input. -/
def innovClassesWrong : ChangeSpec := { name := "innovClasses", fn := fun _ => fun
  | [d1, d2] => { results := [.lit (.bool false)], args := [d1, d2] }
  | _ => none }
def InnovClassesWrongFalsely : Prop := innovClassesRow.holds Tryz.pinned (OpenSpec.ofChange innovClassesWrong)

/-- 'ablautlaw31.InnovParts': WHATEVER THE INPUT: true; the input reads as it did. -/
def innovPartsSpec : ChangeSpec := { name := "innovParts", fn := fun _ => fun
  | [d1, d2, d3, d4] => { results := [.lit (.bool true)], args := [d1, d2, d3, d4] }
  | _ => none }
def innovPartsRow : OpenClaim := { program := "ytfcfdofmgkpmbaagreatdoor", sum := "93f8abad9bbce5cef3ccbbf6b03d459e7162638361498f3829e909773820c84e", func := "ablaut/ablautlaw31.InnovParts", spec := "innovParts", inPlace := ["internal/bytealg.IndexByteString", "internal/bytealg.IndexString", "internal/abi.NoEscape"], unfollowed := true, recurses := true, named := ["math/bits.deBruijn64tab", "unicode/utf8.first", "unicode/utf8.acceptRanges", "internal/bytealg.MaxLen"], apart := false, laid := [("math/bits.deBruijn64tab", laid_math_bits_deBruijn64tab), ("unicode/utf8.acceptRanges", laid_unicode_utf8_acceptRanges), ("unicode/utf8.first", laid_unicode_utf8_first)] }
def InnovPartsSaid : Prop := innovPartsRow.holds Tryz.pinned (OpenSpec.ofChange innovPartsSpec)

/-- ITS FALSE NEIGHBOUR: 'it returns false'. Refute it at one input. -/
def innovPartsWrong : ChangeSpec := { name := "innovParts", fn := fun _ => fun
  | [d1, d2, d3, d4] => { results := [.lit (.bool false)], args := [d1, d2, d3, d4] }
  | _ => none }
def InnovPartsWrongFalsely : Prop := innovPartsRow.holds Tryz.pinned (OpenSpec.ofChange innovPartsWrong)

/-- 'ablautlaw31.InnovNumbers': WHATEVER THE INPUT: true; the input reads as it did. -/
def innovNumbersSpec : ChangeSpec := { name := "innovNumbers", fn := fun _ => fun
  | [d1, d2] => { results := [.lit (.bool true)], args := [d1, d2] }
  | _ => none }
def innovNumbersRow : OpenClaim := { program := "ytfcfdofmgkpmbaagreatdoor", sum := "93f8abad9bbce5cef3ccbbf6b03d459e7162638361498f3829e909773820c84e", func := "ablaut/ablautlaw31.InnovNumbers", spec := "innovNumbers", inPlace := ["internal/bytealg.IndexByteString", "internal/bytealg.IndexString", "internal/abi.NoEscape"], unfollowed := true, recurses := true, named := ["math/bits.deBruijn64tab", "unicode/utf8.first", "unicode/utf8.acceptRanges", "internal/bytealg.MaxLen"], apart := false, laid := [("math/bits.deBruijn64tab", laid_math_bits_deBruijn64tab), ("unicode/utf8.acceptRanges", laid_unicode_utf8_acceptRanges), ("unicode/utf8.first", laid_unicode_utf8_first)] }
def InnovNumbersSaid : Prop := innovNumbersRow.holds Tryz.pinned (OpenSpec.ofChange innovNumbersSpec)

/-- ITS FALSE NEIGHBOUR: 'it returns false'. Refute it at one input. -/
def innovNumbersWrong : ChangeSpec := { name := "innovNumbers", fn := fun _ => fun
  | [d1, d2] => { results := [.lit (.bool false)], args := [d1, d2] }
  | _ => none }
def InnovNumbersWrongFalsely : Prop := innovNumbersRow.holds Tryz.pinned (OpenSpec.ofChange innovNumbersWrong)

/-- 'ablautlaw31.InnovClades': WHATEVER THE INPUT: true; the input reads as it did. -/
def innovCladesSpec : ChangeSpec := { name := "innovClades", fn := fun _ => fun
  | [d] => { results := [.lit (.bool true)], args := [d] }
  | _ => none }
def innovCladesRow : OpenClaim := { program := "ytfcfdofmgkpmbaagreatdoor", sum := "93f8abad9bbce5cef3ccbbf6b03d459e7162638361498f3829e909773820c84e", func := "ablaut/ablautlaw31.InnovClades", spec := "innovClades", inPlace := ["internal/bytealg.IndexByteString", "internal/bytealg.IndexString", "internal/abi.NoEscape"], unfollowed := true, recurses := true, named := ["unicode/utf8.first", "unicode/utf8.acceptRanges", "math/bits.deBruijn64tab", "internal/bytealg.MaxLen"], loops := true, apart := false, laid := [("math/bits.deBruijn64tab", laid_math_bits_deBruijn64tab), ("unicode/utf8.acceptRanges", laid_unicode_utf8_acceptRanges), ("unicode/utf8.first", laid_unicode_utf8_first)] }
def InnovCladesSaid : Prop := innovCladesRow.holds Tryz.pinned (OpenSpec.ofChange innovCladesSpec)

/-- ITS FALSE NEIGHBOUR: 'it returns false'. Refute it at one input. -/
def innovCladesWrong : ChangeSpec := { name := "innovClades", fn := fun _ => fun
  | [d] => { results := [.lit (.bool false)], args := [d] }
  | _ => none }
def InnovCladesWrongFalsely : Prop := innovCladesRow.holds Tryz.pinned (OpenSpec.ofChange innovCladesWrong)

/-- 'ablautlaw31.InnovMany': WHATEVER THE INPUT: true; the input reads as it did. -/
def innovManySpec : ChangeSpec := { name := "innovMany", fn := fun _ => fun
  | [d1, d2] => { results := [.lit (.bool true)], args := [d1, d2] }
  | _ => none }
def innovManyRow : OpenClaim := { program := "ytfcfdofmgkpmbaagreatdoor", sum := "93f8abad9bbce5cef3ccbbf6b03d459e7162638361498f3829e909773820c84e", func := "ablaut/ablautlaw31.InnovMany", spec := "innovMany", inPlace := ["internal/bytealg.IndexByteString", "internal/bytealg.IndexString", "internal/abi.NoEscape"], unfollowed := true, recurses := true, named := ["unicode/utf8.first", "unicode/utf8.acceptRanges", "math/bits.deBruijn64tab", "internal/bytealg.MaxLen"], apart := false, laid := [("math/bits.deBruijn64tab", laid_math_bits_deBruijn64tab), ("unicode/utf8.acceptRanges", laid_unicode_utf8_acceptRanges), ("unicode/utf8.first", laid_unicode_utf8_first)] }
def InnovManySaid : Prop := innovManyRow.holds Tryz.pinned (OpenSpec.ofChange innovManySpec)

/-- ITS FALSE NEIGHBOUR: 'it returns false'. Refute it at one input. -/
def innovManyWrong : ChangeSpec := { name := "innovMany", fn := fun _ => fun
  | [d1, d2] => { results := [.lit (.bool false)], args := [d1, d2] }
  | _ => none }
def InnovManyWrongFalsely : Prop := innovManyRow.holds Tryz.pinned (OpenSpec.ofChange innovManyWrong)

/-- 'ablautlaw31.InnovTwo': WHATEVER THE INPUT: true; the input reads as it did. -/
def innovTwoSpec : ChangeSpec := { name := "innovTwo", fn := fun _ => fun
  | [d1, d2] => { results := [.lit (.bool true)], args := [d1, d2] }
  | _ => none }
def innovTwoRow : OpenClaim := { program := "ytfcfdofmgkpmbaagreatdoor", sum := "93f8abad9bbce5cef3ccbbf6b03d459e7162638361498f3829e909773820c84e", func := "ablaut/ablautlaw31.InnovTwo", spec := "innovTwo", inPlace := ["internal/bytealg.IndexByteString", "internal/bytealg.IndexString", "internal/abi.NoEscape"], unfollowed := true, recurses := true, named := ["math/bits.deBruijn64tab", "unicode/utf8.first", "unicode/utf8.acceptRanges", "internal/bytealg.MaxLen"], apart := false, laid := [("math/bits.deBruijn64tab", laid_math_bits_deBruijn64tab), ("unicode/utf8.acceptRanges", laid_unicode_utf8_acceptRanges), ("unicode/utf8.first", laid_unicode_utf8_first)] }
def InnovTwoSaid : Prop := innovTwoRow.holds Tryz.pinned (OpenSpec.ofChange innovTwoSpec)

/-- ITS FALSE NEIGHBOUR: 'it returns false'. Refute it at one input. -/
def innovTwoWrong : ChangeSpec := { name := "innovTwo", fn := fun _ => fun
  | [d1, d2] => { results := [.lit (.bool false)], args := [d1, d2] }
  | _ => none }
def InnovTwoWrongFalsely : Prop := innovTwoRow.holds Tryz.pinned (OpenSpec.ofChange innovTwoWrong)

/- THE SECOND FORM. 'bulk': how many values and letters a reading holds, each counted each time it is reached (what is shared counts as often as it is met; a slice's spare places count too). A statement '..UptoSaid' is the law's where the arguments, and the package variables that the reading takes, are together of bulk at most 1048576: NARROWER than '..Said'. Prove '..Said' where nothing that the law and all that it calls make is longer than what came in: it says more and counts as full. Else prove '..UptoSaid'. A law counts once. -/
mutual
def uptoBulk {H : Type} : DataW H → Nat
  | .lit (.string bytes) => bytes.length + 1
  | .lit _ => 1
  | .nil => 1
  | .ptr d => uptoBulk d + 1
  | .slice elems spare => uptoBulkAll elems + uptoBulkAll spare + 1
  | .agg parts => uptoBulkAll parts + 1
  | .iface _ d => uptoBulk d + 1
  | .map entries => uptoBulkEntries entries + 1
  | .held _ => 1
def uptoBulkAll {H : Type} : List (DataW H) → Nat
  | [] => 0
  | d :: r => uptoBulk d + uptoBulkAll r
def uptoBulkEntries {H : Type} : List (Lit × DataW H) → Nat
  | [] => 0
  | x :: r => uptoBulkEntry x + uptoBulkEntries r
def uptoBulkEntry {H : Type} : Lit × DataW H → Nat
  | (.string bytes, d) => bytes.length + uptoBulk d + 1
  | (_, d) => uptoBulk d + 1
 end
def uptoSmall : (H : Type) → List (DataW H) → Bool := fun _ ds => decide (uptoBulkAll ds ≤ 1048576)
def OpenSpec.upto (s : _root_.Go.ChangeSpec) : _root_.Go.OpenSpec := { _root_.Go.OpenSpec.ofChange s with cond := some uptoSmall }

/-- 'ablautlaw31.InnovChecks', WHERE WHAT IT READS IS OF BULK AT MOST 1048576: true; the input reads as it did. -/
def innovChecksUptoRow : OpenClaim := { program := "ytfcfdofmgkpmbaagreatdoor", sum := "93f8abad9bbce5cef3ccbbf6b03d459e7162638361498f3829e909773820c84e", func := "ablaut/ablautlaw31.InnovChecks", spec := "innovChecks", inPlace := ["internal/bytealg.IndexByteString", "internal/bytealg.IndexString", "internal/abi.NoEscape"], unfollowed := true, recurses := true, named := ["math/bits.deBruijn64tab", "unicode/utf8.first", "unicode/utf8.acceptRanges", "internal/bytealg.MaxLen"], apart := false, laid := [("math/bits.deBruijn64tab", laid_math_bits_deBruijn64tab), ("unicode/utf8.acceptRanges", laid_unicode_utf8_acceptRanges), ("unicode/utf8.first", laid_unicode_utf8_first)], narrowed := true }
def InnovChecksUptoSaid : Prop := innovChecksUptoRow.holds Tryz.pinned (OpenSpec.upto innovChecksSpec)

/-- 'ablautlaw31.InnovOnly', WHERE WHAT IT READS IS OF BULK AT MOST 1048576: true; the input reads as it did. -/
def innovOnlyUptoRow : OpenClaim := { program := "ytfcfdofmgkpmbaagreatdoor", sum := "93f8abad9bbce5cef3ccbbf6b03d459e7162638361498f3829e909773820c84e", func := "ablaut/ablautlaw31.InnovOnly", spec := "innovOnly", inPlace := ["internal/bytealg.IndexByteString", "internal/bytealg.IndexString", "internal/abi.NoEscape"], unfollowed := true, recurses := true, named := ["math/bits.deBruijn64tab", "unicode/utf8.first", "unicode/utf8.acceptRanges", "internal/bytealg.MaxLen"], apart := false, laid := [("math/bits.deBruijn64tab", laid_math_bits_deBruijn64tab), ("unicode/utf8.acceptRanges", laid_unicode_utf8_acceptRanges), ("unicode/utf8.first", laid_unicode_utf8_first)], narrowed := true }
def InnovOnlyUptoSaid : Prop := innovOnlyUptoRow.holds Tryz.pinned (OpenSpec.upto innovOnlySpec)

/-- 'ablautlaw31.InnovFrom', WHERE WHAT IT READS IS OF BULK AT MOST 1048576: true; the input reads as it did. -/
def innovFromUptoRow : OpenClaim := { program := "ytfcfdofmgkpmbaagreatdoor", sum := "93f8abad9bbce5cef3ccbbf6b03d459e7162638361498f3829e909773820c84e", func := "ablaut/ablautlaw31.InnovFrom", spec := "innovFrom", inPlace := ["internal/bytealg.IndexByteString", "internal/bytealg.IndexString", "internal/abi.NoEscape"], unfollowed := true, recurses := true, named := ["math/bits.deBruijn64tab", "unicode/utf8.first", "unicode/utf8.acceptRanges", "internal/bytealg.MaxLen"], loops := true, apart := false, laid := [("math/bits.deBruijn64tab", laid_math_bits_deBruijn64tab), ("unicode/utf8.acceptRanges", laid_unicode_utf8_acceptRanges), ("unicode/utf8.first", laid_unicode_utf8_first)], narrowed := true }
def InnovFromUptoSaid : Prop := innovFromUptoRow.holds Tryz.pinned (OpenSpec.upto innovFromSpec)

/-- 'ablautlaw31.InnovWords', WHERE WHAT IT READS IS OF BULK AT MOST 1048576: true; the input reads as it did. -/
def innovWordsUptoRow : OpenClaim := { program := "ytfcfdofmgkpmbaagreatdoor", sum := "93f8abad9bbce5cef3ccbbf6b03d459e7162638361498f3829e909773820c84e", func := "ablaut/ablautlaw31.InnovWords", spec := "innovWords", inPlace := ["internal/bytealg.IndexByteString", "internal/bytealg.IndexString", "internal/abi.NoEscape"], unfollowed := true, recurses := true, named := ["math/bits.deBruijn64tab", "unicode/utf8.first", "unicode/utf8.acceptRanges", "internal/bytealg.MaxLen"], loops := true, apart := false, laid := [("math/bits.deBruijn64tab", laid_math_bits_deBruijn64tab), ("unicode/utf8.acceptRanges", laid_unicode_utf8_acceptRanges), ("unicode/utf8.first", laid_unicode_utf8_first)], narrowed := true }
def InnovWordsUptoSaid : Prop := innovWordsUptoRow.holds Tryz.pinned (OpenSpec.upto innovWordsSpec)

/-- 'ablautlaw31.InnovPairs', WHERE WHAT IT READS IS OF BULK AT MOST 1048576: true; the input reads as it did. -/
def innovPairsUptoRow : OpenClaim := { program := "ytfcfdofmgkpmbaagreatdoor", sum := "93f8abad9bbce5cef3ccbbf6b03d459e7162638361498f3829e909773820c84e", func := "ablaut/ablautlaw31.InnovPairs", spec := "innovPairs", inPlace := ["internal/bytealg.IndexByteString", "internal/bytealg.IndexString", "internal/abi.NoEscape"], unfollowed := true, recurses := true, named := ["math/bits.deBruijn64tab", "unicode/utf8.first", "unicode/utf8.acceptRanges", "internal/bytealg.MaxLen"], apart := false, laid := [("math/bits.deBruijn64tab", laid_math_bits_deBruijn64tab), ("unicode/utf8.acceptRanges", laid_unicode_utf8_acceptRanges), ("unicode/utf8.first", laid_unicode_utf8_first)], narrowed := true }
def InnovPairsUptoSaid : Prop := innovPairsUptoRow.holds Tryz.pinned (OpenSpec.upto innovPairsSpec)

/-- 'ablautlaw31.InnovClasses', WHERE WHAT IT READS IS OF BULK AT MOST 1048576: true; the input reads as it did. -/
def innovClassesUptoRow : OpenClaim := { program := "ytfcfdofmgkpmbaagreatdoor", sum := "93f8abad9bbce5cef3ccbbf6b03d459e7162638361498f3829e909773820c84e", func := "ablaut/ablautlaw31.InnovClasses", spec := "innovClasses", inPlace := ["internal/bytealg.IndexByteString", "internal/bytealg.IndexString", "internal/abi.NoEscape"], unfollowed := true, recurses := true, named := ["unicode/utf8.first", "unicode/utf8.acceptRanges", "math/bits.deBruijn64tab", "internal/bytealg.MaxLen"], loops := true, apart := false, laid := [("math/bits.deBruijn64tab", laid_math_bits_deBruijn64tab), ("unicode/utf8.acceptRanges", laid_unicode_utf8_acceptRanges), ("unicode/utf8.first", laid_unicode_utf8_first)], narrowed := true }
def InnovClassesUptoSaid : Prop := innovClassesUptoRow.holds Tryz.pinned (OpenSpec.upto innovClassesSpec)

/-- 'ablautlaw31.InnovParts', WHERE WHAT IT READS IS OF BULK AT MOST 1048576: true; the input reads as it did. -/
def innovPartsUptoRow : OpenClaim := { program := "ytfcfdofmgkpmbaagreatdoor", sum := "93f8abad9bbce5cef3ccbbf6b03d459e7162638361498f3829e909773820c84e", func := "ablaut/ablautlaw31.InnovParts", spec := "innovParts", inPlace := ["internal/bytealg.IndexByteString", "internal/bytealg.IndexString", "internal/abi.NoEscape"], unfollowed := true, recurses := true, named := ["math/bits.deBruijn64tab", "unicode/utf8.first", "unicode/utf8.acceptRanges", "internal/bytealg.MaxLen"], apart := false, laid := [("math/bits.deBruijn64tab", laid_math_bits_deBruijn64tab), ("unicode/utf8.acceptRanges", laid_unicode_utf8_acceptRanges), ("unicode/utf8.first", laid_unicode_utf8_first)], narrowed := true }
def InnovPartsUptoSaid : Prop := innovPartsUptoRow.holds Tryz.pinned (OpenSpec.upto innovPartsSpec)

/-- 'ablautlaw31.InnovNumbers', WHERE WHAT IT READS IS OF BULK AT MOST 1048576: true; the input reads as it did. -/
def innovNumbersUptoRow : OpenClaim := { program := "ytfcfdofmgkpmbaagreatdoor", sum := "93f8abad9bbce5cef3ccbbf6b03d459e7162638361498f3829e909773820c84e", func := "ablaut/ablautlaw31.InnovNumbers", spec := "innovNumbers", inPlace := ["internal/bytealg.IndexByteString", "internal/bytealg.IndexString", "internal/abi.NoEscape"], unfollowed := true, recurses := true, named := ["math/bits.deBruijn64tab", "unicode/utf8.first", "unicode/utf8.acceptRanges", "internal/bytealg.MaxLen"], apart := false, laid := [("math/bits.deBruijn64tab", laid_math_bits_deBruijn64tab), ("unicode/utf8.acceptRanges", laid_unicode_utf8_acceptRanges), ("unicode/utf8.first", laid_unicode_utf8_first)], narrowed := true }
def InnovNumbersUptoSaid : Prop := innovNumbersUptoRow.holds Tryz.pinned (OpenSpec.upto innovNumbersSpec)

/-- 'ablautlaw31.InnovClades', WHERE WHAT IT READS IS OF BULK AT MOST 1048576: true; the input reads as it did. -/
def innovCladesUptoRow : OpenClaim := { program := "ytfcfdofmgkpmbaagreatdoor", sum := "93f8abad9bbce5cef3ccbbf6b03d459e7162638361498f3829e909773820c84e", func := "ablaut/ablautlaw31.InnovClades", spec := "innovClades", inPlace := ["internal/bytealg.IndexByteString", "internal/bytealg.IndexString", "internal/abi.NoEscape"], unfollowed := true, recurses := true, named := ["unicode/utf8.first", "unicode/utf8.acceptRanges", "math/bits.deBruijn64tab", "internal/bytealg.MaxLen"], loops := true, apart := false, laid := [("math/bits.deBruijn64tab", laid_math_bits_deBruijn64tab), ("unicode/utf8.acceptRanges", laid_unicode_utf8_acceptRanges), ("unicode/utf8.first", laid_unicode_utf8_first)], narrowed := true }
def InnovCladesUptoSaid : Prop := innovCladesUptoRow.holds Tryz.pinned (OpenSpec.upto innovCladesSpec)

/-- 'ablautlaw31.InnovMany', WHERE WHAT IT READS IS OF BULK AT MOST 1048576: true; the input reads as it did. -/
def innovManyUptoRow : OpenClaim := { program := "ytfcfdofmgkpmbaagreatdoor", sum := "93f8abad9bbce5cef3ccbbf6b03d459e7162638361498f3829e909773820c84e", func := "ablaut/ablautlaw31.InnovMany", spec := "innovMany", inPlace := ["internal/bytealg.IndexByteString", "internal/bytealg.IndexString", "internal/abi.NoEscape"], unfollowed := true, recurses := true, named := ["unicode/utf8.first", "unicode/utf8.acceptRanges", "math/bits.deBruijn64tab", "internal/bytealg.MaxLen"], apart := false, laid := [("math/bits.deBruijn64tab", laid_math_bits_deBruijn64tab), ("unicode/utf8.acceptRanges", laid_unicode_utf8_acceptRanges), ("unicode/utf8.first", laid_unicode_utf8_first)], narrowed := true }
def InnovManyUptoSaid : Prop := innovManyUptoRow.holds Tryz.pinned (OpenSpec.upto innovManySpec)

/-- 'ablautlaw31.InnovTwo', WHERE WHAT IT READS IS OF BULK AT MOST 1048576: true; the input reads as it did. -/
def innovTwoUptoRow : OpenClaim := { program := "ytfcfdofmgkpmbaagreatdoor", sum := "93f8abad9bbce5cef3ccbbf6b03d459e7162638361498f3829e909773820c84e", func := "ablaut/ablautlaw31.InnovTwo", spec := "innovTwo", inPlace := ["internal/bytealg.IndexByteString", "internal/bytealg.IndexString", "internal/abi.NoEscape"], unfollowed := true, recurses := true, named := ["math/bits.deBruijn64tab", "unicode/utf8.first", "unicode/utf8.acceptRanges", "internal/bytealg.MaxLen"], apart := false, laid := [("math/bits.deBruijn64tab", laid_math_bits_deBruijn64tab), ("unicode/utf8.acceptRanges", laid_unicode_utf8_acceptRanges), ("unicode/utf8.first", laid_unicode_utf8_first)], narrowed := true }
def InnovTwoUptoSaid : Prop := innovTwoUptoRow.holds Tryz.pinned (OpenSpec.upto innovTwoSpec)

end Rows
end Go.Proofs.YtfcfdofmgkpmbaaGreatDoor
