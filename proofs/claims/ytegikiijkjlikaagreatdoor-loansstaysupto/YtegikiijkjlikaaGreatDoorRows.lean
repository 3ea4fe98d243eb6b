/-
  NARROWER THAN 'FOR EVERY INPUT', by the rows' own cells (each row's printed sentence says how): LoansPlaces: loops, laid · LoansMissed: loops, laid · LoansEnds: loops, laid · LoansWithout: loops, laid · LoansRests: loops, laid · LoansDates: loops, laid · LoansStays: loops, laid · LoansLast: loops, laid · LoansLayers: loops, laid · LoansDonors: loops, laid · LoansSuspect: loops, laid.
  DERIVED. THE GIVEN ROWS OF THIS SEAT. 11 by the template 'for every input the law returns true; each argument reads behind the call as it read before'; 0 by the template 'total and deterministic' (their statements: YtegikiijkjlikaaGreatDoorTotals.lean).
  GIVEN WITH THE SEED: the statements are not yours to turn. If you find one false, say at which input.
  Laid BY PROGRAM, IN A SANDBOX (cutbox-rows.mjs): the forced cells as the released guide's own fill.sh prints them over the translation 7c6972df1d7d3b82… (all of the seat's roots in one cut). By AI agents, Wed Nov 11 2026. No macro, syntax, notation, axiom, sorry.
-/
import Derived.Test.YtegikiijkjlikaaGreatDoorChecked
import GoSem.PinnedTables
import GoSem.Claim
import GoSem.ClaimJoined
import GoSem.ClaimMapViews
import Derived.JoinedTies
import Derived.KernelRfl
namespace Go.Proofs.YtegikiijkjlikaaGreatDoor
/- THE CELL 'sum', in the pinned program and in every row, IS THE sha256 OF THE DUMP (.gsa) THAT YtegikiijkjlikaaGreatDoorProg.lean LOADS. Nothing in Lean hashes anything: it is a label: what it is worth is what the hold of that sum in a sandbox is worth. -/
noncomputable def Tryz.pinned : Pinned := { name := "ytegikiijkjlikaagreatdoor", sum := "7c6972df1d7d3b8203e62e5002b3fed8e951dd9f05c29f32828d9de04368133d", checked := Tryz.checked }
namespace Rows
def none {H : Type} : Left H := { results := [], args := [] }

/- WHAT THE LISTED PACKAGE-LEVEL VARIABLES READ AS WHEN THE CALL BEGINS. Each datum BY PROGRAM (the guide's laid-datum.mjs) off the statement by which the dump's own 'gosem.cut.vars' lays the variable. In a bare row this is a premise. The card (YtegikiijkjlikaaGreatDoorCards.lean) ties it to the program's text. -/
def laid_math_bits_deBruijn64tab {H : Type} : DataW H := .agg [.lit (.int .u8 0), .lit (.int .u8 1), .lit (.int .u8 56), .lit (.int .u8 2), .lit (.int .u8 57), .lit (.int .u8 49), .lit (.int .u8 28), .lit (.int .u8 3), .lit (.int .u8 61), .lit (.int .u8 58), .lit (.int .u8 42), .lit (.int .u8 50), .lit (.int .u8 38), .lit (.int .u8 29), .lit (.int .u8 17), .lit (.int .u8 4), .lit (.int .u8 62), .lit (.int .u8 47), .lit (.int .u8 59), .lit (.int .u8 36), .lit (.int .u8 45), .lit (.int .u8 43), .lit (.int .u8 51), .lit (.int .u8 22), .lit (.int .u8 53), .lit (.int .u8 39), .lit (.int .u8 33), .lit (.int .u8 30), .lit (.int .u8 24), .lit (.int .u8 18), .lit (.int .u8 12), .lit (.int .u8 5), .lit (.int .u8 63), .lit (.int .u8 55), .lit (.int .u8 48), .lit (.int .u8 27), .lit (.int .u8 60), .lit (.int .u8 41), .lit (.int .u8 37), .lit (.int .u8 16), .lit (.int .u8 46), .lit (.int .u8 35), .lit (.int .u8 44), .lit (.int .u8 21), .lit (.int .u8 52), .lit (.int .u8 32), .lit (.int .u8 23), .lit (.int .u8 11), .lit (.int .u8 54), .lit (.int .u8 26), .lit (.int .u8 40), .lit (.int .u8 15), .lit (.int .u8 34), .lit (.int .u8 20), .lit (.int .u8 31), .lit (.int .u8 10), .lit (.int .u8 25), .lit (.int .u8 14), .lit (.int .u8 19), .lit (.int .u8 9), .lit (.int .u8 13), .lit (.int .u8 8), .lit (.int .u8 7), .lit (.int .u8 6)]
def laid_unicode_utf8_acceptRanges {H : Type} : DataW H := .agg [.agg [.lit (.int .u8 128), .lit (.int .u8 191)], .agg [.lit (.int .u8 160), .lit (.int .u8 191)], .agg [.lit (.int .u8 128), .lit (.int .u8 159)], .agg [.lit (.int .u8 144), .lit (.int .u8 191)], .agg [.lit (.int .u8 128), .lit (.int .u8 143)], .agg [.lit (.int .u8 0), .lit (.int .u8 0)], .agg [.lit (.int .u8 0), .lit (.int .u8 0)], .agg [.lit (.int .u8 0), .lit (.int .u8 0)], .agg [.lit (.int .u8 0), .lit (.int .u8 0)], .agg [.lit (.int .u8 0), .lit (.int .u8 0)], .agg [.lit (.int .u8 0), .lit (.int .u8 0)], .agg [.lit (.int .u8 0), .lit (.int .u8 0)], .agg [.lit (.int .u8 0), .lit (.int .u8 0)], .agg [.lit (.int .u8 0), .lit (.int .u8 0)], .agg [.lit (.int .u8 0), .lit (.int .u8 0)], .agg [.lit (.int .u8 0), .lit (.int .u8 0)]]
/-- One of Go's own tables, pinned by name: the form's constant. -/
def laid_unicode_utf8_first : DataW Unit := Go.Pinned.utf8First

/-- 'ablautlaw28.LoansPlaces': WHATEVER THE INPUT: true; the input reads as it did. -/
def loansPlacesSpec : ChangeSpec := { name := "loansPlaces", fn := fun _ => fun
  | [d1, d2, d3] => { results := [.lit (.bool true)], args := [d1, d2, d3] }
  | _ => none }
def loansPlacesRow : OpenClaim := { program := "ytegikiijkjlikaagreatdoor", sum := "7c6972df1d7d3b8203e62e5002b3fed8e951dd9f05c29f32828d9de04368133d", func := "ablaut/ablautlaw28.LoansPlaces", spec := "loansPlaces", inPlace := ["internal/bytealg.IndexByteString", "internal/bytealg.IndexString"], unfollowed := true, recurses := true, named := ["unicode/utf8.first", "unicode/utf8.acceptRanges", "math/bits.deBruijn64tab", "internal/bytealg.MaxLen"], loops := true, apart := false, laid := [("math/bits.deBruijn64tab", laid_math_bits_deBruijn64tab), ("unicode/utf8.acceptRanges", laid_unicode_utf8_acceptRanges), ("unicode/utf8.first", laid_unicode_utf8_first)] }
def LoansPlacesSaid : Prop := loansPlacesRow.holds Tryz.pinned (OpenSpec.ofChange loansPlacesSpec)

/-- ITS FALSE NEIGHBOUR: 'it returns false'. Refute it at one input. -/
def loansPlacesWrong : ChangeSpec := { name := "loansPlaces", fn := fun _ => fun
  | [d1, d2, d3] => { results := [.lit (.bool false)], args := [d1, d2, d3] }
  | _ => none }
def LoansPlacesWrongFalsely : Prop := loansPlacesRow.holds Tryz.pinned (OpenSpec.ofChange loansPlacesWrong)

/-- 'ablautlaw28.LoansMissed': WHATEVER THE INPUT: true; the input reads as it did. -/
def loansMissedSpec : ChangeSpec := { name := "loansMissed", fn := fun _ => fun
  | [d1, d2, d3] => { results := [.lit (.bool true)], args := [d1, d2, d3] }
  | _ => none }
def loansMissedRow : OpenClaim := { program := "ytegikiijkjlikaagreatdoor", sum := "7c6972df1d7d3b8203e62e5002b3fed8e951dd9f05c29f32828d9de04368133d", func := "ablaut/ablautlaw28.LoansMissed", spec := "loansMissed", inPlace := ["internal/bytealg.IndexByteString", "internal/bytealg.IndexString"], unfollowed := true, recurses := true, named := ["unicode/utf8.first", "unicode/utf8.acceptRanges", "math/bits.deBruijn64tab", "internal/bytealg.MaxLen"], loops := true, apart := false, laid := [("math/bits.deBruijn64tab", laid_math_bits_deBruijn64tab), ("unicode/utf8.acceptRanges", laid_unicode_utf8_acceptRanges), ("unicode/utf8.first", laid_unicode_utf8_first)] }
def LoansMissedSaid : Prop := loansMissedRow.holds Tryz.pinned (OpenSpec.ofChange loansMissedSpec)

/-- ITS FALSE NEIGHBOUR: 'it returns false'. Refute it at one input. -/
def loansMissedWrong : ChangeSpec := { name := "loansMissed", fn := fun _ => fun
  | [d1, d2, d3] => { results := [.lit (.bool false)], args := [d1, d2, d3] }
  | _ => none }
def LoansMissedWrongFalsely : Prop := loansMissedRow.holds Tryz.pinned (OpenSpec.ofChange loansMissedWrong)

/-- 'ablautlaw28.LoansEnds': WHATEVER THE INPUT: true; the input reads as it did. -/
def loansEndsSpec : ChangeSpec := { name := "loansEnds", fn := fun _ => fun
  | [d1, d2, d3] => { results := [.lit (.bool true)], args := [d1, d2, d3] }
  | _ => none }
def loansEndsRow : OpenClaim := { program := "ytegikiijkjlikaagreatdoor", sum := "7c6972df1d7d3b8203e62e5002b3fed8e951dd9f05c29f32828d9de04368133d", func := "ablaut/ablautlaw28.LoansEnds", spec := "loansEnds", inPlace := ["internal/bytealg.IndexByteString", "internal/bytealg.IndexString"], unfollowed := true, recurses := true, named := ["unicode/utf8.first", "unicode/utf8.acceptRanges", "math/bits.deBruijn64tab", "internal/bytealg.MaxLen"], loops := true, apart := false, laid := [("math/bits.deBruijn64tab", laid_math_bits_deBruijn64tab), ("unicode/utf8.acceptRanges", laid_unicode_utf8_acceptRanges), ("unicode/utf8.first", laid_unicode_utf8_first)] }
def LoansEndsSaid : Prop := loansEndsRow.holds Tryz.pinned (OpenSpec.ofChange loansEndsSpec)

/-- ITS FALSE NEIGHBOUR: 'it returns false'. Refute it at one input. -/
def loansEndsWrong : ChangeSpec := { name := "loansEnds", fn := fun _ => fun
  | [d1, d2, d3] => { results := [.lit (.bool false)], args := [d1, d2, d3] }
  | _ => none }
def LoansEndsWrongFalsely : Prop := loansEndsRow.holds Tryz.pinned (OpenSpec.ofChange loansEndsWrong)

/-- 'ablautlaw28.LoansWithout': WHATEVER THE INPUT: true; the input reads as it did. -/
def loansWithoutSpec : ChangeSpec := { name := "loansWithout", fn := fun _ => fun
  | [d1, d2, d3] => { results := [.lit (.bool true)], args := [d1, d2, d3] }
  | _ => none }
def loansWithoutRow : OpenClaim := { program := "ytegikiijkjlikaagreatdoor", sum := "7c6972df1d7d3b8203e62e5002b3fed8e951dd9f05c29f32828d9de04368133d", func := "ablaut/ablautlaw28.LoansWithout", spec := "loansWithout", inPlace := ["internal/bytealg.IndexByteString", "internal/bytealg.IndexString"], unfollowed := true, recurses := true, named := ["unicode/utf8.first", "unicode/utf8.acceptRanges", "math/bits.deBruijn64tab", "internal/bytealg.MaxLen"], loops := true, apart := false, laid := [("math/bits.deBruijn64tab", laid_math_bits_deBruijn64tab), ("unicode/utf8.acceptRanges", laid_unicode_utf8_acceptRanges), ("unicode/utf8.first", laid_unicode_utf8_first)] }
def LoansWithoutSaid : Prop := loansWithoutRow.holds Tryz.pinned (OpenSpec.ofChange loansWithoutSpec)

/-- ITS FALSE NEIGHBOUR: 'it returns false'. Refute it at one input. -/
def loansWithoutWrong : ChangeSpec := { name := "loansWithout", fn := fun _ => fun
  | [d1, d2, d3] => { results := [.lit (.bool false)], args := [d1, d2, d3] }
  | _ => none }
def LoansWithoutWrongFalsely : Prop := loansWithoutRow.holds Tryz.pinned (OpenSpec.ofChange loansWithoutWrong)

/-- 'ablautlaw28.LoansRests': WHATEVER THE INPUT: true; the input reads as it did. -/
def loansRestsSpec : ChangeSpec := { name := "loansRests", fn := fun _ => fun
  | [d1, d2, d3, d4] => { results := [.lit (.bool true)], args := [d1, d2, d3, d4] }
  | _ => none }
def loansRestsRow : OpenClaim := { program := "ytegikiijkjlikaagreatdoor", sum := "7c6972df1d7d3b8203e62e5002b3fed8e951dd9f05c29f32828d9de04368133d", func := "ablaut/ablautlaw28.LoansRests", spec := "loansRests", inPlace := ["internal/bytealg.IndexByteString", "internal/bytealg.IndexString"], unfollowed := true, recurses := true, named := ["unicode/utf8.first", "unicode/utf8.acceptRanges", "math/bits.deBruijn64tab", "internal/bytealg.MaxLen"], loops := true, apart := false, laid := [("math/bits.deBruijn64tab", laid_math_bits_deBruijn64tab), ("unicode/utf8.acceptRanges", laid_unicode_utf8_acceptRanges), ("unicode/utf8.first", laid_unicode_utf8_first)] }
def LoansRestsSaid : Prop := loansRestsRow.holds Tryz.pinned (OpenSpec.ofChange loansRestsSpec)

/-- ITS FALSE NEIGHBOUR: 'it returns false'. Refute it at one input. -/
def loansRestsWrong : ChangeSpec := { name := "loansRests", fn := fun _ => fun
  | [d1, d2, d3, d4] => { results := [.lit (.bool false)], args := [d1, d2, d3, d4] }
  | _ => none }
def LoansRestsWrongFalsely : Prop := loansRestsRow.holds Tryz.pinned (OpenSpec.ofChange loansRestsWrong)

/-- 'ablautlaw28.LoansDates': WHATEVER THE INPUT: true; the input reads as it did. -/
def loansDatesSpec : ChangeSpec := { name := "loansDates", fn := fun _ => fun
  | [d1, d2, d3] => { results := [.lit (.bool true)], args := [d1, d2, d3] }
  | _ => none }
def loansDatesRow : OpenClaim := { program := "ytegikiijkjlikaagreatdoor", sum := "7c6972df1d7d3b8203e62e5002b3fed8e951dd9f05c29f32828d9de04368133d", func := "ablaut/ablautlaw28.LoansDates", spec := "loansDates", inPlace := ["internal/bytealg.IndexByteString", "internal/bytealg.IndexString"], unfollowed := true, recurses := true, named := ["unicode/utf8.first", "unicode/utf8.acceptRanges", "math/bits.deBruijn64tab", "internal/bytealg.MaxLen"], loops := true, apart := false, laid := [("math/bits.deBruijn64tab", laid_math_bits_deBruijn64tab), ("unicode/utf8.acceptRanges", laid_unicode_utf8_acceptRanges), ("unicode/utf8.first", laid_unicode_utf8_first)] }
def LoansDatesSaid : Prop := loansDatesRow.holds Tryz.pinned (OpenSpec.ofChange loansDatesSpec)

/-- ITS FALSE NEIGHBOUR: 'it returns false'. Refute it at one input. -/
def loansDatesWrong : ChangeSpec := { name := "loansDates", fn := fun _ => fun
  | [d1, d2, d3] => { results := [.lit (.bool false)], args := [d1, d2, d3] }
  | _ => none }
def LoansDatesWrongFalsely : Prop := loansDatesRow.holds Tryz.pinned (OpenSpec.ofChange loansDatesWrong)

/-- 'ablautlaw28.LoansStays': WHATEVER THE INPUT: true; the input reads as it did. -/
def loansStaysSpec : ChangeSpec := { name := "loansStays", fn := fun _ => fun
  | [d1, d2] => { results := [.lit (.bool true)], args := [d1, d2] }
  | _ => none }
def loansStaysRow : OpenClaim := { program := "ytegikiijkjlikaagreatdoor", sum := "7c6972df1d7d3b8203e62e5002b3fed8e951dd9f05c29f32828d9de04368133d", func := "ablaut/ablautlaw28.LoansStays", spec := "loansStays", inPlace := ["internal/bytealg.IndexByteString", "internal/bytealg.IndexString"], unfollowed := true, recurses := true, named := ["unicode/utf8.first", "unicode/utf8.acceptRanges", "math/bits.deBruijn64tab", "internal/bytealg.MaxLen"], loops := true, apart := false, laid := [("math/bits.deBruijn64tab", laid_math_bits_deBruijn64tab), ("unicode/utf8.acceptRanges", laid_unicode_utf8_acceptRanges), ("unicode/utf8.first", laid_unicode_utf8_first)] }
def LoansStaysSaid : Prop := loansStaysRow.holds Tryz.pinned (OpenSpec.ofChange loansStaysSpec)

/-- ITS FALSE NEIGHBOUR: 'it returns false'. Refute it at one input. -/
def loansStaysWrong : ChangeSpec := { name := "loansStays", fn := fun _ => fun
  | [d1, d2] => { results := [.lit (.bool false)], args := [d1, d2] }
  | _ => none }
def LoansStaysWrongFalsely : Prop := loansStaysRow.holds Tryz.pinned (OpenSpec.ofChange loansStaysWrong)

/-- 'ablautlaw28.LoansLast': WHATEVER THE INPUT: true; the input reads as it did. -/
def loansLastSpec : ChangeSpec := { name := "loansLast", fn := fun _ => fun
  | [d1, d2] => { results := [.lit (.bool true)], args := [d1, d2] }
  | _ => none }
def loansLastRow : OpenClaim := { program := "ytegikiijkjlikaagreatdoor", sum := "7c6972df1d7d3b8203e62e5002b3fed8e951dd9f05c29f32828d9de04368133d", func := "ablaut/ablautlaw28.LoansLast", spec := "loansLast", inPlace := ["internal/bytealg.IndexByteString", "internal/bytealg.IndexString"], unfollowed := true, recurses := true, named := ["unicode/utf8.first", "unicode/utf8.acceptRanges", "math/bits.deBruijn64tab", "internal/bytealg.MaxLen"], loops := true, apart := false, laid := [("math/bits.deBruijn64tab", laid_math_bits_deBruijn64tab), ("unicode/utf8.acceptRanges", laid_unicode_utf8_acceptRanges), ("unicode/utf8.first", laid_unicode_utf8_first)] }
def LoansLastSaid : Prop := loansLastRow.holds Tryz.pinned (OpenSpec.ofChange loansLastSpec)

/-- ITS FALSE NEIGHBOUR: 'it returns false'. Refute it at one input. -/
def loansLastWrong : ChangeSpec := { name := "loansLast", fn := fun _ => fun
  | [d1, d2] => { results := [.lit (.bool false)], args := [d1, d2] }
  | _ => none }
def LoansLastWrongFalsely : Prop := loansLastRow.holds Tryz.pinned (OpenSpec.ofChange loansLastWrong)

/-- 'ablautlaw28.LoansLayers': WHATEVER THE INPUT: true; the input reads as it did. -/
def loansLayersSpec : ChangeSpec := { name := "loansLayers", fn := fun _ => fun
  | [d1, d2] => { results := [.lit (.bool true)], args := [d1, d2] }
  | _ => none }
def loansLayersRow : OpenClaim := { program := "ytegikiijkjlikaagreatdoor", sum := "7c6972df1d7d3b8203e62e5002b3fed8e951dd9f05c29f32828d9de04368133d", func := "ablaut/ablautlaw28.LoansLayers", spec := "loansLayers", inPlace := ["internal/bytealg.IndexByteString", "internal/bytealg.IndexString"], unfollowed := true, recurses := true, named := ["unicode/utf8.first", "unicode/utf8.acceptRanges", "math/bits.deBruijn64tab", "internal/bytealg.MaxLen"], loops := true, apart := false, laid := [("math/bits.deBruijn64tab", laid_math_bits_deBruijn64tab), ("unicode/utf8.acceptRanges", laid_unicode_utf8_acceptRanges), ("unicode/utf8.first", laid_unicode_utf8_first)] }
def LoansLayersSaid : Prop := loansLayersRow.holds Tryz.pinned (OpenSpec.ofChange loansLayersSpec)

/-- ITS FALSE NEIGHBOUR: 'it returns false'. Refute it at one input. -/
def loansLayersWrong : ChangeSpec := { name := "loansLayers", fn := fun _ => fun
  | [d1, d2] => { results := [.lit (.bool false)], args := [d1, d2] }
  | _ => none }
def LoansLayersWrongFalsely : Prop := loansLayersRow.holds Tryz.pinned (OpenSpec.ofChange loansLayersWrong)

/-- 'ablautlaw28.LoansDonors': WHATEVER THE INPUT: true; the input reads as it did. -/
def loansDonorsSpec : ChangeSpec := { name := "loansDonors", fn := fun _ => fun
  | [d1, d2, d3] => { results := [.lit (.bool true)], args := [d1, d2, d3] }
  | _ => none }
def loansDonorsRow : OpenClaim := { program := "ytegikiijkjlikaagreatdoor", sum := "7c6972df1d7d3b8203e62e5002b3fed8e951dd9f05c29f32828d9de04368133d", func := "ablaut/ablautlaw28.LoansDonors", spec := "loansDonors", inPlace := ["internal/bytealg.IndexByteString", "internal/bytealg.IndexString"], unfollowed := true, recurses := true, named := ["unicode/utf8.first", "unicode/utf8.acceptRanges", "math/bits.deBruijn64tab", "internal/bytealg.MaxLen"], loops := true, apart := false, laid := [("math/bits.deBruijn64tab", laid_math_bits_deBruijn64tab), ("unicode/utf8.acceptRanges", laid_unicode_utf8_acceptRanges), ("unicode/utf8.first", laid_unicode_utf8_first)] }
def LoansDonorsSaid : Prop := loansDonorsRow.holds Tryz.pinned (OpenSpec.ofChange loansDonorsSpec)

/-- ITS FALSE NEIGHBOUR: 'it returns false'. Refute it at one input. -/
def loansDonorsWrong : ChangeSpec := { name := "loansDonors", fn := fun _ => fun
  | [d1, d2, d3] => { results := [.lit (.bool false)], args := [d1, d2, d3] }
  | _ => none }
def LoansDonorsWrongFalsely : Prop := loansDonorsRow.holds Tryz.pinned (OpenSpec.ofChange loansDonorsWrong)

/-- 'ablautlaw28.LoansSuspect': WHATEVER THE INPUT: true; the input reads as it did. -/
def loansSuspectSpec : ChangeSpec := { name := "loansSuspect", fn := fun _ => fun
  | [d1, d2, d3] => { results := [.lit (.bool true)], args := [d1, d2, d3] }
  | _ => none }
def loansSuspectRow : OpenClaim := { program := "ytegikiijkjlikaagreatdoor", sum := "7c6972df1d7d3b8203e62e5002b3fed8e951dd9f05c29f32828d9de04368133d", func := "ablaut/ablautlaw28.LoansSuspect", spec := "loansSuspect", inPlace := ["internal/bytealg.IndexByteString", "internal/bytealg.IndexString"], unfollowed := true, recurses := true, named := ["unicode/utf8.first", "unicode/utf8.acceptRanges", "math/bits.deBruijn64tab", "internal/bytealg.MaxLen"], loops := true, apart := false, laid := [("math/bits.deBruijn64tab", laid_math_bits_deBruijn64tab), ("unicode/utf8.acceptRanges", laid_unicode_utf8_acceptRanges), ("unicode/utf8.first", laid_unicode_utf8_first)] }
def LoansSuspectSaid : Prop := loansSuspectRow.holds Tryz.pinned (OpenSpec.ofChange loansSuspectSpec)

/-- ITS FALSE NEIGHBOUR: 'it returns false'. Refute it at one input. -/
def loansSuspectWrong : ChangeSpec := { name := "loansSuspect", fn := fun _ => fun
  | [d1, d2, d3] => { results := [.lit (.bool false)], args := [d1, d2, d3] }
  | _ => none }
def LoansSuspectWrongFalsely : Prop := loansSuspectRow.holds Tryz.pinned (OpenSpec.ofChange loansSuspectWrong)

/- THE SECOND FORM. 'bulk': how many values and letters a reading holds, each counted each time it is reached (what is shared counts as often as it is met; a slice's spare places count too). A statement '..UptoSaid' is the law's where the arguments, and the package variables that the reading takes, are together of bulk at most 1048576: NARROWER than '..Said'. Prove '..Said' where nothing that the law and all that it calls make is longer than what came in: it says more and counts as full. Else prove '..UptoSaid'. A law counts once. -/
mutual
def uptoBulk {H : Type} : DataW H → Nat
  | .lit (.string bytes) => bytes.length + 1
  | .lit _ => 1
  | .nil => 1
  | .ptr d => uptoBulk d + 1
  | .slice elems spare => uptoBulkAll elems + uptoBulkAll spare + 1
  | .agg parts => uptoBulkAll parts + 1
  | .iface _ d => uptoBulk d + 1
  | .map entries => uptoBulkEntries entries + 1
  | .held _ => 1
def uptoBulkAll {H : Type} : List (DataW H) → Nat
  | [] => 0
  | d :: r => uptoBulk d + uptoBulkAll r
def uptoBulkEntries {H : Type} : List (Lit × DataW H) → Nat
  | [] => 0
  | x :: r => uptoBulkEntry x + uptoBulkEntries r
def uptoBulkEntry {H : Type} : Lit × DataW H → Nat
  | (.string bytes, d) => bytes.length + uptoBulk d + 1
  | (_, d) => uptoBulk d + 1
 end
def uptoSmall : (H : Type) → List (DataW H) → Bool := fun _ ds => decide (uptoBulkAll ds ≤ 1048576)
def OpenSpec.upto (s : _root_.Go.ChangeSpec) : _root_.Go.OpenSpec := { _root_.Go.OpenSpec.ofChange s with cond := some uptoSmall }

/-- 'ablautlaw28.LoansPlaces', WHERE WHAT IT READS IS OF BULK AT MOST 1048576: true; the input reads as it did. -/
def loansPlacesUptoRow : OpenClaim := { program := "ytegikiijkjlikaagreatdoor", sum := "7c6972df1d7d3b8203e62e5002b3fed8e951dd9f05c29f32828d9de04368133d", func := "ablaut/ablautlaw28.LoansPlaces", spec := "loansPlaces", inPlace := ["internal/bytealg.IndexByteString", "internal/bytealg.IndexString"], unfollowed := true, recurses := true, named := ["unicode/utf8.first", "unicode/utf8.acceptRanges", "math/bits.deBruijn64tab", "internal/bytealg.MaxLen"], loops := true, apart := false, laid := [("math/bits.deBruijn64tab", laid_math_bits_deBruijn64tab), ("unicode/utf8.acceptRanges", laid_unicode_utf8_acceptRanges), ("unicode/utf8.first", laid_unicode_utf8_first)], narrowed := true }
def LoansPlacesUptoSaid : Prop := loansPlacesUptoRow.holds Tryz.pinned (OpenSpec.upto loansPlacesSpec)

/-- 'ablautlaw28.LoansMissed', WHERE WHAT IT READS IS OF BULK AT MOST 1048576: true; the input reads as it did. -/
def loansMissedUptoRow : OpenClaim := { program := "ytegikiijkjlikaagreatdoor", sum := "7c6972df1d7d3b8203e62e5002b3fed8e951dd9f05c29f32828d9de04368133d", func := "ablaut/ablautlaw28.LoansMissed", spec := "loansMissed", inPlace := ["internal/bytealg.IndexByteString", "internal/bytealg.IndexString"], unfollowed := true, recurses := true, named := ["unicode/utf8.first", "unicode/utf8.acceptRanges", "math/bits.deBruijn64tab", "internal/bytealg.MaxLen"], loops := true, apart := false, laid := [("math/bits.deBruijn64tab", laid_math_bits_deBruijn64tab), ("unicode/utf8.acceptRanges", laid_unicode_utf8_acceptRanges), ("unicode/utf8.first", laid_unicode_utf8_first)], narrowed := true }
def LoansMissedUptoSaid : Prop := loansMissedUptoRow.holds Tryz.pinned (OpenSpec.upto loansMissedSpec)

/-- 'ablautlaw28.LoansEnds', WHERE WHAT IT READS IS OF BULK AT MOST 1048576: true; the input reads as it did. -/
def loansEndsUptoRow : OpenClaim := { program := "ytegikiijkjlikaagreatdoor", sum := "7c6972df1d7d3b8203e62e5002b3fed8e951dd9f05c29f32828d9de04368133d", func := "ablaut/ablautlaw28.LoansEnds", spec := "loansEnds", inPlace := ["internal/bytealg.IndexByteString", "internal/bytealg.IndexString"], unfollowed := true, recurses := true, named := ["unicode/utf8.first", "unicode/utf8.acceptRanges", "math/bits.deBruijn64tab", "internal/bytealg.MaxLen"], loops := true, apart := false, laid := [("math/bits.deBruijn64tab", laid_math_bits_deBruijn64tab), ("unicode/utf8.acceptRanges", laid_unicode_utf8_acceptRanges), ("unicode/utf8.first", laid_unicode_utf8_first)], narrowed := true }
def LoansEndsUptoSaid : Prop := loansEndsUptoRow.holds Tryz.pinned (OpenSpec.upto loansEndsSpec)

/-- 'ablautlaw28.LoansWithout', WHERE WHAT IT READS IS OF BULK AT MOST 1048576: true; the input reads as it did. -/
def loansWithoutUptoRow : OpenClaim := { program := "ytegikiijkjlikaagreatdoor", sum := "7c6972df1d7d3b8203e62e5002b3fed8e951dd9f05c29f32828d9de04368133d", func := "ablaut/ablautlaw28.LoansWithout", spec := "loansWithout", inPlace := ["internal/bytealg.IndexByteString", "internal/bytealg.IndexString"], unfollowed := true, recurses := true, named := ["unicode/utf8.first", "unicode/utf8.acceptRanges", "math/bits.deBruijn64tab", "internal/bytealg.MaxLen"], loops := true, apart := false, laid := [("math/bits.deBruijn64tab", laid_math_bits_deBruijn64tab), ("unicode/utf8.acceptRanges", laid_unicode_utf8_acceptRanges), ("unicode/utf8.first", laid_unicode_utf8_first)], narrowed := true }
def LoansWithoutUptoSaid : Prop := loansWithoutUptoRow.holds Tryz.pinned (OpenSpec.upto loansWithoutSpec)

/-- 'ablautlaw28.LoansRests', WHERE WHAT IT READS IS OF BULK AT MOST 1048576: true; the input reads as it did. -/
def loansRestsUptoRow : OpenClaim := { program := "ytegikiijkjlikaagreatdoor", sum := "7c6972df1d7d3b8203e62e5002b3fed8e951dd9f05c29f32828d9de04368133d", func := "ablaut/ablautlaw28.LoansRests", spec := "loansRests", inPlace := ["internal/bytealg.IndexByteString", "internal/bytealg.IndexString"], unfollowed := true, recurses := true, named := ["unicode/utf8.first", "unicode/utf8.acceptRanges", "math/bits.deBruijn64tab", "internal/bytealg.MaxLen"], loops := true, apart := false, laid := [("math/bits.deBruijn64tab", laid_math_bits_deBruijn64tab), ("unicode/utf8.acceptRanges", laid_unicode_utf8_acceptRanges), ("unicode/utf8.first", laid_unicode_utf8_first)], narrowed := true }
def LoansRestsUptoSaid : Prop := loansRestsUptoRow.holds Tryz.pinned (OpenSpec.upto loansRestsSpec)

/-- 'ablautlaw28.LoansDates', WHERE WHAT IT READS IS OF BULK AT MOST 1048576: true; the input reads as it did. -/
def loansDatesUptoRow : OpenClaim := { program := "ytegikiijkjlikaagreatdoor", sum := "7c6972df1d7d3b8203e62e5002b3fed8e951dd9f05c29f32828d9de04368133d", func := "ablaut/ablautlaw28.LoansDates", spec := "loansDates", inPlace := ["internal/bytealg.IndexByteString", "internal/bytealg.IndexString"], unfollowed := true, recurses := true, named := ["unicode/utf8.first", "unicode/utf8.acceptRanges", "math/bits.deBruijn64tab", "internal/bytealg.MaxLen"], loops := true, apart := false, laid := [("math/bits.deBruijn64tab", laid_math_bits_deBruijn64tab), ("unicode/utf8.acceptRanges", laid_unicode_utf8_acceptRanges), ("unicode/utf8.first", laid_unicode_utf8_first)], narrowed := true }
def LoansDatesUptoSaid : Prop := loansDatesUptoRow.holds Tryz.pinned (OpenSpec.upto loansDatesSpec)

/-- 'ablautlaw28.LoansStays', WHERE WHAT IT READS IS OF BULK AT MOST 1048576: true; the input reads as it did. -/
def loansStaysUptoRow : OpenClaim := { program := "ytegikiijkjlikaagreatdoor", sum := "7c6972df1d7d3b8203e62e5002b3fed8e951dd9f05c29f32828d9de04368133d", func := "ablaut/ablautlaw28.LoansStays", spec := "loansStays", inPlace := ["internal/bytealg.IndexByteString", "internal/bytealg.IndexString"], unfollowed := true, recurses := true, named := ["unicode/utf8.first", "unicode/utf8.acceptRanges", "math/bits.deBruijn64tab", "internal/bytealg.MaxLen"], loops := true, apart := false, laid := [("math/bits.deBruijn64tab", laid_math_bits_deBruijn64tab), ("unicode/utf8.acceptRanges", laid_unicode_utf8_acceptRanges), ("unicode/utf8.first", laid_unicode_utf8_first)], narrowed := true }
def LoansStaysUptoSaid : Prop := loansStaysUptoRow.holds Tryz.pinned (OpenSpec.upto loansStaysSpec)

/-- 'ablautlaw28.LoansLast', WHERE WHAT IT READS IS OF BULK AT MOST 1048576: true; the input reads as it did. -/
def loansLastUptoRow : OpenClaim := { program := "ytegikiijkjlikaagreatdoor", sum := "7c6972df1d7d3b8203e62e5002b3fed8e951dd9f05c29f32828d9de04368133d", func := "ablaut/ablautlaw28.LoansLast", spec := "loansLast", inPlace := ["internal/bytealg.IndexByteString", "internal/bytealg.IndexString"], unfollowed := true, recurses := true, named := ["unicode/utf8.first", "unicode/utf8.acceptRanges", "math/bits.deBruijn64tab", "internal/bytealg.MaxLen"], loops := true, apart := false, laid := [("math/bits.deBruijn64tab", laid_math_bits_deBruijn64tab), ("unicode/utf8.acceptRanges", laid_unicode_utf8_acceptRanges), ("unicode/utf8.first", laid_unicode_utf8_first)], narrowed := true }
def LoansLastUptoSaid : Prop := loansLastUptoRow.holds Tryz.pinned (OpenSpec.upto loansLastSpec)

/-- 'ablautlaw28.LoansLayers', WHERE WHAT IT READS IS OF BULK AT MOST 1048576: true; the input reads as it did. -/
def loansLayersUptoRow : OpenClaim := { program := "ytegikiijkjlikaagreatdoor", sum := "7c6972df1d7d3b8203e62e5002b3fed8e951dd9f05c29f32828d9de04368133d", func := "ablaut/ablautlaw28.LoansLayers", spec := "loansLayers", inPlace := ["internal/bytealg.IndexByteString", "internal/bytealg.IndexString"], unfollowed := true, recurses := true, named := ["unicode/utf8.first", "unicode/utf8.acceptRanges", "math/bits.deBruijn64tab", "internal/bytealg.MaxLen"], loops := true, apart := false, laid := [("math/bits.deBruijn64tab", laid_math_bits_deBruijn64tab), ("unicode/utf8.acceptRanges", laid_unicode_utf8_acceptRanges), ("unicode/utf8.first", laid_unicode_utf8_first)], narrowed := true }
def LoansLayersUptoSaid : Prop := loansLayersUptoRow.holds Tryz.pinned (OpenSpec.upto loansLayersSpec)

/-- 'ablautlaw28.LoansDonors', WHERE WHAT IT READS IS OF BULK AT MOST 1048576: true; the input reads as it did. -/
def loansDonorsUptoRow : OpenClaim := { program := "ytegikiijkjlikaagreatdoor", sum := "7c6972df1d7d3b8203e62e5002b3fed8e951dd9f05c29f32828d9de04368133d", func := "ablaut/ablautlaw28.LoansDonors", spec := "loansDonors", inPlace := ["internal/bytealg.IndexByteString", "internal/bytealg.IndexString"], unfollowed := true, recurses := true, named := ["unicode/utf8.first", "unicode/utf8.acceptRanges", "math/bits.deBruijn64tab", "internal/bytealg.MaxLen"], loops := true, apart := false, laid := [("math/bits.deBruijn64tab", laid_math_bits_deBruijn64tab), ("unicode/utf8.acceptRanges", laid_unicode_utf8_acceptRanges), ("unicode/utf8.first", laid_unicode_utf8_first)], narrowed := true }
def LoansDonorsUptoSaid : Prop := loansDonorsUptoRow.holds Tryz.pinned (OpenSpec.upto loansDonorsSpec)

/-- 'ablautlaw28.LoansSuspect', WHERE WHAT IT READS IS OF BULK AT MOST 1048576: true; the input reads as it did. -/
def loansSuspectUptoRow : OpenClaim := { program := "ytegikiijkjlikaagreatdoor", sum := "7c6972df1d7d3b8203e62e5002b3fed8e951dd9f05c29f32828d9de04368133d", func := "ablaut/ablautlaw28.LoansSuspect", spec := "loansSuspect", inPlace := ["internal/bytealg.IndexByteString", "internal/bytealg.IndexString"], unfollowed := true, recurses := true, named := ["unicode/utf8.first", "unicode/utf8.acceptRanges", "math/bits.deBruijn64tab", "internal/bytealg.MaxLen"], loops := true, apart := false, laid := [("math/bits.deBruijn64tab", laid_math_bits_deBruijn64tab), ("unicode/utf8.acceptRanges", laid_unicode_utf8_acceptRanges), ("unicode/utf8.first", laid_unicode_utf8_first)], narrowed := true }
def LoansSuspectUptoSaid : Prop := loansSuspectUptoRow.holds Tryz.pinned (OpenSpec.upto loansSuspectSpec)

end Rows
end Go.Proofs.YtegikiijkjlikaaGreatDoor
