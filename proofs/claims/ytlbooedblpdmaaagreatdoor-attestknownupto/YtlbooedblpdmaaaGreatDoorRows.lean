/-
  NARROWER THAN 'FOR EVERY INPUT', by the rows' own cells (each row's printed sentence says how): AttestBads: loops, laid · AttestLaws: loops, laid · AttestBests: loops, laid · AttestNeeds: loops, laid · AttestApart: loops, laid · AttestCosts: laid · AttestExplains: loops, laid · AttestNamed: loops, laid · AttestKnown: laid · AttestRegular: loops, laid · AttestMade: loops, laid.
  DERIVED. THE GIVEN ROWS OF THIS SEAT. 11 by the template 'for every input the law returns true; each argument reads behind the call as it read before'; 0 by the template 'total and deterministic' (their statements: YtlbooedblpdmaaaGreatDoorTotals.lean).
  GIVEN WITH THE SEED: the statements are not yours to turn. If you find one false, say at which input.
  Laid BY PROGRAM, IN A SANDBOX (cutbox-rows.mjs): the forced cells as the released guide's own fill.sh prints them over the translation d3b042503aa37c15… (all of the seat's roots in one cut). By AI agents, Wed Nov 11 2026. No macro, syntax, notation, axiom, sorry.
-/
import Derived.Test.YtlbooedblpdmaaaGreatDoorChecked
import GoSem.PinnedTables
import GoSem.Claim
import GoSem.ClaimJoined
import GoSem.ClaimMapViews
import Derived.JoinedTies
import Derived.KernelRfl
namespace Go.Proofs.YtlbooedblpdmaaaGreatDoor
/- THE CELL 'sum', in the pinned program and in every row, IS THE sha256 OF THE DUMP (.gsa) THAT YtlbooedblpdmaaaGreatDoorProg.lean LOADS. Nothing in Lean hashes anything: it is a label: what it is worth is what the hold of that sum in a sandbox is worth. -/
noncomputable def Tryz.pinned : Pinned := { name := "ytlbooedblpdmaaagreatdoor", sum := "d3b042503aa37c15fb65773f166e61caec37a02cb5323752a150d602f2ef3562", checked := Tryz.checked }
namespace Rows
def none {H : Type} : Left H := { results := [], args := [] }

/- WHAT THE LISTED PACKAGE-LEVEL VARIABLES READ AS WHEN THE CALL BEGINS. Each datum BY PROGRAM (the guide's laid-datum.mjs) off the statement by which the dump's own 'gosem.cut.vars' lays the variable. In a bare row this is a premise. The card (YtlbooedblpdmaaaGreatDoorCards.lean) ties it to the program's text. -/
def laid_math_bits_deBruijn64tab {H : Type} : DataW H := .agg [.lit (.int .u8 0), .lit (.int .u8 1), .lit (.int .u8 56), .lit (.int .u8 2), .lit (.int .u8 57), .lit (.int .u8 49), .lit (.int .u8 28), .lit (.int .u8 3), .lit (.int .u8 61), .lit (.int .u8 58), .lit (.int .u8 42), .lit (.int .u8 50), .lit (.int .u8 38), .lit (.int .u8 29), .lit (.int .u8 17), .lit (.int .u8 4), .lit (.int .u8 62), .lit (.int .u8 47), .lit (.int .u8 59), .lit (.int .u8 36), .lit (.int .u8 45), .lit (.int .u8 43), .lit (.int .u8 51), .lit (.int .u8 22), .lit (.int .u8 53), .lit (.int .u8 39), .lit (.int .u8 33), .lit (.int .u8 30), .lit (.int .u8 24), .lit (.int .u8 18), .lit (.int .u8 12), .lit (.int .u8 5), .lit (.int .u8 63), .lit (.int .u8 55), .lit (.int .u8 48), .lit (.int .u8 27), .lit (.int .u8 60), .lit (.int .u8 41), .lit (.int .u8 37), .lit (.int .u8 16), .lit (.int .u8 46), .lit (.int .u8 35), .lit (.int .u8 44), .lit (.int .u8 21), .lit (.int .u8 52), .lit (.int .u8 32), .lit (.int .u8 23), .lit (.int .u8 11), .lit (.int .u8 54), .lit (.int .u8 26), .lit (.int .u8 40), .lit (.int .u8 15), .lit (.int .u8 34), .lit (.int .u8 20), .lit (.int .u8 31), .lit (.int .u8 10), .lit (.int .u8 25), .lit (.int .u8 14), .lit (.int .u8 19), .lit (.int .u8 9), .lit (.int .u8 13), .lit (.int .u8 8), .lit (.int .u8 7), .lit (.int .u8 6)]
def laid_unicode_utf8_acceptRanges {H : Type} : DataW H := .agg [.agg [.lit (.int .u8 128), .lit (.int .u8 191)], .agg [.lit (.int .u8 160), .lit (.int .u8 191)], .agg [.lit (.int .u8 128), .lit (.int .u8 159)], .agg [.lit (.int .u8 144), .lit (.int .u8 191)], .agg [.lit (.int .u8 128), .lit (.int .u8 143)], .agg [.lit (.int .u8 0), .lit (.int .u8 0)], .agg [.lit (.int .u8 0), .lit (.int .u8 0)], .agg [.lit (.int .u8 0), .lit (.int .u8 0)], .agg [.lit (.int .u8 0), .lit (.int .u8 0)], .agg [.lit (.int .u8 0), .lit (.int .u8 0)], .agg [.lit (.int .u8 0), .lit (.int .u8 0)], .agg [.lit (.int .u8 0), .lit (.int .u8 0)], .agg [.lit (.int .u8 0), .lit (.int .u8 0)], .agg [.lit (.int .u8 0), .lit (.int .u8 0)], .agg [.lit (.int .u8 0), .lit (.int .u8 0)], .agg [.lit (.int .u8 0), .lit (.int .u8 0)]]
/-- One of Go's own tables, pinned by name: the form's constant. -/
def laid_unicode_utf8_first : DataW Unit := Go.Pinned.utf8First

/-- 'ablautlaw26.AttestBads': WHATEVER THE INPUT: true; the input reads as it did. -/
def attestBadsSpec : ChangeSpec := { name := "attestBads", fn := fun _ => fun
  | [d1, d2, d3, d4] => { results := [.lit (.bool true)], args := [d1, d2, d3, d4] }
  | _ => none }
def attestBadsRow : OpenClaim := { program := "ytlbooedblpdmaaagreatdoor", sum := "d3b042503aa37c15fb65773f166e61caec37a02cb5323752a150d602f2ef3562", func := "ablaut/ablautlaw26.AttestBads", spec := "attestBads", inPlace := ["internal/bytealg.IndexByteString", "internal/bytealg.IndexString"], unfollowed := true, recurses := true, named := ["unicode/utf8.first", "unicode/utf8.acceptRanges", "math/bits.deBruijn64tab", "internal/bytealg.MaxLen"], loops := true, plainKeys := false, apart := false, laid := [("math/bits.deBruijn64tab", laid_math_bits_deBruijn64tab), ("unicode/utf8.acceptRanges", laid_unicode_utf8_acceptRanges), ("unicode/utf8.first", laid_unicode_utf8_first)] }
def AttestBadsSaid : Prop := attestBadsRow.holds Tryz.pinned (OpenSpec.ofChange attestBadsSpec)

/-- ITS FALSE NEIGHBOUR: 'it returns false'. Refute it at one input. -/
def attestBadsWrong : ChangeSpec := { name := "attestBads", fn := fun _ => fun
  | [d1, d2, d3, d4] => { results := [.lit (.bool false)], args := [d1, d2, d3, d4] }
  | _ => none }
def AttestBadsWrongFalsely : Prop := attestBadsRow.holds Tryz.pinned (OpenSpec.ofChange attestBadsWrong)

/-- 'ablautlaw26.AttestLaws': WHATEVER THE INPUT: true; the input reads as it did. -/
def attestLawsSpec : ChangeSpec := { name := "attestLaws", fn := fun _ => fun
  | [d1, d2, d3] => { results := [.lit (.bool true)], args := [d1, d2, d3] }
  | _ => none }
def attestLawsRow : OpenClaim := { program := "ytlbooedblpdmaaagreatdoor", sum := "d3b042503aa37c15fb65773f166e61caec37a02cb5323752a150d602f2ef3562", func := "ablaut/ablautlaw26.AttestLaws", spec := "attestLaws", inPlace := ["internal/bytealg.IndexByteString", "internal/bytealg.IndexString"], unfollowed := true, recurses := true, named := ["unicode/utf8.first", "unicode/utf8.acceptRanges", "math/bits.deBruijn64tab", "internal/bytealg.MaxLen"], loops := true, plainKeys := false, apart := false, laid := [("math/bits.deBruijn64tab", laid_math_bits_deBruijn64tab), ("unicode/utf8.acceptRanges", laid_unicode_utf8_acceptRanges), ("unicode/utf8.first", laid_unicode_utf8_first)] }
def AttestLawsSaid : Prop := attestLawsRow.holds Tryz.pinned (OpenSpec.ofChange attestLawsSpec)

/-- ITS FALSE NEIGHBOUR: 'it returns false'. Refute it at one input. -/
def attestLawsWrong : ChangeSpec := { name := "attestLaws", fn := fun _ => fun
  | [d1, d2, d3] => { results := [.lit (.bool false)], args := [d1, d2, d3] }
  | _ => none }
def AttestLawsWrongFalsely : Prop := attestLawsRow.holds Tryz.pinned (OpenSpec.ofChange attestLawsWrong)

/-- 'ablautlaw26.AttestBests': WHATEVER THE INPUT: true; the input reads as it did. -/
def attestBestsSpec : ChangeSpec := { name := "attestBests", fn := fun _ => fun
  | [d1, d2, d3] => { results := [.lit (.bool true)], args := [d1, d2, d3] }
  | _ => none }
def attestBestsRow : OpenClaim := { program := "ytlbooedblpdmaaagreatdoor", sum := "d3b042503aa37c15fb65773f166e61caec37a02cb5323752a150d602f2ef3562", func := "ablaut/ablautlaw26.AttestBests", spec := "attestBests", inPlace := ["internal/bytealg.IndexByteString", "internal/bytealg.IndexString"], unfollowed := true, recurses := true, named := ["unicode/utf8.first", "unicode/utf8.acceptRanges", "math/bits.deBruijn64tab", "internal/bytealg.MaxLen"], loops := true, plainKeys := false, apart := false, laid := [("math/bits.deBruijn64tab", laid_math_bits_deBruijn64tab), ("unicode/utf8.acceptRanges", laid_unicode_utf8_acceptRanges), ("unicode/utf8.first", laid_unicode_utf8_first)] }
def AttestBestsSaid : Prop := attestBestsRow.holds Tryz.pinned (OpenSpec.ofChange attestBestsSpec)

/-- ITS FALSE NEIGHBOUR: 'it returns false'. Refute it at one input. -/
def attestBestsWrong : ChangeSpec := { name := "attestBests", fn := fun _ => fun
  | [d1, d2, d3] => { results := [.lit (.bool false)], args := [d1, d2, d3] }
  | _ => none }
def AttestBestsWrongFalsely : Prop := attestBestsRow.holds Tryz.pinned (OpenSpec.ofChange attestBestsWrong)

/-- 'ablautlaw26.AttestNeeds': WHATEVER THE INPUT: true; the input reads as it did. -/
def attestNeedsSpec : ChangeSpec := { name := "attestNeeds", fn := fun _ => fun
  | [d1, d2, d3] => { results := [.lit (.bool true)], args := [d1, d2, d3] }
  | _ => none }
def attestNeedsRow : OpenClaim := { program := "ytlbooedblpdmaaagreatdoor", sum := "d3b042503aa37c15fb65773f166e61caec37a02cb5323752a150d602f2ef3562", func := "ablaut/ablautlaw26.AttestNeeds", spec := "attestNeeds", inPlace := ["internal/bytealg.IndexByteString", "internal/bytealg.IndexString"], unfollowed := true, recurses := true, named := ["unicode/utf8.first", "unicode/utf8.acceptRanges", "math/bits.deBruijn64tab", "internal/bytealg.MaxLen"], loops := true, plainKeys := false, apart := false, laid := [("math/bits.deBruijn64tab", laid_math_bits_deBruijn64tab), ("unicode/utf8.acceptRanges", laid_unicode_utf8_acceptRanges), ("unicode/utf8.first", laid_unicode_utf8_first)] }
def AttestNeedsSaid : Prop := attestNeedsRow.holds Tryz.pinned (OpenSpec.ofChange attestNeedsSpec)

/-- ITS FALSE NEIGHBOUR: 'it returns false'. Refute it at one input. -/
def attestNeedsWrong : ChangeSpec := { name := "attestNeeds", fn := fun _ => fun
  | [d1, d2, d3] => { results := [.lit (.bool false)], args := [d1, d2, d3] }
  | _ => none }
def AttestNeedsWrongFalsely : Prop := attestNeedsRow.holds Tryz.pinned (OpenSpec.ofChange attestNeedsWrong)

/-- 'ablautlaw26.AttestApart': WHATEVER THE INPUT: true; the input reads as it did. -/
def attestApartSpec : ChangeSpec := { name := "attestApart", fn := fun _ => fun
  | [d1, d2, d3, d4] => { results := [.lit (.bool true)], args := [d1, d2, d3, d4] }
  | _ => none }
def attestApartRow : OpenClaim := { program := "ytlbooedblpdmaaagreatdoor", sum := "d3b042503aa37c15fb65773f166e61caec37a02cb5323752a150d602f2ef3562", func := "ablaut/ablautlaw26.AttestApart", spec := "attestApart", inPlace := ["internal/bytealg.IndexByteString", "internal/bytealg.IndexString"], unfollowed := true, recurses := true, named := ["unicode/utf8.first", "unicode/utf8.acceptRanges", "math/bits.deBruijn64tab", "internal/bytealg.MaxLen"], loops := true, plainKeys := false, apart := false, laid := [("math/bits.deBruijn64tab", laid_math_bits_deBruijn64tab), ("unicode/utf8.acceptRanges", laid_unicode_utf8_acceptRanges), ("unicode/utf8.first", laid_unicode_utf8_first)] }
def AttestApartSaid : Prop := attestApartRow.holds Tryz.pinned (OpenSpec.ofChange attestApartSpec)

/-- ITS FALSE NEIGHBOUR: 'it returns false'. Refute it at one input. -/
def attestApartWrong : ChangeSpec := { name := "attestApart", fn := fun _ => fun
  | [d1, d2, d3, d4] => { results := [.lit (.bool false)], args := [d1, d2, d3, d4] }
  | _ => none }
def AttestApartWrongFalsely : Prop := attestApartRow.holds Tryz.pinned (OpenSpec.ofChange attestApartWrong)

/-- 'ablautlaw26.AttestCosts': WHATEVER THE INPUT: true; the input reads as it did. -/
def attestCostsSpec : ChangeSpec := { name := "attestCosts", fn := fun _ => fun
  | [d] => { results := [.lit (.bool true)], args := [d] }
  | _ => none }
def attestCostsRow : OpenClaim := { program := "ytlbooedblpdmaaagreatdoor", sum := "d3b042503aa37c15fb65773f166e61caec37a02cb5323752a150d602f2ef3562", func := "ablaut/ablautlaw26.AttestCosts", spec := "attestCosts", inPlace := ["internal/bytealg.IndexByteString", "internal/bytealg.IndexString"], unfollowed := true, recurses := true, named := ["unicode/utf8.first", "unicode/utf8.acceptRanges", "math/bits.deBruijn64tab", "internal/bytealg.MaxLen"], plainKeys := false, apart := false, laid := [("math/bits.deBruijn64tab", laid_math_bits_deBruijn64tab), ("unicode/utf8.acceptRanges", laid_unicode_utf8_acceptRanges), ("unicode/utf8.first", laid_unicode_utf8_first)] }
def AttestCostsSaid : Prop := attestCostsRow.holds Tryz.pinned (OpenSpec.ofChange attestCostsSpec)

/-- ITS FALSE NEIGHBOUR: 'it returns false'. Refute it at one input. -/
def attestCostsWrong : ChangeSpec := { name := "attestCosts", fn := fun _ => fun
  | [d] => { results := [.lit (.bool false)], args := [d] }
  | _ => none }
def AttestCostsWrongFalsely : Prop := attestCostsRow.holds Tryz.pinned (OpenSpec.ofChange attestCostsWrong)

/-- 'ablautlaw26.AttestExplains': WHATEVER THE INPUT: true; the input reads as it did. -/
def attestExplainsSpec : ChangeSpec := { name := "attestExplains", fn := fun _ => fun
  | [d1, d2, d3, d4, d5] => { results := [.lit (.bool true)], args := [d1, d2, d3, d4, d5] }
  | _ => none }
def attestExplainsRow : OpenClaim := { program := "ytlbooedblpdmaaagreatdoor", sum := "d3b042503aa37c15fb65773f166e61caec37a02cb5323752a150d602f2ef3562", func := "ablaut/ablautlaw26.AttestExplains", spec := "attestExplains", inPlace := ["internal/bytealg.IndexByteString", "internal/bytealg.IndexString"], unfollowed := true, recurses := true, named := ["unicode/utf8.first", "unicode/utf8.acceptRanges", "math/bits.deBruijn64tab", "internal/bytealg.MaxLen"], loops := true, plainKeys := false, apart := false, laid := [("math/bits.deBruijn64tab", laid_math_bits_deBruijn64tab), ("unicode/utf8.acceptRanges", laid_unicode_utf8_acceptRanges), ("unicode/utf8.first", laid_unicode_utf8_first)] }
def AttestExplainsSaid : Prop := attestExplainsRow.holds Tryz.pinned (OpenSpec.ofChange attestExplainsSpec)

/-- ITS FALSE NEIGHBOUR: 'it returns false'. Refute it at one input. -/
def attestExplainsWrong : ChangeSpec := { name := "attestExplains", fn := fun _ => fun
  | [d1, d2, d3, d4, d5] => { results := [.lit (.bool false)], args := [d1, d2, d3, d4, d5] }
  | _ => none }
def AttestExplainsWrongFalsely : Prop := attestExplainsRow.holds Tryz.pinned (OpenSpec.ofChange attestExplainsWrong)

/-- 'ablautlaw26.AttestNamed': WHATEVER THE INPUT: true; the input reads as it did. -/
def attestNamedSpec : ChangeSpec := { name := "attestNamed", fn := fun _ => fun
  | [d1, d2, d3, d4] => { results := [.lit (.bool true)], args := [d1, d2, d3, d4] }
  | _ => none }
def attestNamedRow : OpenClaim := { program := "ytlbooedblpdmaaagreatdoor", sum := "d3b042503aa37c15fb65773f166e61caec37a02cb5323752a150d602f2ef3562", func := "ablaut/ablautlaw26.AttestNamed", spec := "attestNamed", inPlace := ["internal/bytealg.IndexByteString", "internal/bytealg.IndexString"], unfollowed := true, recurses := true, named := ["unicode/utf8.first", "unicode/utf8.acceptRanges", "math/bits.deBruijn64tab", "internal/bytealg.MaxLen"], loops := true, plainKeys := false, apart := false, laid := [("math/bits.deBruijn64tab", laid_math_bits_deBruijn64tab), ("unicode/utf8.acceptRanges", laid_unicode_utf8_acceptRanges), ("unicode/utf8.first", laid_unicode_utf8_first)] }
def AttestNamedSaid : Prop := attestNamedRow.holds Tryz.pinned (OpenSpec.ofChange attestNamedSpec)

/-- ITS FALSE NEIGHBOUR: 'it returns false'. Refute it at one input. -/
def attestNamedWrong : ChangeSpec := { name := "attestNamed", fn := fun _ => fun
  | [d1, d2, d3, d4] => { results := [.lit (.bool false)], args := [d1, d2, d3, d4] }
  | _ => none }
def AttestNamedWrongFalsely : Prop := attestNamedRow.holds Tryz.pinned (OpenSpec.ofChange attestNamedWrong)

/-- 'ablautlaw26.AttestKnown': WHATEVER THE INPUT: true; the input reads as it did. -/
def attestKnownSpec : ChangeSpec := { name := "attestKnown", fn := fun _ => fun
  | [] => { results := [.lit (.bool true)], args := [] }
  | _ => none }
def attestKnownRow : OpenClaim := { program := "ytlbooedblpdmaaagreatdoor", sum := "d3b042503aa37c15fb65773f166e61caec37a02cb5323752a150d602f2ef3562", func := "ablaut/ablautlaw26.AttestKnown", spec := "attestKnown", inPlace := ["internal/bytealg.IndexByteString", "internal/bytealg.IndexString"], unfollowed := true, recurses := true, named := ["unicode/utf8.first", "unicode/utf8.acceptRanges", "math/bits.deBruijn64tab", "internal/bytealg.MaxLen"], plainKeys := false, apart := false, laid := [("math/bits.deBruijn64tab", laid_math_bits_deBruijn64tab), ("unicode/utf8.acceptRanges", laid_unicode_utf8_acceptRanges), ("unicode/utf8.first", laid_unicode_utf8_first)] }
def AttestKnownSaid : Prop := attestKnownRow.holds Tryz.pinned (OpenSpec.ofChange attestKnownSpec)

/-- ITS FALSE NEIGHBOUR: 'it returns false'. Refute it at one input. -/
def attestKnownWrong : ChangeSpec := { name := "attestKnown", fn := fun _ => fun
  | [] => { results := [.lit (.bool false)], args := [] }
  | _ => none }
def AttestKnownWrongFalsely : Prop := attestKnownRow.holds Tryz.pinned (OpenSpec.ofChange attestKnownWrong)

/-- 'ablautlaw26.AttestRegular': WHATEVER THE INPUT: true; the input reads as it did. -/
def attestRegularSpec : ChangeSpec := { name := "attestRegular", fn := fun _ => fun
  | [d1, d2, d3, d4] => { results := [.lit (.bool true)], args := [d1, d2, d3, d4] }
  | _ => none }
def attestRegularRow : OpenClaim := { program := "ytlbooedblpdmaaagreatdoor", sum := "d3b042503aa37c15fb65773f166e61caec37a02cb5323752a150d602f2ef3562", func := "ablaut/ablautlaw26.AttestRegular", spec := "attestRegular", inPlace := ["internal/bytealg.IndexByteString", "internal/bytealg.IndexString"], unfollowed := true, recurses := true, named := ["unicode/utf8.first", "unicode/utf8.acceptRanges", "math/bits.deBruijn64tab", "internal/bytealg.MaxLen"], loops := true, plainKeys := false, apart := false, laid := [("math/bits.deBruijn64tab", laid_math_bits_deBruijn64tab), ("unicode/utf8.acceptRanges", laid_unicode_utf8_acceptRanges), ("unicode/utf8.first", laid_unicode_utf8_first)] }
def AttestRegularSaid : Prop := attestRegularRow.holds Tryz.pinned (OpenSpec.ofChange attestRegularSpec)

/-- ITS FALSE NEIGHBOUR: 'it returns false'. Refute it at one input. -/
def attestRegularWrong : ChangeSpec := { name := "attestRegular", fn := fun _ => fun
  | [d1, d2, d3, d4] => { results := [.lit (.bool false)], args := [d1, d2, d3, d4] }
  | _ => none }
def AttestRegularWrongFalsely : Prop := attestRegularRow.holds Tryz.pinned (OpenSpec.ofChange attestRegularWrong)

/-- 'ablautlaw26.AttestMade': WHATEVER THE INPUT: true; the input reads as it did. -/
def attestMadeSpec : ChangeSpec := { name := "attestMade", fn := fun _ => fun
  | [d1, d2] => { results := [.lit (.bool true)], args := [d1, d2] }
  | _ => none }
def attestMadeRow : OpenClaim := { program := "ytlbooedblpdmaaagreatdoor", sum := "d3b042503aa37c15fb65773f166e61caec37a02cb5323752a150d602f2ef3562", func := "ablaut/ablautlaw26.AttestMade", spec := "attestMade", inPlace := ["internal/bytealg.IndexByteString", "internal/bytealg.IndexString"], unfollowed := true, recurses := true, named := ["unicode/utf8.first", "unicode/utf8.acceptRanges", "math/bits.deBruijn64tab", "internal/bytealg.MaxLen"], loops := true, plainKeys := false, apart := false, laid := [("math/bits.deBruijn64tab", laid_math_bits_deBruijn64tab), ("unicode/utf8.acceptRanges", laid_unicode_utf8_acceptRanges), ("unicode/utf8.first", laid_unicode_utf8_first)] }
def AttestMadeSaid : Prop := attestMadeRow.holds Tryz.pinned (OpenSpec.ofChange attestMadeSpec)

/-- ITS FALSE NEIGHBOUR: 'it returns false'. Refute it at one input. -/
def attestMadeWrong : ChangeSpec := { name := "attestMade", fn := fun _ => fun
  | [d1, d2] => { results := [.lit (.bool false)], args := [d1, d2] }
  | _ => none }
def AttestMadeWrongFalsely : Prop := attestMadeRow.holds Tryz.pinned (OpenSpec.ofChange attestMadeWrong)

/- THE SECOND FORM. 'bulk': how many values and letters a reading holds, each counted each time it is reached (what is shared counts as often as it is met; a slice's spare places count too). A statement '..UptoSaid' is the law's where the arguments, and the package variables that the reading takes, are together of bulk at most 1048576: NARROWER than '..Said'. Prove '..Said' where nothing that the law and all that it calls make is longer than what came in: it says more and counts as full. Else prove '..UptoSaid'. A law counts once. -/
mutual
def uptoBulk {H : Type} : DataW H → Nat
  | .lit (.string bytes) => bytes.length + 1
  | .lit _ => 1
  | .nil => 1
  | .ptr d => uptoBulk d + 1
  | .slice elems spare => uptoBulkAll elems + uptoBulkAll spare + 1
  | .agg parts => uptoBulkAll parts + 1
  | .iface _ d => uptoBulk d + 1
  | .map entries => uptoBulkEntries entries + 1
  | .held _ => 1
def uptoBulkAll {H : Type} : List (DataW H) → Nat
  | [] => 0
  | d :: r => uptoBulk d + uptoBulkAll r
def uptoBulkEntries {H : Type} : List (Lit × DataW H) → Nat
  | [] => 0
  | x :: r => uptoBulkEntry x + uptoBulkEntries r
def uptoBulkEntry {H : Type} : Lit × DataW H → Nat
  | (.string bytes, d) => bytes.length + uptoBulk d + 1
  | (_, d) => uptoBulk d + 1
 end
def uptoSmall : (H : Type) → List (DataW H) → Bool := fun _ ds => decide (uptoBulkAll ds ≤ 1048576)
def OpenSpec.upto (s : _root_.Go.ChangeSpec) : _root_.Go.OpenSpec := { _root_.Go.OpenSpec.ofChange s with cond := some uptoSmall }

/-- 'ablautlaw26.AttestBads', WHERE WHAT IT READS IS OF BULK AT MOST 1048576: true; the input reads as it did. -/
def attestBadsUptoRow : OpenClaim := { program := "ytlbooedblpdmaaagreatdoor", sum := "d3b042503aa37c15fb65773f166e61caec37a02cb5323752a150d602f2ef3562", func := "ablaut/ablautlaw26.AttestBads", spec := "attestBads", inPlace := ["internal/bytealg.IndexByteString", "internal/bytealg.IndexString"], unfollowed := true, recurses := true, named := ["unicode/utf8.first", "unicode/utf8.acceptRanges", "math/bits.deBruijn64tab", "internal/bytealg.MaxLen"], loops := true, plainKeys := false, apart := false, laid := [("math/bits.deBruijn64tab", laid_math_bits_deBruijn64tab), ("unicode/utf8.acceptRanges", laid_unicode_utf8_acceptRanges), ("unicode/utf8.first", laid_unicode_utf8_first)], narrowed := true }
def AttestBadsUptoSaid : Prop := attestBadsUptoRow.holds Tryz.pinned (OpenSpec.upto attestBadsSpec)

/-- 'ablautlaw26.AttestLaws', WHERE WHAT IT READS IS OF BULK AT MOST 1048576: true; the input reads as it did. -/
def attestLawsUptoRow : OpenClaim := { program := "ytlbooedblpdmaaagreatdoor", sum := "d3b042503aa37c15fb65773f166e61caec37a02cb5323752a150d602f2ef3562", func := "ablaut/ablautlaw26.AttestLaws", spec := "attestLaws", inPlace := ["internal/bytealg.IndexByteString", "internal/bytealg.IndexString"], unfollowed := true, recurses := true, named := ["unicode/utf8.first", "unicode/utf8.acceptRanges", "math/bits.deBruijn64tab", "internal/bytealg.MaxLen"], loops := true, plainKeys := false, apart := false, laid := [("math/bits.deBruijn64tab", laid_math_bits_deBruijn64tab), ("unicode/utf8.acceptRanges", laid_unicode_utf8_acceptRanges), ("unicode/utf8.first", laid_unicode_utf8_first)], narrowed := true }
def AttestLawsUptoSaid : Prop := attestLawsUptoRow.holds Tryz.pinned (OpenSpec.upto attestLawsSpec)

/-- 'ablautlaw26.AttestBests', WHERE WHAT IT READS IS OF BULK AT MOST 1048576: true; the input reads as it did. -/
def attestBestsUptoRow : OpenClaim := { program := "ytlbooedblpdmaaagreatdoor", sum := "d3b042503aa37c15fb65773f166e61caec37a02cb5323752a150d602f2ef3562", func := "ablaut/ablautlaw26.AttestBests", spec := "attestBests", inPlace := ["internal/bytealg.IndexByteString", "internal/bytealg.IndexString"], unfollowed := true, recurses := true, named := ["unicode/utf8.first", "unicode/utf8.acceptRanges", "math/bits.deBruijn64tab", "internal/bytealg.MaxLen"], loops := true, plainKeys := false, apart := false, laid := [("math/bits.deBruijn64tab", laid_math_bits_deBruijn64tab), ("unicode/utf8.acceptRanges", laid_unicode_utf8_acceptRanges), ("unicode/utf8.first", laid_unicode_utf8_first)], narrowed := true }
def AttestBestsUptoSaid : Prop := attestBestsUptoRow.holds Tryz.pinned (OpenSpec.upto attestBestsSpec)

/-- 'ablautlaw26.AttestNeeds', WHERE WHAT IT READS IS OF BULK AT MOST 1048576: true; the input reads as it did. -/
def attestNeedsUptoRow : OpenClaim := { program := "ytlbooedblpdmaaagreatdoor", sum := "d3b042503aa37c15fb65773f166e61caec37a02cb5323752a150d602f2ef3562", func := "ablaut/ablautlaw26.AttestNeeds", spec := "attestNeeds", inPlace := ["internal/bytealg.IndexByteString", "internal/bytealg.IndexString"], unfollowed := true, recurses := true, named := ["unicode/utf8.first", "unicode/utf8.acceptRanges", "math/bits.deBruijn64tab", "internal/bytealg.MaxLen"], loops := true, plainKeys := false, apart := false, laid := [("math/bits.deBruijn64tab", laid_math_bits_deBruijn64tab), ("unicode/utf8.acceptRanges", laid_unicode_utf8_acceptRanges), ("unicode/utf8.first", laid_unicode_utf8_first)], narrowed := true }
def AttestNeedsUptoSaid : Prop := attestNeedsUptoRow.holds Tryz.pinned (OpenSpec.upto attestNeedsSpec)

/-- 'ablautlaw26.AttestApart', WHERE WHAT IT READS IS OF BULK AT MOST 1048576: true; the input reads as it did. -/
def attestApartUptoRow : OpenClaim := { program := "ytlbooedblpdmaaagreatdoor", sum := "d3b042503aa37c15fb65773f166e61caec37a02cb5323752a150d602f2ef3562", func := "ablaut/ablautlaw26.AttestApart", spec := "attestApart", inPlace := ["internal/bytealg.IndexByteString", "internal/bytealg.IndexString"], unfollowed := true, recurses := true, named := ["unicode/utf8.first", "unicode/utf8.acceptRanges", "math/bits.deBruijn64tab", "internal/bytealg.MaxLen"], loops := true, plainKeys := false, apart := false, laid := [("math/bits.deBruijn64tab", laid_math_bits_deBruijn64tab), ("unicode/utf8.acceptRanges", laid_unicode_utf8_acceptRanges), ("unicode/utf8.first", laid_unicode_utf8_first)], narrowed := true }
def AttestApartUptoSaid : Prop := attestApartUptoRow.holds Tryz.pinned (OpenSpec.upto attestApartSpec)

/-- 'ablautlaw26.AttestCosts', WHERE WHAT IT READS IS OF BULK AT MOST 1048576: true; the input reads as it did. -/
def attestCostsUptoRow : OpenClaim := { program := "ytlbooedblpdmaaagreatdoor", sum := "d3b042503aa37c15fb65773f166e61caec37a02cb5323752a150d602f2ef3562", func := "ablaut/ablautlaw26.AttestCosts", spec := "attestCosts", inPlace := ["internal/bytealg.IndexByteString", "internal/bytealg.IndexString"], unfollowed := true, recurses := true, named := ["unicode/utf8.first", "unicode/utf8.acceptRanges", "math/bits.deBruijn64tab", "internal/bytealg.MaxLen"], plainKeys := false, apart := false, laid := [("math/bits.deBruijn64tab", laid_math_bits_deBruijn64tab), ("unicode/utf8.acceptRanges", laid_unicode_utf8_acceptRanges), ("unicode/utf8.first", laid_unicode_utf8_first)], narrowed := true }
def AttestCostsUptoSaid : Prop := attestCostsUptoRow.holds Tryz.pinned (OpenSpec.upto attestCostsSpec)

/-- 'ablautlaw26.AttestExplains', WHERE WHAT IT READS IS OF BULK AT MOST 1048576: true; the input reads as it did. -/
def attestExplainsUptoRow : OpenClaim := { program := "ytlbooedblpdmaaagreatdoor", sum := "d3b042503aa37c15fb65773f166e61caec37a02cb5323752a150d602f2ef3562", func := "ablaut/ablautlaw26.AttestExplains", spec := "attestExplains", inPlace := ["internal/bytealg.IndexByteString", "internal/bytealg.IndexString"], unfollowed := true, recurses := true, named := ["unicode/utf8.first", "unicode/utf8.acceptRanges", "math/bits.deBruijn64tab", "internal/bytealg.MaxLen"], loops := true, plainKeys := false, apart := false, laid := [("math/bits.deBruijn64tab", laid_math_bits_deBruijn64tab), ("unicode/utf8.acceptRanges", laid_unicode_utf8_acceptRanges), ("unicode/utf8.first", laid_unicode_utf8_first)], narrowed := true }
def AttestExplainsUptoSaid : Prop := attestExplainsUptoRow.holds Tryz.pinned (OpenSpec.upto attestExplainsSpec)

/-- 'ablautlaw26.AttestNamed', WHERE WHAT IT READS IS OF BULK AT MOST 1048576: true; the input reads as it did. -/
def attestNamedUptoRow : OpenClaim := { program := "ytlbooedblpdmaaagreatdoor", sum := "d3b042503aa37c15fb65773f166e61caec37a02cb5323752a150d602f2ef3562", func := "ablaut/ablautlaw26.AttestNamed", spec := "attestNamed", inPlace := ["internal/bytealg.IndexByteString", "internal/bytealg.IndexString"], unfollowed := true, recurses := true, named := ["unicode/utf8.first", "unicode/utf8.acceptRanges", "math/bits.deBruijn64tab", "internal/bytealg.MaxLen"], loops := true, plainKeys := false, apart := false, laid := [("math/bits.deBruijn64tab", laid_math_bits_deBruijn64tab), ("unicode/utf8.acceptRanges", laid_unicode_utf8_acceptRanges), ("unicode/utf8.first", laid_unicode_utf8_first)], narrowed := true }
def AttestNamedUptoSaid : Prop := attestNamedUptoRow.holds Tryz.pinned (OpenSpec.upto attestNamedSpec)

/-- 'ablautlaw26.AttestKnown', WHERE WHAT IT READS IS OF BULK AT MOST 1048576: true; the input reads as it did. -/
def attestKnownUptoRow : OpenClaim := { program := "ytlbooedblpdmaaagreatdoor", sum := "d3b042503aa37c15fb65773f166e61caec37a02cb5323752a150d602f2ef3562", func := "ablaut/ablautlaw26.AttestKnown", spec := "attestKnown", inPlace := ["internal/bytealg.IndexByteString", "internal/bytealg.IndexString"], unfollowed := true, recurses := true, named := ["unicode/utf8.first", "unicode/utf8.acceptRanges", "math/bits.deBruijn64tab", "internal/bytealg.MaxLen"], plainKeys := false, apart := false, laid := [("math/bits.deBruijn64tab", laid_math_bits_deBruijn64tab), ("unicode/utf8.acceptRanges", laid_unicode_utf8_acceptRanges), ("unicode/utf8.first", laid_unicode_utf8_first)], narrowed := true }
def AttestKnownUptoSaid : Prop := attestKnownUptoRow.holds Tryz.pinned (OpenSpec.upto attestKnownSpec)

/-- 'ablautlaw26.AttestRegular', WHERE WHAT IT READS IS OF BULK AT MOST 1048576: true; the input reads as it did. -/
def attestRegularUptoRow : OpenClaim := { program := "ytlbooedblpdmaaagreatdoor", sum := "d3b042503aa37c15fb65773f166e61caec37a02cb5323752a150d602f2ef3562", func := "ablaut/ablautlaw26.AttestRegular", spec := "attestRegular", inPlace := ["internal/bytealg.IndexByteString", "internal/bytealg.IndexString"], unfollowed := true, recurses := true, named := ["unicode/utf8.first", "unicode/utf8.acceptRanges", "math/bits.deBruijn64tab", "internal/bytealg.MaxLen"], loops := true, plainKeys := false, apart := false, laid := [("math/bits.deBruijn64tab", laid_math_bits_deBruijn64tab), ("unicode/utf8.acceptRanges", laid_unicode_utf8_acceptRanges), ("unicode/utf8.first", laid_unicode_utf8_first)], narrowed := true }
def AttestRegularUptoSaid : Prop := attestRegularUptoRow.holds Tryz.pinned (OpenSpec.upto attestRegularSpec)

/-- 'ablautlaw26.AttestMade', WHERE WHAT IT READS IS OF BULK AT MOST 1048576: true; the input reads as it did. -/
def attestMadeUptoRow : OpenClaim := { program := "ytlbooedblpdmaaagreatdoor", sum := "d3b042503aa37c15fb65773f166e61caec37a02cb5323752a150d602f2ef3562", func := "ablaut/ablautlaw26.AttestMade", spec := "attestMade", inPlace := ["internal/bytealg.IndexByteString", "internal/bytealg.IndexString"], unfollowed := true, recurses := true, named := ["unicode/utf8.first", "unicode/utf8.acceptRanges", "math/bits.deBruijn64tab", "internal/bytealg.MaxLen"], loops := true, plainKeys := false, apart := false, laid := [("math/bits.deBruijn64tab", laid_math_bits_deBruijn64tab), ("unicode/utf8.acceptRanges", laid_unicode_utf8_acceptRanges), ("unicode/utf8.first", laid_unicode_utf8_first)], narrowed := true }
def AttestMadeUptoSaid : Prop := attestMadeUptoRow.holds Tryz.pinned (OpenSpec.upto attestMadeSpec)

end Rows
end Go.Proofs.YtlbooedblpdmaaaGreatDoor
