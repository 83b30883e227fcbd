/-
  NARROWER THAN 'FOR EVERY INPUT', by the rows' own cells (each row's printed sentence says how): FiveComes: laid · FiveAgain: laid · ChunkWrites: laid · FiveReads: laid · FiveWrites: laid · FiveBack: laid · SocksComes: laid · SocksLocked: laid · SocksOpens: laid · SocksSays: laid.
  DERIVED. THE GIVEN ROWS OF THIS SEAT. 10 by the template 'for every input the law returns true; each argument reads behind the call as it read before'; 0 by the template 'total and deterministic' (their statements: YtcnepgnfecoeoaaDoorTotals.lean).
  GIVEN WITH THE SEED: the statements are not yours to turn. If you find one false, say at which input.
  Laid BY PROGRAM, IN A SANDBOX (cutbox-rows.mjs): the forced cells as the released guide's own fill.sh prints them over the translation 063e949e8120a0d6… (all of the seat's roots in one cut). By AI agents, Wed Nov 11 2026. No macro, syntax, notation, axiom, sorry.
-/
import Derived.Test.YtcnepgnfecoeoaaDoorChecked
import GoSem.PinnedTables
import GoSem.Claim
import GoSem.ClaimJoined
import GoSem.ClaimMapViews
import Derived.JoinedTies
import Derived.KernelRfl
namespace Go.Proofs.YtcnepgnfecoeoaaDoor
/- THE CELL 'sum', in the pinned program and in every row, IS THE sha256 OF THE DUMP (.gsa) THAT YtcnepgnfecoeoaaDoorProg.lean LOADS. Nothing in Lean hashes anything: it is a label: what it is worth is what the hold of that sum in a sandbox is worth. -/
noncomputable def Tryd.pinned : Pinned := { name := "ytcnepgnfecoeoaadoor", sum := "063e949e8120a0d66233fc0643a78cb7744c8acf3af62202197af95d4060b441", checked := Tryd.checked }
namespace Rows
def none {H : Type} : Left H := { results := [], args := [] }

/- WHAT THE LISTED PACKAGE-LEVEL VARIABLES READ AS WHEN THE CALL BEGINS. Each datum BY PROGRAM (the guide's laid-datum.mjs) off the statement by which the dump's own 'gosem.cut.vars' lays the variable. In a bare row this is a premise. The card (YtcnepgnfecoeoaaDoorCards.lean) ties it to the program's text. -/
def laid_unicode_utf8_acceptRanges {H : Type} : DataW H := .agg [.agg [.lit (.int .u8 128), .lit (.int .u8 191)], .agg [.lit (.int .u8 160), .lit (.int .u8 191)], .agg [.lit (.int .u8 128), .lit (.int .u8 159)], .agg [.lit (.int .u8 144), .lit (.int .u8 191)], .agg [.lit (.int .u8 128), .lit (.int .u8 143)], .agg [.lit (.int .u8 0), .lit (.int .u8 0)], .agg [.lit (.int .u8 0), .lit (.int .u8 0)], .agg [.lit (.int .u8 0), .lit (.int .u8 0)], .agg [.lit (.int .u8 0), .lit (.int .u8 0)], .agg [.lit (.int .u8 0), .lit (.int .u8 0)], .agg [.lit (.int .u8 0), .lit (.int .u8 0)], .agg [.lit (.int .u8 0), .lit (.int .u8 0)], .agg [.lit (.int .u8 0), .lit (.int .u8 0)], .agg [.lit (.int .u8 0), .lit (.int .u8 0)], .agg [.lit (.int .u8 0), .lit (.int .u8 0)], .agg [.lit (.int .u8 0), .lit (.int .u8 0)]]
/-- One of Go's own tables, pinned by name: the form's constant. -/
def laid_unicode_CaseRanges : DataW Unit := Go.Pinned.caseRanges
/-- One of Go's own tables, pinned by name: the form's constant. -/
def laid_unicode_utf8_first : DataW Unit := Go.Pinned.utf8First
def laid_math_bits_deBruijn32tab {H : Type} : DataW H := .agg [.lit (.int .u8 0), .lit (.int .u8 1), .lit (.int .u8 28), .lit (.int .u8 2), .lit (.int .u8 29), .lit (.int .u8 14), .lit (.int .u8 24), .lit (.int .u8 3), .lit (.int .u8 30), .lit (.int .u8 22), .lit (.int .u8 20), .lit (.int .u8 15), .lit (.int .u8 25), .lit (.int .u8 17), .lit (.int .u8 4), .lit (.int .u8 8), .lit (.int .u8 31), .lit (.int .u8 27), .lit (.int .u8 13), .lit (.int .u8 23), .lit (.int .u8 21), .lit (.int .u8 19), .lit (.int .u8 16), .lit (.int .u8 7), .lit (.int .u8 26), .lit (.int .u8 12), .lit (.int .u8 18), .lit (.int .u8 6), .lit (.int .u8 11), .lit (.int .u8 5), .lit (.int .u8 10), .lit (.int .u8 9)]
def laid_math_bits_deBruijn64tab {H : Type} : DataW H := .agg [.lit (.int .u8 0), .lit (.int .u8 1), .lit (.int .u8 56), .lit (.int .u8 2), .lit (.int .u8 57), .lit (.int .u8 49), .lit (.int .u8 28), .lit (.int .u8 3), .lit (.int .u8 61), .lit (.int .u8 58), .lit (.int .u8 42), .lit (.int .u8 50), .lit (.int .u8 38), .lit (.int .u8 29), .lit (.int .u8 17), .lit (.int .u8 4), .lit (.int .u8 62), .lit (.int .u8 47), .lit (.int .u8 59), .lit (.int .u8 36), .lit (.int .u8 45), .lit (.int .u8 43), .lit (.int .u8 51), .lit (.int .u8 22), .lit (.int .u8 53), .lit (.int .u8 39), .lit (.int .u8 33), .lit (.int .u8 30), .lit (.int .u8 24), .lit (.int .u8 18), .lit (.int .u8 12), .lit (.int .u8 5), .lit (.int .u8 63), .lit (.int .u8 55), .lit (.int .u8 48), .lit (.int .u8 27), .lit (.int .u8 60), .lit (.int .u8 41), .lit (.int .u8 37), .lit (.int .u8 16), .lit (.int .u8 46), .lit (.int .u8 35), .lit (.int .u8 44), .lit (.int .u8 21), .lit (.int .u8 52), .lit (.int .u8 32), .lit (.int .u8 23), .lit (.int .u8 11), .lit (.int .u8 54), .lit (.int .u8 26), .lit (.int .u8 40), .lit (.int .u8 15), .lit (.int .u8 34), .lit (.int .u8 20), .lit (.int .u8 31), .lit (.int .u8 10), .lit (.int .u8 25), .lit (.int .u8 14), .lit (.int .u8 19), .lit (.int .u8 9), .lit (.int .u8 13), .lit (.int .u8 8), .lit (.int .u8 7), .lit (.int .u8 6)]
def laid_internal_strconv_uint64pow10 {H : Type} : DataW H := .agg [.lit (.int .u64 1), .lit (.int .u64 10), .lit (.int .u64 100), .lit (.int .u64 1000), .lit (.int .u64 10000), .lit (.int .u64 100000), .lit (.int .u64 1000000), .lit (.int .u64 10000000), .lit (.int .u64 100000000), .lit (.int .u64 1000000000), .lit (.int .u64 10000000000), .lit (.int .u64 100000000000), .lit (.int .u64 1000000000000), .lit (.int .u64 10000000000000), .lit (.int .u64 100000000000000), .lit (.int .u64 1000000000000000), .lit (.int .u64 10000000000000000), .lit (.int .u64 100000000000000000), .lit (.int .u64 1000000000000000000), .lit (.int .u64 10000000000000000000)]
def laid_strconv_ErrRange {H : Type} : DataW H := .iface "*errors.errorString" (.ptr (.agg [.lit (.string [118, 97, 108, 117, 101, 32, 111, 117, 116, 32, 111, 102, 32, 114, 97, 110, 103, 101])]))
def laid_strconv_ErrSyntax {H : Type} : DataW H := .iface "*errors.errorString" (.ptr (.agg [.lit (.string [105, 110, 118, 97, 108, 105, 100, 32, 115, 121, 110, 116, 97, 120])]))

/-- 'sallyportlaw07.FiveComes': WHATEVER THE INPUT: true; the input reads as it did. -/
def fiveComesSpec : ChangeSpec := { name := "fiveComes", fn := fun _ => fun
  | [d1, d2, d3] => { results := [.lit (.bool true)], args := [d1, d2, d3] }
  | _ => none }
def fiveComesRow : OpenClaim := { program := "ytcnepgnfecoeoaadoor", sum := "063e949e8120a0d66233fc0643a78cb7744c8acf3af62202197af95d4060b441", func := "sallyport/sallyportlaw07.FiveComes", spec := "fiveComes", inPlace := ["internal/bytealg.CountString", "internal/bytealg.IndexByteString", "internal/bytealg.IndexString", "internal/abi.NoEscape", "internal/bytealg.MakeNoZero"], unfollowed := true, recurses := true, named := ["unicode/utf8.first", "unicode/utf8.acceptRanges", "internal/bytealg.MaxLen", "unicode.CaseRanges"], apart := false, laid := [("unicode/utf8.acceptRanges", laid_unicode_utf8_acceptRanges), ("unicode.CaseRanges", laid_unicode_CaseRanges), ("unicode/utf8.first", laid_unicode_utf8_first)] }
def FiveComesSaid : Prop := fiveComesRow.holds Tryd.pinned (OpenSpec.ofChange fiveComesSpec)

/-- ITS FALSE NEIGHBOUR: 'it returns false'. Refute it at one input. -/
def fiveComesWrong : ChangeSpec := { name := "fiveComes", fn := fun _ => fun
  | [d1, d2, d3] => { results := [.lit (.bool false)], args := [d1, d2, d3] }
  | _ => none }
def FiveComesWrongFalsely : Prop := fiveComesRow.holds Tryd.pinned (OpenSpec.ofChange fiveComesWrong)

/-- 'sallyportlaw07.FiveAgain': WHATEVER THE INPUT: true; the input reads as it did. -/
def fiveAgainSpec : ChangeSpec := { name := "fiveAgain", fn := fun _ => fun
  | [d] => { results := [.lit (.bool true)], args := [d] }
  | _ => none }
def fiveAgainRow : OpenClaim := { program := "ytcnepgnfecoeoaadoor", sum := "063e949e8120a0d66233fc0643a78cb7744c8acf3af62202197af95d4060b441", func := "sallyport/sallyportlaw07.FiveAgain", spec := "fiveAgain", inPlace := ["internal/bytealg.CountString", "internal/bytealg.IndexByteString", "internal/bytealg.IndexString", "internal/abi.NoEscape", "internal/bytealg.MakeNoZero"], unfollowed := true, recurses := true, named := ["unicode/utf8.first", "unicode/utf8.acceptRanges", "internal/bytealg.MaxLen", "unicode.CaseRanges"], apart := false, laid := [("unicode/utf8.acceptRanges", laid_unicode_utf8_acceptRanges), ("unicode.CaseRanges", laid_unicode_CaseRanges), ("unicode/utf8.first", laid_unicode_utf8_first)] }
def FiveAgainSaid : Prop := fiveAgainRow.holds Tryd.pinned (OpenSpec.ofChange fiveAgainSpec)

/-- ITS FALSE NEIGHBOUR: 'it returns false'. Refute it at one input. -/
def fiveAgainWrong : ChangeSpec := { name := "fiveAgain", fn := fun _ => fun
  | [d] => { results := [.lit (.bool false)], args := [d] }
  | _ => none }
def FiveAgainWrongFalsely : Prop := fiveAgainRow.holds Tryd.pinned (OpenSpec.ofChange fiveAgainWrong)

/-- 'sallyportlaw09.ChunkWrites': WHATEVER THE INPUT: true; the input reads as it did. -/
def chunkWritesSpec : ChangeSpec := { name := "chunkWrites", fn := fun _ => fun
  | [d1, d2, d3] => { results := [.lit (.bool true)], args := [d1, d2, d3] }
  | _ => none }
def chunkWritesRow : OpenClaim := { program := "ytcnepgnfecoeoaadoor", sum := "063e949e8120a0d66233fc0643a78cb7744c8acf3af62202197af95d4060b441", func := "sallyport/sallyportlaw09.ChunkWrites", spec := "chunkWrites", named := ["internal/strconv.uint64pow10", "math/bits.deBruijn32tab", "math/bits.deBruijn64tab", "strconv.ErrSyntax", "strconv.ErrRange"], apart := false, laid := [("math/bits.deBruijn32tab", laid_math_bits_deBruijn32tab), ("math/bits.deBruijn64tab", laid_math_bits_deBruijn64tab), ("internal/strconv.uint64pow10", laid_internal_strconv_uint64pow10), ("strconv.ErrRange", laid_strconv_ErrRange), ("strconv.ErrSyntax", laid_strconv_ErrSyntax)] }
def ChunkWritesSaid : Prop := chunkWritesRow.holds Tryd.pinned (OpenSpec.ofChange chunkWritesSpec)

/-- ITS FALSE NEIGHBOUR: 'it returns false'. Refute it at one input. -/
def chunkWritesWrong : ChangeSpec := { name := "chunkWrites", fn := fun _ => fun
  | [d1, d2, d3] => { results := [.lit (.bool false)], args := [d1, d2, d3] }
  | _ => none }
def ChunkWritesWrongFalsely : Prop := chunkWritesRow.holds Tryd.pinned (OpenSpec.ofChange chunkWritesWrong)

/-- 'sallyportlaw07.FiveReads': WHATEVER THE INPUT: true; the input reads as it did. -/
def fiveReadsSpec : ChangeSpec := { name := "fiveReads", fn := fun _ => fun
  | [d] => { results := [.lit (.bool true)], args := [d] }
  | _ => none }
def fiveReadsRow : OpenClaim := { program := "ytcnepgnfecoeoaadoor", sum := "063e949e8120a0d66233fc0643a78cb7744c8acf3af62202197af95d4060b441", func := "sallyport/sallyportlaw07.FiveReads", spec := "fiveReads", inPlace := ["internal/bytealg.CountString", "internal/bytealg.IndexByteString", "internal/bytealg.IndexString", "internal/abi.NoEscape", "internal/bytealg.MakeNoZero"], unfollowed := true, recurses := true, named := ["unicode/utf8.first", "unicode/utf8.acceptRanges", "internal/bytealg.MaxLen", "unicode.CaseRanges"], apart := false, laid := [("unicode/utf8.acceptRanges", laid_unicode_utf8_acceptRanges), ("unicode.CaseRanges", laid_unicode_CaseRanges), ("unicode/utf8.first", laid_unicode_utf8_first)] }
def FiveReadsSaid : Prop := fiveReadsRow.holds Tryd.pinned (OpenSpec.ofChange fiveReadsSpec)

/-- ITS FALSE NEIGHBOUR: 'it returns false'. Refute it at one input. -/
def fiveReadsWrong : ChangeSpec := { name := "fiveReads", fn := fun _ => fun
  | [d] => { results := [.lit (.bool false)], args := [d] }
  | _ => none }
def FiveReadsWrongFalsely : Prop := fiveReadsRow.holds Tryd.pinned (OpenSpec.ofChange fiveReadsWrong)

/-- 'sallyportlaw07.FiveWrites': WHATEVER THE INPUT: true; the input reads as it did. -/
def fiveWritesSpec : ChangeSpec := { name := "fiveWrites", fn := fun _ => fun
  | [d1, d2, d3, d4, d5] => { results := [.lit (.bool true)], args := [d1, d2, d3, d4, d5] }
  | _ => none }
def fiveWritesRow : OpenClaim := { program := "ytcnepgnfecoeoaadoor", sum := "063e949e8120a0d66233fc0643a78cb7744c8acf3af62202197af95d4060b441", func := "sallyport/sallyportlaw07.FiveWrites", spec := "fiveWrites", inPlace := ["internal/reflectlite.TypeOf", "internal/bytealg.CountString", "internal/bytealg.IndexByteString", "internal/bytealg.IndexString", "internal/abi.NoEscape", "internal/bytealg.MakeNoZero"], unfollowed := true, recurses := true, named := ["unicode/utf8.first", "unicode/utf8.acceptRanges", "internal/bytealg.MaxLen", "unicode.CaseRanges"], apart := false, laid := [("unicode/utf8.acceptRanges", laid_unicode_utf8_acceptRanges), ("unicode.CaseRanges", laid_unicode_CaseRanges), ("unicode/utf8.first", laid_unicode_utf8_first)] }
def FiveWritesSaid : Prop := fiveWritesRow.holds Tryd.pinned (OpenSpec.ofChange fiveWritesSpec)

/-- ITS FALSE NEIGHBOUR: 'it returns false'. Refute it at one input. -/
def fiveWritesWrong : ChangeSpec := { name := "fiveWrites", fn := fun _ => fun
  | [d1, d2, d3, d4, d5] => { results := [.lit (.bool false)], args := [d1, d2, d3, d4, d5] }
  | _ => none }
def FiveWritesWrongFalsely : Prop := fiveWritesRow.holds Tryd.pinned (OpenSpec.ofChange fiveWritesWrong)

/-- 'sallyportlaw07.FiveBack': WHATEVER THE INPUT: true; the input reads as it did. -/
def fiveBackSpec : ChangeSpec := { name := "fiveBack", fn := fun _ => fun
  | [d1, d2, d3, d4, d5, d6] => { results := [.lit (.bool true)], args := [d1, d2, d3, d4, d5, d6] }
  | _ => none }
def fiveBackRow : OpenClaim := { program := "ytcnepgnfecoeoaadoor", sum := "063e949e8120a0d66233fc0643a78cb7744c8acf3af62202197af95d4060b441", func := "sallyport/sallyportlaw07.FiveBack", spec := "fiveBack", inPlace := ["internal/bytealg.CountString", "internal/bytealg.IndexByteString", "internal/bytealg.IndexString", "internal/abi.NoEscape", "internal/bytealg.MakeNoZero", "internal/reflectlite.TypeOf"], unfollowed := true, recurses := true, named := ["unicode/utf8.first", "unicode/utf8.acceptRanges", "internal/bytealg.MaxLen", "unicode.CaseRanges"], apart := false, laid := [("unicode/utf8.acceptRanges", laid_unicode_utf8_acceptRanges), ("unicode.CaseRanges", laid_unicode_CaseRanges), ("unicode/utf8.first", laid_unicode_utf8_first)] }
def FiveBackSaid : Prop := fiveBackRow.holds Tryd.pinned (OpenSpec.ofChange fiveBackSpec)

/-- ITS FALSE NEIGHBOUR: 'it returns false'. Refute it at one input. -/
def fiveBackWrong : ChangeSpec := { name := "fiveBack", fn := fun _ => fun
  | [d1, d2, d3, d4, d5, d6] => { results := [.lit (.bool false)], args := [d1, d2, d3, d4, d5, d6] }
  | _ => none }
def FiveBackWrongFalsely : Prop := fiveBackRow.holds Tryd.pinned (OpenSpec.ofChange fiveBackWrong)

/-- 'sallyportlaw17.SocksComes': WHATEVER THE INPUT: true; the input reads as it did. -/
def socksComesSpec : ChangeSpec := { name := "socksComes", fn := fun _ => fun
  | [d1, d2, d3, d4] => { results := [.lit (.bool true)], args := [d1, d2, d3, d4] }
  | _ => none }
def socksComesRow : OpenClaim := { program := "ytcnepgnfecoeoaadoor", sum := "063e949e8120a0d66233fc0643a78cb7744c8acf3af62202197af95d4060b441", func := "sallyport/sallyportlaw17.SocksComes", spec := "socksComes", inPlace := ["internal/bytealg.CountString", "internal/bytealg.IndexByteString", "internal/bytealg.IndexString", "internal/abi.NoEscape", "internal/bytealg.MakeNoZero", "internal/reflectlite.TypeOf"], unfollowed := true, recurses := true, named := ["unicode/utf8.first", "unicode/utf8.acceptRanges", "internal/bytealg.MaxLen", "unicode.CaseRanges"], apart := false, laid := [("unicode/utf8.acceptRanges", laid_unicode_utf8_acceptRanges), ("unicode.CaseRanges", laid_unicode_CaseRanges), ("unicode/utf8.first", laid_unicode_utf8_first)] }
def SocksComesSaid : Prop := socksComesRow.holds Tryd.pinned (OpenSpec.ofChange socksComesSpec)

/-- ITS FALSE NEIGHBOUR: 'it returns false'. Refute it at one input. -/
def socksComesWrong : ChangeSpec := { name := "socksComes", fn := fun _ => fun
  | [d1, d2, d3, d4] => { results := [.lit (.bool false)], args := [d1, d2, d3, d4] }
  | _ => none }
def SocksComesWrongFalsely : Prop := socksComesRow.holds Tryd.pinned (OpenSpec.ofChange socksComesWrong)

/-- 'sallyportlaw17.SocksLocked': WHATEVER THE INPUT: true; the input reads as it did. -/
def socksLockedSpec : ChangeSpec := { name := "socksLocked", fn := fun _ => fun
  | [d1, d2, d3] => { results := [.lit (.bool true)], args := [d1, d2, d3] }
  | _ => none }
def socksLockedRow : OpenClaim := { program := "ytcnepgnfecoeoaadoor", sum := "063e949e8120a0d66233fc0643a78cb7744c8acf3af62202197af95d4060b441", func := "sallyport/sallyportlaw17.SocksLocked", spec := "socksLocked", inPlace := ["internal/bytealg.CountString", "internal/bytealg.IndexByteString", "internal/bytealg.IndexString", "internal/abi.NoEscape", "internal/bytealg.MakeNoZero", "internal/reflectlite.TypeOf"], unfollowed := true, recurses := true, named := ["unicode/utf8.first", "unicode/utf8.acceptRanges", "internal/bytealg.MaxLen", "unicode.CaseRanges"], apart := false, laid := [("unicode/utf8.acceptRanges", laid_unicode_utf8_acceptRanges), ("unicode.CaseRanges", laid_unicode_CaseRanges), ("unicode/utf8.first", laid_unicode_utf8_first)] }
def SocksLockedSaid : Prop := socksLockedRow.holds Tryd.pinned (OpenSpec.ofChange socksLockedSpec)

/-- ITS FALSE NEIGHBOUR: 'it returns false'. Refute it at one input. -/
def socksLockedWrong : ChangeSpec := { name := "socksLocked", fn := fun _ => fun
  | [d1, d2, d3] => { results := [.lit (.bool false)], args := [d1, d2, d3] }
  | _ => none }
def SocksLockedWrongFalsely : Prop := socksLockedRow.holds Tryd.pinned (OpenSpec.ofChange socksLockedWrong)

/-- 'sallyportlaw17.SocksOpens': WHATEVER THE INPUT: true; the input reads as it did. -/
def socksOpensSpec : ChangeSpec := { name := "socksOpens", fn := fun _ => fun
  | [d1, d2, d3, d4, d5, d6] => { results := [.lit (.bool true)], args := [d1, d2, d3, d4, d5, d6] }
  | _ => none }
def socksOpensRow : OpenClaim := { program := "ytcnepgnfecoeoaadoor", sum := "063e949e8120a0d66233fc0643a78cb7744c8acf3af62202197af95d4060b441", func := "sallyport/sallyportlaw17.SocksOpens", spec := "socksOpens", inPlace := ["internal/bytealg.CountString", "internal/bytealg.IndexByteString", "internal/bytealg.IndexString", "internal/abi.NoEscape", "internal/bytealg.MakeNoZero", "internal/reflectlite.TypeOf"], unfollowed := true, recurses := true, named := ["unicode/utf8.first", "unicode/utf8.acceptRanges", "internal/bytealg.MaxLen", "unicode.CaseRanges"], apart := false, laid := [("unicode/utf8.acceptRanges", laid_unicode_utf8_acceptRanges), ("unicode.CaseRanges", laid_unicode_CaseRanges), ("unicode/utf8.first", laid_unicode_utf8_first)] }
def SocksOpensSaid : Prop := socksOpensRow.holds Tryd.pinned (OpenSpec.ofChange socksOpensSpec)

/-- ITS FALSE NEIGHBOUR: 'it returns false'. Refute it at one input. -/
def socksOpensWrong : ChangeSpec := { name := "socksOpens", fn := fun _ => fun
  | [d1, d2, d3, d4, d5, d6] => { results := [.lit (.bool false)], args := [d1, d2, d3, d4, d5, d6] }
  | _ => none }
def SocksOpensWrongFalsely : Prop := socksOpensRow.holds Tryd.pinned (OpenSpec.ofChange socksOpensWrong)

/-- 'sallyportlaw17.SocksSays': WHATEVER THE INPUT: true; the input reads as it did. -/
def socksSaysSpec : ChangeSpec := { name := "socksSays", fn := fun _ => fun
  | [d1, d2, d3, d4] => { results := [.lit (.bool true)], args := [d1, d2, d3, d4] }
  | _ => none }
def socksSaysRow : OpenClaim := { program := "ytcnepgnfecoeoaadoor", sum := "063e949e8120a0d66233fc0643a78cb7744c8acf3af62202197af95d4060b441", func := "sallyport/sallyportlaw17.SocksSays", spec := "socksSays", inPlace := ["internal/bytealg.CountString", "internal/bytealg.IndexByteString", "internal/bytealg.IndexString", "internal/abi.NoEscape", "internal/bytealg.MakeNoZero", "internal/reflectlite.TypeOf"], unfollowed := true, recurses := true, named := ["unicode/utf8.first", "unicode/utf8.acceptRanges", "internal/bytealg.MaxLen", "unicode.CaseRanges"], apart := false, laid := [("unicode/utf8.acceptRanges", laid_unicode_utf8_acceptRanges), ("unicode.CaseRanges", laid_unicode_CaseRanges), ("unicode/utf8.first", laid_unicode_utf8_first)] }
def SocksSaysSaid : Prop := socksSaysRow.holds Tryd.pinned (OpenSpec.ofChange socksSaysSpec)

/-- ITS FALSE NEIGHBOUR: 'it returns false'. Refute it at one input. -/
def socksSaysWrong : ChangeSpec := { name := "socksSays", fn := fun _ => fun
  | [d1, d2, d3, d4] => { results := [.lit (.bool false)], args := [d1, d2, d3, d4] }
  | _ => none }
def SocksSaysWrongFalsely : Prop := socksSaysRow.holds Tryd.pinned (OpenSpec.ofChange socksSaysWrong)

/- THE SECOND FORM. 'bulk': how many values and letters a reading holds, each counted each time it is reached (what is shared counts as often as it is met; a slice's spare places count too). A statement '..UptoSaid' is the law's where the arguments, and the package variables that the reading takes, are together of bulk at most 1048576: NARROWER than '..Said'. Prove '..Said' where nothing that the law and all that it calls make is longer than what came in: it says more and counts as full. Else prove '..UptoSaid'. A law counts once. -/
mutual
def uptoBulk {H : Type} : DataW H → Nat
  | .lit (.string bytes) => bytes.length + 1
  | .lit _ => 1
  | .nil => 1
  | .ptr d => uptoBulk d + 1
  | .slice elems spare => uptoBulkAll elems + uptoBulkAll spare + 1
  | .agg parts => uptoBulkAll parts + 1
  | .iface _ d => uptoBulk d + 1
  | .map entries => uptoBulkEntries entries + 1
  | .held _ => 1
def uptoBulkAll {H : Type} : List (DataW H) → Nat
  | [] => 0
  | d :: r => uptoBulk d + uptoBulkAll r
def uptoBulkEntries {H : Type} : List (Lit × DataW H) → Nat
  | [] => 0
  | x :: r => uptoBulkEntry x + uptoBulkEntries r
def uptoBulkEntry {H : Type} : Lit × DataW H → Nat
  | (.string bytes, d) => bytes.length + uptoBulk d + 1
  | (_, d) => uptoBulk d + 1
 end
def uptoSmall : (H : Type) → List (DataW H) → Bool := fun _ ds => decide (uptoBulkAll ds ≤ 1048576)
def OpenSpec.upto (s : _root_.Go.ChangeSpec) : _root_.Go.OpenSpec := { _root_.Go.OpenSpec.ofChange s with cond := some uptoSmall }

/-- 'sallyportlaw07.FiveComes', WHERE WHAT IT READS IS OF BULK AT MOST 1048576: true; the input reads as it did. -/
def fiveComesUptoRow : OpenClaim := { program := "ytcnepgnfecoeoaadoor", sum := "063e949e8120a0d66233fc0643a78cb7744c8acf3af62202197af95d4060b441", func := "sallyport/sallyportlaw07.FiveComes", spec := "fiveComes", inPlace := ["internal/bytealg.CountString", "internal/bytealg.IndexByteString", "internal/bytealg.IndexString", "internal/abi.NoEscape", "internal/bytealg.MakeNoZero"], unfollowed := true, recurses := true, named := ["unicode/utf8.first", "unicode/utf8.acceptRanges", "internal/bytealg.MaxLen", "unicode.CaseRanges"], apart := false, laid := [("unicode/utf8.acceptRanges", laid_unicode_utf8_acceptRanges), ("unicode.CaseRanges", laid_unicode_CaseRanges), ("unicode/utf8.first", laid_unicode_utf8_first)], narrowed := true }
def FiveComesUptoSaid : Prop := fiveComesUptoRow.holds Tryd.pinned (OpenSpec.upto fiveComesSpec)

/-- 'sallyportlaw07.FiveAgain', WHERE WHAT IT READS IS OF BULK AT MOST 1048576: true; the input reads as it did. -/
def fiveAgainUptoRow : OpenClaim := { program := "ytcnepgnfecoeoaadoor", sum := "063e949e8120a0d66233fc0643a78cb7744c8acf3af62202197af95d4060b441", func := "sallyport/sallyportlaw07.FiveAgain", spec := "fiveAgain", inPlace := ["internal/bytealg.CountString", "internal/bytealg.IndexByteString", "internal/bytealg.IndexString", "internal/abi.NoEscape", "internal/bytealg.MakeNoZero"], unfollowed := true, recurses := true, named := ["unicode/utf8.first", "unicode/utf8.acceptRanges", "internal/bytealg.MaxLen", "unicode.CaseRanges"], apart := false, laid := [("unicode/utf8.acceptRanges", laid_unicode_utf8_acceptRanges), ("unicode.CaseRanges", laid_unicode_CaseRanges), ("unicode/utf8.first", laid_unicode_utf8_first)], narrowed := true }
def FiveAgainUptoSaid : Prop := fiveAgainUptoRow.holds Tryd.pinned (OpenSpec.upto fiveAgainSpec)

/-- 'sallyportlaw09.ChunkWrites', WHERE WHAT IT READS IS OF BULK AT MOST 1048576: true; the input reads as it did. -/
def chunkWritesUptoRow : OpenClaim := { program := "ytcnepgnfecoeoaadoor", sum := "063e949e8120a0d66233fc0643a78cb7744c8acf3af62202197af95d4060b441", func := "sallyport/sallyportlaw09.ChunkWrites", spec := "chunkWrites", named := ["internal/strconv.uint64pow10", "math/bits.deBruijn32tab", "math/bits.deBruijn64tab", "strconv.ErrSyntax", "strconv.ErrRange"], apart := false, laid := [("math/bits.deBruijn32tab", laid_math_bits_deBruijn32tab), ("math/bits.deBruijn64tab", laid_math_bits_deBruijn64tab), ("internal/strconv.uint64pow10", laid_internal_strconv_uint64pow10), ("strconv.ErrRange", laid_strconv_ErrRange), ("strconv.ErrSyntax", laid_strconv_ErrSyntax)], narrowed := true }
def ChunkWritesUptoSaid : Prop := chunkWritesUptoRow.holds Tryd.pinned (OpenSpec.upto chunkWritesSpec)

/-- 'sallyportlaw07.FiveReads', WHERE WHAT IT READS IS OF BULK AT MOST 1048576: true; the input reads as it did. -/
def fiveReadsUptoRow : OpenClaim := { program := "ytcnepgnfecoeoaadoor", sum := "063e949e8120a0d66233fc0643a78cb7744c8acf3af62202197af95d4060b441", func := "sallyport/sallyportlaw07.FiveReads", spec := "fiveReads", inPlace := ["internal/bytealg.CountString", "internal/bytealg.IndexByteString", "internal/bytealg.IndexString", "internal/abi.NoEscape", "internal/bytealg.MakeNoZero"], unfollowed := true, recurses := true, named := ["unicode/utf8.first", "unicode/utf8.acceptRanges", "internal/bytealg.MaxLen", "unicode.CaseRanges"], apart := false, laid := [("unicode/utf8.acceptRanges", laid_unicode_utf8_acceptRanges), ("unicode.CaseRanges", laid_unicode_CaseRanges), ("unicode/utf8.first", laid_unicode_utf8_first)], narrowed := true }
def FiveReadsUptoSaid : Prop := fiveReadsUptoRow.holds Tryd.pinned (OpenSpec.upto fiveReadsSpec)

/-- 'sallyportlaw07.FiveWrites', WHERE WHAT IT READS IS OF BULK AT MOST 1048576: true; the input reads as it did. -/
def fiveWritesUptoRow : OpenClaim := { program := "ytcnepgnfecoeoaadoor", sum := "063e949e8120a0d66233fc0643a78cb7744c8acf3af62202197af95d4060b441", func := "sallyport/sallyportlaw07.FiveWrites", spec := "fiveWrites", inPlace := ["internal/reflectlite.TypeOf", "internal/bytealg.CountString", "internal/bytealg.IndexByteString", "internal/bytealg.IndexString", "internal/abi.NoEscape", "internal/bytealg.MakeNoZero"], unfollowed := true, recurses := true, named := ["unicode/utf8.first", "unicode/utf8.acceptRanges", "internal/bytealg.MaxLen", "unicode.CaseRanges"], apart := false, laid := [("unicode/utf8.acceptRanges", laid_unicode_utf8_acceptRanges), ("unicode.CaseRanges", laid_unicode_CaseRanges), ("unicode/utf8.first", laid_unicode_utf8_first)], narrowed := true }
def FiveWritesUptoSaid : Prop := fiveWritesUptoRow.holds Tryd.pinned (OpenSpec.upto fiveWritesSpec)

/-- 'sallyportlaw07.FiveBack', WHERE WHAT IT READS IS OF BULK AT MOST 1048576: true; the input reads as it did. -/
def fiveBackUptoRow : OpenClaim := { program := "ytcnepgnfecoeoaadoor", sum := "063e949e8120a0d66233fc0643a78cb7744c8acf3af62202197af95d4060b441", func := "sallyport/sallyportlaw07.FiveBack", spec := "fiveBack", inPlace := ["internal/bytealg.CountString", "internal/bytealg.IndexByteString", "internal/bytealg.IndexString", "internal/abi.NoEscape", "internal/bytealg.MakeNoZero", "internal/reflectlite.TypeOf"], unfollowed := true, recurses := true, named := ["unicode/utf8.first", "unicode/utf8.acceptRanges", "internal/bytealg.MaxLen", "unicode.CaseRanges"], apart := false, laid := [("unicode/utf8.acceptRanges", laid_unicode_utf8_acceptRanges), ("unicode.CaseRanges", laid_unicode_CaseRanges), ("unicode/utf8.first", laid_unicode_utf8_first)], narrowed := true }
def FiveBackUptoSaid : Prop := fiveBackUptoRow.holds Tryd.pinned (OpenSpec.upto fiveBackSpec)

/-- 'sallyportlaw17.SocksComes', WHERE WHAT IT READS IS OF BULK AT MOST 1048576: true; the input reads as it did. -/
def socksComesUptoRow : OpenClaim := { program := "ytcnepgnfecoeoaadoor", sum := "063e949e8120a0d66233fc0643a78cb7744c8acf3af62202197af95d4060b441", func := "sallyport/sallyportlaw17.SocksComes", spec := "socksComes", inPlace := ["internal/bytealg.CountString", "internal/bytealg.IndexByteString", "internal/bytealg.IndexString", "internal/abi.NoEscape", "internal/bytealg.MakeNoZero", "internal/reflectlite.TypeOf"], unfollowed := true, recurses := true, named := ["unicode/utf8.first", "unicode/utf8.acceptRanges", "internal/bytealg.MaxLen", "unicode.CaseRanges"], apart := false, laid := [("unicode/utf8.acceptRanges", laid_unicode_utf8_acceptRanges), ("unicode.CaseRanges", laid_unicode_CaseRanges), ("unicode/utf8.first", laid_unicode_utf8_first)], narrowed := true }
def SocksComesUptoSaid : Prop := socksComesUptoRow.holds Tryd.pinned (OpenSpec.upto socksComesSpec)

/-- 'sallyportlaw17.SocksLocked', WHERE WHAT IT READS IS OF BULK AT MOST 1048576: true; the input reads as it did. -/
def socksLockedUptoRow : OpenClaim := { program := "ytcnepgnfecoeoaadoor", sum := "063e949e8120a0d66233fc0643a78cb7744c8acf3af62202197af95d4060b441", func := "sallyport/sallyportlaw17.SocksLocked", spec := "socksLocked", inPlace := ["internal/bytealg.CountString", "internal/bytealg.IndexByteString", "internal/bytealg.IndexString", "internal/abi.NoEscape", "internal/bytealg.MakeNoZero", "internal/reflectlite.TypeOf"], unfollowed := true, recurses := true, named := ["unicode/utf8.first", "unicode/utf8.acceptRanges", "internal/bytealg.MaxLen", "unicode.CaseRanges"], apart := false, laid := [("unicode/utf8.acceptRanges", laid_unicode_utf8_acceptRanges), ("unicode.CaseRanges", laid_unicode_CaseRanges), ("unicode/utf8.first", laid_unicode_utf8_first)], narrowed := true }
def SocksLockedUptoSaid : Prop := socksLockedUptoRow.holds Tryd.pinned (OpenSpec.upto socksLockedSpec)

/-- 'sallyportlaw17.SocksOpens', WHERE WHAT IT READS IS OF BULK AT MOST 1048576: true; the input reads as it did. -/
def socksOpensUptoRow : OpenClaim := { program := "ytcnepgnfecoeoaadoor", sum := "063e949e8120a0d66233fc0643a78cb7744c8acf3af62202197af95d4060b441", func := "sallyport/sallyportlaw17.SocksOpens", spec := "socksOpens", inPlace := ["internal/bytealg.CountString", "internal/bytealg.IndexByteString", "internal/bytealg.IndexString", "internal/abi.NoEscape", "internal/bytealg.MakeNoZero", "internal/reflectlite.TypeOf"], unfollowed := true, recurses := true, named := ["unicode/utf8.first", "unicode/utf8.acceptRanges", "internal/bytealg.MaxLen", "unicode.CaseRanges"], apart := false, laid := [("unicode/utf8.acceptRanges", laid_unicode_utf8_acceptRanges), ("unicode.CaseRanges", laid_unicode_CaseRanges), ("unicode/utf8.first", laid_unicode_utf8_first)], narrowed := true }
def SocksOpensUptoSaid : Prop := socksOpensUptoRow.holds Tryd.pinned (OpenSpec.upto socksOpensSpec)

/-- 'sallyportlaw17.SocksSays', WHERE WHAT IT READS IS OF BULK AT MOST 1048576: true; the input reads as it did. -/
def socksSaysUptoRow : OpenClaim := { program := "ytcnepgnfecoeoaadoor", sum := "063e949e8120a0d66233fc0643a78cb7744c8acf3af62202197af95d4060b441", func := "sallyport/sallyportlaw17.SocksSays", spec := "socksSays", inPlace := ["internal/bytealg.CountString", "internal/bytealg.IndexByteString", "internal/bytealg.IndexString", "internal/abi.NoEscape", "internal/bytealg.MakeNoZero", "internal/reflectlite.TypeOf"], unfollowed := true, recurses := true, named := ["unicode/utf8.first", "unicode/utf8.acceptRanges", "internal/bytealg.MaxLen", "unicode.CaseRanges"], apart := false, laid := [("unicode/utf8.acceptRanges", laid_unicode_utf8_acceptRanges), ("unicode.CaseRanges", laid_unicode_CaseRanges), ("unicode/utf8.first", laid_unicode_utf8_first)], narrowed := true }
def SocksSaysUptoSaid : Prop := socksSaysUptoRow.holds Tryd.pinned (OpenSpec.upto socksSaysSpec)

end Rows
end Go.Proofs.YtcnepgnfecoeoaaDoor
