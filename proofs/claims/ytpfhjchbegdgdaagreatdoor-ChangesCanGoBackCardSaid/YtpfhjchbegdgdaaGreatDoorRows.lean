/-
  NARROWER THAN 'FOR EVERY INPUT', by the rows' own cells (each row's printed sentence says how): LogsCounted: laid · LogsMerge: laid · LogsChanged: laid · PausesAreEmpty: laid · NumbersAddUp: laid · ChangesCanGoBack: laid · LogTexts: laid · LogsStay: laid · LogsAreOne: laid · LogsTravel: laid · TravelKeepsSeconds: laid.
  DERIVED. THE GIVEN ROWS OF THIS SEAT. 11 by the template 'for every input the law returns true; each argument reads behind the call as it read before'; 0 by the template 'total and deterministic' (their statements: YtpfhjchbegdgdaaGreatDoorTotals.lean).
  GIVEN WITH THE SEED: the statements are not yours to turn. If you find one false, say at which input.
  Laid BY PROGRAM, IN A SANDBOX (cutbox-rows.mjs): the forced cells as the released guide's own fill.sh prints them over the translation a14d8e8678d0e17f… (all of the seat's roots in one cut). By AI agents, Wed Nov 11 2026. No macro, syntax, notation, axiom, sorry.
-/
import Derived.Test.YtpfhjchbegdgdaaGreatDoorChecked
import GoSem.PinnedTables
import GoSem.Claim
import GoSem.ClaimJoined
import GoSem.ClaimMapViews
import Derived.JoinedTies
import Derived.KernelRfl
namespace Go.Proofs.YtpfhjchbegdgdaaGreatDoor
/- THE CELL 'sum', in the pinned program and in every row, IS THE sha256 OF THE DUMP (.gsa) THAT YtpfhjchbegdgdaaGreatDoorProg.lean LOADS. Nothing in Lean hashes anything: it is a label: what it is worth is what the hold of that sum in a sandbox is worth. -/
noncomputable def Tryz.pinned : Pinned := { name := "ytpfhjchbegdgdaagreatdoor", sum := "a14d8e8678d0e17fc1b9dc45d8cc870ed0e295ff8370336084d4dc47ec39c471", checked := Tryz.checked }
namespace Rows
def none {H : Type} : Left H := { results := [], args := [] }

/- WHAT THE LISTED PACKAGE-LEVEL VARIABLES READ AS WHEN THE CALL BEGINS. Each datum BY PROGRAM (the guide's laid-datum.mjs) off the statement by which the dump's own 'gosem.cut.vars' lays the variable. In a bare row this is a premise. The card (YtpfhjchbegdgdaaGreatDoorCards.lean) ties it to the program's text. -/
def laid_unicode_utf8_acceptRanges {H : Type} : DataW H := .agg [.agg [.lit (.int .u8 128), .lit (.int .u8 191)], .agg [.lit (.int .u8 160), .lit (.int .u8 191)], .agg [.lit (.int .u8 128), .lit (.int .u8 159)], .agg [.lit (.int .u8 144), .lit (.int .u8 191)], .agg [.lit (.int .u8 128), .lit (.int .u8 143)], .agg [.lit (.int .u8 0), .lit (.int .u8 0)], .agg [.lit (.int .u8 0), .lit (.int .u8 0)], .agg [.lit (.int .u8 0), .lit (.int .u8 0)], .agg [.lit (.int .u8 0), .lit (.int .u8 0)], .agg [.lit (.int .u8 0), .lit (.int .u8 0)], .agg [.lit (.int .u8 0), .lit (.int .u8 0)], .agg [.lit (.int .u8 0), .lit (.int .u8 0)], .agg [.lit (.int .u8 0), .lit (.int .u8 0)], .agg [.lit (.int .u8 0), .lit (.int .u8 0)], .agg [.lit (.int .u8 0), .lit (.int .u8 0)], .agg [.lit (.int .u8 0), .lit (.int .u8 0)]]
/-- One of Go's own tables, pinned by name: the form's constant. -/
def laid_unicode_utf8_first : DataW Unit := Go.Pinned.utf8First
def laid_math_bits_deBruijn32tab {H : Type} : DataW H := .agg [.lit (.int .u8 0), .lit (.int .u8 1), .lit (.int .u8 28), .lit (.int .u8 2), .lit (.int .u8 29), .lit (.int .u8 14), .lit (.int .u8 24), .lit (.int .u8 3), .lit (.int .u8 30), .lit (.int .u8 22), .lit (.int .u8 20), .lit (.int .u8 15), .lit (.int .u8 25), .lit (.int .u8 17), .lit (.int .u8 4), .lit (.int .u8 8), .lit (.int .u8 31), .lit (.int .u8 27), .lit (.int .u8 13), .lit (.int .u8 23), .lit (.int .u8 21), .lit (.int .u8 19), .lit (.int .u8 16), .lit (.int .u8 7), .lit (.int .u8 26), .lit (.int .u8 12), .lit (.int .u8 18), .lit (.int .u8 6), .lit (.int .u8 11), .lit (.int .u8 5), .lit (.int .u8 10), .lit (.int .u8 9)]
def laid_math_bits_deBruijn64tab {H : Type} : DataW H := .agg [.lit (.int .u8 0), .lit (.int .u8 1), .lit (.int .u8 56), .lit (.int .u8 2), .lit (.int .u8 57), .lit (.int .u8 49), .lit (.int .u8 28), .lit (.int .u8 3), .lit (.int .u8 61), .lit (.int .u8 58), .lit (.int .u8 42), .lit (.int .u8 50), .lit (.int .u8 38), .lit (.int .u8 29), .lit (.int .u8 17), .lit (.int .u8 4), .lit (.int .u8 62), .lit (.int .u8 47), .lit (.int .u8 59), .lit (.int .u8 36), .lit (.int .u8 45), .lit (.int .u8 43), .lit (.int .u8 51), .lit (.int .u8 22), .lit (.int .u8 53), .lit (.int .u8 39), .lit (.int .u8 33), .lit (.int .u8 30), .lit (.int .u8 24), .lit (.int .u8 18), .lit (.int .u8 12), .lit (.int .u8 5), .lit (.int .u8 63), .lit (.int .u8 55), .lit (.int .u8 48), .lit (.int .u8 27), .lit (.int .u8 60), .lit (.int .u8 41), .lit (.int .u8 37), .lit (.int .u8 16), .lit (.int .u8 46), .lit (.int .u8 35), .lit (.int .u8 44), .lit (.int .u8 21), .lit (.int .u8 52), .lit (.int .u8 32), .lit (.int .u8 23), .lit (.int .u8 11), .lit (.int .u8 54), .lit (.int .u8 26), .lit (.int .u8 40), .lit (.int .u8 15), .lit (.int .u8 34), .lit (.int .u8 20), .lit (.int .u8 31), .lit (.int .u8 10), .lit (.int .u8 25), .lit (.int .u8 14), .lit (.int .u8 19), .lit (.int .u8 9), .lit (.int .u8 13), .lit (.int .u8 8), .lit (.int .u8 7), .lit (.int .u8 6)]
def laid_internal_strconv_uint64pow10 {H : Type} : DataW H := .agg [.lit (.int .u64 1), .lit (.int .u64 10), .lit (.int .u64 100), .lit (.int .u64 1000), .lit (.int .u64 10000), .lit (.int .u64 100000), .lit (.int .u64 1000000), .lit (.int .u64 10000000), .lit (.int .u64 100000000), .lit (.int .u64 1000000000), .lit (.int .u64 10000000000), .lit (.int .u64 100000000000), .lit (.int .u64 1000000000000), .lit (.int .u64 10000000000000), .lit (.int .u64 100000000000000), .lit (.int .u64 1000000000000000), .lit (.int .u64 10000000000000000), .lit (.int .u64 100000000000000000), .lit (.int .u64 1000000000000000000), .lit (.int .u64 10000000000000000000)]
def laid_strconv_ErrRange {H : Type} : DataW H := .iface "*errors.errorString" (.ptr (.agg [.lit (.string [118, 97, 108, 117, 101, 32, 111, 117, 116, 32, 111, 102, 32, 114, 97, 110, 103, 101])]))
def laid_strconv_ErrSyntax {H : Type} : DataW H := .iface "*errors.errorString" (.ptr (.agg [.lit (.string [105, 110, 118, 97, 108, 105, 100, 32, 115, 121, 110, 116, 97, 120])]))

/-- 'pilelaw2.LogsCounted': WHATEVER THE INPUT: true; the input reads as it did. -/
def logsCountedSpec : ChangeSpec := { name := "logsCounted", fn := fun _ => fun
  | [d] => { results := [.lit (.bool true)], args := [d] }
  | _ => none }
def logsCountedRow : OpenClaim := { program := "ytpfhjchbegdgdaagreatdoor", sum := "a14d8e8678d0e17fc1b9dc45d8cc870ed0e295ff8370336084d4dc47ec39c471", func := "pileup/pilelaw2.LogsCounted", spec := "logsCounted", inPlace := ["internal/bytealg.abigen_runtime_cmpstring", "internal/bytealg.IndexByteString", "internal/bytealg.IndexString"], unfollowed := true, recurses := true, named := ["unicode/utf8.first", "unicode/utf8.acceptRanges", "internal/bytealg.MaxLen"], plainKeys := false, apart := false, laid := [("unicode/utf8.acceptRanges", laid_unicode_utf8_acceptRanges), ("unicode/utf8.first", laid_unicode_utf8_first)] }
def LogsCountedSaid : Prop := logsCountedRow.holds Tryz.pinned (OpenSpec.ofChange logsCountedSpec)

/-- ITS FALSE NEIGHBOUR: 'it returns false'. Refute it at one input. -/
def logsCountedWrong : ChangeSpec := { name := "logsCounted", fn := fun _ => fun
  | [d] => { results := [.lit (.bool false)], args := [d] }
  | _ => none }
def LogsCountedWrongFalsely : Prop := logsCountedRow.holds Tryz.pinned (OpenSpec.ofChange logsCountedWrong)

/-- 'pilelaw2.LogsMerge': WHATEVER THE INPUT: true; the input reads as it did. -/
def logsMergeSpec : ChangeSpec := { name := "logsMerge", fn := fun _ => fun
  | [d] => { results := [.lit (.bool true)], args := [d] }
  | _ => none }
def logsMergeRow : OpenClaim := { program := "ytpfhjchbegdgdaagreatdoor", sum := "a14d8e8678d0e17fc1b9dc45d8cc870ed0e295ff8370336084d4dc47ec39c471", func := "pileup/pilelaw2.LogsMerge", spec := "logsMerge", inPlace := ["internal/bytealg.abigen_runtime_cmpstring", "internal/bytealg.IndexByteString", "internal/bytealg.IndexString"], unfollowed := true, recurses := true, named := ["unicode/utf8.first", "unicode/utf8.acceptRanges", "internal/bytealg.MaxLen"], plainKeys := false, apart := false, laid := [("unicode/utf8.acceptRanges", laid_unicode_utf8_acceptRanges), ("unicode/utf8.first", laid_unicode_utf8_first)] }
def LogsMergeSaid : Prop := logsMergeRow.holds Tryz.pinned (OpenSpec.ofChange logsMergeSpec)

/-- ITS FALSE NEIGHBOUR: 'it returns false'. Refute it at one input. -/
def logsMergeWrong : ChangeSpec := { name := "logsMerge", fn := fun _ => fun
  | [d] => { results := [.lit (.bool false)], args := [d] }
  | _ => none }
def LogsMergeWrongFalsely : Prop := logsMergeRow.holds Tryz.pinned (OpenSpec.ofChange logsMergeWrong)

/-- 'pilelaw2.LogsChanged': WHATEVER THE INPUT: true; the input reads as it did. -/
def logsChangedSpec : ChangeSpec := { name := "logsChanged", fn := fun _ => fun
  | [d] => { results := [.lit (.bool true)], args := [d] }
  | _ => none }
def logsChangedRow : OpenClaim := { program := "ytpfhjchbegdgdaagreatdoor", sum := "a14d8e8678d0e17fc1b9dc45d8cc870ed0e295ff8370336084d4dc47ec39c471", func := "pileup/pilelaw2.LogsChanged", spec := "logsChanged", inPlace := ["internal/bytealg.abigen_runtime_cmpstring", "internal/bytealg.IndexByteString", "internal/bytealg.IndexString"], unfollowed := true, recurses := true, named := ["unicode/utf8.first", "unicode/utf8.acceptRanges", "internal/bytealg.MaxLen"], plainKeys := false, apart := false, laid := [("unicode/utf8.acceptRanges", laid_unicode_utf8_acceptRanges), ("unicode/utf8.first", laid_unicode_utf8_first)] }
def LogsChangedSaid : Prop := logsChangedRow.holds Tryz.pinned (OpenSpec.ofChange logsChangedSpec)

/-- ITS FALSE NEIGHBOUR: 'it returns false'. Refute it at one input. -/
def logsChangedWrong : ChangeSpec := { name := "logsChanged", fn := fun _ => fun
  | [d] => { results := [.lit (.bool false)], args := [d] }
  | _ => none }
def LogsChangedWrongFalsely : Prop := logsChangedRow.holds Tryz.pinned (OpenSpec.ofChange logsChangedWrong)

/-- 'pilekeep2.PausesAreEmpty': WHATEVER THE INPUT: true; the input reads as it did. -/
def pausesAreEmptySpec : ChangeSpec := { name := "pausesAreEmpty", fn := fun _ => fun
  | [d] => { results := [.lit (.bool true)], args := [d] }
  | _ => none }
def pausesAreEmptyRow : OpenClaim := { program := "ytpfhjchbegdgdaagreatdoor", sum := "a14d8e8678d0e17fc1b9dc45d8cc870ed0e295ff8370336084d4dc47ec39c471", func := "pileup/pilekeep2.PausesAreEmpty", spec := "pausesAreEmpty", inPlace := ["internal/bytealg.abigen_runtime_cmpstring", "internal/bytealg.IndexByteString", "internal/bytealg.IndexString"], unfollowed := true, recurses := true, named := ["internal/bytealg.MaxLen", "unicode/utf8.first", "unicode/utf8.acceptRanges"], plainKeys := false, apart := false, laid := [("unicode/utf8.acceptRanges", laid_unicode_utf8_acceptRanges), ("unicode/utf8.first", laid_unicode_utf8_first)] }
def PausesAreEmptySaid : Prop := pausesAreEmptyRow.holds Tryz.pinned (OpenSpec.ofChange pausesAreEmptySpec)

/-- ITS FALSE NEIGHBOUR: 'it returns false'. Refute it at one input. -/
def pausesAreEmptyWrong : ChangeSpec := { name := "pausesAreEmpty", fn := fun _ => fun
  | [d] => { results := [.lit (.bool false)], args := [d] }
  | _ => none }
def PausesAreEmptyWrongFalsely : Prop := pausesAreEmptyRow.holds Tryz.pinned (OpenSpec.ofChange pausesAreEmptyWrong)

/-- 'pilekeep2.NumbersAddUp': WHATEVER THE INPUT: true; the input reads as it did. -/
def numbersAddUpSpec : ChangeSpec := { name := "numbersAddUp", fn := fun _ => fun
  | [d] => { results := [.lit (.bool true)], args := [d] }
  | _ => none }
def numbersAddUpRow : OpenClaim := { program := "ytpfhjchbegdgdaagreatdoor", sum := "a14d8e8678d0e17fc1b9dc45d8cc870ed0e295ff8370336084d4dc47ec39c471", func := "pileup/pilekeep2.NumbersAddUp", spec := "numbersAddUp", inPlace := ["internal/bytealg.abigen_runtime_cmpstring", "internal/bytealg.IndexByteString", "internal/bytealg.IndexString"], unfollowed := true, recurses := true, named := ["internal/bytealg.MaxLen", "unicode/utf8.first", "unicode/utf8.acceptRanges"], plainKeys := false, apart := false, laid := [("unicode/utf8.acceptRanges", laid_unicode_utf8_acceptRanges), ("unicode/utf8.first", laid_unicode_utf8_first)] }
def NumbersAddUpSaid : Prop := numbersAddUpRow.holds Tryz.pinned (OpenSpec.ofChange numbersAddUpSpec)

/-- ITS FALSE NEIGHBOUR: 'it returns false'. Refute it at one input. -/
def numbersAddUpWrong : ChangeSpec := { name := "numbersAddUp", fn := fun _ => fun
  | [d] => { results := [.lit (.bool false)], args := [d] }
  | _ => none }
def NumbersAddUpWrongFalsely : Prop := numbersAddUpRow.holds Tryz.pinned (OpenSpec.ofChange numbersAddUpWrong)

/-- 'pilekeep2.ChangesCanGoBack': WHATEVER THE INPUT: true; the input reads as it did. -/
def changesCanGoBackSpec : ChangeSpec := { name := "changesCanGoBack", fn := fun _ => fun
  | [d] => { results := [.lit (.bool true)], args := [d] }
  | _ => none }
def changesCanGoBackRow : OpenClaim := { program := "ytpfhjchbegdgdaagreatdoor", sum := "a14d8e8678d0e17fc1b9dc45d8cc870ed0e295ff8370336084d4dc47ec39c471", func := "pileup/pilekeep2.ChangesCanGoBack", spec := "changesCanGoBack", inPlace := ["internal/bytealg.abigen_runtime_cmpstring", "internal/bytealg.IndexByteString", "internal/bytealg.IndexString"], unfollowed := true, recurses := true, named := ["internal/bytealg.MaxLen", "unicode/utf8.first", "unicode/utf8.acceptRanges"], plainKeys := false, apart := false, laid := [("unicode/utf8.acceptRanges", laid_unicode_utf8_acceptRanges), ("unicode/utf8.first", laid_unicode_utf8_first)] }
def ChangesCanGoBackSaid : Prop := changesCanGoBackRow.holds Tryz.pinned (OpenSpec.ofChange changesCanGoBackSpec)

/-- ITS FALSE NEIGHBOUR: 'it returns false'. Refute it at one input. -/
def changesCanGoBackWrong : ChangeSpec := { name := "changesCanGoBack", fn := fun _ => fun
  | [d] => { results := [.lit (.bool false)], args := [d] }
  | _ => none }
def ChangesCanGoBackWrongFalsely : Prop := changesCanGoBackRow.holds Tryz.pinned (OpenSpec.ofChange changesCanGoBackWrong)

/-- 'pilelaw2.LogTexts': WHATEVER THE INPUT: true; the input reads as it did. -/
def logTextsSpec : ChangeSpec := { name := "logTexts", fn := fun _ => fun
  | [d] => { results := [.lit (.bool true)], args := [d] }
  | _ => none }
def logTextsRow : OpenClaim := { program := "ytpfhjchbegdgdaagreatdoor", sum := "a14d8e8678d0e17fc1b9dc45d8cc870ed0e295ff8370336084d4dc47ec39c471", func := "pileup/pilelaw2.LogTexts", spec := "logTexts", inPlace := ["internal/bytealg.abigen_runtime_cmpstring", "internal/bytealg.IndexByteString", "internal/bytealg.IndexString", "internal/abi.NoEscape", "internal/bytealg.MakeNoZero", "internal/bytealg.CountString"], unfollowed := true, recurses := true, named := ["internal/bytealg.MaxLen", "unicode/utf8.first", "unicode/utf8.acceptRanges", "internal/strconv.uint64pow10", "math/bits.deBruijn32tab", "math/bits.deBruijn64tab", "strconv.ErrSyntax", "strconv.ErrRange"], plainKeys := false, apart := false, laid := [("math/bits.deBruijn32tab", laid_math_bits_deBruijn32tab), ("math/bits.deBruijn64tab", laid_math_bits_deBruijn64tab), ("internal/strconv.uint64pow10", laid_internal_strconv_uint64pow10), ("unicode/utf8.acceptRanges", laid_unicode_utf8_acceptRanges), ("strconv.ErrRange", laid_strconv_ErrRange), ("strconv.ErrSyntax", laid_strconv_ErrSyntax), ("unicode/utf8.first", laid_unicode_utf8_first)] }
def LogTextsSaid : Prop := logTextsRow.holds Tryz.pinned (OpenSpec.ofChange logTextsSpec)

/-- ITS FALSE NEIGHBOUR: 'it returns false'. Refute it at one input. -/
def logTextsWrong : ChangeSpec := { name := "logTexts", fn := fun _ => fun
  | [d] => { results := [.lit (.bool false)], args := [d] }
  | _ => none }
def LogTextsWrongFalsely : Prop := logTextsRow.holds Tryz.pinned (OpenSpec.ofChange logTextsWrong)

/-- 'pilekeep2.LogsStay': WHATEVER THE INPUT: true; the input reads as it did. -/
def logsStaySpec : ChangeSpec := { name := "logsStay", fn := fun _ => fun
  | [d] => { results := [.lit (.bool true)], args := [d] }
  | _ => none }
def logsStayRow : OpenClaim := { program := "ytpfhjchbegdgdaagreatdoor", sum := "a14d8e8678d0e17fc1b9dc45d8cc870ed0e295ff8370336084d4dc47ec39c471", func := "pileup/pilekeep2.LogsStay", spec := "logsStay", inPlace := ["internal/bytealg.abigen_runtime_cmpstring", "internal/bytealg.IndexByteString", "internal/bytealg.IndexString"], unfollowed := true, recurses := true, named := ["internal/bytealg.MaxLen", "unicode/utf8.first", "unicode/utf8.acceptRanges"], plainKeys := false, apart := false, laid := [("unicode/utf8.acceptRanges", laid_unicode_utf8_acceptRanges), ("unicode/utf8.first", laid_unicode_utf8_first)] }
def LogsStaySaid : Prop := logsStayRow.holds Tryz.pinned (OpenSpec.ofChange logsStaySpec)

/-- ITS FALSE NEIGHBOUR: 'it returns false'. Refute it at one input. -/
def logsStayWrong : ChangeSpec := { name := "logsStay", fn := fun _ => fun
  | [d] => { results := [.lit (.bool false)], args := [d] }
  | _ => none }
def LogsStayWrongFalsely : Prop := logsStayRow.holds Tryz.pinned (OpenSpec.ofChange logsStayWrong)

/-- 'pilekeep2.LogsAreOne': WHATEVER THE INPUT: true; the input reads as it did. -/
def logsAreOneSpec : ChangeSpec := { name := "logsAreOne", fn := fun _ => fun
  | [d] => { results := [.lit (.bool true)], args := [d] }
  | _ => none }
def logsAreOneRow : OpenClaim := { program := "ytpfhjchbegdgdaagreatdoor", sum := "a14d8e8678d0e17fc1b9dc45d8cc870ed0e295ff8370336084d4dc47ec39c471", func := "pileup/pilekeep2.LogsAreOne", spec := "logsAreOne", inPlace := ["internal/bytealg.abigen_runtime_cmpstring", "internal/bytealg.IndexByteString", "internal/bytealg.IndexString", "internal/abi.NoEscape", "internal/bytealg.MakeNoZero", "internal/bytealg.CountString"], unfollowed := true, recurses := true, named := ["internal/bytealg.MaxLen", "unicode/utf8.first", "unicode/utf8.acceptRanges", "internal/strconv.uint64pow10", "math/bits.deBruijn32tab", "math/bits.deBruijn64tab", "strconv.ErrSyntax", "strconv.ErrRange"], plainKeys := false, apart := false, laid := [("math/bits.deBruijn32tab", laid_math_bits_deBruijn32tab), ("math/bits.deBruijn64tab", laid_math_bits_deBruijn64tab), ("internal/strconv.uint64pow10", laid_internal_strconv_uint64pow10), ("unicode/utf8.acceptRanges", laid_unicode_utf8_acceptRanges), ("strconv.ErrRange", laid_strconv_ErrRange), ("strconv.ErrSyntax", laid_strconv_ErrSyntax), ("unicode/utf8.first", laid_unicode_utf8_first)] }
def LogsAreOneSaid : Prop := logsAreOneRow.holds Tryz.pinned (OpenSpec.ofChange logsAreOneSpec)

/-- ITS FALSE NEIGHBOUR: 'it returns false'. Refute it at one input. -/
def logsAreOneWrong : ChangeSpec := { name := "logsAreOne", fn := fun _ => fun
  | [d] => { results := [.lit (.bool false)], args := [d] }
  | _ => none }
def LogsAreOneWrongFalsely : Prop := logsAreOneRow.holds Tryz.pinned (OpenSpec.ofChange logsAreOneWrong)

/-- 'pilelaw2.LogsTravel': WHATEVER THE INPUT: true; the input reads as it did. -/
def logsTravelSpec : ChangeSpec := { name := "logsTravel", fn := fun _ => fun
  | [d] => { results := [.lit (.bool true)], args := [d] }
  | _ => none }
def logsTravelRow : OpenClaim := { program := "ytpfhjchbegdgdaagreatdoor", sum := "a14d8e8678d0e17fc1b9dc45d8cc870ed0e295ff8370336084d4dc47ec39c471", func := "pileup/pilelaw2.LogsTravel", spec := "logsTravel", inPlace := ["internal/bytealg.abigen_runtime_cmpstring", "internal/bytealg.IndexByteString", "internal/bytealg.IndexString", "internal/abi.NoEscape", "internal/bytealg.MakeNoZero", "internal/bytealg.CountString"], unfollowed := true, recurses := true, named := ["internal/bytealg.MaxLen", "unicode/utf8.first", "unicode/utf8.acceptRanges", "internal/strconv.uint64pow10", "math/bits.deBruijn32tab", "math/bits.deBruijn64tab", "strconv.ErrSyntax", "strconv.ErrRange"], plainKeys := false, apart := false, laid := [("math/bits.deBruijn32tab", laid_math_bits_deBruijn32tab), ("math/bits.deBruijn64tab", laid_math_bits_deBruijn64tab), ("internal/strconv.uint64pow10", laid_internal_strconv_uint64pow10), ("unicode/utf8.acceptRanges", laid_unicode_utf8_acceptRanges), ("strconv.ErrRange", laid_strconv_ErrRange), ("strconv.ErrSyntax", laid_strconv_ErrSyntax), ("unicode/utf8.first", laid_unicode_utf8_first)] }
def LogsTravelSaid : Prop := logsTravelRow.holds Tryz.pinned (OpenSpec.ofChange logsTravelSpec)

/-- ITS FALSE NEIGHBOUR: 'it returns false'. Refute it at one input. -/
def logsTravelWrong : ChangeSpec := { name := "logsTravel", fn := fun _ => fun
  | [d] => { results := [.lit (.bool false)], args := [d] }
  | _ => none }
def LogsTravelWrongFalsely : Prop := logsTravelRow.holds Tryz.pinned (OpenSpec.ofChange logsTravelWrong)

/-- 'pilekeep2.TravelKeepsSeconds': WHATEVER THE INPUT: true; the input reads as it did. -/
def travelKeepsSecondsSpec : ChangeSpec := { name := "travelKeepsSeconds", fn := fun _ => fun
  | [d] => { results := [.lit (.bool true)], args := [d] }
  | _ => none }
def travelKeepsSecondsRow : OpenClaim := { program := "ytpfhjchbegdgdaagreatdoor", sum := "a14d8e8678d0e17fc1b9dc45d8cc870ed0e295ff8370336084d4dc47ec39c471", func := "pileup/pilekeep2.TravelKeepsSeconds", spec := "travelKeepsSeconds", inPlace := ["internal/bytealg.abigen_runtime_cmpstring", "internal/bytealg.IndexByteString", "internal/bytealg.IndexString", "internal/abi.NoEscape", "internal/bytealg.MakeNoZero", "internal/bytealg.CountString"], unfollowed := true, recurses := true, named := ["internal/bytealg.MaxLen", "unicode/utf8.first", "unicode/utf8.acceptRanges", "internal/strconv.uint64pow10", "math/bits.deBruijn32tab", "math/bits.deBruijn64tab", "strconv.ErrSyntax", "strconv.ErrRange"], plainKeys := false, apart := false, laid := [("math/bits.deBruijn32tab", laid_math_bits_deBruijn32tab), ("math/bits.deBruijn64tab", laid_math_bits_deBruijn64tab), ("internal/strconv.uint64pow10", laid_internal_strconv_uint64pow10), ("unicode/utf8.acceptRanges", laid_unicode_utf8_acceptRanges), ("strconv.ErrRange", laid_strconv_ErrRange), ("strconv.ErrSyntax", laid_strconv_ErrSyntax), ("unicode/utf8.first", laid_unicode_utf8_first)] }
def TravelKeepsSecondsSaid : Prop := travelKeepsSecondsRow.holds Tryz.pinned (OpenSpec.ofChange travelKeepsSecondsSpec)

/-- ITS FALSE NEIGHBOUR: 'it returns false'. Refute it at one input. -/
def travelKeepsSecondsWrong : ChangeSpec := { name := "travelKeepsSeconds", fn := fun _ => fun
  | [d] => { results := [.lit (.bool false)], args := [d] }
  | _ => none }
def TravelKeepsSecondsWrongFalsely : Prop := travelKeepsSecondsRow.holds Tryz.pinned (OpenSpec.ofChange travelKeepsSecondsWrong)

/- THE SECOND FORM. 'bulk': how many values and letters a reading holds, each counted each time it is reached (what is shared counts as often as it is met; a slice's spare places count too). A statement '..UptoSaid' is the law's where the arguments, and the package variables that the reading takes, are together of bulk at most 1048576: NARROWER than '..Said'. Prove '..Said' where nothing that the law and all that it calls make is longer than what came in: it says more and counts as full. Else prove '..UptoSaid'. A law counts once. -/
mutual
def uptoBulk {H : Type} : DataW H → Nat
  | .lit (.string bytes) => bytes.length + 1
  | .lit _ => 1
  | .nil => 1
  | .ptr d => uptoBulk d + 1
  | .slice elems spare => uptoBulkAll elems + uptoBulkAll spare + 1
  | .agg parts => uptoBulkAll parts + 1
  | .iface _ d => uptoBulk d + 1
  | .map entries => uptoBulkEntries entries + 1
  | .held _ => 1
def uptoBulkAll {H : Type} : List (DataW H) → Nat
  | [] => 0
  | d :: r => uptoBulk d + uptoBulkAll r
def uptoBulkEntries {H : Type} : List (Lit × DataW H) → Nat
  | [] => 0
  | x :: r => uptoBulkEntry x + uptoBulkEntries r
def uptoBulkEntry {H : Type} : Lit × DataW H → Nat
  | (.string bytes, d) => bytes.length + uptoBulk d + 1
  | (_, d) => uptoBulk d + 1
 end
def uptoSmall : (H : Type) → List (DataW H) → Bool := fun _ ds => decide (uptoBulkAll ds ≤ 1048576)
def OpenSpec.upto (s : _root_.Go.ChangeSpec) : _root_.Go.OpenSpec := { _root_.Go.OpenSpec.ofChange s with cond := some uptoSmall }

/-- 'pilelaw2.LogsCounted', WHERE WHAT IT READS IS OF BULK AT MOST 1048576: true; the input reads as it did. -/
def logsCountedUptoRow : OpenClaim := { program := "ytpfhjchbegdgdaagreatdoor", sum := "a14d8e8678d0e17fc1b9dc45d8cc870ed0e295ff8370336084d4dc47ec39c471", func := "pileup/pilelaw2.LogsCounted", spec := "logsCounted", inPlace := ["internal/bytealg.abigen_runtime_cmpstring", "internal/bytealg.IndexByteString", "internal/bytealg.IndexString"], unfollowed := true, recurses := true, named := ["unicode/utf8.first", "unicode/utf8.acceptRanges", "internal/bytealg.MaxLen"], plainKeys := false, apart := false, laid := [("unicode/utf8.acceptRanges", laid_unicode_utf8_acceptRanges), ("unicode/utf8.first", laid_unicode_utf8_first)], narrowed := true }
def LogsCountedUptoSaid : Prop := logsCountedUptoRow.holds Tryz.pinned (OpenSpec.upto logsCountedSpec)

/-- 'pilelaw2.LogsMerge', WHERE WHAT IT READS IS OF BULK AT MOST 1048576: true; the input reads as it did. -/
def logsMergeUptoRow : OpenClaim := { program := "ytpfhjchbegdgdaagreatdoor", sum := "a14d8e8678d0e17fc1b9dc45d8cc870ed0e295ff8370336084d4dc47ec39c471", func := "pileup/pilelaw2.LogsMerge", spec := "logsMerge", inPlace := ["internal/bytealg.abigen_runtime_cmpstring", "internal/bytealg.IndexByteString", "internal/bytealg.IndexString"], unfollowed := true, recurses := true, named := ["unicode/utf8.first", "unicode/utf8.acceptRanges", "internal/bytealg.MaxLen"], plainKeys := false, apart := false, laid := [("unicode/utf8.acceptRanges", laid_unicode_utf8_acceptRanges), ("unicode/utf8.first", laid_unicode_utf8_first)], narrowed := true }
def LogsMergeUptoSaid : Prop := logsMergeUptoRow.holds Tryz.pinned (OpenSpec.upto logsMergeSpec)

/-- 'pilelaw2.LogsChanged', WHERE WHAT IT READS IS OF BULK AT MOST 1048576: true; the input reads as it did. -/
def logsChangedUptoRow : OpenClaim := { program := "ytpfhjchbegdgdaagreatdoor", sum := "a14d8e8678d0e17fc1b9dc45d8cc870ed0e295ff8370336084d4dc47ec39c471", func := "pileup/pilelaw2.LogsChanged", spec := "logsChanged", inPlace := ["internal/bytealg.abigen_runtime_cmpstring", "internal/bytealg.IndexByteString", "internal/bytealg.IndexString"], unfollowed := true, recurses := true, named := ["unicode/utf8.first", "unicode/utf8.acceptRanges", "internal/bytealg.MaxLen"], plainKeys := false, apart := false, laid := [("unicode/utf8.acceptRanges", laid_unicode_utf8_acceptRanges), ("unicode/utf8.first", laid_unicode_utf8_first)], narrowed := true }
def LogsChangedUptoSaid : Prop := logsChangedUptoRow.holds Tryz.pinned (OpenSpec.upto logsChangedSpec)

/-- 'pilekeep2.PausesAreEmpty', WHERE WHAT IT READS IS OF BULK AT MOST 1048576: true; the input reads as it did. -/
def pausesAreEmptyUptoRow : OpenClaim := { program := "ytpfhjchbegdgdaagreatdoor", sum := "a14d8e8678d0e17fc1b9dc45d8cc870ed0e295ff8370336084d4dc47ec39c471", func := "pileup/pilekeep2.PausesAreEmpty", spec := "pausesAreEmpty", inPlace := ["internal/bytealg.abigen_runtime_cmpstring", "internal/bytealg.IndexByteString", "internal/bytealg.IndexString"], unfollowed := true, recurses := true, named := ["internal/bytealg.MaxLen", "unicode/utf8.first", "unicode/utf8.acceptRanges"], plainKeys := false, apart := false, laid := [("unicode/utf8.acceptRanges", laid_unicode_utf8_acceptRanges), ("unicode/utf8.first", laid_unicode_utf8_first)], narrowed := true }
def PausesAreEmptyUptoSaid : Prop := pausesAreEmptyUptoRow.holds Tryz.pinned (OpenSpec.upto pausesAreEmptySpec)

/-- 'pilekeep2.NumbersAddUp', WHERE WHAT IT READS IS OF BULK AT MOST 1048576: true; the input reads as it did. -/
def numbersAddUpUptoRow : OpenClaim := { program := "ytpfhjchbegdgdaagreatdoor", sum := "a14d8e8678d0e17fc1b9dc45d8cc870ed0e295ff8370336084d4dc47ec39c471", func := "pileup/pilekeep2.NumbersAddUp", spec := "numbersAddUp", inPlace := ["internal/bytealg.abigen_runtime_cmpstring", "internal/bytealg.IndexByteString", "internal/bytealg.IndexString"], unfollowed := true, recurses := true, named := ["internal/bytealg.MaxLen", "unicode/utf8.first", "unicode/utf8.acceptRanges"], plainKeys := false, apart := false, laid := [("unicode/utf8.acceptRanges", laid_unicode_utf8_acceptRanges), ("unicode/utf8.first", laid_unicode_utf8_first)], narrowed := true }
def NumbersAddUpUptoSaid : Prop := numbersAddUpUptoRow.holds Tryz.pinned (OpenSpec.upto numbersAddUpSpec)

/-- 'pilekeep2.ChangesCanGoBack', WHERE WHAT IT READS IS OF BULK AT MOST 1048576: true; the input reads as it did. -/
def changesCanGoBackUptoRow : OpenClaim := { program := "ytpfhjchbegdgdaagreatdoor", sum := "a14d8e8678d0e17fc1b9dc45d8cc870ed0e295ff8370336084d4dc47ec39c471", func := "pileup/pilekeep2.ChangesCanGoBack", spec := "changesCanGoBack", inPlace := ["internal/bytealg.abigen_runtime_cmpstring", "internal/bytealg.IndexByteString", "internal/bytealg.IndexString"], unfollowed := true, recurses := true, named := ["internal/bytealg.MaxLen", "unicode/utf8.first", "unicode/utf8.acceptRanges"], plainKeys := false, apart := false, laid := [("unicode/utf8.acceptRanges", laid_unicode_utf8_acceptRanges), ("unicode/utf8.first", laid_unicode_utf8_first)], narrowed := true }
def ChangesCanGoBackUptoSaid : Prop := changesCanGoBackUptoRow.holds Tryz.pinned (OpenSpec.upto changesCanGoBackSpec)

/-- 'pilelaw2.LogTexts', WHERE WHAT IT READS IS OF BULK AT MOST 1048576: true; the input reads as it did. -/
def logTextsUptoRow : OpenClaim := { program := "ytpfhjchbegdgdaagreatdoor", sum := "a14d8e8678d0e17fc1b9dc45d8cc870ed0e295ff8370336084d4dc47ec39c471", func := "pileup/pilelaw2.LogTexts", spec := "logTexts", inPlace := ["internal/bytealg.abigen_runtime_cmpstring", "internal/bytealg.IndexByteString", "internal/bytealg.IndexString", "internal/abi.NoEscape", "internal/bytealg.MakeNoZero", "internal/bytealg.CountString"], unfollowed := true, recurses := true, named := ["internal/bytealg.MaxLen", "unicode/utf8.first", "unicode/utf8.acceptRanges", "internal/strconv.uint64pow10", "math/bits.deBruijn32tab", "math/bits.deBruijn64tab", "strconv.ErrSyntax", "strconv.ErrRange"], plainKeys := false, apart := false, laid := [("math/bits.deBruijn32tab", laid_math_bits_deBruijn32tab), ("math/bits.deBruijn64tab", laid_math_bits_deBruijn64tab), ("internal/strconv.uint64pow10", laid_internal_strconv_uint64pow10), ("unicode/utf8.acceptRanges", laid_unicode_utf8_acceptRanges), ("strconv.ErrRange", laid_strconv_ErrRange), ("strconv.ErrSyntax", laid_strconv_ErrSyntax), ("unicode/utf8.first", laid_unicode_utf8_first)], narrowed := true }
def LogTextsUptoSaid : Prop := logTextsUptoRow.holds Tryz.pinned (OpenSpec.upto logTextsSpec)

/-- 'pilekeep2.LogsStay', WHERE WHAT IT READS IS OF BULK AT MOST 1048576: true; the input reads as it did. -/
def logsStayUptoRow : OpenClaim := { program := "ytpfhjchbegdgdaagreatdoor", sum := "a14d8e8678d0e17fc1b9dc45d8cc870ed0e295ff8370336084d4dc47ec39c471", func := "pileup/pilekeep2.LogsStay", spec := "logsStay", inPlace := ["internal/bytealg.abigen_runtime_cmpstring", "internal/bytealg.IndexByteString", "internal/bytealg.IndexString"], unfollowed := true, recurses := true, named := ["internal/bytealg.MaxLen", "unicode/utf8.first", "unicode/utf8.acceptRanges"], plainKeys := false, apart := false, laid := [("unicode/utf8.acceptRanges", laid_unicode_utf8_acceptRanges), ("unicode/utf8.first", laid_unicode_utf8_first)], narrowed := true }
def LogsStayUptoSaid : Prop := logsStayUptoRow.holds Tryz.pinned (OpenSpec.upto logsStaySpec)

/-- 'pilekeep2.LogsAreOne', WHERE WHAT IT READS IS OF BULK AT MOST 1048576: true; the input reads as it did. -/
def logsAreOneUptoRow : OpenClaim := { program := "ytpfhjchbegdgdaagreatdoor", sum := "a14d8e8678d0e17fc1b9dc45d8cc870ed0e295ff8370336084d4dc47ec39c471", func := "pileup/pilekeep2.LogsAreOne", spec := "logsAreOne", inPlace := ["internal/bytealg.abigen_runtime_cmpstring", "internal/bytealg.IndexByteString", "internal/bytealg.IndexString", "internal/abi.NoEscape", "internal/bytealg.MakeNoZero", "internal/bytealg.CountString"], unfollowed := true, recurses := true, named := ["internal/bytealg.MaxLen", "unicode/utf8.first", "unicode/utf8.acceptRanges", "internal/strconv.uint64pow10", "math/bits.deBruijn32tab", "math/bits.deBruijn64tab", "strconv.ErrSyntax", "strconv.ErrRange"], plainKeys := false, apart := false, laid := [("math/bits.deBruijn32tab", laid_math_bits_deBruijn32tab), ("math/bits.deBruijn64tab", laid_math_bits_deBruijn64tab), ("internal/strconv.uint64pow10", laid_internal_strconv_uint64pow10), ("unicode/utf8.acceptRanges", laid_unicode_utf8_acceptRanges), ("strconv.ErrRange", laid_strconv_ErrRange), ("strconv.ErrSyntax", laid_strconv_ErrSyntax), ("unicode/utf8.first", laid_unicode_utf8_first)], narrowed := true }
def LogsAreOneUptoSaid : Prop := logsAreOneUptoRow.holds Tryz.pinned (OpenSpec.upto logsAreOneSpec)

/-- 'pilelaw2.LogsTravel', WHERE WHAT IT READS IS OF BULK AT MOST 1048576: true; the input reads as it did. -/
def logsTravelUptoRow : OpenClaim := { program := "ytpfhjchbegdgdaagreatdoor", sum := "a14d8e8678d0e17fc1b9dc45d8cc870ed0e295ff8370336084d4dc47ec39c471", func := "pileup/pilelaw2.LogsTravel", spec := "logsTravel", inPlace := ["internal/bytealg.abigen_runtime_cmpstring", "internal/bytealg.IndexByteString", "internal/bytealg.IndexString", "internal/abi.NoEscape", "internal/bytealg.MakeNoZero", "internal/bytealg.CountString"], unfollowed := true, recurses := true, named := ["internal/bytealg.MaxLen", "unicode/utf8.first", "unicode/utf8.acceptRanges", "internal/strconv.uint64pow10", "math/bits.deBruijn32tab", "math/bits.deBruijn64tab", "strconv.ErrSyntax", "strconv.ErrRange"], plainKeys := false, apart := false, laid := [("math/bits.deBruijn32tab", laid_math_bits_deBruijn32tab), ("math/bits.deBruijn64tab", laid_math_bits_deBruijn64tab), ("internal/strconv.uint64pow10", laid_internal_strconv_uint64pow10), ("unicode/utf8.acceptRanges", laid_unicode_utf8_acceptRanges), ("strconv.ErrRange", laid_strconv_ErrRange), ("strconv.ErrSyntax", laid_strconv_ErrSyntax), ("unicode/utf8.first", laid_unicode_utf8_first)], narrowed := true }
def LogsTravelUptoSaid : Prop := logsTravelUptoRow.holds Tryz.pinned (OpenSpec.upto logsTravelSpec)

/-- 'pilekeep2.TravelKeepsSeconds', WHERE WHAT IT READS IS OF BULK AT MOST 1048576: true; the input reads as it did. -/
def travelKeepsSecondsUptoRow : OpenClaim := { program := "ytpfhjchbegdgdaagreatdoor", sum := "a14d8e8678d0e17fc1b9dc45d8cc870ed0e295ff8370336084d4dc47ec39c471", func := "pileup/pilekeep2.TravelKeepsSeconds", spec := "travelKeepsSeconds", inPlace := ["internal/bytealg.abigen_runtime_cmpstring", "internal/bytealg.IndexByteString", "internal/bytealg.IndexString", "internal/abi.NoEscape", "internal/bytealg.MakeNoZero", "internal/bytealg.CountString"], unfollowed := true, recurses := true, named := ["internal/bytealg.MaxLen", "unicode/utf8.first", "unicode/utf8.acceptRanges", "internal/strconv.uint64pow10", "math/bits.deBruijn32tab", "math/bits.deBruijn64tab", "strconv.ErrSyntax", "strconv.ErrRange"], plainKeys := false, apart := false, laid := [("math/bits.deBruijn32tab", laid_math_bits_deBruijn32tab), ("math/bits.deBruijn64tab", laid_math_bits_deBruijn64tab), ("internal/strconv.uint64pow10", laid_internal_strconv_uint64pow10), ("unicode/utf8.acceptRanges", laid_unicode_utf8_acceptRanges), ("strconv.ErrRange", laid_strconv_ErrRange), ("strconv.ErrSyntax", laid_strconv_ErrSyntax), ("unicode/utf8.first", laid_unicode_utf8_first)], narrowed := true }
def TravelKeepsSecondsUptoSaid : Prop := travelKeepsSecondsUptoRow.holds Tryz.pinned (OpenSpec.upto travelKeepsSecondsSpec)

end Rows
end Go.Proofs.YtpfhjchbegdgdaaGreatDoor
