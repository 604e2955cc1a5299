/-
  NARROWER THAN 'FOR EVERY INPUT', by the rows' own cells (each row's printed sentence says how): FnExactPinKey: laid · FnExactDataKey: laid · FnExactSamplesText: laid · FnExactReadDataKey: laid · FnExactReadAgg: laid · FnExactReadLease: laid · FnExactReadSamples: laid · FnExactReadBuckets: laid · FnExactReadRecord: laid · FnExactRecordOK: laid.
  DERIVED. THE GIVEN ROWS OF THIS SEAT. 10 by the template 'for every input the law returns true; each argument reads behind the call as it read before'; 0 by the template 'total and deterministic' (their statements: YtbdhpmamlibmhaaDoorTotals.lean).
  GIVEN WITH THE SEED: the statements are not yours to turn. If you find one false, say at which input.
  Laid BY PROGRAM, IN A SANDBOX (cutbox-rows.mjs): the forced cells as the released guide's own fill.sh prints them over the translation 0e63ddb54f860818… (all of the seat's roots in one cut). By AI agents, Wed Nov 11 2026. No macro, syntax, notation, axiom, sorry.
-/
import Derived.Test.YtbdhpmamlibmhaaDoorChecked
import GoSem.PinnedTables
import GoSem.Claim
import GoSem.ClaimJoined
import GoSem.ClaimMapViews
import Derived.JoinedTies
import Derived.KernelRfl
namespace Go.Proofs.YtbdhpmamlibmhaaDoor
/- THE CELL 'sum', in the pinned program and in every row, IS THE sha256 OF THE DUMP (.gsa) THAT YtbdhpmamlibmhaaDoorProg.lean LOADS. Nothing in Lean hashes anything: it is a label: what it is worth is what the hold of that sum in a sandbox is worth. -/
noncomputable def Tryd.pinned : Pinned := { name := "ytbdhpmamlibmhaadoor", sum := "0e63ddb54f8608189c27a311ec0373728cb93e2635aedfe675bd39b0c8b49555", checked := Tryd.checked }
namespace Rows
def none {H : Type} : Left H := { results := [], args := [] }

/- WHAT THE LISTED PACKAGE-LEVEL VARIABLES READ AS WHEN THE CALL BEGINS. Each datum BY PROGRAM (the guide's laid-datum.mjs) off the statement by which the dump's own 'gosem.cut.vars' lays the variable. In a bare row this is a premise. The card (YtbdhpmamlibmhaaDoorCards.lean) ties it to the program's text. -/
def laid_math_bits_deBruijn32tab {H : Type} : DataW H := .agg [.lit (.int .u8 0), .lit (.int .u8 1), .lit (.int .u8 28), .lit (.int .u8 2), .lit (.int .u8 29), .lit (.int .u8 14), .lit (.int .u8 24), .lit (.int .u8 3), .lit (.int .u8 30), .lit (.int .u8 22), .lit (.int .u8 20), .lit (.int .u8 15), .lit (.int .u8 25), .lit (.int .u8 17), .lit (.int .u8 4), .lit (.int .u8 8), .lit (.int .u8 31), .lit (.int .u8 27), .lit (.int .u8 13), .lit (.int .u8 23), .lit (.int .u8 21), .lit (.int .u8 19), .lit (.int .u8 16), .lit (.int .u8 7), .lit (.int .u8 26), .lit (.int .u8 12), .lit (.int .u8 18), .lit (.int .u8 6), .lit (.int .u8 11), .lit (.int .u8 5), .lit (.int .u8 10), .lit (.int .u8 9)]
def laid_math_bits_deBruijn64tab {H : Type} : DataW H := .agg [.lit (.int .u8 0), .lit (.int .u8 1), .lit (.int .u8 56), .lit (.int .u8 2), .lit (.int .u8 57), .lit (.int .u8 49), .lit (.int .u8 28), .lit (.int .u8 3), .lit (.int .u8 61), .lit (.int .u8 58), .lit (.int .u8 42), .lit (.int .u8 50), .lit (.int .u8 38), .lit (.int .u8 29), .lit (.int .u8 17), .lit (.int .u8 4), .lit (.int .u8 62), .lit (.int .u8 47), .lit (.int .u8 59), .lit (.int .u8 36), .lit (.int .u8 45), .lit (.int .u8 43), .lit (.int .u8 51), .lit (.int .u8 22), .lit (.int .u8 53), .lit (.int .u8 39), .lit (.int .u8 33), .lit (.int .u8 30), .lit (.int .u8 24), .lit (.int .u8 18), .lit (.int .u8 12), .lit (.int .u8 5), .lit (.int .u8 63), .lit (.int .u8 55), .lit (.int .u8 48), .lit (.int .u8 27), .lit (.int .u8 60), .lit (.int .u8 41), .lit (.int .u8 37), .lit (.int .u8 16), .lit (.int .u8 46), .lit (.int .u8 35), .lit (.int .u8 44), .lit (.int .u8 21), .lit (.int .u8 52), .lit (.int .u8 32), .lit (.int .u8 23), .lit (.int .u8 11), .lit (.int .u8 54), .lit (.int .u8 26), .lit (.int .u8 40), .lit (.int .u8 15), .lit (.int .u8 34), .lit (.int .u8 20), .lit (.int .u8 31), .lit (.int .u8 10), .lit (.int .u8 25), .lit (.int .u8 14), .lit (.int .u8 19), .lit (.int .u8 9), .lit (.int .u8 13), .lit (.int .u8 8), .lit (.int .u8 7), .lit (.int .u8 6)]
def laid_internal_strconv_uint64pow10 {H : Type} : DataW H := .agg [.lit (.int .u64 1), .lit (.int .u64 10), .lit (.int .u64 100), .lit (.int .u64 1000), .lit (.int .u64 10000), .lit (.int .u64 100000), .lit (.int .u64 1000000), .lit (.int .u64 10000000), .lit (.int .u64 100000000), .lit (.int .u64 1000000000), .lit (.int .u64 10000000000), .lit (.int .u64 100000000000), .lit (.int .u64 1000000000000), .lit (.int .u64 10000000000000), .lit (.int .u64 100000000000000), .lit (.int .u64 1000000000000000), .lit (.int .u64 10000000000000000), .lit (.int .u64 100000000000000000), .lit (.int .u64 1000000000000000000), .lit (.int .u64 10000000000000000000)]
def laid_strconv_ErrRange {H : Type} : DataW H := .iface "*errors.errorString" (.ptr (.agg [.lit (.string [118, 97, 108, 117, 101, 32, 111, 117, 116, 32, 111, 102, 32, 114, 97, 110, 103, 101])]))
def laid_strconv_ErrSyntax {H : Type} : DataW H := .iface "*errors.errorString" (.ptr (.agg [.lit (.string [105, 110, 118, 97, 108, 105, 100, 32, 115, 121, 110, 116, 97, 120])]))
def laid_unicode_utf8_acceptRanges {H : Type} : DataW H := .agg [.agg [.lit (.int .u8 128), .lit (.int .u8 191)], .agg [.lit (.int .u8 160), .lit (.int .u8 191)], .agg [.lit (.int .u8 128), .lit (.int .u8 159)], .agg [.lit (.int .u8 144), .lit (.int .u8 191)], .agg [.lit (.int .u8 128), .lit (.int .u8 143)], .agg [.lit (.int .u8 0), .lit (.int .u8 0)], .agg [.lit (.int .u8 0), .lit (.int .u8 0)], .agg [.lit (.int .u8 0), .lit (.int .u8 0)], .agg [.lit (.int .u8 0), .lit (.int .u8 0)], .agg [.lit (.int .u8 0), .lit (.int .u8 0)], .agg [.lit (.int .u8 0), .lit (.int .u8 0)], .agg [.lit (.int .u8 0), .lit (.int .u8 0)], .agg [.lit (.int .u8 0), .lit (.int .u8 0)], .agg [.lit (.int .u8 0), .lit (.int .u8 0)], .agg [.lit (.int .u8 0), .lit (.int .u8 0)], .agg [.lit (.int .u8 0), .lit (.int .u8 0)]]
/-- One of Go's own tables, pinned by name: the form's constant. -/
def laid_unicode_utf8_first : DataW Unit := Go.Pinned.utf8First

/-- 'laws.FnExactPinKey': WHATEVER THE INPUT: true; the input reads as it did. -/
def fnExactPinKeySpec : ChangeSpec := { name := "fnExactPinKey", fn := fun _ => fun
  | [d] => { results := [.lit (.bool true)], args := [d] }
  | _ => none }
def fnExactPinKeyRow : OpenClaim := { program := "ytbdhpmamlibmhaadoor", sum := "0e63ddb54f8608189c27a311ec0373728cb93e2635aedfe675bd39b0c8b49555", func := "loop.example/g00601/laws.FnExactPinKey", spec := "fnExactPinKey", recurses := true, named := ["internal/strconv.uint64pow10", "math/bits.deBruijn32tab", "math/bits.deBruijn64tab"], apart := false, laid := [("math/bits.deBruijn32tab", laid_math_bits_deBruijn32tab), ("math/bits.deBruijn64tab", laid_math_bits_deBruijn64tab), ("internal/strconv.uint64pow10", laid_internal_strconv_uint64pow10)] }
def FnExactPinKeySaid : Prop := fnExactPinKeyRow.holds Tryd.pinned (OpenSpec.ofChange fnExactPinKeySpec)

/-- ITS FALSE NEIGHBOUR: 'it returns false'. Refute it at one input. -/
def fnExactPinKeyWrong : ChangeSpec := { name := "fnExactPinKey", fn := fun _ => fun
  | [d] => { results := [.lit (.bool false)], args := [d] }
  | _ => none }
def FnExactPinKeyWrongFalsely : Prop := fnExactPinKeyRow.holds Tryd.pinned (OpenSpec.ofChange fnExactPinKeyWrong)

/-- 'laws.FnExactDataKey': WHATEVER THE INPUT: true; the input reads as it did. -/
def fnExactDataKeySpec : ChangeSpec := { name := "fnExactDataKey", fn := fun _ => fun
  | [d1, d2, d3] => { results := [.lit (.bool true)], args := [d1, d2, d3] }
  | _ => none }
def fnExactDataKeyRow : OpenClaim := { program := "ytbdhpmamlibmhaadoor", sum := "0e63ddb54f8608189c27a311ec0373728cb93e2635aedfe675bd39b0c8b49555", func := "loop.example/g00601/laws.FnExactDataKey", spec := "fnExactDataKey", recurses := true, named := ["internal/strconv.uint64pow10", "math/bits.deBruijn32tab", "math/bits.deBruijn64tab"], apart := false, laid := [("math/bits.deBruijn32tab", laid_math_bits_deBruijn32tab), ("math/bits.deBruijn64tab", laid_math_bits_deBruijn64tab), ("internal/strconv.uint64pow10", laid_internal_strconv_uint64pow10)] }
def FnExactDataKeySaid : Prop := fnExactDataKeyRow.holds Tryd.pinned (OpenSpec.ofChange fnExactDataKeySpec)

/-- ITS FALSE NEIGHBOUR: 'it returns false'. Refute it at one input. -/
def fnExactDataKeyWrong : ChangeSpec := { name := "fnExactDataKey", fn := fun _ => fun
  | [d1, d2, d3] => { results := [.lit (.bool false)], args := [d1, d2, d3] }
  | _ => none }
def FnExactDataKeyWrongFalsely : Prop := fnExactDataKeyRow.holds Tryd.pinned (OpenSpec.ofChange fnExactDataKeyWrong)

/-- 'laws.FnExactSamplesText': WHATEVER THE INPUT: true; the input reads as it did. -/
def fnExactSamplesTextSpec : ChangeSpec := { name := "fnExactSamplesText", fn := fun _ => fun
  | [d] => { results := [.lit (.bool true)], args := [d] }
  | _ => none }
def fnExactSamplesTextRow : OpenClaim := { program := "ytbdhpmamlibmhaadoor", sum := "0e63ddb54f8608189c27a311ec0373728cb93e2635aedfe675bd39b0c8b49555", func := "loop.example/g00601/laws.FnExactSamplesText", spec := "fnExactSamplesText", inPlace := ["internal/abi.NoEscape", "internal/bytealg.MakeNoZero"], recurses := true, named := ["internal/strconv.uint64pow10", "math/bits.deBruijn32tab", "math/bits.deBruijn64tab"], apart := false, laid := [("math/bits.deBruijn32tab", laid_math_bits_deBruijn32tab), ("math/bits.deBruijn64tab", laid_math_bits_deBruijn64tab), ("internal/strconv.uint64pow10", laid_internal_strconv_uint64pow10)] }
def FnExactSamplesTextSaid : Prop := fnExactSamplesTextRow.holds Tryd.pinned (OpenSpec.ofChange fnExactSamplesTextSpec)

/-- ITS FALSE NEIGHBOUR: 'it returns false'. Refute it at one input. -/
def fnExactSamplesTextWrong : ChangeSpec := { name := "fnExactSamplesText", fn := fun _ => fun
  | [d] => { results := [.lit (.bool false)], args := [d] }
  | _ => none }
def FnExactSamplesTextWrongFalsely : Prop := fnExactSamplesTextRow.holds Tryd.pinned (OpenSpec.ofChange fnExactSamplesTextWrong)

/-- 'laws.FnExactReadDataKey': WHATEVER THE INPUT: true; the input reads as it did. -/
def fnExactReadDataKeySpec : ChangeSpec := { name := "fnExactReadDataKey", fn := fun _ => fun
  | [d] => { results := [.lit (.bool true)], args := [d] }
  | _ => none }
def fnExactReadDataKeyRow : OpenClaim := { program := "ytbdhpmamlibmhaadoor", sum := "0e63ddb54f8608189c27a311ec0373728cb93e2635aedfe675bd39b0c8b49555", func := "loop.example/g00601/laws.FnExactReadDataKey", spec := "fnExactReadDataKey", unfollowed := true, recurses := true, named := ["strconv.ErrSyntax", "strconv.ErrRange", "internal/strconv.uint64pow10", "math/bits.deBruijn32tab", "math/bits.deBruijn64tab"], apart := false, laid := [("math/bits.deBruijn32tab", laid_math_bits_deBruijn32tab), ("math/bits.deBruijn64tab", laid_math_bits_deBruijn64tab), ("internal/strconv.uint64pow10", laid_internal_strconv_uint64pow10), ("strconv.ErrRange", laid_strconv_ErrRange), ("strconv.ErrSyntax", laid_strconv_ErrSyntax)] }
def FnExactReadDataKeySaid : Prop := fnExactReadDataKeyRow.holds Tryd.pinned (OpenSpec.ofChange fnExactReadDataKeySpec)

/-- ITS FALSE NEIGHBOUR: 'it returns false'. Refute it at one input. -/
def fnExactReadDataKeyWrong : ChangeSpec := { name := "fnExactReadDataKey", fn := fun _ => fun
  | [d] => { results := [.lit (.bool false)], args := [d] }
  | _ => none }
def FnExactReadDataKeyWrongFalsely : Prop := fnExactReadDataKeyRow.holds Tryd.pinned (OpenSpec.ofChange fnExactReadDataKeyWrong)

/-- 'laws.FnExactReadAgg': WHATEVER THE INPUT: true; the input reads as it did. -/
def fnExactReadAggSpec : ChangeSpec := { name := "fnExactReadAgg", fn := fun _ => fun
  | [d] => { results := [.lit (.bool true)], args := [d] }
  | _ => none }
def fnExactReadAggRow : OpenClaim := { program := "ytbdhpmamlibmhaadoor", sum := "0e63ddb54f8608189c27a311ec0373728cb93e2635aedfe675bd39b0c8b49555", func := "loop.example/g00601/laws.FnExactReadAgg", spec := "fnExactReadAgg", inPlace := ["internal/bytealg.CountString", "internal/bytealg.IndexByteString", "internal/bytealg.IndexString"], unfollowed := true, recurses := true, named := ["unicode/utf8.first", "unicode/utf8.acceptRanges", "internal/bytealg.MaxLen", "strconv.ErrSyntax", "strconv.ErrRange", "internal/strconv.uint64pow10", "math/bits.deBruijn32tab", "math/bits.deBruijn64tab"], apart := false, laid := [("math/bits.deBruijn32tab", laid_math_bits_deBruijn32tab), ("math/bits.deBruijn64tab", laid_math_bits_deBruijn64tab), ("internal/strconv.uint64pow10", laid_internal_strconv_uint64pow10), ("unicode/utf8.acceptRanges", laid_unicode_utf8_acceptRanges), ("strconv.ErrRange", laid_strconv_ErrRange), ("strconv.ErrSyntax", laid_strconv_ErrSyntax), ("unicode/utf8.first", laid_unicode_utf8_first)] }
def FnExactReadAggSaid : Prop := fnExactReadAggRow.holds Tryd.pinned (OpenSpec.ofChange fnExactReadAggSpec)

/-- ITS FALSE NEIGHBOUR: 'it returns false'. Refute it at one input. -/
def fnExactReadAggWrong : ChangeSpec := { name := "fnExactReadAgg", fn := fun _ => fun
  | [d] => { results := [.lit (.bool false)], args := [d] }
  | _ => none }
def FnExactReadAggWrongFalsely : Prop := fnExactReadAggRow.holds Tryd.pinned (OpenSpec.ofChange fnExactReadAggWrong)

/-- 'laws.FnExactReadLease': WHATEVER THE INPUT: true; the input reads as it did. -/
def fnExactReadLeaseSpec : ChangeSpec := { name := "fnExactReadLease", fn := fun _ => fun
  | [d] => { results := [.lit (.bool true)], args := [d] }
  | _ => none }
def fnExactReadLeaseRow : OpenClaim := { program := "ytbdhpmamlibmhaadoor", sum := "0e63ddb54f8608189c27a311ec0373728cb93e2635aedfe675bd39b0c8b49555", func := "loop.example/g00601/laws.FnExactReadLease", spec := "fnExactReadLease", inPlace := ["internal/bytealg.CountString", "internal/bytealg.IndexByteString", "internal/bytealg.IndexString"], unfollowed := true, recurses := true, named := ["unicode/utf8.first", "unicode/utf8.acceptRanges", "internal/bytealg.MaxLen", "strconv.ErrSyntax", "strconv.ErrRange", "internal/strconv.uint64pow10", "math/bits.deBruijn32tab", "math/bits.deBruijn64tab"], apart := false, laid := [("math/bits.deBruijn32tab", laid_math_bits_deBruijn32tab), ("math/bits.deBruijn64tab", laid_math_bits_deBruijn64tab), ("internal/strconv.uint64pow10", laid_internal_strconv_uint64pow10), ("unicode/utf8.acceptRanges", laid_unicode_utf8_acceptRanges), ("strconv.ErrRange", laid_strconv_ErrRange), ("strconv.ErrSyntax", laid_strconv_ErrSyntax), ("unicode/utf8.first", laid_unicode_utf8_first)] }
def FnExactReadLeaseSaid : Prop := fnExactReadLeaseRow.holds Tryd.pinned (OpenSpec.ofChange fnExactReadLeaseSpec)

/-- ITS FALSE NEIGHBOUR: 'it returns false'. Refute it at one input. -/
def fnExactReadLeaseWrong : ChangeSpec := { name := "fnExactReadLease", fn := fun _ => fun
  | [d] => { results := [.lit (.bool false)], args := [d] }
  | _ => none }
def FnExactReadLeaseWrongFalsely : Prop := fnExactReadLeaseRow.holds Tryd.pinned (OpenSpec.ofChange fnExactReadLeaseWrong)

/-- 'laws.FnExactReadSamples': WHATEVER THE INPUT: true; the input reads as it did. -/
def fnExactReadSamplesSpec : ChangeSpec := { name := "fnExactReadSamples", fn := fun _ => fun
  | [d] => { results := [.lit (.bool true)], args := [d] }
  | _ => none }
def fnExactReadSamplesRow : OpenClaim := { program := "ytbdhpmamlibmhaadoor", sum := "0e63ddb54f8608189c27a311ec0373728cb93e2635aedfe675bd39b0c8b49555", func := "loop.example/g00601/laws.FnExactReadSamples", spec := "fnExactReadSamples", inPlace := ["internal/bytealg.CountString", "internal/bytealg.IndexByteString", "internal/bytealg.IndexString"], unfollowed := true, recurses := true, named := ["unicode/utf8.first", "unicode/utf8.acceptRanges", "internal/bytealg.MaxLen", "strconv.ErrSyntax", "strconv.ErrRange", "internal/strconv.uint64pow10", "math/bits.deBruijn32tab", "math/bits.deBruijn64tab"], apart := false, laid := [("math/bits.deBruijn32tab", laid_math_bits_deBruijn32tab), ("math/bits.deBruijn64tab", laid_math_bits_deBruijn64tab), ("internal/strconv.uint64pow10", laid_internal_strconv_uint64pow10), ("unicode/utf8.acceptRanges", laid_unicode_utf8_acceptRanges), ("strconv.ErrRange", laid_strconv_ErrRange), ("strconv.ErrSyntax", laid_strconv_ErrSyntax), ("unicode/utf8.first", laid_unicode_utf8_first)] }
def FnExactReadSamplesSaid : Prop := fnExactReadSamplesRow.holds Tryd.pinned (OpenSpec.ofChange fnExactReadSamplesSpec)

/-- ITS FALSE NEIGHBOUR: 'it returns false'. Refute it at one input. -/
def fnExactReadSamplesWrong : ChangeSpec := { name := "fnExactReadSamples", fn := fun _ => fun
  | [d] => { results := [.lit (.bool false)], args := [d] }
  | _ => none }
def FnExactReadSamplesWrongFalsely : Prop := fnExactReadSamplesRow.holds Tryd.pinned (OpenSpec.ofChange fnExactReadSamplesWrong)

/-- 'laws.FnExactReadBuckets': WHATEVER THE INPUT: true; the input reads as it did. -/
def fnExactReadBucketsSpec : ChangeSpec := { name := "fnExactReadBuckets", fn := fun _ => fun
  | [d] => { results := [.lit (.bool true)], args := [d] }
  | _ => none }
def fnExactReadBucketsRow : OpenClaim := { program := "ytbdhpmamlibmhaadoor", sum := "0e63ddb54f8608189c27a311ec0373728cb93e2635aedfe675bd39b0c8b49555", func := "loop.example/g00601/laws.FnExactReadBuckets", spec := "fnExactReadBuckets", inPlace := ["internal/bytealg.CountString", "internal/bytealg.IndexByteString", "internal/bytealg.IndexString"], unfollowed := true, recurses := true, named := ["unicode/utf8.first", "unicode/utf8.acceptRanges", "internal/bytealg.MaxLen", "strconv.ErrSyntax", "strconv.ErrRange", "internal/strconv.uint64pow10", "math/bits.deBruijn32tab", "math/bits.deBruijn64tab"], apart := false, laid := [("math/bits.deBruijn32tab", laid_math_bits_deBruijn32tab), ("math/bits.deBruijn64tab", laid_math_bits_deBruijn64tab), ("internal/strconv.uint64pow10", laid_internal_strconv_uint64pow10), ("unicode/utf8.acceptRanges", laid_unicode_utf8_acceptRanges), ("strconv.ErrRange", laid_strconv_ErrRange), ("strconv.ErrSyntax", laid_strconv_ErrSyntax), ("unicode/utf8.first", laid_unicode_utf8_first)] }
def FnExactReadBucketsSaid : Prop := fnExactReadBucketsRow.holds Tryd.pinned (OpenSpec.ofChange fnExactReadBucketsSpec)

/-- ITS FALSE NEIGHBOUR: 'it returns false'. Refute it at one input. -/
def fnExactReadBucketsWrong : ChangeSpec := { name := "fnExactReadBuckets", fn := fun _ => fun
  | [d] => { results := [.lit (.bool false)], args := [d] }
  | _ => none }
def FnExactReadBucketsWrongFalsely : Prop := fnExactReadBucketsRow.holds Tryd.pinned (OpenSpec.ofChange fnExactReadBucketsWrong)

/-- 'laws.FnExactReadRecord': WHATEVER THE INPUT: true; the input reads as it did. -/
def fnExactReadRecordSpec : ChangeSpec := { name := "fnExactReadRecord", fn := fun _ => fun
  | [d] => { results := [.lit (.bool true)], args := [d] }
  | _ => none }
def fnExactReadRecordRow : OpenClaim := { program := "ytbdhpmamlibmhaadoor", sum := "0e63ddb54f8608189c27a311ec0373728cb93e2635aedfe675bd39b0c8b49555", func := "loop.example/g00601/laws.FnExactReadRecord", spec := "fnExactReadRecord", inPlace := ["internal/bytealg.IndexByteString", "internal/bytealg.IndexString", "internal/bytealg.CountString"], unfollowed := true, recurses := true, named := ["internal/bytealg.MaxLen", "unicode/utf8.first", "unicode/utf8.acceptRanges", "strconv.ErrSyntax", "strconv.ErrRange", "internal/strconv.uint64pow10", "math/bits.deBruijn32tab", "math/bits.deBruijn64tab"], apart := false, laid := [("math/bits.deBruijn32tab", laid_math_bits_deBruijn32tab), ("math/bits.deBruijn64tab", laid_math_bits_deBruijn64tab), ("internal/strconv.uint64pow10", laid_internal_strconv_uint64pow10), ("unicode/utf8.acceptRanges", laid_unicode_utf8_acceptRanges), ("strconv.ErrRange", laid_strconv_ErrRange), ("strconv.ErrSyntax", laid_strconv_ErrSyntax), ("unicode/utf8.first", laid_unicode_utf8_first)] }
def FnExactReadRecordSaid : Prop := fnExactReadRecordRow.holds Tryd.pinned (OpenSpec.ofChange fnExactReadRecordSpec)

/-- ITS FALSE NEIGHBOUR: 'it returns false'. Refute it at one input. -/
def fnExactReadRecordWrong : ChangeSpec := { name := "fnExactReadRecord", fn := fun _ => fun
  | [d] => { results := [.lit (.bool false)], args := [d] }
  | _ => none }
def FnExactReadRecordWrongFalsely : Prop := fnExactReadRecordRow.holds Tryd.pinned (OpenSpec.ofChange fnExactReadRecordWrong)

/-- 'laws.FnExactRecordOK': WHATEVER THE INPUT: true; the input reads as it did. -/
def fnExactRecordOKSpec : ChangeSpec := { name := "fnExactRecordOK", fn := fun _ => fun
  | [d] => { results := [.lit (.bool true)], args := [d] }
  | _ => none }
def fnExactRecordOKRow : OpenClaim := { program := "ytbdhpmamlibmhaadoor", sum := "0e63ddb54f8608189c27a311ec0373728cb93e2635aedfe675bd39b0c8b49555", func := "loop.example/g00601/laws.FnExactRecordOK", spec := "fnExactRecordOK", recurses := true, named := ["strconv.ErrSyntax", "strconv.ErrRange", "internal/strconv.uint64pow10", "math/bits.deBruijn32tab", "math/bits.deBruijn64tab"], apart := false, laid := [("math/bits.deBruijn32tab", laid_math_bits_deBruijn32tab), ("math/bits.deBruijn64tab", laid_math_bits_deBruijn64tab), ("internal/strconv.uint64pow10", laid_internal_strconv_uint64pow10), ("strconv.ErrRange", laid_strconv_ErrRange), ("strconv.ErrSyntax", laid_strconv_ErrSyntax)] }
def FnExactRecordOKSaid : Prop := fnExactRecordOKRow.holds Tryd.pinned (OpenSpec.ofChange fnExactRecordOKSpec)

/-- ITS FALSE NEIGHBOUR: 'it returns false'. Refute it at one input. -/
def fnExactRecordOKWrong : ChangeSpec := { name := "fnExactRecordOK", fn := fun _ => fun
  | [d] => { results := [.lit (.bool false)], args := [d] }
  | _ => none }
def FnExactRecordOKWrongFalsely : Prop := fnExactRecordOKRow.holds Tryd.pinned (OpenSpec.ofChange fnExactRecordOKWrong)

/- THE SECOND FORM. 'bulk': how many values and letters a reading holds, each counted each time it is reached (what is shared counts as often as it is met; a slice's spare places count too). A statement '..UptoSaid' is the law's where the arguments, and the package variables that the reading takes, are together of bulk at most 1048576: NARROWER than '..Said'. Prove '..Said' where nothing that the law and all that it calls make is longer than what came in: it says more and counts as full. Else prove '..UptoSaid'. A law counts once. -/
mutual
def uptoBulk {H : Type} : DataW H → Nat
  | .lit (.string bytes) => bytes.length + 1
  | .lit _ => 1
  | .nil => 1
  | .ptr d => uptoBulk d + 1
  | .slice elems spare => uptoBulkAll elems + uptoBulkAll spare + 1
  | .agg parts => uptoBulkAll parts + 1
  | .iface _ d => uptoBulk d + 1
  | .map entries => uptoBulkEntries entries + 1
  | .held _ => 1
def uptoBulkAll {H : Type} : List (DataW H) → Nat
  | [] => 0
  | d :: r => uptoBulk d + uptoBulkAll r
def uptoBulkEntries {H : Type} : List (Lit × DataW H) → Nat
  | [] => 0
  | x :: r => uptoBulkEntry x + uptoBulkEntries r
def uptoBulkEntry {H : Type} : Lit × DataW H → Nat
  | (.string bytes, d) => bytes.length + uptoBulk d + 1
  | (_, d) => uptoBulk d + 1
 end
def uptoSmall : (H : Type) → List (DataW H) → Bool := fun _ ds => decide (uptoBulkAll ds ≤ 1048576)
def OpenSpec.upto (s : _root_.Go.ChangeSpec) : _root_.Go.OpenSpec := { _root_.Go.OpenSpec.ofChange s with cond := some uptoSmall }

/-- 'laws.FnExactPinKey', WHERE WHAT IT READS IS OF BULK AT MOST 1048576: true; the input reads as it did. -/
def fnExactPinKeyUptoRow : OpenClaim := { program := "ytbdhpmamlibmhaadoor", sum := "0e63ddb54f8608189c27a311ec0373728cb93e2635aedfe675bd39b0c8b49555", func := "loop.example/g00601/laws.FnExactPinKey", spec := "fnExactPinKey", recurses := true, named := ["internal/strconv.uint64pow10", "math/bits.deBruijn32tab", "math/bits.deBruijn64tab"], apart := false, laid := [("math/bits.deBruijn32tab", laid_math_bits_deBruijn32tab), ("math/bits.deBruijn64tab", laid_math_bits_deBruijn64tab), ("internal/strconv.uint64pow10", laid_internal_strconv_uint64pow10)], narrowed := true }
def FnExactPinKeyUptoSaid : Prop := fnExactPinKeyUptoRow.holds Tryd.pinned (OpenSpec.upto fnExactPinKeySpec)

/-- 'laws.FnExactDataKey', WHERE WHAT IT READS IS OF BULK AT MOST 1048576: true; the input reads as it did. -/
def fnExactDataKeyUptoRow : OpenClaim := { program := "ytbdhpmamlibmhaadoor", sum := "0e63ddb54f8608189c27a311ec0373728cb93e2635aedfe675bd39b0c8b49555", func := "loop.example/g00601/laws.FnExactDataKey", spec := "fnExactDataKey", recurses := true, named := ["internal/strconv.uint64pow10", "math/bits.deBruijn32tab", "math/bits.deBruijn64tab"], apart := false, laid := [("math/bits.deBruijn32tab", laid_math_bits_deBruijn32tab), ("math/bits.deBruijn64tab", laid_math_bits_deBruijn64tab), ("internal/strconv.uint64pow10", laid_internal_strconv_uint64pow10)], narrowed := true }
def FnExactDataKeyUptoSaid : Prop := fnExactDataKeyUptoRow.holds Tryd.pinned (OpenSpec.upto fnExactDataKeySpec)

/-- 'laws.FnExactSamplesText', WHERE WHAT IT READS IS OF BULK AT MOST 1048576: true; the input reads as it did. -/
def fnExactSamplesTextUptoRow : OpenClaim := { program := "ytbdhpmamlibmhaadoor", sum := "0e63ddb54f8608189c27a311ec0373728cb93e2635aedfe675bd39b0c8b49555", func := "loop.example/g00601/laws.FnExactSamplesText", spec := "fnExactSamplesText", inPlace := ["internal/abi.NoEscape", "internal/bytealg.MakeNoZero"], recurses := true, named := ["internal/strconv.uint64pow10", "math/bits.deBruijn32tab", "math/bits.deBruijn64tab"], apart := false, laid := [("math/bits.deBruijn32tab", laid_math_bits_deBruijn32tab), ("math/bits.deBruijn64tab", laid_math_bits_deBruijn64tab), ("internal/strconv.uint64pow10", laid_internal_strconv_uint64pow10)], narrowed := true }
def FnExactSamplesTextUptoSaid : Prop := fnExactSamplesTextUptoRow.holds Tryd.pinned (OpenSpec.upto fnExactSamplesTextSpec)

/-- 'laws.FnExactReadDataKey', WHERE WHAT IT READS IS OF BULK AT MOST 1048576: true; the input reads as it did. -/
def fnExactReadDataKeyUptoRow : OpenClaim := { program := "ytbdhpmamlibmhaadoor", sum := "0e63ddb54f8608189c27a311ec0373728cb93e2635aedfe675bd39b0c8b49555", func := "loop.example/g00601/laws.FnExactReadDataKey", spec := "fnExactReadDataKey", unfollowed := true, recurses := true, named := ["strconv.ErrSyntax", "strconv.ErrRange", "internal/strconv.uint64pow10", "math/bits.deBruijn32tab", "math/bits.deBruijn64tab"], apart := false, laid := [("math/bits.deBruijn32tab", laid_math_bits_deBruijn32tab), ("math/bits.deBruijn64tab", laid_math_bits_deBruijn64tab), ("internal/strconv.uint64pow10", laid_internal_strconv_uint64pow10), ("strconv.ErrRange", laid_strconv_ErrRange), ("strconv.ErrSyntax", laid_strconv_ErrSyntax)], narrowed := true }
def FnExactReadDataKeyUptoSaid : Prop := fnExactReadDataKeyUptoRow.holds Tryd.pinned (OpenSpec.upto fnExactReadDataKeySpec)

/-- 'laws.FnExactReadAgg', WHERE WHAT IT READS IS OF BULK AT MOST 1048576: true; the input reads as it did. -/
def fnExactReadAggUptoRow : OpenClaim := { program := "ytbdhpmamlibmhaadoor", sum := "0e63ddb54f8608189c27a311ec0373728cb93e2635aedfe675bd39b0c8b49555", func := "loop.example/g00601/laws.FnExactReadAgg", spec := "fnExactReadAgg", inPlace := ["internal/bytealg.CountString", "internal/bytealg.IndexByteString", "internal/bytealg.IndexString"], unfollowed := true, recurses := true, named := ["unicode/utf8.first", "unicode/utf8.acceptRanges", "internal/bytealg.MaxLen", "strconv.ErrSyntax", "strconv.ErrRange", "internal/strconv.uint64pow10", "math/bits.deBruijn32tab", "math/bits.deBruijn64tab"], apart := false, laid := [("math/bits.deBruijn32tab", laid_math_bits_deBruijn32tab), ("math/bits.deBruijn64tab", laid_math_bits_deBruijn64tab), ("internal/strconv.uint64pow10", laid_internal_strconv_uint64pow10), ("unicode/utf8.acceptRanges", laid_unicode_utf8_acceptRanges), ("strconv.ErrRange", laid_strconv_ErrRange), ("strconv.ErrSyntax", laid_strconv_ErrSyntax), ("unicode/utf8.first", laid_unicode_utf8_first)], narrowed := true }
def FnExactReadAggUptoSaid : Prop := fnExactReadAggUptoRow.holds Tryd.pinned (OpenSpec.upto fnExactReadAggSpec)

/-- 'laws.FnExactReadLease', WHERE WHAT IT READS IS OF BULK AT MOST 1048576: true; the input reads as it did. -/
def fnExactReadLeaseUptoRow : OpenClaim := { program := "ytbdhpmamlibmhaadoor", sum := "0e63ddb54f8608189c27a311ec0373728cb93e2635aedfe675bd39b0c8b49555", func := "loop.example/g00601/laws.FnExactReadLease", spec := "fnExactReadLease", inPlace := ["internal/bytealg.CountString", "internal/bytealg.IndexByteString", "internal/bytealg.IndexString"], unfollowed := true, recurses := true, named := ["unicode/utf8.first", "unicode/utf8.acceptRanges", "internal/bytealg.MaxLen", "strconv.ErrSyntax", "strconv.ErrRange", "internal/strconv.uint64pow10", "math/bits.deBruijn32tab", "math/bits.deBruijn64tab"], apart := false, laid := [("math/bits.deBruijn32tab", laid_math_bits_deBruijn32tab), ("math/bits.deBruijn64tab", laid_math_bits_deBruijn64tab), ("internal/strconv.uint64pow10", laid_internal_strconv_uint64pow10), ("unicode/utf8.acceptRanges", laid_unicode_utf8_acceptRanges), ("strconv.ErrRange", laid_strconv_ErrRange), ("strconv.ErrSyntax", laid_strconv_ErrSyntax), ("unicode/utf8.first", laid_unicode_utf8_first)], narrowed := true }
def FnExactReadLeaseUptoSaid : Prop := fnExactReadLeaseUptoRow.holds Tryd.pinned (OpenSpec.upto fnExactReadLeaseSpec)

/-- 'laws.FnExactReadSamples', WHERE WHAT IT READS IS OF BULK AT MOST 1048576: true; the input reads as it did. -/
def fnExactReadSamplesUptoRow : OpenClaim := { program := "ytbdhpmamlibmhaadoor", sum := "0e63ddb54f8608189c27a311ec0373728cb93e2635aedfe675bd39b0c8b49555", func := "loop.example/g00601/laws.FnExactReadSamples", spec := "fnExactReadSamples", inPlace := ["internal/bytealg.CountString", "internal/bytealg.IndexByteString", "internal/bytealg.IndexString"], unfollowed := true, recurses := true, named := ["unicode/utf8.first", "unicode/utf8.acceptRanges", "internal/bytealg.MaxLen", "strconv.ErrSyntax", "strconv.ErrRange", "internal/strconv.uint64pow10", "math/bits.deBruijn32tab", "math/bits.deBruijn64tab"], apart := false, laid := [("math/bits.deBruijn32tab", laid_math_bits_deBruijn32tab), ("math/bits.deBruijn64tab", laid_math_bits_deBruijn64tab), ("internal/strconv.uint64pow10", laid_internal_strconv_uint64pow10), ("unicode/utf8.acceptRanges", laid_unicode_utf8_acceptRanges), ("strconv.ErrRange", laid_strconv_ErrRange), ("strconv.ErrSyntax", laid_strconv_ErrSyntax), ("unicode/utf8.first", laid_unicode_utf8_first)], narrowed := true }
def FnExactReadSamplesUptoSaid : Prop := fnExactReadSamplesUptoRow.holds Tryd.pinned (OpenSpec.upto fnExactReadSamplesSpec)

/-- 'laws.FnExactReadBuckets', WHERE WHAT IT READS IS OF BULK AT MOST 1048576: true; the input reads as it did. -/
def fnExactReadBucketsUptoRow : OpenClaim := { program := "ytbdhpmamlibmhaadoor", sum := "0e63ddb54f8608189c27a311ec0373728cb93e2635aedfe675bd39b0c8b49555", func := "loop.example/g00601/laws.FnExactReadBuckets", spec := "fnExactReadBuckets", inPlace := ["internal/bytealg.CountString", "internal/bytealg.IndexByteString", "internal/bytealg.IndexString"], unfollowed := true, recurses := true, named := ["unicode/utf8.first", "unicode/utf8.acceptRanges", "internal/bytealg.MaxLen", "strconv.ErrSyntax", "strconv.ErrRange", "internal/strconv.uint64pow10", "math/bits.deBruijn32tab", "math/bits.deBruijn64tab"], apart := false, laid := [("math/bits.deBruijn32tab", laid_math_bits_deBruijn32tab), ("math/bits.deBruijn64tab", laid_math_bits_deBruijn64tab), ("internal/strconv.uint64pow10", laid_internal_strconv_uint64pow10), ("unicode/utf8.acceptRanges", laid_unicode_utf8_acceptRanges), ("strconv.ErrRange", laid_strconv_ErrRange), ("strconv.ErrSyntax", laid_strconv_ErrSyntax), ("unicode/utf8.first", laid_unicode_utf8_first)], narrowed := true }
def FnExactReadBucketsUptoSaid : Prop := fnExactReadBucketsUptoRow.holds Tryd.pinned (OpenSpec.upto fnExactReadBucketsSpec)

/-- 'laws.FnExactReadRecord', WHERE WHAT IT READS IS OF BULK AT MOST 1048576: true; the input reads as it did. -/
def fnExactReadRecordUptoRow : OpenClaim := { program := "ytbdhpmamlibmhaadoor", sum := "0e63ddb54f8608189c27a311ec0373728cb93e2635aedfe675bd39b0c8b49555", func := "loop.example/g00601/laws.FnExactReadRecord", spec := "fnExactReadRecord", inPlace := ["internal/bytealg.IndexByteString", "internal/bytealg.IndexString", "internal/bytealg.CountString"], unfollowed := true, recurses := true, named := ["internal/bytealg.MaxLen", "unicode/utf8.first", "unicode/utf8.acceptRanges", "strconv.ErrSyntax", "strconv.ErrRange", "internal/strconv.uint64pow10", "math/bits.deBruijn32tab", "math/bits.deBruijn64tab"], apart := false, laid := [("math/bits.deBruijn32tab", laid_math_bits_deBruijn32tab), ("math/bits.deBruijn64tab", laid_math_bits_deBruijn64tab), ("internal/strconv.uint64pow10", laid_internal_strconv_uint64pow10), ("unicode/utf8.acceptRanges", laid_unicode_utf8_acceptRanges), ("strconv.ErrRange", laid_strconv_ErrRange), ("strconv.ErrSyntax", laid_strconv_ErrSyntax), ("unicode/utf8.first", laid_unicode_utf8_first)], narrowed := true }
def FnExactReadRecordUptoSaid : Prop := fnExactReadRecordUptoRow.holds Tryd.pinned (OpenSpec.upto fnExactReadRecordSpec)

/-- 'laws.FnExactRecordOK', WHERE WHAT IT READS IS OF BULK AT MOST 1048576: true; the input reads as it did. -/
def fnExactRecordOKUptoRow : OpenClaim := { program := "ytbdhpmamlibmhaadoor", sum := "0e63ddb54f8608189c27a311ec0373728cb93e2635aedfe675bd39b0c8b49555", func := "loop.example/g00601/laws.FnExactRecordOK", spec := "fnExactRecordOK", recurses := true, named := ["strconv.ErrSyntax", "strconv.ErrRange", "internal/strconv.uint64pow10", "math/bits.deBruijn32tab", "math/bits.deBruijn64tab"], apart := false, laid := [("math/bits.deBruijn32tab", laid_math_bits_deBruijn32tab), ("math/bits.deBruijn64tab", laid_math_bits_deBruijn64tab), ("internal/strconv.uint64pow10", laid_internal_strconv_uint64pow10), ("strconv.ErrRange", laid_strconv_ErrRange), ("strconv.ErrSyntax", laid_strconv_ErrSyntax)], narrowed := true }
def FnExactRecordOKUptoSaid : Prop := fnExactRecordOKUptoRow.holds Tryd.pinned (OpenSpec.upto fnExactRecordOKSpec)

end Rows
end Go.Proofs.YtbdhpmamlibmhaaDoor
