/-
  NARROWER THAN 'FOR EVERY INPUT', by the rows' own cells (each row's printed sentence says how): FnExactTextPieces: laid · FnNames: laid · FnPiecesMore: laid · FnPiecesSize: laid · FnPiecesAll: laid · FnExactConvNew: laid · FnTextNamed: laid · FnPiecesTwo: laid · FnNameIn: laid · FnExactConvOk: laid · FnExactConvSay: laid.
  DERIVED. THE GIVEN ROWS OF THIS SEAT. 11 by the template 'for every input the law returns true; each argument reads behind the call as it read before'; 0 by the template 'total and deterministic' (their statements: YtclhmoghkcnkmaaDoorTotals.lean).
  GIVEN WITH THE SEED: the statements are not yours to turn. If you find one false, say at which input.
  Laid BY PROGRAM, IN A SANDBOX (cutbox-rows.mjs): the forced cells as the released guide's own fill.sh prints them over the translation 8a1ccddf3b74c8f6… (all of the seat's roots in one cut). By AI agents, Wed Nov 11 2026. No macro, syntax, notation, axiom, sorry.
-/
import Derived.Test.YtclhmoghkcnkmaaDoorChecked
import GoSem.Claim
import GoSem.ClaimJoined
import GoSem.ClaimMapViews
import Derived.JoinedTies
import Derived.KernelRfl
namespace Go.Proofs.YtclhmoghkcnkmaaDoor
/- THE CELL 'sum', in the pinned program and in every row, IS THE sha256 OF THE DUMP (.gsa) THAT YtclhmoghkcnkmaaDoorProg.lean LOADS. Nothing in Lean hashes anything: it is a label: what it is worth is what the hold of that sum in a sandbox is worth. -/
noncomputable def Tryd.pinned : Pinned := { name := "ytclhmoghkcnkmaadoor", sum := "8a1ccddf3b74c8f6ca8fba806b3cc3867880d097e5575a77170acb5f82b71a47", checked := Tryd.checked }
namespace Rows
def none {H : Type} : Left H := { results := [], args := [] }

/- WHAT THE LISTED PACKAGE-LEVEL VARIABLES READ AS WHEN THE CALL BEGINS. Each datum BY PROGRAM (the guide's laid-datum.mjs) off the statement by which the dump's own 'gosem.cut.vars' lays the variable. In a bare row this is a premise. The card (YtclhmoghkcnkmaaDoorCards.lean) ties it to the program's text. -/
def laid_math_bits_deBruijn32tab {H : Type} : DataW H := .agg [.lit (.int .u8 0), .lit (.int .u8 1), .lit (.int .u8 28), .lit (.int .u8 2), .lit (.int .u8 29), .lit (.int .u8 14), .lit (.int .u8 24), .lit (.int .u8 3), .lit (.int .u8 30), .lit (.int .u8 22), .lit (.int .u8 20), .lit (.int .u8 15), .lit (.int .u8 25), .lit (.int .u8 17), .lit (.int .u8 4), .lit (.int .u8 8), .lit (.int .u8 31), .lit (.int .u8 27), .lit (.int .u8 13), .lit (.int .u8 23), .lit (.int .u8 21), .lit (.int .u8 19), .lit (.int .u8 16), .lit (.int .u8 7), .lit (.int .u8 26), .lit (.int .u8 12), .lit (.int .u8 18), .lit (.int .u8 6), .lit (.int .u8 11), .lit (.int .u8 5), .lit (.int .u8 10), .lit (.int .u8 9)]
def laid_math_bits_deBruijn64tab {H : Type} : DataW H := .agg [.lit (.int .u8 0), .lit (.int .u8 1), .lit (.int .u8 56), .lit (.int .u8 2), .lit (.int .u8 57), .lit (.int .u8 49), .lit (.int .u8 28), .lit (.int .u8 3), .lit (.int .u8 61), .lit (.int .u8 58), .lit (.int .u8 42), .lit (.int .u8 50), .lit (.int .u8 38), .lit (.int .u8 29), .lit (.int .u8 17), .lit (.int .u8 4), .lit (.int .u8 62), .lit (.int .u8 47), .lit (.int .u8 59), .lit (.int .u8 36), .lit (.int .u8 45), .lit (.int .u8 43), .lit (.int .u8 51), .lit (.int .u8 22), .lit (.int .u8 53), .lit (.int .u8 39), .lit (.int .u8 33), .lit (.int .u8 30), .lit (.int .u8 24), .lit (.int .u8 18), .lit (.int .u8 12), .lit (.int .u8 5), .lit (.int .u8 63), .lit (.int .u8 55), .lit (.int .u8 48), .lit (.int .u8 27), .lit (.int .u8 60), .lit (.int .u8 41), .lit (.int .u8 37), .lit (.int .u8 16), .lit (.int .u8 46), .lit (.int .u8 35), .lit (.int .u8 44), .lit (.int .u8 21), .lit (.int .u8 52), .lit (.int .u8 32), .lit (.int .u8 23), .lit (.int .u8 11), .lit (.int .u8 54), .lit (.int .u8 26), .lit (.int .u8 40), .lit (.int .u8 15), .lit (.int .u8 34), .lit (.int .u8 20), .lit (.int .u8 31), .lit (.int .u8 10), .lit (.int .u8 25), .lit (.int .u8 14), .lit (.int .u8 19), .lit (.int .u8 9), .lit (.int .u8 13), .lit (.int .u8 8), .lit (.int .u8 7), .lit (.int .u8 6)]
def laid_internal_strconv_uint64pow10 {H : Type} : DataW H := .agg [.lit (.int .u64 1), .lit (.int .u64 10), .lit (.int .u64 100), .lit (.int .u64 1000), .lit (.int .u64 10000), .lit (.int .u64 100000), .lit (.int .u64 1000000), .lit (.int .u64 10000000), .lit (.int .u64 100000000), .lit (.int .u64 1000000000), .lit (.int .u64 10000000000), .lit (.int .u64 100000000000), .lit (.int .u64 1000000000000), .lit (.int .u64 10000000000000), .lit (.int .u64 100000000000000), .lit (.int .u64 1000000000000000), .lit (.int .u64 10000000000000000), .lit (.int .u64 100000000000000000), .lit (.int .u64 1000000000000000000), .lit (.int .u64 10000000000000000000)]
def laid_strconv_ErrRange {H : Type} : DataW H := .iface "*errors.errorString" (.ptr (.agg [.lit (.string [118, 97, 108, 117, 101, 32, 111, 117, 116, 32, 111, 102, 32, 114, 97, 110, 103, 101])]))
def laid_strconv_ErrSyntax {H : Type} : DataW H := .iface "*errors.errorString" (.ptr (.agg [.lit (.string [105, 110, 118, 97, 108, 105, 100, 32, 115, 121, 110, 116, 97, 120])]))

/-- 'laws.FnExactTextPieces': WHATEVER THE INPUT: true; the input reads as it did. -/
def fnExactTextPiecesSpec : ChangeSpec := { name := "fnExactTextPieces", fn := fun _ => fun
  | [d] => { results := [.lit (.bool true)], args := [d] }
  | _ => none }
def fnExactTextPiecesRow : OpenClaim := { program := "ytclhmoghkcnkmaadoor", sum := "8a1ccddf3b74c8f6ca8fba806b3cc3867880d097e5575a77170acb5f82b71a47", func := "loop.example/ostiary/laws.FnExactTextPieces", spec := "fnExactTextPieces", inPlace := ["internal/bytealg.IndexByteString", "internal/bytealg.IndexString"], recurses := true, named := ["internal/bytealg.MaxLen", "strconv.ErrSyntax", "strconv.ErrRange", "internal/strconv.uint64pow10", "math/bits.deBruijn32tab", "math/bits.deBruijn64tab"], apart := false, laid := [("math/bits.deBruijn32tab", laid_math_bits_deBruijn32tab), ("math/bits.deBruijn64tab", laid_math_bits_deBruijn64tab), ("internal/strconv.uint64pow10", laid_internal_strconv_uint64pow10), ("strconv.ErrRange", laid_strconv_ErrRange), ("strconv.ErrSyntax", laid_strconv_ErrSyntax)] }
def FnExactTextPiecesSaid : Prop := fnExactTextPiecesRow.holds Tryd.pinned (OpenSpec.ofChange fnExactTextPiecesSpec)

/-- ITS FALSE NEIGHBOUR: 'it returns false'. Refute it at one input. -/
def fnExactTextPiecesWrong : ChangeSpec := { name := "fnExactTextPieces", fn := fun _ => fun
  | [d] => { results := [.lit (.bool false)], args := [d] }
  | _ => none }
def FnExactTextPiecesWrongFalsely : Prop := fnExactTextPiecesRow.holds Tryd.pinned (OpenSpec.ofChange fnExactTextPiecesWrong)

/-- 'laws.FnNames': WHATEVER THE INPUT: true; the input reads as it did. -/
def fnNamesSpec : ChangeSpec := { name := "fnNames", fn := fun _ => fun
  | [d] => { results := [.lit (.bool true)], args := [d] }
  | _ => none }
def fnNamesRow : OpenClaim := { program := "ytclhmoghkcnkmaadoor", sum := "8a1ccddf3b74c8f6ca8fba806b3cc3867880d097e5575a77170acb5f82b71a47", func := "loop.example/ostiary/laws.FnNames", spec := "fnNames", inPlace := ["internal/bytealg.IndexByteString", "internal/bytealg.IndexString"], recurses := true, named := ["internal/bytealg.MaxLen", "strconv.ErrSyntax", "strconv.ErrRange", "internal/strconv.uint64pow10", "math/bits.deBruijn32tab", "math/bits.deBruijn64tab"], apart := false, laid := [("math/bits.deBruijn32tab", laid_math_bits_deBruijn32tab), ("math/bits.deBruijn64tab", laid_math_bits_deBruijn64tab), ("internal/strconv.uint64pow10", laid_internal_strconv_uint64pow10), ("strconv.ErrRange", laid_strconv_ErrRange), ("strconv.ErrSyntax", laid_strconv_ErrSyntax)] }
def FnNamesSaid : Prop := fnNamesRow.holds Tryd.pinned (OpenSpec.ofChange fnNamesSpec)

/-- ITS FALSE NEIGHBOUR: 'it returns false'. Refute it at one input. -/
def fnNamesWrong : ChangeSpec := { name := "fnNames", fn := fun _ => fun
  | [d] => { results := [.lit (.bool false)], args := [d] }
  | _ => none }
def FnNamesWrongFalsely : Prop := fnNamesRow.holds Tryd.pinned (OpenSpec.ofChange fnNamesWrong)

/-- 'laws.FnPiecesMore': WHATEVER THE INPUT: true; the input reads as it did. -/
def fnPiecesMoreSpec : ChangeSpec := { name := "fnPiecesMore", fn := fun _ => fun
  | [d1, d2] => { results := [.lit (.bool true)], args := [d1, d2] }
  | _ => none }
def fnPiecesMoreRow : OpenClaim := { program := "ytclhmoghkcnkmaadoor", sum := "8a1ccddf3b74c8f6ca8fba806b3cc3867880d097e5575a77170acb5f82b71a47", func := "loop.example/ostiary/laws.FnPiecesMore", spec := "fnPiecesMore", inPlace := ["internal/bytealg.IndexByteString", "internal/bytealg.IndexString"], recurses := true, named := ["internal/bytealg.MaxLen", "strconv.ErrSyntax", "strconv.ErrRange", "internal/strconv.uint64pow10", "math/bits.deBruijn32tab", "math/bits.deBruijn64tab"], apart := false, laid := [("math/bits.deBruijn32tab", laid_math_bits_deBruijn32tab), ("math/bits.deBruijn64tab", laid_math_bits_deBruijn64tab), ("internal/strconv.uint64pow10", laid_internal_strconv_uint64pow10), ("strconv.ErrRange", laid_strconv_ErrRange), ("strconv.ErrSyntax", laid_strconv_ErrSyntax)] }
def FnPiecesMoreSaid : Prop := fnPiecesMoreRow.holds Tryd.pinned (OpenSpec.ofChange fnPiecesMoreSpec)

/-- ITS FALSE NEIGHBOUR: 'it returns false'. Refute it at one input. -/
def fnPiecesMoreWrong : ChangeSpec := { name := "fnPiecesMore", fn := fun _ => fun
  | [d1, d2] => { results := [.lit (.bool false)], args := [d1, d2] }
  | _ => none }
def FnPiecesMoreWrongFalsely : Prop := fnPiecesMoreRow.holds Tryd.pinned (OpenSpec.ofChange fnPiecesMoreWrong)

/-- 'laws.FnPiecesSize': WHATEVER THE INPUT: true; the input reads as it did. -/
def fnPiecesSizeSpec : ChangeSpec := { name := "fnPiecesSize", fn := fun _ => fun
  | [d] => { results := [.lit (.bool true)], args := [d] }
  | _ => none }
def fnPiecesSizeRow : OpenClaim := { program := "ytclhmoghkcnkmaadoor", sum := "8a1ccddf3b74c8f6ca8fba806b3cc3867880d097e5575a77170acb5f82b71a47", func := "loop.example/ostiary/laws.FnPiecesSize", spec := "fnPiecesSize", inPlace := ["internal/bytealg.IndexByteString", "internal/bytealg.IndexString"], recurses := true, named := ["internal/bytealg.MaxLen", "strconv.ErrSyntax", "strconv.ErrRange", "internal/strconv.uint64pow10", "math/bits.deBruijn32tab", "math/bits.deBruijn64tab"], apart := false, laid := [("math/bits.deBruijn32tab", laid_math_bits_deBruijn32tab), ("math/bits.deBruijn64tab", laid_math_bits_deBruijn64tab), ("internal/strconv.uint64pow10", laid_internal_strconv_uint64pow10), ("strconv.ErrRange", laid_strconv_ErrRange), ("strconv.ErrSyntax", laid_strconv_ErrSyntax)] }
def FnPiecesSizeSaid : Prop := fnPiecesSizeRow.holds Tryd.pinned (OpenSpec.ofChange fnPiecesSizeSpec)

/-- ITS FALSE NEIGHBOUR: 'it returns false'. Refute it at one input. -/
def fnPiecesSizeWrong : ChangeSpec := { name := "fnPiecesSize", fn := fun _ => fun
  | [d] => { results := [.lit (.bool false)], args := [d] }
  | _ => none }
def FnPiecesSizeWrongFalsely : Prop := fnPiecesSizeRow.holds Tryd.pinned (OpenSpec.ofChange fnPiecesSizeWrong)

/-- 'laws.FnPiecesAll': WHATEVER THE INPUT: true; the input reads as it did. -/
def fnPiecesAllSpec : ChangeSpec := { name := "fnPiecesAll", fn := fun _ => fun
  | [d] => { results := [.lit (.bool true)], args := [d] }
  | _ => none }
def fnPiecesAllRow : OpenClaim := { program := "ytclhmoghkcnkmaadoor", sum := "8a1ccddf3b74c8f6ca8fba806b3cc3867880d097e5575a77170acb5f82b71a47", func := "loop.example/ostiary/laws.FnPiecesAll", spec := "fnPiecesAll", inPlace := ["internal/bytealg.IndexByteString", "internal/bytealg.IndexString"], recurses := true, named := ["internal/bytealg.MaxLen", "strconv.ErrSyntax", "strconv.ErrRange", "internal/strconv.uint64pow10", "math/bits.deBruijn32tab", "math/bits.deBruijn64tab"], apart := false, laid := [("math/bits.deBruijn32tab", laid_math_bits_deBruijn32tab), ("math/bits.deBruijn64tab", laid_math_bits_deBruijn64tab), ("internal/strconv.uint64pow10", laid_internal_strconv_uint64pow10), ("strconv.ErrRange", laid_strconv_ErrRange), ("strconv.ErrSyntax", laid_strconv_ErrSyntax)] }
def FnPiecesAllSaid : Prop := fnPiecesAllRow.holds Tryd.pinned (OpenSpec.ofChange fnPiecesAllSpec)

/-- ITS FALSE NEIGHBOUR: 'it returns false'. Refute it at one input. -/
def fnPiecesAllWrong : ChangeSpec := { name := "fnPiecesAll", fn := fun _ => fun
  | [d] => { results := [.lit (.bool false)], args := [d] }
  | _ => none }
def FnPiecesAllWrongFalsely : Prop := fnPiecesAllRow.holds Tryd.pinned (OpenSpec.ofChange fnPiecesAllWrong)

/-- 'laws.FnExactConvNew': WHATEVER THE INPUT: true; the input reads as it did. -/
def fnExactConvNewSpec : ChangeSpec := { name := "fnExactConvNew", fn := fun _ => fun
  | [d1, d2, d3, d4] => { results := [.lit (.bool true)], args := [d1, d2, d3, d4] }
  | _ => none }
def fnExactConvNewRow : OpenClaim := { program := "ytclhmoghkcnkmaadoor", sum := "8a1ccddf3b74c8f6ca8fba806b3cc3867880d097e5575a77170acb5f82b71a47", func := "loop.example/ostiary/laws.FnExactConvNew", spec := "fnExactConvNew", inPlace := ["internal/bytealg.IndexByteString", "internal/bytealg.IndexString"], unfollowed := true, recurses := true, named := ["internal/bytealg.MaxLen", "strconv.ErrSyntax", "strconv.ErrRange", "internal/strconv.uint64pow10", "math/bits.deBruijn32tab", "math/bits.deBruijn64tab"], apart := false, laid := [("math/bits.deBruijn32tab", laid_math_bits_deBruijn32tab), ("math/bits.deBruijn64tab", laid_math_bits_deBruijn64tab), ("internal/strconv.uint64pow10", laid_internal_strconv_uint64pow10), ("strconv.ErrRange", laid_strconv_ErrRange), ("strconv.ErrSyntax", laid_strconv_ErrSyntax)] }
def FnExactConvNewSaid : Prop := fnExactConvNewRow.holds Tryd.pinned (OpenSpec.ofChange fnExactConvNewSpec)

/-- ITS FALSE NEIGHBOUR: 'it returns false'. Refute it at one input. -/
def fnExactConvNewWrong : ChangeSpec := { name := "fnExactConvNew", fn := fun _ => fun
  | [d1, d2, d3, d4] => { results := [.lit (.bool false)], args := [d1, d2, d3, d4] }
  | _ => none }
def FnExactConvNewWrongFalsely : Prop := fnExactConvNewRow.holds Tryd.pinned (OpenSpec.ofChange fnExactConvNewWrong)

/-- 'laws.FnTextNamed': WHATEVER THE INPUT: true; the input reads as it did. -/
def fnTextNamedSpec : ChangeSpec := { name := "fnTextNamed", fn := fun _ => fun
  | [d1, d2] => { results := [.lit (.bool true)], args := [d1, d2] }
  | _ => none }
def fnTextNamedRow : OpenClaim := { program := "ytclhmoghkcnkmaadoor", sum := "8a1ccddf3b74c8f6ca8fba806b3cc3867880d097e5575a77170acb5f82b71a47", func := "loop.example/ostiary/laws.FnTextNamed", spec := "fnTextNamed", inPlace := ["internal/bytealg.IndexByteString", "internal/bytealg.IndexString"], recurses := true, named := ["internal/bytealg.MaxLen", "strconv.ErrSyntax", "strconv.ErrRange", "internal/strconv.uint64pow10", "math/bits.deBruijn32tab", "math/bits.deBruijn64tab"], apart := false, laid := [("math/bits.deBruijn32tab", laid_math_bits_deBruijn32tab), ("math/bits.deBruijn64tab", laid_math_bits_deBruijn64tab), ("internal/strconv.uint64pow10", laid_internal_strconv_uint64pow10), ("strconv.ErrRange", laid_strconv_ErrRange), ("strconv.ErrSyntax", laid_strconv_ErrSyntax)] }
def FnTextNamedSaid : Prop := fnTextNamedRow.holds Tryd.pinned (OpenSpec.ofChange fnTextNamedSpec)

/-- ITS FALSE NEIGHBOUR: 'it returns false'. Refute it at one input. -/
def fnTextNamedWrong : ChangeSpec := { name := "fnTextNamed", fn := fun _ => fun
  | [d1, d2] => { results := [.lit (.bool false)], args := [d1, d2] }
  | _ => none }
def FnTextNamedWrongFalsely : Prop := fnTextNamedRow.holds Tryd.pinned (OpenSpec.ofChange fnTextNamedWrong)

/-- 'laws.FnPiecesTwo': WHATEVER THE INPUT: true; the input reads as it did. -/
def fnPiecesTwoSpec : ChangeSpec := { name := "fnPiecesTwo", fn := fun _ => fun
  | [d1, d2] => { results := [.lit (.bool true)], args := [d1, d2] }
  | _ => none }
def fnPiecesTwoRow : OpenClaim := { program := "ytclhmoghkcnkmaadoor", sum := "8a1ccddf3b74c8f6ca8fba806b3cc3867880d097e5575a77170acb5f82b71a47", func := "loop.example/ostiary/laws.FnPiecesTwo", spec := "fnPiecesTwo", inPlace := ["internal/bytealg.IndexByteString", "internal/bytealg.IndexString"], recurses := true, named := ["internal/bytealg.MaxLen", "strconv.ErrSyntax", "strconv.ErrRange", "internal/strconv.uint64pow10", "math/bits.deBruijn32tab", "math/bits.deBruijn64tab"], apart := false, laid := [("math/bits.deBruijn32tab", laid_math_bits_deBruijn32tab), ("math/bits.deBruijn64tab", laid_math_bits_deBruijn64tab), ("internal/strconv.uint64pow10", laid_internal_strconv_uint64pow10), ("strconv.ErrRange", laid_strconv_ErrRange), ("strconv.ErrSyntax", laid_strconv_ErrSyntax)] }
def FnPiecesTwoSaid : Prop := fnPiecesTwoRow.holds Tryd.pinned (OpenSpec.ofChange fnPiecesTwoSpec)

/-- ITS FALSE NEIGHBOUR: 'it returns false'. Refute it at one input. -/
def fnPiecesTwoWrong : ChangeSpec := { name := "fnPiecesTwo", fn := fun _ => fun
  | [d1, d2] => { results := [.lit (.bool false)], args := [d1, d2] }
  | _ => none }
def FnPiecesTwoWrongFalsely : Prop := fnPiecesTwoRow.holds Tryd.pinned (OpenSpec.ofChange fnPiecesTwoWrong)

/-- 'laws.FnNameIn': WHATEVER THE INPUT: true; the input reads as it did. -/
def fnNameInSpec : ChangeSpec := { name := "fnNameIn", fn := fun _ => fun
  | [d1, d2] => { results := [.lit (.bool true)], args := [d1, d2] }
  | _ => none }
def fnNameInRow : OpenClaim := { program := "ytclhmoghkcnkmaadoor", sum := "8a1ccddf3b74c8f6ca8fba806b3cc3867880d097e5575a77170acb5f82b71a47", func := "loop.example/ostiary/laws.FnNameIn", spec := "fnNameIn", inPlace := ["internal/bytealg.IndexByteString", "internal/bytealg.IndexString"], recurses := true, named := ["internal/bytealg.MaxLen", "strconv.ErrSyntax", "strconv.ErrRange", "internal/strconv.uint64pow10", "math/bits.deBruijn32tab", "math/bits.deBruijn64tab"], apart := false, laid := [("math/bits.deBruijn32tab", laid_math_bits_deBruijn32tab), ("math/bits.deBruijn64tab", laid_math_bits_deBruijn64tab), ("internal/strconv.uint64pow10", laid_internal_strconv_uint64pow10), ("strconv.ErrRange", laid_strconv_ErrRange), ("strconv.ErrSyntax", laid_strconv_ErrSyntax)] }
def FnNameInSaid : Prop := fnNameInRow.holds Tryd.pinned (OpenSpec.ofChange fnNameInSpec)

/-- ITS FALSE NEIGHBOUR: 'it returns false'. Refute it at one input. -/
def fnNameInWrong : ChangeSpec := { name := "fnNameIn", fn := fun _ => fun
  | [d1, d2] => { results := [.lit (.bool false)], args := [d1, d2] }
  | _ => none }
def FnNameInWrongFalsely : Prop := fnNameInRow.holds Tryd.pinned (OpenSpec.ofChange fnNameInWrong)

/-- 'laws.FnExactConvOk': WHATEVER THE INPUT: true; the input reads as it did. -/
def fnExactConvOkSpec : ChangeSpec := { name := "fnExactConvOk", fn := fun _ => fun
  | [d] => { results := [.lit (.bool true)], args := [d] }
  | _ => none }
def fnExactConvOkRow : OpenClaim := { program := "ytclhmoghkcnkmaadoor", sum := "8a1ccddf3b74c8f6ca8fba806b3cc3867880d097e5575a77170acb5f82b71a47", func := "loop.example/ostiary/laws.FnExactConvOk", spec := "fnExactConvOk", inPlace := ["internal/bytealg.IndexByteString", "internal/bytealg.IndexString"], unfollowed := true, recurses := true, named := ["internal/bytealg.MaxLen", "strconv.ErrSyntax", "strconv.ErrRange", "internal/strconv.uint64pow10", "math/bits.deBruijn32tab", "math/bits.deBruijn64tab"], apart := false, laid := [("math/bits.deBruijn32tab", laid_math_bits_deBruijn32tab), ("math/bits.deBruijn64tab", laid_math_bits_deBruijn64tab), ("internal/strconv.uint64pow10", laid_internal_strconv_uint64pow10), ("strconv.ErrRange", laid_strconv_ErrRange), ("strconv.ErrSyntax", laid_strconv_ErrSyntax)] }
def FnExactConvOkSaid : Prop := fnExactConvOkRow.holds Tryd.pinned (OpenSpec.ofChange fnExactConvOkSpec)

/-- ITS FALSE NEIGHBOUR: 'it returns false'. Refute it at one input. -/
def fnExactConvOkWrong : ChangeSpec := { name := "fnExactConvOk", fn := fun _ => fun
  | [d] => { results := [.lit (.bool false)], args := [d] }
  | _ => none }
def FnExactConvOkWrongFalsely : Prop := fnExactConvOkRow.holds Tryd.pinned (OpenSpec.ofChange fnExactConvOkWrong)

/-- 'laws.FnExactConvSay': WHATEVER THE INPUT: true; the input reads as it did. -/
def fnExactConvSaySpec : ChangeSpec := { name := "fnExactConvSay", fn := fun _ => fun
  | [d1, d2, d3, d4, d5] => { results := [.lit (.bool true)], args := [d1, d2, d3, d4, d5] }
  | _ => none }
def fnExactConvSayRow : OpenClaim := { program := "ytclhmoghkcnkmaadoor", sum := "8a1ccddf3b74c8f6ca8fba806b3cc3867880d097e5575a77170acb5f82b71a47", func := "loop.example/ostiary/laws.FnExactConvSay", spec := "fnExactConvSay", inPlace := ["internal/bytealg.IndexByteString", "internal/bytealg.IndexString"], unfollowed := true, recurses := true, named := ["internal/bytealg.MaxLen", "strconv.ErrSyntax", "strconv.ErrRange", "internal/strconv.uint64pow10", "math/bits.deBruijn32tab", "math/bits.deBruijn64tab"], apart := false, laid := [("math/bits.deBruijn32tab", laid_math_bits_deBruijn32tab), ("math/bits.deBruijn64tab", laid_math_bits_deBruijn64tab), ("internal/strconv.uint64pow10", laid_internal_strconv_uint64pow10), ("strconv.ErrRange", laid_strconv_ErrRange), ("strconv.ErrSyntax", laid_strconv_ErrSyntax)] }
def FnExactConvSaySaid : Prop := fnExactConvSayRow.holds Tryd.pinned (OpenSpec.ofChange fnExactConvSaySpec)

/-- ITS FALSE NEIGHBOUR: 'it returns false'. Refute it at one input. -/
def fnExactConvSayWrong : ChangeSpec := { name := "fnExactConvSay", fn := fun _ => fun
  | [d1, d2, d3, d4, d5] => { results := [.lit (.bool false)], args := [d1, d2, d3, d4, d5] }
  | _ => none }
def FnExactConvSayWrongFalsely : Prop := fnExactConvSayRow.holds Tryd.pinned (OpenSpec.ofChange fnExactConvSayWrong)

/- THE SECOND FORM. 'bulk': how many values and letters a reading holds, each counted each time it is reached (what is shared counts as often as it is met; a slice's spare places count too). A statement '..UptoSaid' is the law's where the arguments, and the package variables that the reading takes, are together of bulk at most 1048576: NARROWER than '..Said'. Prove '..Said' where nothing that the law and all that it calls make is longer than what came in: it says more and counts as full. Else prove '..UptoSaid'. A law counts once. -/
mutual
def uptoBulk {H : Type} : DataW H → Nat
  | .lit (.string bytes) => bytes.length + 1
  | .lit _ => 1
  | .nil => 1
  | .ptr d => uptoBulk d + 1
  | .slice elems spare => uptoBulkAll elems + uptoBulkAll spare + 1
  | .agg parts => uptoBulkAll parts + 1
  | .iface _ d => uptoBulk d + 1
  | .map entries => uptoBulkEntries entries + 1
  | .held _ => 1
def uptoBulkAll {H : Type} : List (DataW H) → Nat
  | [] => 0
  | d :: r => uptoBulk d + uptoBulkAll r
def uptoBulkEntries {H : Type} : List (Lit × DataW H) → Nat
  | [] => 0
  | x :: r => uptoBulkEntry x + uptoBulkEntries r
def uptoBulkEntry {H : Type} : Lit × DataW H → Nat
  | (.string bytes, d) => bytes.length + uptoBulk d + 1
  | (_, d) => uptoBulk d + 1
 end
def uptoSmall : (H : Type) → List (DataW H) → Bool := fun _ ds => decide (uptoBulkAll ds ≤ 1048576)
def OpenSpec.upto (s : _root_.Go.ChangeSpec) : _root_.Go.OpenSpec := { _root_.Go.OpenSpec.ofChange s with cond := some uptoSmall }

/-- 'laws.FnExactTextPieces', WHERE WHAT IT READS IS OF BULK AT MOST 1048576: true; the input reads as it did. -/
def fnExactTextPiecesUptoRow : OpenClaim := { program := "ytclhmoghkcnkmaadoor", sum := "8a1ccddf3b74c8f6ca8fba806b3cc3867880d097e5575a77170acb5f82b71a47", func := "loop.example/ostiary/laws.FnExactTextPieces", spec := "fnExactTextPieces", inPlace := ["internal/bytealg.IndexByteString", "internal/bytealg.IndexString"], recurses := true, named := ["internal/bytealg.MaxLen", "strconv.ErrSyntax", "strconv.ErrRange", "internal/strconv.uint64pow10", "math/bits.deBruijn32tab", "math/bits.deBruijn64tab"], apart := false, laid := [("math/bits.deBruijn32tab", laid_math_bits_deBruijn32tab), ("math/bits.deBruijn64tab", laid_math_bits_deBruijn64tab), ("internal/strconv.uint64pow10", laid_internal_strconv_uint64pow10), ("strconv.ErrRange", laid_strconv_ErrRange), ("strconv.ErrSyntax", laid_strconv_ErrSyntax)], narrowed := true }
def FnExactTextPiecesUptoSaid : Prop := fnExactTextPiecesUptoRow.holds Tryd.pinned (OpenSpec.upto fnExactTextPiecesSpec)

/-- 'laws.FnNames', WHERE WHAT IT READS IS OF BULK AT MOST 1048576: true; the input reads as it did. -/
def fnNamesUptoRow : OpenClaim := { program := "ytclhmoghkcnkmaadoor", sum := "8a1ccddf3b74c8f6ca8fba806b3cc3867880d097e5575a77170acb5f82b71a47", func := "loop.example/ostiary/laws.FnNames", spec := "fnNames", inPlace := ["internal/bytealg.IndexByteString", "internal/bytealg.IndexString"], recurses := true, named := ["internal/bytealg.MaxLen", "strconv.ErrSyntax", "strconv.ErrRange", "internal/strconv.uint64pow10", "math/bits.deBruijn32tab", "math/bits.deBruijn64tab"], apart := false, laid := [("math/bits.deBruijn32tab", laid_math_bits_deBruijn32tab), ("math/bits.deBruijn64tab", laid_math_bits_deBruijn64tab), ("internal/strconv.uint64pow10", laid_internal_strconv_uint64pow10), ("strconv.ErrRange", laid_strconv_ErrRange), ("strconv.ErrSyntax", laid_strconv_ErrSyntax)], narrowed := true }
def FnNamesUptoSaid : Prop := fnNamesUptoRow.holds Tryd.pinned (OpenSpec.upto fnNamesSpec)

/-- 'laws.FnPiecesMore', WHERE WHAT IT READS IS OF BULK AT MOST 1048576: true; the input reads as it did. -/
def fnPiecesMoreUptoRow : OpenClaim := { program := "ytclhmoghkcnkmaadoor", sum := "8a1ccddf3b74c8f6ca8fba806b3cc3867880d097e5575a77170acb5f82b71a47", func := "loop.example/ostiary/laws.FnPiecesMore", spec := "fnPiecesMore", inPlace := ["internal/bytealg.IndexByteString", "internal/bytealg.IndexString"], recurses := true, named := ["internal/bytealg.MaxLen", "strconv.ErrSyntax", "strconv.ErrRange", "internal/strconv.uint64pow10", "math/bits.deBruijn32tab", "math/bits.deBruijn64tab"], apart := false, laid := [("math/bits.deBruijn32tab", laid_math_bits_deBruijn32tab), ("math/bits.deBruijn64tab", laid_math_bits_deBruijn64tab), ("internal/strconv.uint64pow10", laid_internal_strconv_uint64pow10), ("strconv.ErrRange", laid_strconv_ErrRange), ("strconv.ErrSyntax", laid_strconv_ErrSyntax)], narrowed := true }
def FnPiecesMoreUptoSaid : Prop := fnPiecesMoreUptoRow.holds Tryd.pinned (OpenSpec.upto fnPiecesMoreSpec)

/-- 'laws.FnPiecesSize', WHERE WHAT IT READS IS OF BULK AT MOST 1048576: true; the input reads as it did. -/
def fnPiecesSizeUptoRow : OpenClaim := { program := "ytclhmoghkcnkmaadoor", sum := "8a1ccddf3b74c8f6ca8fba806b3cc3867880d097e5575a77170acb5f82b71a47", func := "loop.example/ostiary/laws.FnPiecesSize", spec := "fnPiecesSize", inPlace := ["internal/bytealg.IndexByteString", "internal/bytealg.IndexString"], recurses := true, named := ["internal/bytealg.MaxLen", "strconv.ErrSyntax", "strconv.ErrRange", "internal/strconv.uint64pow10", "math/bits.deBruijn32tab", "math/bits.deBruijn64tab"], apart := false, laid := [("math/bits.deBruijn32tab", laid_math_bits_deBruijn32tab), ("math/bits.deBruijn64tab", laid_math_bits_deBruijn64tab), ("internal/strconv.uint64pow10", laid_internal_strconv_uint64pow10), ("strconv.ErrRange", laid_strconv_ErrRange), ("strconv.ErrSyntax", laid_strconv_ErrSyntax)], narrowed := true }
def FnPiecesSizeUptoSaid : Prop := fnPiecesSizeUptoRow.holds Tryd.pinned (OpenSpec.upto fnPiecesSizeSpec)

/-- 'laws.FnPiecesAll', WHERE WHAT IT READS IS OF BULK AT MOST 1048576: true; the input reads as it did. -/
def fnPiecesAllUptoRow : OpenClaim := { program := "ytclhmoghkcnkmaadoor", sum := "8a1ccddf3b74c8f6ca8fba806b3cc3867880d097e5575a77170acb5f82b71a47", func := "loop.example/ostiary/laws.FnPiecesAll", spec := "fnPiecesAll", inPlace := ["internal/bytealg.IndexByteString", "internal/bytealg.IndexString"], recurses := true, named := ["internal/bytealg.MaxLen", "strconv.ErrSyntax", "strconv.ErrRange", "internal/strconv.uint64pow10", "math/bits.deBruijn32tab", "math/bits.deBruijn64tab"], apart := false, laid := [("math/bits.deBruijn32tab", laid_math_bits_deBruijn32tab), ("math/bits.deBruijn64tab", laid_math_bits_deBruijn64tab), ("internal/strconv.uint64pow10", laid_internal_strconv_uint64pow10), ("strconv.ErrRange", laid_strconv_ErrRange), ("strconv.ErrSyntax", laid_strconv_ErrSyntax)], narrowed := true }
def FnPiecesAllUptoSaid : Prop := fnPiecesAllUptoRow.holds Tryd.pinned (OpenSpec.upto fnPiecesAllSpec)

/-- 'laws.FnExactConvNew', WHERE WHAT IT READS IS OF BULK AT MOST 1048576: true; the input reads as it did. -/
def fnExactConvNewUptoRow : OpenClaim := { program := "ytclhmoghkcnkmaadoor", sum := "8a1ccddf3b74c8f6ca8fba806b3cc3867880d097e5575a77170acb5f82b71a47", func := "loop.example/ostiary/laws.FnExactConvNew", spec := "fnExactConvNew", inPlace := ["internal/bytealg.IndexByteString", "internal/bytealg.IndexString"], unfollowed := true, recurses := true, named := ["internal/bytealg.MaxLen", "strconv.ErrSyntax", "strconv.ErrRange", "internal/strconv.uint64pow10", "math/bits.deBruijn32tab", "math/bits.deBruijn64tab"], apart := false, laid := [("math/bits.deBruijn32tab", laid_math_bits_deBruijn32tab), ("math/bits.deBruijn64tab", laid_math_bits_deBruijn64tab), ("internal/strconv.uint64pow10", laid_internal_strconv_uint64pow10), ("strconv.ErrRange", laid_strconv_ErrRange), ("strconv.ErrSyntax", laid_strconv_ErrSyntax)], narrowed := true }
def FnExactConvNewUptoSaid : Prop := fnExactConvNewUptoRow.holds Tryd.pinned (OpenSpec.upto fnExactConvNewSpec)

/-- 'laws.FnTextNamed', WHERE WHAT IT READS IS OF BULK AT MOST 1048576: true; the input reads as it did. -/
def fnTextNamedUptoRow : OpenClaim := { program := "ytclhmoghkcnkmaadoor", sum := "8a1ccddf3b74c8f6ca8fba806b3cc3867880d097e5575a77170acb5f82b71a47", func := "loop.example/ostiary/laws.FnTextNamed", spec := "fnTextNamed", inPlace := ["internal/bytealg.IndexByteString", "internal/bytealg.IndexString"], recurses := true, named := ["internal/bytealg.MaxLen", "strconv.ErrSyntax", "strconv.ErrRange", "internal/strconv.uint64pow10", "math/bits.deBruijn32tab", "math/bits.deBruijn64tab"], apart := false, laid := [("math/bits.deBruijn32tab", laid_math_bits_deBruijn32tab), ("math/bits.deBruijn64tab", laid_math_bits_deBruijn64tab), ("internal/strconv.uint64pow10", laid_internal_strconv_uint64pow10), ("strconv.ErrRange", laid_strconv_ErrRange), ("strconv.ErrSyntax", laid_strconv_ErrSyntax)], narrowed := true }
def FnTextNamedUptoSaid : Prop := fnTextNamedUptoRow.holds Tryd.pinned (OpenSpec.upto fnTextNamedSpec)

/-- 'laws.FnPiecesTwo', WHERE WHAT IT READS IS OF BULK AT MOST 1048576: true; the input reads as it did. -/
def fnPiecesTwoUptoRow : OpenClaim := { program := "ytclhmoghkcnkmaadoor", sum := "8a1ccddf3b74c8f6ca8fba806b3cc3867880d097e5575a77170acb5f82b71a47", func := "loop.example/ostiary/laws.FnPiecesTwo", spec := "fnPiecesTwo", inPlace := ["internal/bytealg.IndexByteString", "internal/bytealg.IndexString"], recurses := true, named := ["internal/bytealg.MaxLen", "strconv.ErrSyntax", "strconv.ErrRange", "internal/strconv.uint64pow10", "math/bits.deBruijn32tab", "math/bits.deBruijn64tab"], apart := false, laid := [("math/bits.deBruijn32tab", laid_math_bits_deBruijn32tab), ("math/bits.deBruijn64tab", laid_math_bits_deBruijn64tab), ("internal/strconv.uint64pow10", laid_internal_strconv_uint64pow10), ("strconv.ErrRange", laid_strconv_ErrRange), ("strconv.ErrSyntax", laid_strconv_ErrSyntax)], narrowed := true }
def FnPiecesTwoUptoSaid : Prop := fnPiecesTwoUptoRow.holds Tryd.pinned (OpenSpec.upto fnPiecesTwoSpec)

/-- 'laws.FnNameIn', WHERE WHAT IT READS IS OF BULK AT MOST 1048576: true; the input reads as it did. -/
def fnNameInUptoRow : OpenClaim := { program := "ytclhmoghkcnkmaadoor", sum := "8a1ccddf3b74c8f6ca8fba806b3cc3867880d097e5575a77170acb5f82b71a47", func := "loop.example/ostiary/laws.FnNameIn", spec := "fnNameIn", inPlace := ["internal/bytealg.IndexByteString", "internal/bytealg.IndexString"], recurses := true, named := ["internal/bytealg.MaxLen", "strconv.ErrSyntax", "strconv.ErrRange", "internal/strconv.uint64pow10", "math/bits.deBruijn32tab", "math/bits.deBruijn64tab"], apart := false, laid := [("math/bits.deBruijn32tab", laid_math_bits_deBruijn32tab), ("math/bits.deBruijn64tab", laid_math_bits_deBruijn64tab), ("internal/strconv.uint64pow10", laid_internal_strconv_uint64pow10), ("strconv.ErrRange", laid_strconv_ErrRange), ("strconv.ErrSyntax", laid_strconv_ErrSyntax)], narrowed := true }
def FnNameInUptoSaid : Prop := fnNameInUptoRow.holds Tryd.pinned (OpenSpec.upto fnNameInSpec)

/-- 'laws.FnExactConvOk', WHERE WHAT IT READS IS OF BULK AT MOST 1048576: true; the input reads as it did. -/
def fnExactConvOkUptoRow : OpenClaim := { program := "ytclhmoghkcnkmaadoor", sum := "8a1ccddf3b74c8f6ca8fba806b3cc3867880d097e5575a77170acb5f82b71a47", func := "loop.example/ostiary/laws.FnExactConvOk", spec := "fnExactConvOk", inPlace := ["internal/bytealg.IndexByteString", "internal/bytealg.IndexString"], unfollowed := true, recurses := true, named := ["internal/bytealg.MaxLen", "strconv.ErrSyntax", "strconv.ErrRange", "internal/strconv.uint64pow10", "math/bits.deBruijn32tab", "math/bits.deBruijn64tab"], apart := false, laid := [("math/bits.deBruijn32tab", laid_math_bits_deBruijn32tab), ("math/bits.deBruijn64tab", laid_math_bits_deBruijn64tab), ("internal/strconv.uint64pow10", laid_internal_strconv_uint64pow10), ("strconv.ErrRange", laid_strconv_ErrRange), ("strconv.ErrSyntax", laid_strconv_ErrSyntax)], narrowed := true }
def FnExactConvOkUptoSaid : Prop := fnExactConvOkUptoRow.holds Tryd.pinned (OpenSpec.upto fnExactConvOkSpec)

/-- 'laws.FnExactConvSay', WHERE WHAT IT READS IS OF BULK AT MOST 1048576: true; the input reads as it did. -/
def fnExactConvSayUptoRow : OpenClaim := { program := "ytclhmoghkcnkmaadoor", sum := "8a1ccddf3b74c8f6ca8fba806b3cc3867880d097e5575a77170acb5f82b71a47", func := "loop.example/ostiary/laws.FnExactConvSay", spec := "fnExactConvSay", inPlace := ["internal/bytealg.IndexByteString", "internal/bytealg.IndexString"], unfollowed := true, recurses := true, named := ["internal/bytealg.MaxLen", "strconv.ErrSyntax", "strconv.ErrRange", "internal/strconv.uint64pow10", "math/bits.deBruijn32tab", "math/bits.deBruijn64tab"], apart := false, laid := [("math/bits.deBruijn32tab", laid_math_bits_deBruijn32tab), ("math/bits.deBruijn64tab", laid_math_bits_deBruijn64tab), ("internal/strconv.uint64pow10", laid_internal_strconv_uint64pow10), ("strconv.ErrRange", laid_strconv_ErrRange), ("strconv.ErrSyntax", laid_strconv_ErrSyntax)], narrowed := true }
def FnExactConvSayUptoSaid : Prop := fnExactConvSayUptoRow.holds Tryd.pinned (OpenSpec.upto fnExactConvSaySpec)

end Rows
end Go.Proofs.YtclhmoghkcnkmaaDoor
