/-
  NARROWER THAN 'FOR EVERY INPUT', by the rows' own cells (each row's printed sentence says how): FnEndSides: laid · FnExactEndText: laid · FnEndOther: laid · FnPktEnds: laid · FnExactPktText: laid · FnPktOne: laid · FnExactEndRead: laid · FnEndBack: laid · FnEndCut: laid · FnEndStrict: laid · FnHeldRest: laid · FnExactTextNames: laid.
  DERIVED. THE GIVEN ROWS OF THIS SEAT. 12 by the template 'for every input the law returns true; each argument reads behind the call as it read before'; 0 by the template 'total and deterministic' (their statements: YtdphdheodloofaaDoorTotals.lean).
  GIVEN WITH THE SEED: the statements are not yours to turn. If you find one false, say at which input.
  Laid BY PROGRAM, IN A SANDBOX (cutbox-rows.mjs): the forced cells as the released guide's own fill.sh prints them over the translation d0cb87ddcb8e3ee4… (all of the seat's roots in one cut). By AI agents, Wed Nov 11 2026. No macro, syntax, notation, axiom, sorry.
-/
import Derived.Test.YtdphdheodloofaaDoorChecked
import GoSem.Claim
import GoSem.ClaimJoined
import GoSem.ClaimMapViews
import Derived.JoinedTies
import Derived.KernelRfl
namespace Go.Proofs.YtdphdheodloofaaDoor
/- THE CELL 'sum', in the pinned program and in every row, IS THE sha256 OF THE DUMP (.gsa) THAT YtdphdheodloofaaDoorProg.lean LOADS. Nothing in Lean hashes anything: it is a label: what it is worth is what the hold of that sum in a sandbox is worth. -/
noncomputable def Tryd.pinned : Pinned := { name := "ytdphdheodloofaadoor", sum := "d0cb87ddcb8e3ee496affc9593829fa1672363de343acc9426030d390eebe4fe", checked := Tryd.checked }
namespace Rows
def none {H : Type} : Left H := { results := [], args := [] }

/- WHAT THE LISTED PACKAGE-LEVEL VARIABLES READ AS WHEN THE CALL BEGINS. Each datum BY PROGRAM (the guide's laid-datum.mjs) off the statement by which the dump's own 'gosem.cut.vars' lays the variable. In a bare row this is a premise. The card (YtdphdheodloofaaDoorCards.lean) ties it to the program's text. -/
def laid_math_bits_deBruijn32tab {H : Type} : DataW H := .agg [.lit (.int .u8 0), .lit (.int .u8 1), .lit (.int .u8 28), .lit (.int .u8 2), .lit (.int .u8 29), .lit (.int .u8 14), .lit (.int .u8 24), .lit (.int .u8 3), .lit (.int .u8 30), .lit (.int .u8 22), .lit (.int .u8 20), .lit (.int .u8 15), .lit (.int .u8 25), .lit (.int .u8 17), .lit (.int .u8 4), .lit (.int .u8 8), .lit (.int .u8 31), .lit (.int .u8 27), .lit (.int .u8 13), .lit (.int .u8 23), .lit (.int .u8 21), .lit (.int .u8 19), .lit (.int .u8 16), .lit (.int .u8 7), .lit (.int .u8 26), .lit (.int .u8 12), .lit (.int .u8 18), .lit (.int .u8 6), .lit (.int .u8 11), .lit (.int .u8 5), .lit (.int .u8 10), .lit (.int .u8 9)]
def laid_math_bits_deBruijn64tab {H : Type} : DataW H := .agg [.lit (.int .u8 0), .lit (.int .u8 1), .lit (.int .u8 56), .lit (.int .u8 2), .lit (.int .u8 57), .lit (.int .u8 49), .lit (.int .u8 28), .lit (.int .u8 3), .lit (.int .u8 61), .lit (.int .u8 58), .lit (.int .u8 42), .lit (.int .u8 50), .lit (.int .u8 38), .lit (.int .u8 29), .lit (.int .u8 17), .lit (.int .u8 4), .lit (.int .u8 62), .lit (.int .u8 47), .lit (.int .u8 59), .lit (.int .u8 36), .lit (.int .u8 45), .lit (.int .u8 43), .lit (.int .u8 51), .lit (.int .u8 22), .lit (.int .u8 53), .lit (.int .u8 39), .lit (.int .u8 33), .lit (.int .u8 30), .lit (.int .u8 24), .lit (.int .u8 18), .lit (.int .u8 12), .lit (.int .u8 5), .lit (.int .u8 63), .lit (.int .u8 55), .lit (.int .u8 48), .lit (.int .u8 27), .lit (.int .u8 60), .lit (.int .u8 41), .lit (.int .u8 37), .lit (.int .u8 16), .lit (.int .u8 46), .lit (.int .u8 35), .lit (.int .u8 44), .lit (.int .u8 21), .lit (.int .u8 52), .lit (.int .u8 32), .lit (.int .u8 23), .lit (.int .u8 11), .lit (.int .u8 54), .lit (.int .u8 26), .lit (.int .u8 40), .lit (.int .u8 15), .lit (.int .u8 34), .lit (.int .u8 20), .lit (.int .u8 31), .lit (.int .u8 10), .lit (.int .u8 25), .lit (.int .u8 14), .lit (.int .u8 19), .lit (.int .u8 9), .lit (.int .u8 13), .lit (.int .u8 8), .lit (.int .u8 7), .lit (.int .u8 6)]
def laid_internal_strconv_uint64pow10 {H : Type} : DataW H := .agg [.lit (.int .u64 1), .lit (.int .u64 10), .lit (.int .u64 100), .lit (.int .u64 1000), .lit (.int .u64 10000), .lit (.int .u64 100000), .lit (.int .u64 1000000), .lit (.int .u64 10000000), .lit (.int .u64 100000000), .lit (.int .u64 1000000000), .lit (.int .u64 10000000000), .lit (.int .u64 100000000000), .lit (.int .u64 1000000000000), .lit (.int .u64 10000000000000), .lit (.int .u64 100000000000000), .lit (.int .u64 1000000000000000), .lit (.int .u64 10000000000000000), .lit (.int .u64 100000000000000000), .lit (.int .u64 1000000000000000000), .lit (.int .u64 10000000000000000000)]
def laid_strconv_ErrRange {H : Type} : DataW H := .iface "*errors.errorString" (.ptr (.agg [.lit (.string [118, 97, 108, 117, 101, 32, 111, 117, 116, 32, 111, 102, 32, 114, 97, 110, 103, 101])]))
def laid_strconv_ErrSyntax {H : Type} : DataW H := .iface "*errors.errorString" (.ptr (.agg [.lit (.string [105, 110, 118, 97, 108, 105, 100, 32, 115, 121, 110, 116, 97, 120])]))

/-- 'laws.FnEndSides': WHATEVER THE INPUT: true; the input reads as it did. -/
def fnEndSidesSpec : ChangeSpec := { name := "fnEndSides", fn := fun _ => fun
  | [d] => { results := [.lit (.bool true)], args := [d] }
  | _ => none }
def fnEndSidesRow : OpenClaim := { program := "ytdphdheodloofaadoor", sum := "d0cb87ddcb8e3ee496affc9593829fa1672363de343acc9426030d390eebe4fe", func := "loop.example/ostiary/laws.FnEndSides", spec := "fnEndSides", named := ["internal/strconv.uint64pow10", "math/bits.deBruijn32tab", "math/bits.deBruijn64tab"], apart := false, laid := [("math/bits.deBruijn32tab", laid_math_bits_deBruijn32tab), ("math/bits.deBruijn64tab", laid_math_bits_deBruijn64tab), ("internal/strconv.uint64pow10", laid_internal_strconv_uint64pow10)] }
def FnEndSidesSaid : Prop := fnEndSidesRow.holds Tryd.pinned (OpenSpec.ofChange fnEndSidesSpec)

/-- ITS FALSE NEIGHBOUR: 'it returns false'. Refute it at one input. -/
def fnEndSidesWrong : ChangeSpec := { name := "fnEndSides", fn := fun _ => fun
  | [d] => { results := [.lit (.bool false)], args := [d] }
  | _ => none }
def FnEndSidesWrongFalsely : Prop := fnEndSidesRow.holds Tryd.pinned (OpenSpec.ofChange fnEndSidesWrong)

/-- 'laws.FnExactEndText': WHATEVER THE INPUT: true; the input reads as it did. -/
def fnExactEndTextSpec : ChangeSpec := { name := "fnExactEndText", fn := fun _ => fun
  | [d] => { results := [.lit (.bool true)], args := [d] }
  | _ => none }
def fnExactEndTextRow : OpenClaim := { program := "ytdphdheodloofaadoor", sum := "d0cb87ddcb8e3ee496affc9593829fa1672363de343acc9426030d390eebe4fe", func := "loop.example/ostiary/laws.FnExactEndText", spec := "fnExactEndText", recurses := true, named := ["internal/strconv.uint64pow10", "math/bits.deBruijn32tab", "math/bits.deBruijn64tab"], apart := false, laid := [("math/bits.deBruijn32tab", laid_math_bits_deBruijn32tab), ("math/bits.deBruijn64tab", laid_math_bits_deBruijn64tab), ("internal/strconv.uint64pow10", laid_internal_strconv_uint64pow10)] }
def FnExactEndTextSaid : Prop := fnExactEndTextRow.holds Tryd.pinned (OpenSpec.ofChange fnExactEndTextSpec)

/-- ITS FALSE NEIGHBOUR: 'it returns false'. Refute it at one input. -/
def fnExactEndTextWrong : ChangeSpec := { name := "fnExactEndText", fn := fun _ => fun
  | [d] => { results := [.lit (.bool false)], args := [d] }
  | _ => none }
def FnExactEndTextWrongFalsely : Prop := fnExactEndTextRow.holds Tryd.pinned (OpenSpec.ofChange fnExactEndTextWrong)

/-- 'laws.FnEndOther': WHATEVER THE INPUT: true; the input reads as it did. -/
def fnEndOtherSpec : ChangeSpec := { name := "fnEndOther", fn := fun _ => fun
  | [d1, d2] => { results := [.lit (.bool true)], args := [d1, d2] }
  | _ => none }
def fnEndOtherRow : OpenClaim := { program := "ytdphdheodloofaadoor", sum := "d0cb87ddcb8e3ee496affc9593829fa1672363de343acc9426030d390eebe4fe", func := "loop.example/ostiary/laws.FnEndOther", spec := "fnEndOther", recurses := true, named := ["internal/strconv.uint64pow10", "math/bits.deBruijn32tab", "math/bits.deBruijn64tab"], apart := false, laid := [("math/bits.deBruijn32tab", laid_math_bits_deBruijn32tab), ("math/bits.deBruijn64tab", laid_math_bits_deBruijn64tab), ("internal/strconv.uint64pow10", laid_internal_strconv_uint64pow10)] }
def FnEndOtherSaid : Prop := fnEndOtherRow.holds Tryd.pinned (OpenSpec.ofChange fnEndOtherSpec)

/-- ITS FALSE NEIGHBOUR: 'it returns false'. Refute it at one input. -/
def fnEndOtherWrong : ChangeSpec := { name := "fnEndOther", fn := fun _ => fun
  | [d1, d2] => { results := [.lit (.bool false)], args := [d1, d2] }
  | _ => none }
def FnEndOtherWrongFalsely : Prop := fnEndOtherRow.holds Tryd.pinned (OpenSpec.ofChange fnEndOtherWrong)

/-- 'laws.FnPktEnds': WHATEVER THE INPUT: true; the input reads as it did. -/
def fnPktEndsSpec : ChangeSpec := { name := "fnPktEnds", fn := fun _ => fun
  | [d1, d2] => { results := [.lit (.bool true)], args := [d1, d2] }
  | _ => none }
def fnPktEndsRow : OpenClaim := { program := "ytdphdheodloofaadoor", sum := "d0cb87ddcb8e3ee496affc9593829fa1672363de343acc9426030d390eebe4fe", func := "loop.example/ostiary/laws.FnPktEnds", spec := "fnPktEnds", recurses := true, named := ["internal/strconv.uint64pow10", "math/bits.deBruijn32tab", "math/bits.deBruijn64tab"], apart := false, laid := [("math/bits.deBruijn32tab", laid_math_bits_deBruijn32tab), ("math/bits.deBruijn64tab", laid_math_bits_deBruijn64tab), ("internal/strconv.uint64pow10", laid_internal_strconv_uint64pow10)] }
def FnPktEndsSaid : Prop := fnPktEndsRow.holds Tryd.pinned (OpenSpec.ofChange fnPktEndsSpec)

/-- ITS FALSE NEIGHBOUR: 'it returns false'. Refute it at one input. -/
def fnPktEndsWrong : ChangeSpec := { name := "fnPktEnds", fn := fun _ => fun
  | [d1, d2] => { results := [.lit (.bool false)], args := [d1, d2] }
  | _ => none }
def FnPktEndsWrongFalsely : Prop := fnPktEndsRow.holds Tryd.pinned (OpenSpec.ofChange fnPktEndsWrong)

/-- 'laws.FnExactPktText': WHATEVER THE INPUT: true; the input reads as it did. -/
def fnExactPktTextSpec : ChangeSpec := { name := "fnExactPktText", fn := fun _ => fun
  | [d] => { results := [.lit (.bool true)], args := [d] }
  | _ => none }
def fnExactPktTextRow : OpenClaim := { program := "ytdphdheodloofaadoor", sum := "d0cb87ddcb8e3ee496affc9593829fa1672363de343acc9426030d390eebe4fe", func := "loop.example/ostiary/laws.FnExactPktText", spec := "fnExactPktText", inPlace := ["internal/abi.NoEscape", "internal/bytealg.MakeNoZero"], recurses := true, named := ["internal/strconv.uint64pow10", "math/bits.deBruijn32tab", "math/bits.deBruijn64tab"], apart := false, laid := [("math/bits.deBruijn32tab", laid_math_bits_deBruijn32tab), ("math/bits.deBruijn64tab", laid_math_bits_deBruijn64tab), ("internal/strconv.uint64pow10", laid_internal_strconv_uint64pow10)] }
def FnExactPktTextSaid : Prop := fnExactPktTextRow.holds Tryd.pinned (OpenSpec.ofChange fnExactPktTextSpec)

/-- ITS FALSE NEIGHBOUR: 'it returns false'. Refute it at one input. -/
def fnExactPktTextWrong : ChangeSpec := { name := "fnExactPktText", fn := fun _ => fun
  | [d] => { results := [.lit (.bool false)], args := [d] }
  | _ => none }
def FnExactPktTextWrongFalsely : Prop := fnExactPktTextRow.holds Tryd.pinned (OpenSpec.ofChange fnExactPktTextWrong)

/-- 'laws.FnPktOne': WHATEVER THE INPUT: true; the input reads as it did. -/
def fnPktOneSpec : ChangeSpec := { name := "fnPktOne", fn := fun _ => fun
  | [d1, d2] => { results := [.lit (.bool true)], args := [d1, d2] }
  | _ => none }
def fnPktOneRow : OpenClaim := { program := "ytdphdheodloofaadoor", sum := "d0cb87ddcb8e3ee496affc9593829fa1672363de343acc9426030d390eebe4fe", func := "loop.example/ostiary/laws.FnPktOne", spec := "fnPktOne", inPlace := ["internal/abi.NoEscape", "internal/bytealg.MakeNoZero"], recurses := true, named := ["internal/strconv.uint64pow10", "math/bits.deBruijn32tab", "math/bits.deBruijn64tab"], apart := false, laid := [("math/bits.deBruijn32tab", laid_math_bits_deBruijn32tab), ("math/bits.deBruijn64tab", laid_math_bits_deBruijn64tab), ("internal/strconv.uint64pow10", laid_internal_strconv_uint64pow10)] }
def FnPktOneSaid : Prop := fnPktOneRow.holds Tryd.pinned (OpenSpec.ofChange fnPktOneSpec)

/-- ITS FALSE NEIGHBOUR: 'it returns false'. Refute it at one input. -/
def fnPktOneWrong : ChangeSpec := { name := "fnPktOne", fn := fun _ => fun
  | [d1, d2] => { results := [.lit (.bool false)], args := [d1, d2] }
  | _ => none }
def FnPktOneWrongFalsely : Prop := fnPktOneRow.holds Tryd.pinned (OpenSpec.ofChange fnPktOneWrong)

/-- 'laws.FnExactEndRead': WHATEVER THE INPUT: true; the input reads as it did. -/
def fnExactEndReadSpec : ChangeSpec := { name := "fnExactEndRead", fn := fun _ => fun
  | [d] => { results := [.lit (.bool true)], args := [d] }
  | _ => none }
def fnExactEndReadRow : OpenClaim := { program := "ytdphdheodloofaadoor", sum := "d0cb87ddcb8e3ee496affc9593829fa1672363de343acc9426030d390eebe4fe", func := "loop.example/ostiary/laws.FnExactEndRead", spec := "fnExactEndRead", inPlace := ["internal/bytealg.IndexByteString", "internal/bytealg.IndexString"], recurses := true, named := ["internal/bytealg.MaxLen", "strconv.ErrSyntax", "strconv.ErrRange", "internal/strconv.uint64pow10", "math/bits.deBruijn32tab", "math/bits.deBruijn64tab"], apart := false, laid := [("math/bits.deBruijn32tab", laid_math_bits_deBruijn32tab), ("math/bits.deBruijn64tab", laid_math_bits_deBruijn64tab), ("internal/strconv.uint64pow10", laid_internal_strconv_uint64pow10), ("strconv.ErrRange", laid_strconv_ErrRange), ("strconv.ErrSyntax", laid_strconv_ErrSyntax)] }
def FnExactEndReadSaid : Prop := fnExactEndReadRow.holds Tryd.pinned (OpenSpec.ofChange fnExactEndReadSpec)

/-- ITS FALSE NEIGHBOUR: 'it returns false'. Refute it at one input. -/
def fnExactEndReadWrong : ChangeSpec := { name := "fnExactEndRead", fn := fun _ => fun
  | [d] => { results := [.lit (.bool false)], args := [d] }
  | _ => none }
def FnExactEndReadWrongFalsely : Prop := fnExactEndReadRow.holds Tryd.pinned (OpenSpec.ofChange fnExactEndReadWrong)

/-- 'laws.FnEndBack': WHATEVER THE INPUT: true; the input reads as it did. -/
def fnEndBackSpec : ChangeSpec := { name := "fnEndBack", fn := fun _ => fun
  | [d] => { results := [.lit (.bool true)], args := [d] }
  | _ => none }
def fnEndBackRow : OpenClaim := { program := "ytdphdheodloofaadoor", sum := "d0cb87ddcb8e3ee496affc9593829fa1672363de343acc9426030d390eebe4fe", func := "loop.example/ostiary/laws.FnEndBack", spec := "fnEndBack", inPlace := ["internal/bytealg.IndexByteString", "internal/bytealg.IndexString"], recurses := true, named := ["internal/strconv.uint64pow10", "math/bits.deBruijn32tab", "math/bits.deBruijn64tab", "internal/bytealg.MaxLen", "strconv.ErrSyntax", "strconv.ErrRange"], apart := false, laid := [("math/bits.deBruijn32tab", laid_math_bits_deBruijn32tab), ("math/bits.deBruijn64tab", laid_math_bits_deBruijn64tab), ("internal/strconv.uint64pow10", laid_internal_strconv_uint64pow10), ("strconv.ErrRange", laid_strconv_ErrRange), ("strconv.ErrSyntax", laid_strconv_ErrSyntax)] }
def FnEndBackSaid : Prop := fnEndBackRow.holds Tryd.pinned (OpenSpec.ofChange fnEndBackSpec)

/-- ITS FALSE NEIGHBOUR: 'it returns false'. Refute it at one input. -/
def fnEndBackWrong : ChangeSpec := { name := "fnEndBack", fn := fun _ => fun
  | [d] => { results := [.lit (.bool false)], args := [d] }
  | _ => none }
def FnEndBackWrongFalsely : Prop := fnEndBackRow.holds Tryd.pinned (OpenSpec.ofChange fnEndBackWrong)

/-- 'laws.FnEndCut': WHATEVER THE INPUT: true; the input reads as it did. -/
def fnEndCutSpec : ChangeSpec := { name := "fnEndCut", fn := fun _ => fun
  | [d] => { results := [.lit (.bool true)], args := [d] }
  | _ => none }
def fnEndCutRow : OpenClaim := { program := "ytdphdheodloofaadoor", sum := "d0cb87ddcb8e3ee496affc9593829fa1672363de343acc9426030d390eebe4fe", func := "loop.example/ostiary/laws.FnEndCut", spec := "fnEndCut", inPlace := ["internal/bytealg.IndexByteString", "internal/bytealg.IndexString"], recurses := true, named := ["internal/strconv.uint64pow10", "math/bits.deBruijn32tab", "math/bits.deBruijn64tab", "internal/bytealg.MaxLen", "strconv.ErrSyntax", "strconv.ErrRange"], apart := false, laid := [("math/bits.deBruijn32tab", laid_math_bits_deBruijn32tab), ("math/bits.deBruijn64tab", laid_math_bits_deBruijn64tab), ("internal/strconv.uint64pow10", laid_internal_strconv_uint64pow10), ("strconv.ErrRange", laid_strconv_ErrRange), ("strconv.ErrSyntax", laid_strconv_ErrSyntax)] }
def FnEndCutSaid : Prop := fnEndCutRow.holds Tryd.pinned (OpenSpec.ofChange fnEndCutSpec)

/-- ITS FALSE NEIGHBOUR: 'it returns false'. Refute it at one input. -/
def fnEndCutWrong : ChangeSpec := { name := "fnEndCut", fn := fun _ => fun
  | [d] => { results := [.lit (.bool false)], args := [d] }
  | _ => none }
def FnEndCutWrongFalsely : Prop := fnEndCutRow.holds Tryd.pinned (OpenSpec.ofChange fnEndCutWrong)

/-- 'laws.FnEndStrict': WHATEVER THE INPUT: true; the input reads as it did. -/
def fnEndStrictSpec : ChangeSpec := { name := "fnEndStrict", fn := fun _ => fun
  | [d] => { results := [.lit (.bool true)], args := [d] }
  | _ => none }
def fnEndStrictRow : OpenClaim := { program := "ytdphdheodloofaadoor", sum := "d0cb87ddcb8e3ee496affc9593829fa1672363de343acc9426030d390eebe4fe", func := "loop.example/ostiary/laws.FnEndStrict", spec := "fnEndStrict", inPlace := ["internal/bytealg.IndexByteString", "internal/bytealg.IndexString"], recurses := true, named := ["internal/bytealg.MaxLen", "strconv.ErrSyntax", "strconv.ErrRange", "internal/strconv.uint64pow10", "math/bits.deBruijn32tab", "math/bits.deBruijn64tab"], apart := false, laid := [("math/bits.deBruijn32tab", laid_math_bits_deBruijn32tab), ("math/bits.deBruijn64tab", laid_math_bits_deBruijn64tab), ("internal/strconv.uint64pow10", laid_internal_strconv_uint64pow10), ("strconv.ErrRange", laid_strconv_ErrRange), ("strconv.ErrSyntax", laid_strconv_ErrSyntax)] }
def FnEndStrictSaid : Prop := fnEndStrictRow.holds Tryd.pinned (OpenSpec.ofChange fnEndStrictSpec)

/-- ITS FALSE NEIGHBOUR: 'it returns false'. Refute it at one input. -/
def fnEndStrictWrong : ChangeSpec := { name := "fnEndStrict", fn := fun _ => fun
  | [d] => { results := [.lit (.bool false)], args := [d] }
  | _ => none }
def FnEndStrictWrongFalsely : Prop := fnEndStrictRow.holds Tryd.pinned (OpenSpec.ofChange fnEndStrictWrong)

/-- 'laws.FnHeldRest': WHATEVER THE INPUT: true; the input reads as it did. -/
def fnHeldRestSpec : ChangeSpec := { name := "fnHeldRest", fn := fun _ => fun
  | [d] => { results := [.lit (.bool true)], args := [d] }
  | _ => none }
def fnHeldRestRow : OpenClaim := { program := "ytdphdheodloofaadoor", sum := "d0cb87ddcb8e3ee496affc9593829fa1672363de343acc9426030d390eebe4fe", func := "loop.example/ostiary/laws.FnHeldRest", spec := "fnHeldRest", inPlace := ["internal/bytealg.IndexByteString", "internal/bytealg.IndexString"], recurses := true, named := ["internal/bytealg.MaxLen", "strconv.ErrSyntax", "strconv.ErrRange", "internal/strconv.uint64pow10", "math/bits.deBruijn32tab", "math/bits.deBruijn64tab"], apart := false, laid := [("math/bits.deBruijn32tab", laid_math_bits_deBruijn32tab), ("math/bits.deBruijn64tab", laid_math_bits_deBruijn64tab), ("internal/strconv.uint64pow10", laid_internal_strconv_uint64pow10), ("strconv.ErrRange", laid_strconv_ErrRange), ("strconv.ErrSyntax", laid_strconv_ErrSyntax)] }
def FnHeldRestSaid : Prop := fnHeldRestRow.holds Tryd.pinned (OpenSpec.ofChange fnHeldRestSpec)

/-- ITS FALSE NEIGHBOUR: 'it returns false'. Refute it at one input. -/
def fnHeldRestWrong : ChangeSpec := { name := "fnHeldRest", fn := fun _ => fun
  | [d] => { results := [.lit (.bool false)], args := [d] }
  | _ => none }
def FnHeldRestWrongFalsely : Prop := fnHeldRestRow.holds Tryd.pinned (OpenSpec.ofChange fnHeldRestWrong)

/-- 'laws.FnExactTextNames': WHATEVER THE INPUT: true; the input reads as it did. -/
def fnExactTextNamesSpec : ChangeSpec := { name := "fnExactTextNames", fn := fun _ => fun
  | [d] => { results := [.lit (.bool true)], args := [d] }
  | _ => none }
def fnExactTextNamesRow : OpenClaim := { program := "ytdphdheodloofaadoor", sum := "d0cb87ddcb8e3ee496affc9593829fa1672363de343acc9426030d390eebe4fe", func := "loop.example/ostiary/laws.FnExactTextNames", spec := "fnExactTextNames", inPlace := ["internal/bytealg.IndexByteString", "internal/bytealg.IndexString"], recurses := true, named := ["internal/bytealg.MaxLen", "strconv.ErrSyntax", "strconv.ErrRange", "internal/strconv.uint64pow10", "math/bits.deBruijn32tab", "math/bits.deBruijn64tab"], apart := false, laid := [("math/bits.deBruijn32tab", laid_math_bits_deBruijn32tab), ("math/bits.deBruijn64tab", laid_math_bits_deBruijn64tab), ("internal/strconv.uint64pow10", laid_internal_strconv_uint64pow10), ("strconv.ErrRange", laid_strconv_ErrRange), ("strconv.ErrSyntax", laid_strconv_ErrSyntax)] }
def FnExactTextNamesSaid : Prop := fnExactTextNamesRow.holds Tryd.pinned (OpenSpec.ofChange fnExactTextNamesSpec)

/-- ITS FALSE NEIGHBOUR: 'it returns false'. Refute it at one input. -/
def fnExactTextNamesWrong : ChangeSpec := { name := "fnExactTextNames", fn := fun _ => fun
  | [d] => { results := [.lit (.bool false)], args := [d] }
  | _ => none }
def FnExactTextNamesWrongFalsely : Prop := fnExactTextNamesRow.holds Tryd.pinned (OpenSpec.ofChange fnExactTextNamesWrong)

/- THE SECOND FORM. 'bulk': how many values and letters a reading holds, each counted each time it is reached (what is shared counts as often as it is met; a slice's spare places count too). A statement '..UptoSaid' is the law's where the arguments, and the package variables that the reading takes, are together of bulk at most 1048576: NARROWER than '..Said'. Prove '..Said' where nothing that the law and all that it calls make is longer than what came in: it says more and counts as full. Else prove '..UptoSaid'. A law counts once. -/
mutual
def uptoBulk {H : Type} : DataW H → Nat
  | .lit (.string bytes) => bytes.length + 1
  | .lit _ => 1
  | .nil => 1
  | .ptr d => uptoBulk d + 1
  | .slice elems spare => uptoBulkAll elems + uptoBulkAll spare + 1
  | .agg parts => uptoBulkAll parts + 1
  | .iface _ d => uptoBulk d + 1
  | .map entries => uptoBulkEntries entries + 1
  | .held _ => 1
def uptoBulkAll {H : Type} : List (DataW H) → Nat
  | [] => 0
  | d :: r => uptoBulk d + uptoBulkAll r
def uptoBulkEntries {H : Type} : List (Lit × DataW H) → Nat
  | [] => 0
  | x :: r => uptoBulkEntry x + uptoBulkEntries r
def uptoBulkEntry {H : Type} : Lit × DataW H → Nat
  | (.string bytes, d) => bytes.length + uptoBulk d + 1
  | (_, d) => uptoBulk d + 1
 end
def uptoSmall : (H : Type) → List (DataW H) → Bool := fun _ ds => decide (uptoBulkAll ds ≤ 1048576)
def OpenSpec.upto (s : _root_.Go.ChangeSpec) : _root_.Go.OpenSpec := { _root_.Go.OpenSpec.ofChange s with cond := some uptoSmall }

/-- 'laws.FnEndSides', WHERE WHAT IT READS IS OF BULK AT MOST 1048576: true; the input reads as it did. -/
def fnEndSidesUptoRow : OpenClaim := { program := "ytdphdheodloofaadoor", sum := "d0cb87ddcb8e3ee496affc9593829fa1672363de343acc9426030d390eebe4fe", func := "loop.example/ostiary/laws.FnEndSides", spec := "fnEndSides", named := ["internal/strconv.uint64pow10", "math/bits.deBruijn32tab", "math/bits.deBruijn64tab"], apart := false, laid := [("math/bits.deBruijn32tab", laid_math_bits_deBruijn32tab), ("math/bits.deBruijn64tab", laid_math_bits_deBruijn64tab), ("internal/strconv.uint64pow10", laid_internal_strconv_uint64pow10)], narrowed := true }
def FnEndSidesUptoSaid : Prop := fnEndSidesUptoRow.holds Tryd.pinned (OpenSpec.upto fnEndSidesSpec)

/-- 'laws.FnExactEndText', WHERE WHAT IT READS IS OF BULK AT MOST 1048576: true; the input reads as it did. -/
def fnExactEndTextUptoRow : OpenClaim := { program := "ytdphdheodloofaadoor", sum := "d0cb87ddcb8e3ee496affc9593829fa1672363de343acc9426030d390eebe4fe", func := "loop.example/ostiary/laws.FnExactEndText", spec := "fnExactEndText", recurses := true, named := ["internal/strconv.uint64pow10", "math/bits.deBruijn32tab", "math/bits.deBruijn64tab"], apart := false, laid := [("math/bits.deBruijn32tab", laid_math_bits_deBruijn32tab), ("math/bits.deBruijn64tab", laid_math_bits_deBruijn64tab), ("internal/strconv.uint64pow10", laid_internal_strconv_uint64pow10)], narrowed := true }
def FnExactEndTextUptoSaid : Prop := fnExactEndTextUptoRow.holds Tryd.pinned (OpenSpec.upto fnExactEndTextSpec)

/-- 'laws.FnEndOther', WHERE WHAT IT READS IS OF BULK AT MOST 1048576: true; the input reads as it did. -/
def fnEndOtherUptoRow : OpenClaim := { program := "ytdphdheodloofaadoor", sum := "d0cb87ddcb8e3ee496affc9593829fa1672363de343acc9426030d390eebe4fe", func := "loop.example/ostiary/laws.FnEndOther", spec := "fnEndOther", recurses := true, named := ["internal/strconv.uint64pow10", "math/bits.deBruijn32tab", "math/bits.deBruijn64tab"], apart := false, laid := [("math/bits.deBruijn32tab", laid_math_bits_deBruijn32tab), ("math/bits.deBruijn64tab", laid_math_bits_deBruijn64tab), ("internal/strconv.uint64pow10", laid_internal_strconv_uint64pow10)], narrowed := true }
def FnEndOtherUptoSaid : Prop := fnEndOtherUptoRow.holds Tryd.pinned (OpenSpec.upto fnEndOtherSpec)

/-- 'laws.FnPktEnds', WHERE WHAT IT READS IS OF BULK AT MOST 1048576: true; the input reads as it did. -/
def fnPktEndsUptoRow : OpenClaim := { program := "ytdphdheodloofaadoor", sum := "d0cb87ddcb8e3ee496affc9593829fa1672363de343acc9426030d390eebe4fe", func := "loop.example/ostiary/laws.FnPktEnds", spec := "fnPktEnds", recurses := true, named := ["internal/strconv.uint64pow10", "math/bits.deBruijn32tab", "math/bits.deBruijn64tab"], apart := false, laid := [("math/bits.deBruijn32tab", laid_math_bits_deBruijn32tab), ("math/bits.deBruijn64tab", laid_math_bits_deBruijn64tab), ("internal/strconv.uint64pow10", laid_internal_strconv_uint64pow10)], narrowed := true }
def FnPktEndsUptoSaid : Prop := fnPktEndsUptoRow.holds Tryd.pinned (OpenSpec.upto fnPktEndsSpec)

/-- 'laws.FnExactPktText', WHERE WHAT IT READS IS OF BULK AT MOST 1048576: true; the input reads as it did. -/
def fnExactPktTextUptoRow : OpenClaim := { program := "ytdphdheodloofaadoor", sum := "d0cb87ddcb8e3ee496affc9593829fa1672363de343acc9426030d390eebe4fe", func := "loop.example/ostiary/laws.FnExactPktText", spec := "fnExactPktText", inPlace := ["internal/abi.NoEscape", "internal/bytealg.MakeNoZero"], recurses := true, named := ["internal/strconv.uint64pow10", "math/bits.deBruijn32tab", "math/bits.deBruijn64tab"], apart := false, laid := [("math/bits.deBruijn32tab", laid_math_bits_deBruijn32tab), ("math/bits.deBruijn64tab", laid_math_bits_deBruijn64tab), ("internal/strconv.uint64pow10", laid_internal_strconv_uint64pow10)], narrowed := true }
def FnExactPktTextUptoSaid : Prop := fnExactPktTextUptoRow.holds Tryd.pinned (OpenSpec.upto fnExactPktTextSpec)

/-- 'laws.FnPktOne', WHERE WHAT IT READS IS OF BULK AT MOST 1048576: true; the input reads as it did. -/
def fnPktOneUptoRow : OpenClaim := { program := "ytdphdheodloofaadoor", sum := "d0cb87ddcb8e3ee496affc9593829fa1672363de343acc9426030d390eebe4fe", func := "loop.example/ostiary/laws.FnPktOne", spec := "fnPktOne", inPlace := ["internal/abi.NoEscape", "internal/bytealg.MakeNoZero"], recurses := true, named := ["internal/strconv.uint64pow10", "math/bits.deBruijn32tab", "math/bits.deBruijn64tab"], apart := false, laid := [("math/bits.deBruijn32tab", laid_math_bits_deBruijn32tab), ("math/bits.deBruijn64tab", laid_math_bits_deBruijn64tab), ("internal/strconv.uint64pow10", laid_internal_strconv_uint64pow10)], narrowed := true }
def FnPktOneUptoSaid : Prop := fnPktOneUptoRow.holds Tryd.pinned (OpenSpec.upto fnPktOneSpec)

/-- 'laws.FnExactEndRead', WHERE WHAT IT READS IS OF BULK AT MOST 1048576: true; the input reads as it did. -/
def fnExactEndReadUptoRow : OpenClaim := { program := "ytdphdheodloofaadoor", sum := "d0cb87ddcb8e3ee496affc9593829fa1672363de343acc9426030d390eebe4fe", func := "loop.example/ostiary/laws.FnExactEndRead", spec := "fnExactEndRead", inPlace := ["internal/bytealg.IndexByteString", "internal/bytealg.IndexString"], recurses := true, named := ["internal/bytealg.MaxLen", "strconv.ErrSyntax", "strconv.ErrRange", "internal/strconv.uint64pow10", "math/bits.deBruijn32tab", "math/bits.deBruijn64tab"], apart := false, laid := [("math/bits.deBruijn32tab", laid_math_bits_deBruijn32tab), ("math/bits.deBruijn64tab", laid_math_bits_deBruijn64tab), ("internal/strconv.uint64pow10", laid_internal_strconv_uint64pow10), ("strconv.ErrRange", laid_strconv_ErrRange), ("strconv.ErrSyntax", laid_strconv_ErrSyntax)], narrowed := true }
def FnExactEndReadUptoSaid : Prop := fnExactEndReadUptoRow.holds Tryd.pinned (OpenSpec.upto fnExactEndReadSpec)

/-- 'laws.FnEndBack', WHERE WHAT IT READS IS OF BULK AT MOST 1048576: true; the input reads as it did. -/
def fnEndBackUptoRow : OpenClaim := { program := "ytdphdheodloofaadoor", sum := "d0cb87ddcb8e3ee496affc9593829fa1672363de343acc9426030d390eebe4fe", func := "loop.example/ostiary/laws.FnEndBack", spec := "fnEndBack", inPlace := ["internal/bytealg.IndexByteString", "internal/bytealg.IndexString"], recurses := true, named := ["internal/strconv.uint64pow10", "math/bits.deBruijn32tab", "math/bits.deBruijn64tab", "internal/bytealg.MaxLen", "strconv.ErrSyntax", "strconv.ErrRange"], apart := false, laid := [("math/bits.deBruijn32tab", laid_math_bits_deBruijn32tab), ("math/bits.deBruijn64tab", laid_math_bits_deBruijn64tab), ("internal/strconv.uint64pow10", laid_internal_strconv_uint64pow10), ("strconv.ErrRange", laid_strconv_ErrRange), ("strconv.ErrSyntax", laid_strconv_ErrSyntax)], narrowed := true }
def FnEndBackUptoSaid : Prop := fnEndBackUptoRow.holds Tryd.pinned (OpenSpec.upto fnEndBackSpec)

/-- 'laws.FnEndCut', WHERE WHAT IT READS IS OF BULK AT MOST 1048576: true; the input reads as it did. -/
def fnEndCutUptoRow : OpenClaim := { program := "ytdphdheodloofaadoor", sum := "d0cb87ddcb8e3ee496affc9593829fa1672363de343acc9426030d390eebe4fe", func := "loop.example/ostiary/laws.FnEndCut", spec := "fnEndCut", inPlace := ["internal/bytealg.IndexByteString", "internal/bytealg.IndexString"], recurses := true, named := ["internal/strconv.uint64pow10", "math/bits.deBruijn32tab", "math/bits.deBruijn64tab", "internal/bytealg.MaxLen", "strconv.ErrSyntax", "strconv.ErrRange"], apart := false, laid := [("math/bits.deBruijn32tab", laid_math_bits_deBruijn32tab), ("math/bits.deBruijn64tab", laid_math_bits_deBruijn64tab), ("internal/strconv.uint64pow10", laid_internal_strconv_uint64pow10), ("strconv.ErrRange", laid_strconv_ErrRange), ("strconv.ErrSyntax", laid_strconv_ErrSyntax)], narrowed := true }
def FnEndCutUptoSaid : Prop := fnEndCutUptoRow.holds Tryd.pinned (OpenSpec.upto fnEndCutSpec)

/-- 'laws.FnEndStrict', WHERE WHAT IT READS IS OF BULK AT MOST 1048576: true; the input reads as it did. -/
def fnEndStrictUptoRow : OpenClaim := { program := "ytdphdheodloofaadoor", sum := "d0cb87ddcb8e3ee496affc9593829fa1672363de343acc9426030d390eebe4fe", func := "loop.example/ostiary/laws.FnEndStrict", spec := "fnEndStrict", inPlace := ["internal/bytealg.IndexByteString", "internal/bytealg.IndexString"], recurses := true, named := ["internal/bytealg.MaxLen", "strconv.ErrSyntax", "strconv.ErrRange", "internal/strconv.uint64pow10", "math/bits.deBruijn32tab", "math/bits.deBruijn64tab"], apart := false, laid := [("math/bits.deBruijn32tab", laid_math_bits_deBruijn32tab), ("math/bits.deBruijn64tab", laid_math_bits_deBruijn64tab), ("internal/strconv.uint64pow10", laid_internal_strconv_uint64pow10), ("strconv.ErrRange", laid_strconv_ErrRange), ("strconv.ErrSyntax", laid_strconv_ErrSyntax)], narrowed := true }
def FnEndStrictUptoSaid : Prop := fnEndStrictUptoRow.holds Tryd.pinned (OpenSpec.upto fnEndStrictSpec)

/-- 'laws.FnHeldRest', WHERE WHAT IT READS IS OF BULK AT MOST 1048576: true; the input reads as it did. -/
def fnHeldRestUptoRow : OpenClaim := { program := "ytdphdheodloofaadoor", sum := "d0cb87ddcb8e3ee496affc9593829fa1672363de343acc9426030d390eebe4fe", func := "loop.example/ostiary/laws.FnHeldRest", spec := "fnHeldRest", inPlace := ["internal/bytealg.IndexByteString", "internal/bytealg.IndexString"], recurses := true, named := ["internal/bytealg.MaxLen", "strconv.ErrSyntax", "strconv.ErrRange", "internal/strconv.uint64pow10", "math/bits.deBruijn32tab", "math/bits.deBruijn64tab"], apart := false, laid := [("math/bits.deBruijn32tab", laid_math_bits_deBruijn32tab), ("math/bits.deBruijn64tab", laid_math_bits_deBruijn64tab), ("internal/strconv.uint64pow10", laid_internal_strconv_uint64pow10), ("strconv.ErrRange", laid_strconv_ErrRange), ("strconv.ErrSyntax", laid_strconv_ErrSyntax)], narrowed := true }
def FnHeldRestUptoSaid : Prop := fnHeldRestUptoRow.holds Tryd.pinned (OpenSpec.upto fnHeldRestSpec)

/-- 'laws.FnExactTextNames', WHERE WHAT IT READS IS OF BULK AT MOST 1048576: true; the input reads as it did. -/
def fnExactTextNamesUptoRow : OpenClaim := { program := "ytdphdheodloofaadoor", sum := "d0cb87ddcb8e3ee496affc9593829fa1672363de343acc9426030d390eebe4fe", func := "loop.example/ostiary/laws.FnExactTextNames", spec := "fnExactTextNames", inPlace := ["internal/bytealg.IndexByteString", "internal/bytealg.IndexString"], recurses := true, named := ["internal/bytealg.MaxLen", "strconv.ErrSyntax", "strconv.ErrRange", "internal/strconv.uint64pow10", "math/bits.deBruijn32tab", "math/bits.deBruijn64tab"], apart := false, laid := [("math/bits.deBruijn32tab", laid_math_bits_deBruijn32tab), ("math/bits.deBruijn64tab", laid_math_bits_deBruijn64tab), ("internal/strconv.uint64pow10", laid_internal_strconv_uint64pow10), ("strconv.ErrRange", laid_strconv_ErrRange), ("strconv.ErrSyntax", laid_strconv_ErrSyntax)], narrowed := true }
def FnExactTextNamesUptoSaid : Prop := fnExactTextNamesUptoRow.holds Tryd.pinned (OpenSpec.upto fnExactTextNamesSpec)

end Rows
end Go.Proofs.YtdphdheodloofaaDoor
