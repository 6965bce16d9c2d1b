/-
  NARROWER THAN 'FOR EVERY INPUT', by the rows' own cells (each row's printed sentence says how): FnExactRangeText: laid · FnExactValText: laid · FnExactRangeRead: laid · FnExactValRead: laid · FnExactWordOk: laid · FnExactWords: laid · FnExactWordsText: laid · FnExactSymText: laid.
  DERIVED. THE GIVEN ROWS OF THIS SEAT. 8 by the template 'for every input the law returns true; each argument reads behind the call as it read before'; 0 by the template 'total and deterministic' (their statements: YtdofhbcohijpiaaDoorTotals.lean).
  GIVEN WITH THE SEED: the statements are not yours to turn. If you find one false, say at which input.
  Laid BY PROGRAM, IN A SANDBOX (cutbox-rows.mjs): the forced cells as the released guide's own fill.sh prints them over the translation 3800d7a0d14fbf45… (all of the seat's roots in one cut). By AI agents, Wed Nov 11 2026. No macro, syntax, notation, axiom, sorry.
-/
import Derived.Test.YtdofhbcohijpiaaDoorChecked
import GoSem.Claim
import GoSem.ClaimJoined
import GoSem.ClaimMapViews
import Derived.JoinedTies
import Derived.KernelRfl
namespace Go.Proofs.YtdofhbcohijpiaaDoor
/- THE CELL 'sum', in the pinned program and in every row, IS THE sha256 OF THE DUMP (.gsa) THAT YtdofhbcohijpiaaDoorProg.lean LOADS. Nothing in Lean hashes anything: it is a label: what it is worth is what the hold of that sum in a sandbox is worth. -/
noncomputable def Tryd.pinned : Pinned := { name := "ytdofhbcohijpiaadoor", sum := "3800d7a0d14fbf459bec96ab596ba0fcf624bda86dc835f0fa16b0e2cf72aa68", checked := Tryd.checked }
namespace Rows
def none {H : Type} : Left H := { results := [], args := [] }

/- WHAT THE LISTED PACKAGE-LEVEL VARIABLES READ AS WHEN THE CALL BEGINS. Each datum BY PROGRAM (the guide's laid-datum.mjs) off the statement by which the dump's own 'gosem.cut.vars' lays the variable. In a bare row this is a premise. The card (YtdofhbcohijpiaaDoorCards.lean) ties it to the program's text. -/
def laid_math_bits_deBruijn32tab {H : Type} : DataW H := .agg [.lit (.int .u8 0), .lit (.int .u8 1), .lit (.int .u8 28), .lit (.int .u8 2), .lit (.int .u8 29), .lit (.int .u8 14), .lit (.int .u8 24), .lit (.int .u8 3), .lit (.int .u8 30), .lit (.int .u8 22), .lit (.int .u8 20), .lit (.int .u8 15), .lit (.int .u8 25), .lit (.int .u8 17), .lit (.int .u8 4), .lit (.int .u8 8), .lit (.int .u8 31), .lit (.int .u8 27), .lit (.int .u8 13), .lit (.int .u8 23), .lit (.int .u8 21), .lit (.int .u8 19), .lit (.int .u8 16), .lit (.int .u8 7), .lit (.int .u8 26), .lit (.int .u8 12), .lit (.int .u8 18), .lit (.int .u8 6), .lit (.int .u8 11), .lit (.int .u8 5), .lit (.int .u8 10), .lit (.int .u8 9)]
def laid_math_bits_deBruijn64tab {H : Type} : DataW H := .agg [.lit (.int .u8 0), .lit (.int .u8 1), .lit (.int .u8 56), .lit (.int .u8 2), .lit (.int .u8 57), .lit (.int .u8 49), .lit (.int .u8 28), .lit (.int .u8 3), .lit (.int .u8 61), .lit (.int .u8 58), .lit (.int .u8 42), .lit (.int .u8 50), .lit (.int .u8 38), .lit (.int .u8 29), .lit (.int .u8 17), .lit (.int .u8 4), .lit (.int .u8 62), .lit (.int .u8 47), .lit (.int .u8 59), .lit (.int .u8 36), .lit (.int .u8 45), .lit (.int .u8 43), .lit (.int .u8 51), .lit (.int .u8 22), .lit (.int .u8 53), .lit (.int .u8 39), .lit (.int .u8 33), .lit (.int .u8 30), .lit (.int .u8 24), .lit (.int .u8 18), .lit (.int .u8 12), .lit (.int .u8 5), .lit (.int .u8 63), .lit (.int .u8 55), .lit (.int .u8 48), .lit (.int .u8 27), .lit (.int .u8 60), .lit (.int .u8 41), .lit (.int .u8 37), .lit (.int .u8 16), .lit (.int .u8 46), .lit (.int .u8 35), .lit (.int .u8 44), .lit (.int .u8 21), .lit (.int .u8 52), .lit (.int .u8 32), .lit (.int .u8 23), .lit (.int .u8 11), .lit (.int .u8 54), .lit (.int .u8 26), .lit (.int .u8 40), .lit (.int .u8 15), .lit (.int .u8 34), .lit (.int .u8 20), .lit (.int .u8 31), .lit (.int .u8 10), .lit (.int .u8 25), .lit (.int .u8 14), .lit (.int .u8 19), .lit (.int .u8 9), .lit (.int .u8 13), .lit (.int .u8 8), .lit (.int .u8 7), .lit (.int .u8 6)]
def laid_internal_strconv_uint64pow10 {H : Type} : DataW H := .agg [.lit (.int .u64 1), .lit (.int .u64 10), .lit (.int .u64 100), .lit (.int .u64 1000), .lit (.int .u64 10000), .lit (.int .u64 100000), .lit (.int .u64 1000000), .lit (.int .u64 10000000), .lit (.int .u64 100000000), .lit (.int .u64 1000000000), .lit (.int .u64 10000000000), .lit (.int .u64 100000000000), .lit (.int .u64 1000000000000), .lit (.int .u64 10000000000000), .lit (.int .u64 100000000000000), .lit (.int .u64 1000000000000000), .lit (.int .u64 10000000000000000), .lit (.int .u64 100000000000000000), .lit (.int .u64 1000000000000000000), .lit (.int .u64 10000000000000000000)]
def laid_loop_example_g00093_impl_none {H : Type} : DataW H := .agg [.lit (.int .i64 1), .lit (.int .i64 0)]
def laid_strconv_ErrRange {H : Type} : DataW H := .iface "*errors.errorString" (.ptr (.agg [.lit (.string [118, 97, 108, 117, 101, 32, 111, 117, 116, 32, 111, 102, 32, 114, 97, 110, 103, 101])]))
def laid_strconv_ErrSyntax {H : Type} : DataW H := .iface "*errors.errorString" (.ptr (.agg [.lit (.string [105, 110, 118, 97, 108, 105, 100, 32, 115, 121, 110, 116, 97, 120])]))

/-- 'laws.FnExactRangeText': WHATEVER THE INPUT: true; the input reads as it did. -/
def fnExactRangeTextSpec : ChangeSpec := { name := "fnExactRangeText", vars := ["loop.example/g00093/impl.none"], fn := fun _ => fun
  | [d, g1] => { results := [.lit (.bool true)], args := [d], vars := [g1] }
  | _ => none }
def fnExactRangeTextRow : OpenClaim := { program := "ytdofhbcohijpiaadoor", sum := "3800d7a0d14fbf459bec96ab596ba0fcf624bda86dc835f0fa16b0e2cf72aa68", func := "loop.example/g00093/laws.FnExactRangeText", spec := "fnExactRangeText", recurses := true, named := ["loop.example/g00093/impl.none", "internal/strconv.uint64pow10", "math/bits.deBruijn32tab", "math/bits.deBruijn64tab"], apart := false, laid := [("math/bits.deBruijn32tab", laid_math_bits_deBruijn32tab), ("math/bits.deBruijn64tab", laid_math_bits_deBruijn64tab), ("internal/strconv.uint64pow10", laid_internal_strconv_uint64pow10), ("loop.example/g00093/impl.none", laid_loop_example_g00093_impl_none)] }
def FnExactRangeTextSaid : Prop := fnExactRangeTextRow.holds Tryd.pinned (OpenSpec.ofChange fnExactRangeTextSpec)

/-- ITS FALSE NEIGHBOUR: 'it returns false'. Refute it at one input. -/
def fnExactRangeTextWrong : ChangeSpec := { name := "fnExactRangeText", vars := ["loop.example/g00093/impl.none"], fn := fun _ => fun
  | [d, g1] => { results := [.lit (.bool false)], args := [d], vars := [g1] }
  | _ => none }
def FnExactRangeTextWrongFalsely : Prop := fnExactRangeTextRow.holds Tryd.pinned (OpenSpec.ofChange fnExactRangeTextWrong)

/-- 'laws.FnExactValText': WHATEVER THE INPUT: true; the input reads as it did. -/
def fnExactValTextSpec : ChangeSpec := { name := "fnExactValText", vars := ["loop.example/g00093/impl.none"], fn := fun _ => fun
  | [d, g1] => { results := [.lit (.bool true)], args := [d], vars := [g1] }
  | _ => none }
def fnExactValTextRow : OpenClaim := { program := "ytdofhbcohijpiaadoor", sum := "3800d7a0d14fbf459bec96ab596ba0fcf624bda86dc835f0fa16b0e2cf72aa68", func := "loop.example/g00093/laws.FnExactValText", spec := "fnExactValText", recurses := true, named := ["loop.example/g00093/impl.none", "internal/strconv.uint64pow10", "math/bits.deBruijn32tab", "math/bits.deBruijn64tab"], apart := false, laid := [("math/bits.deBruijn32tab", laid_math_bits_deBruijn32tab), ("math/bits.deBruijn64tab", laid_math_bits_deBruijn64tab), ("internal/strconv.uint64pow10", laid_internal_strconv_uint64pow10), ("loop.example/g00093/impl.none", laid_loop_example_g00093_impl_none)] }
def FnExactValTextSaid : Prop := fnExactValTextRow.holds Tryd.pinned (OpenSpec.ofChange fnExactValTextSpec)

/-- ITS FALSE NEIGHBOUR: 'it returns false'. Refute it at one input. -/
def fnExactValTextWrong : ChangeSpec := { name := "fnExactValText", vars := ["loop.example/g00093/impl.none"], fn := fun _ => fun
  | [d, g1] => { results := [.lit (.bool false)], args := [d], vars := [g1] }
  | _ => none }
def FnExactValTextWrongFalsely : Prop := fnExactValTextRow.holds Tryd.pinned (OpenSpec.ofChange fnExactValTextWrong)

/-- 'laws.FnExactRangeRead': WHATEVER THE INPUT: true; the input reads as it did. -/
def fnExactRangeReadSpec : ChangeSpec := { name := "fnExactRangeRead", vars := ["loop.example/g00093/impl.none"], fn := fun _ => fun
  | [d, g1] => { results := [.lit (.bool true)], args := [d], vars := [g1] }
  | _ => none }
def fnExactRangeReadRow : OpenClaim := { program := "ytdofhbcohijpiaadoor", sum := "3800d7a0d14fbf459bec96ab596ba0fcf624bda86dc835f0fa16b0e2cf72aa68", func := "loop.example/g00093/laws.FnExactRangeRead", spec := "fnExactRangeRead", inPlace := ["internal/bytealg.IndexByteString", "internal/bytealg.IndexString"], named := ["loop.example/g00093/impl.none", "internal/bytealg.MaxLen", "strconv.ErrSyntax", "strconv.ErrRange", "internal/strconv.uint64pow10", "math/bits.deBruijn32tab", "math/bits.deBruijn64tab"], apart := false, laid := [("math/bits.deBruijn32tab", laid_math_bits_deBruijn32tab), ("math/bits.deBruijn64tab", laid_math_bits_deBruijn64tab), ("internal/strconv.uint64pow10", laid_internal_strconv_uint64pow10), ("strconv.ErrRange", laid_strconv_ErrRange), ("strconv.ErrSyntax", laid_strconv_ErrSyntax), ("loop.example/g00093/impl.none", laid_loop_example_g00093_impl_none)] }
def FnExactRangeReadSaid : Prop := fnExactRangeReadRow.holds Tryd.pinned (OpenSpec.ofChange fnExactRangeReadSpec)

/-- ITS FALSE NEIGHBOUR: 'it returns false'. Refute it at one input. -/
def fnExactRangeReadWrong : ChangeSpec := { name := "fnExactRangeRead", vars := ["loop.example/g00093/impl.none"], fn := fun _ => fun
  | [d, g1] => { results := [.lit (.bool false)], args := [d], vars := [g1] }
  | _ => none }
def FnExactRangeReadWrongFalsely : Prop := fnExactRangeReadRow.holds Tryd.pinned (OpenSpec.ofChange fnExactRangeReadWrong)

/-- 'laws.FnExactValRead': WHATEVER THE INPUT: true; the input reads as it did. -/
def fnExactValReadSpec : ChangeSpec := { name := "fnExactValRead", vars := ["loop.example/g00093/impl.none"], fn := fun _ => fun
  | [d, g1] => { results := [.lit (.bool true)], args := [d], vars := [g1] }
  | _ => none }
def fnExactValReadRow : OpenClaim := { program := "ytdofhbcohijpiaadoor", sum := "3800d7a0d14fbf459bec96ab596ba0fcf624bda86dc835f0fa16b0e2cf72aa68", func := "loop.example/g00093/laws.FnExactValRead", spec := "fnExactValRead", inPlace := ["internal/bytealg.IndexByteString", "internal/bytealg.IndexString"], named := ["loop.example/g00093/impl.none", "internal/bytealg.MaxLen", "strconv.ErrSyntax", "strconv.ErrRange", "internal/strconv.uint64pow10", "math/bits.deBruijn32tab", "math/bits.deBruijn64tab"], apart := false, laid := [("math/bits.deBruijn32tab", laid_math_bits_deBruijn32tab), ("math/bits.deBruijn64tab", laid_math_bits_deBruijn64tab), ("internal/strconv.uint64pow10", laid_internal_strconv_uint64pow10), ("strconv.ErrRange", laid_strconv_ErrRange), ("strconv.ErrSyntax", laid_strconv_ErrSyntax), ("loop.example/g00093/impl.none", laid_loop_example_g00093_impl_none)] }
def FnExactValReadSaid : Prop := fnExactValReadRow.holds Tryd.pinned (OpenSpec.ofChange fnExactValReadSpec)

/-- ITS FALSE NEIGHBOUR: 'it returns false'. Refute it at one input. -/
def fnExactValReadWrong : ChangeSpec := { name := "fnExactValRead", vars := ["loop.example/g00093/impl.none"], fn := fun _ => fun
  | [d, g1] => { results := [.lit (.bool false)], args := [d], vars := [g1] }
  | _ => none }
def FnExactValReadWrongFalsely : Prop := fnExactValReadRow.holds Tryd.pinned (OpenSpec.ofChange fnExactValReadWrong)

/-- 'laws.FnExactWordOk': WHATEVER THE INPUT: true; the input reads as it did. -/
def fnExactWordOkSpec : ChangeSpec := { name := "fnExactWordOk", fn := fun _ => fun
  | [d] => { results := [.lit (.bool true)], args := [d] }
  | _ => none }
def fnExactWordOkRow : OpenClaim := { program := "ytdofhbcohijpiaadoor", sum := "3800d7a0d14fbf459bec96ab596ba0fcf624bda86dc835f0fa16b0e2cf72aa68", func := "loop.example/g00093/laws.FnExactWordOk", spec := "fnExactWordOk", inPlace := ["internal/bytealg.IndexByteString", "internal/bytealg.IndexString"], named := ["strconv.ErrSyntax", "strconv.ErrRange", "internal/strconv.uint64pow10", "math/bits.deBruijn32tab", "math/bits.deBruijn64tab", "internal/bytealg.MaxLen"], apart := false, laid := [("math/bits.deBruijn32tab", laid_math_bits_deBruijn32tab), ("math/bits.deBruijn64tab", laid_math_bits_deBruijn64tab), ("internal/strconv.uint64pow10", laid_internal_strconv_uint64pow10), ("strconv.ErrRange", laid_strconv_ErrRange), ("strconv.ErrSyntax", laid_strconv_ErrSyntax)] }
def FnExactWordOkSaid : Prop := fnExactWordOkRow.holds Tryd.pinned (OpenSpec.ofChange fnExactWordOkSpec)

/-- ITS FALSE NEIGHBOUR: 'it returns false'. Refute it at one input. -/
def fnExactWordOkWrong : ChangeSpec := { name := "fnExactWordOk", fn := fun _ => fun
  | [d] => { results := [.lit (.bool false)], args := [d] }
  | _ => none }
def FnExactWordOkWrongFalsely : Prop := fnExactWordOkRow.holds Tryd.pinned (OpenSpec.ofChange fnExactWordOkWrong)

/-- 'laws.FnExactWords': WHATEVER THE INPUT: true; the input reads as it did. -/
def fnExactWordsSpec : ChangeSpec := { name := "fnExactWords", fn := fun _ => fun
  | [d] => { results := [.lit (.bool true)], args := [d] }
  | _ => none }
def fnExactWordsRow : OpenClaim := { program := "ytdofhbcohijpiaadoor", sum := "3800d7a0d14fbf459bec96ab596ba0fcf624bda86dc835f0fa16b0e2cf72aa68", func := "loop.example/g00093/laws.FnExactWords", spec := "fnExactWords", inPlace := ["internal/bytealg.IndexByteString", "internal/bytealg.IndexString"], named := ["strconv.ErrSyntax", "strconv.ErrRange", "internal/strconv.uint64pow10", "math/bits.deBruijn32tab", "math/bits.deBruijn64tab", "internal/bytealg.MaxLen"], apart := false, laid := [("math/bits.deBruijn32tab", laid_math_bits_deBruijn32tab), ("math/bits.deBruijn64tab", laid_math_bits_deBruijn64tab), ("internal/strconv.uint64pow10", laid_internal_strconv_uint64pow10), ("strconv.ErrRange", laid_strconv_ErrRange), ("strconv.ErrSyntax", laid_strconv_ErrSyntax)] }
def FnExactWordsSaid : Prop := fnExactWordsRow.holds Tryd.pinned (OpenSpec.ofChange fnExactWordsSpec)

/-- ITS FALSE NEIGHBOUR: 'it returns false'. Refute it at one input. -/
def fnExactWordsWrong : ChangeSpec := { name := "fnExactWords", fn := fun _ => fun
  | [d] => { results := [.lit (.bool false)], args := [d] }
  | _ => none }
def FnExactWordsWrongFalsely : Prop := fnExactWordsRow.holds Tryd.pinned (OpenSpec.ofChange fnExactWordsWrong)

/-- 'laws.FnExactWordsText': WHATEVER THE INPUT: true; the input reads as it did. -/
def fnExactWordsTextSpec : ChangeSpec := { name := "fnExactWordsText", fn := fun _ => fun
  | [d] => { results := [.lit (.bool true)], args := [d] }
  | _ => none }
def fnExactWordsTextRow : OpenClaim := { program := "ytdofhbcohijpiaadoor", sum := "3800d7a0d14fbf459bec96ab596ba0fcf624bda86dc835f0fa16b0e2cf72aa68", func := "loop.example/g00093/laws.FnExactWordsText", spec := "fnExactWordsText", inPlace := ["internal/bytealg.IndexByteString", "internal/bytealg.IndexString", "internal/abi.NoEscape", "internal/bytealg.MakeNoZero"], named := ["strconv.ErrSyntax", "strconv.ErrRange", "internal/strconv.uint64pow10", "math/bits.deBruijn32tab", "math/bits.deBruijn64tab", "internal/bytealg.MaxLen"], apart := false, laid := [("math/bits.deBruijn32tab", laid_math_bits_deBruijn32tab), ("math/bits.deBruijn64tab", laid_math_bits_deBruijn64tab), ("internal/strconv.uint64pow10", laid_internal_strconv_uint64pow10), ("strconv.ErrRange", laid_strconv_ErrRange), ("strconv.ErrSyntax", laid_strconv_ErrSyntax)] }
def FnExactWordsTextSaid : Prop := fnExactWordsTextRow.holds Tryd.pinned (OpenSpec.ofChange fnExactWordsTextSpec)

/-- ITS FALSE NEIGHBOUR: 'it returns false'. Refute it at one input. -/
def fnExactWordsTextWrong : ChangeSpec := { name := "fnExactWordsText", fn := fun _ => fun
  | [d] => { results := [.lit (.bool false)], args := [d] }
  | _ => none }
def FnExactWordsTextWrongFalsely : Prop := fnExactWordsTextRow.holds Tryd.pinned (OpenSpec.ofChange fnExactWordsTextWrong)

/-- 'laws.FnExactSymText': WHATEVER THE INPUT: true; the input reads as it did. -/
def fnExactSymTextSpec : ChangeSpec := { name := "fnExactSymText", fn := fun _ => fun
  | [d1, d2] => { results := [.lit (.bool true)], args := [d1, d2] }
  | _ => none }
def fnExactSymTextRow : OpenClaim := { program := "ytdofhbcohijpiaadoor", sum := "3800d7a0d14fbf459bec96ab596ba0fcf624bda86dc835f0fa16b0e2cf72aa68", func := "loop.example/g00093/laws.FnExactSymText", spec := "fnExactSymText", inPlace := ["internal/bytealg.IndexByteString", "internal/bytealg.IndexString"], unfollowed := true, recurses := true, named := ["strconv.ErrSyntax", "strconv.ErrRange", "internal/strconv.uint64pow10", "math/bits.deBruijn32tab", "math/bits.deBruijn64tab", "internal/bytealg.MaxLen"], apart := false, laid := [("math/bits.deBruijn32tab", laid_math_bits_deBruijn32tab), ("math/bits.deBruijn64tab", laid_math_bits_deBruijn64tab), ("internal/strconv.uint64pow10", laid_internal_strconv_uint64pow10), ("strconv.ErrRange", laid_strconv_ErrRange), ("strconv.ErrSyntax", laid_strconv_ErrSyntax)] }
def FnExactSymTextSaid : Prop := fnExactSymTextRow.holds Tryd.pinned (OpenSpec.ofChange fnExactSymTextSpec)

/-- ITS FALSE NEIGHBOUR: 'it returns false'. Refute it at one input. -/
def fnExactSymTextWrong : ChangeSpec := { name := "fnExactSymText", fn := fun _ => fun
  | [d1, d2] => { results := [.lit (.bool false)], args := [d1, d2] }
  | _ => none }
def FnExactSymTextWrongFalsely : Prop := fnExactSymTextRow.holds Tryd.pinned (OpenSpec.ofChange fnExactSymTextWrong)

/- THE SECOND FORM. 'bulk': how many values and letters a reading holds, each counted each time it is reached (what is shared counts as often as it is met; a slice's spare places count too). A statement '..UptoSaid' is the law's where the arguments, and the package variables that the reading takes, are together of bulk at most 1048576: NARROWER than '..Said'. Prove '..Said' where nothing that the law and all that it calls make is longer than what came in: it says more and counts as full. Else prove '..UptoSaid'. A law counts once. -/
mutual
def uptoBulk {H : Type} : DataW H → Nat
  | .lit (.string bytes) => bytes.length + 1
  | .lit _ => 1
  | .nil => 1
  | .ptr d => uptoBulk d + 1
  | .slice elems spare => uptoBulkAll elems + uptoBulkAll spare + 1
  | .agg parts => uptoBulkAll parts + 1
  | .iface _ d => uptoBulk d + 1
  | .map entries => uptoBulkEntries entries + 1
  | .held _ => 1
def uptoBulkAll {H : Type} : List (DataW H) → Nat
  | [] => 0
  | d :: r => uptoBulk d + uptoBulkAll r
def uptoBulkEntries {H : Type} : List (Lit × DataW H) → Nat
  | [] => 0
  | x :: r => uptoBulkEntry x + uptoBulkEntries r
def uptoBulkEntry {H : Type} : Lit × DataW H → Nat
  | (.string bytes, d) => bytes.length + uptoBulk d + 1
  | (_, d) => uptoBulk d + 1
 end
def uptoSmall : (H : Type) → List (DataW H) → Bool := fun _ ds => decide (uptoBulkAll ds ≤ 1048576)
def OpenSpec.upto (s : _root_.Go.ChangeSpec) : _root_.Go.OpenSpec := { _root_.Go.OpenSpec.ofChange s with cond := some uptoSmall }

/-- 'laws.FnExactRangeText', WHERE WHAT IT READS IS OF BULK AT MOST 1048576: true; the input reads as it did. -/
def fnExactRangeTextUptoRow : OpenClaim := { program := "ytdofhbcohijpiaadoor", sum := "3800d7a0d14fbf459bec96ab596ba0fcf624bda86dc835f0fa16b0e2cf72aa68", func := "loop.example/g00093/laws.FnExactRangeText", spec := "fnExactRangeText", recurses := true, named := ["loop.example/g00093/impl.none", "internal/strconv.uint64pow10", "math/bits.deBruijn32tab", "math/bits.deBruijn64tab"], apart := false, laid := [("math/bits.deBruijn32tab", laid_math_bits_deBruijn32tab), ("math/bits.deBruijn64tab", laid_math_bits_deBruijn64tab), ("internal/strconv.uint64pow10", laid_internal_strconv_uint64pow10), ("loop.example/g00093/impl.none", laid_loop_example_g00093_impl_none)], narrowed := true }
def FnExactRangeTextUptoSaid : Prop := fnExactRangeTextUptoRow.holds Tryd.pinned (OpenSpec.upto fnExactRangeTextSpec)

/-- 'laws.FnExactValText', WHERE WHAT IT READS IS OF BULK AT MOST 1048576: true; the input reads as it did. -/
def fnExactValTextUptoRow : OpenClaim := { program := "ytdofhbcohijpiaadoor", sum := "3800d7a0d14fbf459bec96ab596ba0fcf624bda86dc835f0fa16b0e2cf72aa68", func := "loop.example/g00093/laws.FnExactValText", spec := "fnExactValText", recurses := true, named := ["loop.example/g00093/impl.none", "internal/strconv.uint64pow10", "math/bits.deBruijn32tab", "math/bits.deBruijn64tab"], apart := false, laid := [("math/bits.deBruijn32tab", laid_math_bits_deBruijn32tab), ("math/bits.deBruijn64tab", laid_math_bits_deBruijn64tab), ("internal/strconv.uint64pow10", laid_internal_strconv_uint64pow10), ("loop.example/g00093/impl.none", laid_loop_example_g00093_impl_none)], narrowed := true }
def FnExactValTextUptoSaid : Prop := fnExactValTextUptoRow.holds Tryd.pinned (OpenSpec.upto fnExactValTextSpec)

/-- 'laws.FnExactRangeRead', WHERE WHAT IT READS IS OF BULK AT MOST 1048576: true; the input reads as it did. -/
def fnExactRangeReadUptoRow : OpenClaim := { program := "ytdofhbcohijpiaadoor", sum := "3800d7a0d14fbf459bec96ab596ba0fcf624bda86dc835f0fa16b0e2cf72aa68", func := "loop.example/g00093/laws.FnExactRangeRead", spec := "fnExactRangeRead", inPlace := ["internal/bytealg.IndexByteString", "internal/bytealg.IndexString"], named := ["loop.example/g00093/impl.none", "internal/bytealg.MaxLen", "strconv.ErrSyntax", "strconv.ErrRange", "internal/strconv.uint64pow10", "math/bits.deBruijn32tab", "math/bits.deBruijn64tab"], apart := false, laid := [("math/bits.deBruijn32tab", laid_math_bits_deBruijn32tab), ("math/bits.deBruijn64tab", laid_math_bits_deBruijn64tab), ("internal/strconv.uint64pow10", laid_internal_strconv_uint64pow10), ("strconv.ErrRange", laid_strconv_ErrRange), ("strconv.ErrSyntax", laid_strconv_ErrSyntax), ("loop.example/g00093/impl.none", laid_loop_example_g00093_impl_none)], narrowed := true }
def FnExactRangeReadUptoSaid : Prop := fnExactRangeReadUptoRow.holds Tryd.pinned (OpenSpec.upto fnExactRangeReadSpec)

/-- 'laws.FnExactValRead', WHERE WHAT IT READS IS OF BULK AT MOST 1048576: true; the input reads as it did. -/
def fnExactValReadUptoRow : OpenClaim := { program := "ytdofhbcohijpiaadoor", sum := "3800d7a0d14fbf459bec96ab596ba0fcf624bda86dc835f0fa16b0e2cf72aa68", func := "loop.example/g00093/laws.FnExactValRead", spec := "fnExactValRead", inPlace := ["internal/bytealg.IndexByteString", "internal/bytealg.IndexString"], named := ["loop.example/g00093/impl.none", "internal/bytealg.MaxLen", "strconv.ErrSyntax", "strconv.ErrRange", "internal/strconv.uint64pow10", "math/bits.deBruijn32tab", "math/bits.deBruijn64tab"], apart := false, laid := [("math/bits.deBruijn32tab", laid_math_bits_deBruijn32tab), ("math/bits.deBruijn64tab", laid_math_bits_deBruijn64tab), ("internal/strconv.uint64pow10", laid_internal_strconv_uint64pow10), ("strconv.ErrRange", laid_strconv_ErrRange), ("strconv.ErrSyntax", laid_strconv_ErrSyntax), ("loop.example/g00093/impl.none", laid_loop_example_g00093_impl_none)], narrowed := true }
def FnExactValReadUptoSaid : Prop := fnExactValReadUptoRow.holds Tryd.pinned (OpenSpec.upto fnExactValReadSpec)

/-- 'laws.FnExactWordOk', WHERE WHAT IT READS IS OF BULK AT MOST 1048576: true; the input reads as it did. -/
def fnExactWordOkUptoRow : OpenClaim := { program := "ytdofhbcohijpiaadoor", sum := "3800d7a0d14fbf459bec96ab596ba0fcf624bda86dc835f0fa16b0e2cf72aa68", func := "loop.example/g00093/laws.FnExactWordOk", spec := "fnExactWordOk", inPlace := ["internal/bytealg.IndexByteString", "internal/bytealg.IndexString"], named := ["strconv.ErrSyntax", "strconv.ErrRange", "internal/strconv.uint64pow10", "math/bits.deBruijn32tab", "math/bits.deBruijn64tab", "internal/bytealg.MaxLen"], apart := false, laid := [("math/bits.deBruijn32tab", laid_math_bits_deBruijn32tab), ("math/bits.deBruijn64tab", laid_math_bits_deBruijn64tab), ("internal/strconv.uint64pow10", laid_internal_strconv_uint64pow10), ("strconv.ErrRange", laid_strconv_ErrRange), ("strconv.ErrSyntax", laid_strconv_ErrSyntax)], narrowed := true }
def FnExactWordOkUptoSaid : Prop := fnExactWordOkUptoRow.holds Tryd.pinned (OpenSpec.upto fnExactWordOkSpec)

/-- 'laws.FnExactWords', WHERE WHAT IT READS IS OF BULK AT MOST 1048576: true; the input reads as it did. -/
def fnExactWordsUptoRow : OpenClaim := { program := "ytdofhbcohijpiaadoor", sum := "3800d7a0d14fbf459bec96ab596ba0fcf624bda86dc835f0fa16b0e2cf72aa68", func := "loop.example/g00093/laws.FnExactWords", spec := "fnExactWords", inPlace := ["internal/bytealg.IndexByteString", "internal/bytealg.IndexString"], named := ["strconv.ErrSyntax", "strconv.ErrRange", "internal/strconv.uint64pow10", "math/bits.deBruijn32tab", "math/bits.deBruijn64tab", "internal/bytealg.MaxLen"], apart := false, laid := [("math/bits.deBruijn32tab", laid_math_bits_deBruijn32tab), ("math/bits.deBruijn64tab", laid_math_bits_deBruijn64tab), ("internal/strconv.uint64pow10", laid_internal_strconv_uint64pow10), ("strconv.ErrRange", laid_strconv_ErrRange), ("strconv.ErrSyntax", laid_strconv_ErrSyntax)], narrowed := true }
def FnExactWordsUptoSaid : Prop := fnExactWordsUptoRow.holds Tryd.pinned (OpenSpec.upto fnExactWordsSpec)

/-- 'laws.FnExactWordsText', WHERE WHAT IT READS IS OF BULK AT MOST 1048576: true; the input reads as it did. -/
def fnExactWordsTextUptoRow : OpenClaim := { program := "ytdofhbcohijpiaadoor", sum := "3800d7a0d14fbf459bec96ab596ba0fcf624bda86dc835f0fa16b0e2cf72aa68", func := "loop.example/g00093/laws.FnExactWordsText", spec := "fnExactWordsText", inPlace := ["internal/bytealg.IndexByteString", "internal/bytealg.IndexString", "internal/abi.NoEscape", "internal/bytealg.MakeNoZero"], named := ["strconv.ErrSyntax", "strconv.ErrRange", "internal/strconv.uint64pow10", "math/bits.deBruijn32tab", "math/bits.deBruijn64tab", "internal/bytealg.MaxLen"], apart := false, laid := [("math/bits.deBruijn32tab", laid_math_bits_deBruijn32tab), ("math/bits.deBruijn64tab", laid_math_bits_deBruijn64tab), ("internal/strconv.uint64pow10", laid_internal_strconv_uint64pow10), ("strconv.ErrRange", laid_strconv_ErrRange), ("strconv.ErrSyntax", laid_strconv_ErrSyntax)], narrowed := true }
def FnExactWordsTextUptoSaid : Prop := fnExactWordsTextUptoRow.holds Tryd.pinned (OpenSpec.upto fnExactWordsTextSpec)

/-- 'laws.FnExactSymText', WHERE WHAT IT READS IS OF BULK AT MOST 1048576: true; the input reads as it did. -/
def fnExactSymTextUptoRow : OpenClaim := { program := "ytdofhbcohijpiaadoor", sum := "3800d7a0d14fbf459bec96ab596ba0fcf624bda86dc835f0fa16b0e2cf72aa68", func := "loop.example/g00093/laws.FnExactSymText", spec := "fnExactSymText", inPlace := ["internal/bytealg.IndexByteString", "internal/bytealg.IndexString"], unfollowed := true, recurses := true, named := ["strconv.ErrSyntax", "strconv.ErrRange", "internal/strconv.uint64pow10", "math/bits.deBruijn32tab", "math/bits.deBruijn64tab", "internal/bytealg.MaxLen"], apart := false, laid := [("math/bits.deBruijn32tab", laid_math_bits_deBruijn32tab), ("math/bits.deBruijn64tab", laid_math_bits_deBruijn64tab), ("internal/strconv.uint64pow10", laid_internal_strconv_uint64pow10), ("strconv.ErrRange", laid_strconv_ErrRange), ("strconv.ErrSyntax", laid_strconv_ErrSyntax)], narrowed := true }
def FnExactSymTextUptoSaid : Prop := fnExactSymTextUptoRow.holds Tryd.pinned (OpenSpec.upto fnExactSymTextSpec)

end Rows
end Go.Proofs.YtdofhbcohijpiaaDoor
