/-
  NARROWER THAN 'FOR EVERY INPUT', by the rows' own cells (each row's printed sentence says how): FnExactRangeOk: laid · FnExactRangeHas: laid · FnExactValOk: laid · FnWordsBack: laid · FnExactRangeLeq: laid · FnExactValLeq: laid · FnExactValHas: laid · FnExactRangeJoin: laid.
  DERIVED. THE GIVEN ROWS OF THIS SEAT. 8 by the template 'for every input the law returns true; each argument reads behind the call as it read before'; 0 by the template 'total and deterministic' (their statements: YtognjmgkbmmjjaaDoorTotals.lean).
  GIVEN WITH THE SEED: the statements are not yours to turn. If you find one false, say at which input.
  Laid BY PROGRAM, IN A SANDBOX (cutbox-rows.mjs): the forced cells as the released guide's own fill.sh prints them over the translation e254a2e1d17643cf… (all of the seat's roots in one cut). By AI agents, Wed Nov 11 2026. No macro, syntax, notation, axiom, sorry.
-/
import Derived.Test.YtognjmgkbmmjjaaDoorChecked
import GoSem.Claim
import GoSem.ClaimJoined
import GoSem.ClaimMapViews
import Derived.JoinedTies
import Derived.KernelRfl
namespace Go.Proofs.YtognjmgkbmmjjaaDoor
/- THE CELL 'sum', in the pinned program and in every row, IS THE sha256 OF THE DUMP (.gsa) THAT YtognjmgkbmmjjaaDoorProg.lean LOADS. Nothing in Lean hashes anything: it is a label: what it is worth is what the hold of that sum in a sandbox is worth. -/
noncomputable def Tryd.pinned : Pinned := { name := "ytognjmgkbmmjjaadoor", sum := "e254a2e1d17643cf66bcdbac4c0b530e409b6e5236fc7162034b78c282d24ff1", checked := Tryd.checked }
namespace Rows
def none {H : Type} : Left H := { results := [], args := [] }

/- WHAT THE LISTED PACKAGE-LEVEL VARIABLES READ AS WHEN THE CALL BEGINS. Each datum BY PROGRAM (the guide's laid-datum.mjs) off the statement by which the dump's own 'gosem.cut.vars' lays the variable. In a bare row this is a premise. The card (YtognjmgkbmmjjaaDoorCards.lean) ties it to the program's text. -/
def laid_loop_example_g00093_impl_none {H : Type} : DataW H := .agg [.lit (.int .i64 1), .lit (.int .i64 0)]
def laid_math_bits_deBruijn32tab {H : Type} : DataW H := .agg [.lit (.int .u8 0), .lit (.int .u8 1), .lit (.int .u8 28), .lit (.int .u8 2), .lit (.int .u8 29), .lit (.int .u8 14), .lit (.int .u8 24), .lit (.int .u8 3), .lit (.int .u8 30), .lit (.int .u8 22), .lit (.int .u8 20), .lit (.int .u8 15), .lit (.int .u8 25), .lit (.int .u8 17), .lit (.int .u8 4), .lit (.int .u8 8), .lit (.int .u8 31), .lit (.int .u8 27), .lit (.int .u8 13), .lit (.int .u8 23), .lit (.int .u8 21), .lit (.int .u8 19), .lit (.int .u8 16), .lit (.int .u8 7), .lit (.int .u8 26), .lit (.int .u8 12), .lit (.int .u8 18), .lit (.int .u8 6), .lit (.int .u8 11), .lit (.int .u8 5), .lit (.int .u8 10), .lit (.int .u8 9)]
def laid_math_bits_deBruijn64tab {H : Type} : DataW H := .agg [.lit (.int .u8 0), .lit (.int .u8 1), .lit (.int .u8 56), .lit (.int .u8 2), .lit (.int .u8 57), .lit (.int .u8 49), .lit (.int .u8 28), .lit (.int .u8 3), .lit (.int .u8 61), .lit (.int .u8 58), .lit (.int .u8 42), .lit (.int .u8 50), .lit (.int .u8 38), .lit (.int .u8 29), .lit (.int .u8 17), .lit (.int .u8 4), .lit (.int .u8 62), .lit (.int .u8 47), .lit (.int .u8 59), .lit (.int .u8 36), .lit (.int .u8 45), .lit (.int .u8 43), .lit (.int .u8 51), .lit (.int .u8 22), .lit (.int .u8 53), .lit (.int .u8 39), .lit (.int .u8 33), .lit (.int .u8 30), .lit (.int .u8 24), .lit (.int .u8 18), .lit (.int .u8 12), .lit (.int .u8 5), .lit (.int .u8 63), .lit (.int .u8 55), .lit (.int .u8 48), .lit (.int .u8 27), .lit (.int .u8 60), .lit (.int .u8 41), .lit (.int .u8 37), .lit (.int .u8 16), .lit (.int .u8 46), .lit (.int .u8 35), .lit (.int .u8 44), .lit (.int .u8 21), .lit (.int .u8 52), .lit (.int .u8 32), .lit (.int .u8 23), .lit (.int .u8 11), .lit (.int .u8 54), .lit (.int .u8 26), .lit (.int .u8 40), .lit (.int .u8 15), .lit (.int .u8 34), .lit (.int .u8 20), .lit (.int .u8 31), .lit (.int .u8 10), .lit (.int .u8 25), .lit (.int .u8 14), .lit (.int .u8 19), .lit (.int .u8 9), .lit (.int .u8 13), .lit (.int .u8 8), .lit (.int .u8 7), .lit (.int .u8 6)]
def laid_internal_strconv_uint64pow10 {H : Type} : DataW H := .agg [.lit (.int .u64 1), .lit (.int .u64 10), .lit (.int .u64 100), .lit (.int .u64 1000), .lit (.int .u64 10000), .lit (.int .u64 100000), .lit (.int .u64 1000000), .lit (.int .u64 10000000), .lit (.int .u64 100000000), .lit (.int .u64 1000000000), .lit (.int .u64 10000000000), .lit (.int .u64 100000000000), .lit (.int .u64 1000000000000), .lit (.int .u64 10000000000000), .lit (.int .u64 100000000000000), .lit (.int .u64 1000000000000000), .lit (.int .u64 10000000000000000), .lit (.int .u64 100000000000000000), .lit (.int .u64 1000000000000000000), .lit (.int .u64 10000000000000000000)]
def laid_strconv_ErrRange {H : Type} : DataW H := .iface "*errors.errorString" (.ptr (.agg [.lit (.string [118, 97, 108, 117, 101, 32, 111, 117, 116, 32, 111, 102, 32, 114, 97, 110, 103, 101])]))
def laid_strconv_ErrSyntax {H : Type} : DataW H := .iface "*errors.errorString" (.ptr (.agg [.lit (.string [105, 110, 118, 97, 108, 105, 100, 32, 115, 121, 110, 116, 97, 120])]))

/-- 'laws.FnExactRangeOk': WHATEVER THE INPUT: true; the input reads as it did. -/
def fnExactRangeOkSpec : ChangeSpec := { name := "fnExactRangeOk", vars := ["loop.example/g00093/impl.none"], fn := fun _ => fun
  | [d, g1] => { results := [.lit (.bool true)], args := [d], vars := [g1] }
  | _ => none }
def fnExactRangeOkRow : OpenClaim := { program := "ytognjmgkbmmjjaadoor", sum := "e254a2e1d17643cf66bcdbac4c0b530e409b6e5236fc7162034b78c282d24ff1", func := "loop.example/g00093/laws.FnExactRangeOk", spec := "fnExactRangeOk", named := ["loop.example/g00093/impl.none"], apart := false, laid := [("loop.example/g00093/impl.none", laid_loop_example_g00093_impl_none)] }
def FnExactRangeOkSaid : Prop := fnExactRangeOkRow.holds Tryd.pinned (OpenSpec.ofChange fnExactRangeOkSpec)

/-- ITS FALSE NEIGHBOUR: 'it returns false'. Refute it at one input. -/
def fnExactRangeOkWrong : ChangeSpec := { name := "fnExactRangeOk", vars := ["loop.example/g00093/impl.none"], fn := fun _ => fun
  | [d, g1] => { results := [.lit (.bool false)], args := [d], vars := [g1] }
  | _ => none }
def FnExactRangeOkWrongFalsely : Prop := fnExactRangeOkRow.holds Tryd.pinned (OpenSpec.ofChange fnExactRangeOkWrong)

/-- 'laws.FnExactRangeHas': WHATEVER THE INPUT: true; the input reads as it did. -/
def fnExactRangeHasSpec : ChangeSpec := { name := "fnExactRangeHas", vars := ["loop.example/g00093/impl.none"], fn := fun _ => fun
  | [d1, d2, g1] => { results := [.lit (.bool true)], args := [d1, d2], vars := [g1] }
  | _ => none }
def fnExactRangeHasRow : OpenClaim := { program := "ytognjmgkbmmjjaadoor", sum := "e254a2e1d17643cf66bcdbac4c0b530e409b6e5236fc7162034b78c282d24ff1", func := "loop.example/g00093/laws.FnExactRangeHas", spec := "fnExactRangeHas", named := ["loop.example/g00093/impl.none"], apart := false, laid := [("loop.example/g00093/impl.none", laid_loop_example_g00093_impl_none)] }
def FnExactRangeHasSaid : Prop := fnExactRangeHasRow.holds Tryd.pinned (OpenSpec.ofChange fnExactRangeHasSpec)

/-- ITS FALSE NEIGHBOUR: 'it returns false'. Refute it at one input. -/
def fnExactRangeHasWrong : ChangeSpec := { name := "fnExactRangeHas", vars := ["loop.example/g00093/impl.none"], fn := fun _ => fun
  | [d1, d2, g1] => { results := [.lit (.bool false)], args := [d1, d2], vars := [g1] }
  | _ => none }
def FnExactRangeHasWrongFalsely : Prop := fnExactRangeHasRow.holds Tryd.pinned (OpenSpec.ofChange fnExactRangeHasWrong)

/-- 'laws.FnExactValOk': WHATEVER THE INPUT: true; the input reads as it did. -/
def fnExactValOkSpec : ChangeSpec := { name := "fnExactValOk", vars := ["loop.example/g00093/impl.none"], fn := fun _ => fun
  | [d, g1] => { results := [.lit (.bool true)], args := [d], vars := [g1] }
  | _ => none }
def fnExactValOkRow : OpenClaim := { program := "ytognjmgkbmmjjaadoor", sum := "e254a2e1d17643cf66bcdbac4c0b530e409b6e5236fc7162034b78c282d24ff1", func := "loop.example/g00093/laws.FnExactValOk", spec := "fnExactValOk", named := ["loop.example/g00093/impl.none"], apart := false, laid := [("loop.example/g00093/impl.none", laid_loop_example_g00093_impl_none)] }
def FnExactValOkSaid : Prop := fnExactValOkRow.holds Tryd.pinned (OpenSpec.ofChange fnExactValOkSpec)

/-- ITS FALSE NEIGHBOUR: 'it returns false'. Refute it at one input. -/
def fnExactValOkWrong : ChangeSpec := { name := "fnExactValOk", vars := ["loop.example/g00093/impl.none"], fn := fun _ => fun
  | [d, g1] => { results := [.lit (.bool false)], args := [d], vars := [g1] }
  | _ => none }
def FnExactValOkWrongFalsely : Prop := fnExactValOkRow.holds Tryd.pinned (OpenSpec.ofChange fnExactValOkWrong)

/-- 'laws.FnWordsBack': WHATEVER THE INPUT: true; the input reads as it did. -/
def fnWordsBackSpec : ChangeSpec := { name := "fnWordsBack", fn := fun _ => fun
  | [d1, d2] => { results := [.lit (.bool true)], args := [d1, d2] }
  | _ => none }
def fnWordsBackRow : OpenClaim := { program := "ytognjmgkbmmjjaadoor", sum := "e254a2e1d17643cf66bcdbac4c0b530e409b6e5236fc7162034b78c282d24ff1", func := "loop.example/g00093/laws.FnWordsBack", spec := "fnWordsBack", inPlace := ["internal/bytealg.IndexByteString", "internal/bytealg.IndexString", "internal/abi.NoEscape", "internal/bytealg.MakeNoZero"], named := ["strconv.ErrSyntax", "strconv.ErrRange", "internal/strconv.uint64pow10", "math/bits.deBruijn32tab", "math/bits.deBruijn64tab", "internal/bytealg.MaxLen"], apart := false, laid := [("math/bits.deBruijn32tab", laid_math_bits_deBruijn32tab), ("math/bits.deBruijn64tab", laid_math_bits_deBruijn64tab), ("internal/strconv.uint64pow10", laid_internal_strconv_uint64pow10), ("strconv.ErrRange", laid_strconv_ErrRange), ("strconv.ErrSyntax", laid_strconv_ErrSyntax)] }
def FnWordsBackSaid : Prop := fnWordsBackRow.holds Tryd.pinned (OpenSpec.ofChange fnWordsBackSpec)

/-- ITS FALSE NEIGHBOUR: 'it returns false'. Refute it at one input. -/
def fnWordsBackWrong : ChangeSpec := { name := "fnWordsBack", fn := fun _ => fun
  | [d1, d2] => { results := [.lit (.bool false)], args := [d1, d2] }
  | _ => none }
def FnWordsBackWrongFalsely : Prop := fnWordsBackRow.holds Tryd.pinned (OpenSpec.ofChange fnWordsBackWrong)

/-- 'laws.FnExactRangeLeq': WHATEVER THE INPUT: true; the input reads as it did. -/
def fnExactRangeLeqSpec : ChangeSpec := { name := "fnExactRangeLeq", vars := ["loop.example/g00093/impl.none"], fn := fun _ => fun
  | [d1, d2, g1] => { results := [.lit (.bool true)], args := [d1, d2], vars := [g1] }
  | _ => none }
def fnExactRangeLeqRow : OpenClaim := { program := "ytognjmgkbmmjjaadoor", sum := "e254a2e1d17643cf66bcdbac4c0b530e409b6e5236fc7162034b78c282d24ff1", func := "loop.example/g00093/laws.FnExactRangeLeq", spec := "fnExactRangeLeq", named := ["loop.example/g00093/impl.none"], apart := false, laid := [("loop.example/g00093/impl.none", laid_loop_example_g00093_impl_none)] }
def FnExactRangeLeqSaid : Prop := fnExactRangeLeqRow.holds Tryd.pinned (OpenSpec.ofChange fnExactRangeLeqSpec)

/-- ITS FALSE NEIGHBOUR: 'it returns false'. Refute it at one input. -/
def fnExactRangeLeqWrong : ChangeSpec := { name := "fnExactRangeLeq", vars := ["loop.example/g00093/impl.none"], fn := fun _ => fun
  | [d1, d2, g1] => { results := [.lit (.bool false)], args := [d1, d2], vars := [g1] }
  | _ => none }
def FnExactRangeLeqWrongFalsely : Prop := fnExactRangeLeqRow.holds Tryd.pinned (OpenSpec.ofChange fnExactRangeLeqWrong)

/-- 'laws.FnExactValLeq': WHATEVER THE INPUT: true; the input reads as it did. -/
def fnExactValLeqSpec : ChangeSpec := { name := "fnExactValLeq", vars := ["loop.example/g00093/impl.none"], fn := fun _ => fun
  | [d1, d2, g1] => { results := [.lit (.bool true)], args := [d1, d2], vars := [g1] }
  | _ => none }
def fnExactValLeqRow : OpenClaim := { program := "ytognjmgkbmmjjaadoor", sum := "e254a2e1d17643cf66bcdbac4c0b530e409b6e5236fc7162034b78c282d24ff1", func := "loop.example/g00093/laws.FnExactValLeq", spec := "fnExactValLeq", named := ["loop.example/g00093/impl.none"], apart := false, laid := [("loop.example/g00093/impl.none", laid_loop_example_g00093_impl_none)] }
def FnExactValLeqSaid : Prop := fnExactValLeqRow.holds Tryd.pinned (OpenSpec.ofChange fnExactValLeqSpec)

/-- ITS FALSE NEIGHBOUR: 'it returns false'. Refute it at one input. -/
def fnExactValLeqWrong : ChangeSpec := { name := "fnExactValLeq", vars := ["loop.example/g00093/impl.none"], fn := fun _ => fun
  | [d1, d2, g1] => { results := [.lit (.bool false)], args := [d1, d2], vars := [g1] }
  | _ => none }
def FnExactValLeqWrongFalsely : Prop := fnExactValLeqRow.holds Tryd.pinned (OpenSpec.ofChange fnExactValLeqWrong)

/-- 'laws.FnExactValHas': WHATEVER THE INPUT: true; the input reads as it did. -/
def fnExactValHasSpec : ChangeSpec := { name := "fnExactValHas", vars := ["loop.example/g00093/impl.none"], fn := fun _ => fun
  | [d1, d2, g1] => { results := [.lit (.bool true)], args := [d1, d2], vars := [g1] }
  | _ => none }
def fnExactValHasRow : OpenClaim := { program := "ytognjmgkbmmjjaadoor", sum := "e254a2e1d17643cf66bcdbac4c0b530e409b6e5236fc7162034b78c282d24ff1", func := "loop.example/g00093/laws.FnExactValHas", spec := "fnExactValHas", named := ["loop.example/g00093/impl.none"], apart := false, laid := [("loop.example/g00093/impl.none", laid_loop_example_g00093_impl_none)] }
def FnExactValHasSaid : Prop := fnExactValHasRow.holds Tryd.pinned (OpenSpec.ofChange fnExactValHasSpec)

/-- ITS FALSE NEIGHBOUR: 'it returns false'. Refute it at one input. -/
def fnExactValHasWrong : ChangeSpec := { name := "fnExactValHas", vars := ["loop.example/g00093/impl.none"], fn := fun _ => fun
  | [d1, d2, g1] => { results := [.lit (.bool false)], args := [d1, d2], vars := [g1] }
  | _ => none }
def FnExactValHasWrongFalsely : Prop := fnExactValHasRow.holds Tryd.pinned (OpenSpec.ofChange fnExactValHasWrong)

/-- 'laws.FnExactRangeJoin': WHATEVER THE INPUT: true; the input reads as it did. -/
def fnExactRangeJoinSpec : ChangeSpec := { name := "fnExactRangeJoin", vars := ["loop.example/g00093/impl.none"], fn := fun _ => fun
  | [d1, d2, g1] => { results := [.lit (.bool true)], args := [d1, d2], vars := [g1] }
  | _ => none }
def fnExactRangeJoinRow : OpenClaim := { program := "ytognjmgkbmmjjaadoor", sum := "e254a2e1d17643cf66bcdbac4c0b530e409b6e5236fc7162034b78c282d24ff1", func := "loop.example/g00093/laws.FnExactRangeJoin", spec := "fnExactRangeJoin", named := ["loop.example/g00093/impl.none"], apart := false, laid := [("loop.example/g00093/impl.none", laid_loop_example_g00093_impl_none)] }
def FnExactRangeJoinSaid : Prop := fnExactRangeJoinRow.holds Tryd.pinned (OpenSpec.ofChange fnExactRangeJoinSpec)

/-- ITS FALSE NEIGHBOUR: 'it returns false'. Refute it at one input. -/
def fnExactRangeJoinWrong : ChangeSpec := { name := "fnExactRangeJoin", vars := ["loop.example/g00093/impl.none"], fn := fun _ => fun
  | [d1, d2, g1] => { results := [.lit (.bool false)], args := [d1, d2], vars := [g1] }
  | _ => none }
def FnExactRangeJoinWrongFalsely : Prop := fnExactRangeJoinRow.holds Tryd.pinned (OpenSpec.ofChange fnExactRangeJoinWrong)

/- THE SECOND FORM. 'bulk': how many values and letters a reading holds, each counted each time it is reached (what is shared counts as often as it is met; a slice's spare places count too). A statement '..UptoSaid' is the law's where the arguments, and the package variables that the reading takes, are together of bulk at most 1048576: NARROWER than '..Said'. Prove '..Said' where nothing that the law and all that it calls make is longer than what came in: it says more and counts as full. Else prove '..UptoSaid'. A law counts once. -/
mutual
def uptoBulk {H : Type} : DataW H → Nat
  | .lit (.string bytes) => bytes.length + 1
  | .lit _ => 1
  | .nil => 1
  | .ptr d => uptoBulk d + 1
  | .slice elems spare => uptoBulkAll elems + uptoBulkAll spare + 1
  | .agg parts => uptoBulkAll parts + 1
  | .iface _ d => uptoBulk d + 1
  | .map entries => uptoBulkEntries entries + 1
  | .held _ => 1
def uptoBulkAll {H : Type} : List (DataW H) → Nat
  | [] => 0
  | d :: r => uptoBulk d + uptoBulkAll r
def uptoBulkEntries {H : Type} : List (Lit × DataW H) → Nat
  | [] => 0
  | x :: r => uptoBulkEntry x + uptoBulkEntries r
def uptoBulkEntry {H : Type} : Lit × DataW H → Nat
  | (.string bytes, d) => bytes.length + uptoBulk d + 1
  | (_, d) => uptoBulk d + 1
 end
def uptoSmall : (H : Type) → List (DataW H) → Bool := fun _ ds => decide (uptoBulkAll ds ≤ 1048576)
def OpenSpec.upto (s : _root_.Go.ChangeSpec) : _root_.Go.OpenSpec := { _root_.Go.OpenSpec.ofChange s with cond := some uptoSmall }

/-- 'laws.FnExactRangeOk', WHERE WHAT IT READS IS OF BULK AT MOST 1048576: true; the input reads as it did. -/
def fnExactRangeOkUptoRow : OpenClaim := { program := "ytognjmgkbmmjjaadoor", sum := "e254a2e1d17643cf66bcdbac4c0b530e409b6e5236fc7162034b78c282d24ff1", func := "loop.example/g00093/laws.FnExactRangeOk", spec := "fnExactRangeOk", named := ["loop.example/g00093/impl.none"], apart := false, laid := [("loop.example/g00093/impl.none", laid_loop_example_g00093_impl_none)], narrowed := true }
def FnExactRangeOkUptoSaid : Prop := fnExactRangeOkUptoRow.holds Tryd.pinned (OpenSpec.upto fnExactRangeOkSpec)

/-- 'laws.FnExactRangeHas', WHERE WHAT IT READS IS OF BULK AT MOST 1048576: true; the input reads as it did. -/
def fnExactRangeHasUptoRow : OpenClaim := { program := "ytognjmgkbmmjjaadoor", sum := "e254a2e1d17643cf66bcdbac4c0b530e409b6e5236fc7162034b78c282d24ff1", func := "loop.example/g00093/laws.FnExactRangeHas", spec := "fnExactRangeHas", named := ["loop.example/g00093/impl.none"], apart := false, laid := [("loop.example/g00093/impl.none", laid_loop_example_g00093_impl_none)], narrowed := true }
def FnExactRangeHasUptoSaid : Prop := fnExactRangeHasUptoRow.holds Tryd.pinned (OpenSpec.upto fnExactRangeHasSpec)

/-- 'laws.FnExactValOk', WHERE WHAT IT READS IS OF BULK AT MOST 1048576: true; the input reads as it did. -/
def fnExactValOkUptoRow : OpenClaim := { program := "ytognjmgkbmmjjaadoor", sum := "e254a2e1d17643cf66bcdbac4c0b530e409b6e5236fc7162034b78c282d24ff1", func := "loop.example/g00093/laws.FnExactValOk", spec := "fnExactValOk", named := ["loop.example/g00093/impl.none"], apart := false, laid := [("loop.example/g00093/impl.none", laid_loop_example_g00093_impl_none)], narrowed := true }
def FnExactValOkUptoSaid : Prop := fnExactValOkUptoRow.holds Tryd.pinned (OpenSpec.upto fnExactValOkSpec)

/-- 'laws.FnWordsBack', WHERE WHAT IT READS IS OF BULK AT MOST 1048576: true; the input reads as it did. -/
def fnWordsBackUptoRow : OpenClaim := { program := "ytognjmgkbmmjjaadoor", sum := "e254a2e1d17643cf66bcdbac4c0b530e409b6e5236fc7162034b78c282d24ff1", func := "loop.example/g00093/laws.FnWordsBack", spec := "fnWordsBack", inPlace := ["internal/bytealg.IndexByteString", "internal/bytealg.IndexString", "internal/abi.NoEscape", "internal/bytealg.MakeNoZero"], named := ["strconv.ErrSyntax", "strconv.ErrRange", "internal/strconv.uint64pow10", "math/bits.deBruijn32tab", "math/bits.deBruijn64tab", "internal/bytealg.MaxLen"], apart := false, laid := [("math/bits.deBruijn32tab", laid_math_bits_deBruijn32tab), ("math/bits.deBruijn64tab", laid_math_bits_deBruijn64tab), ("internal/strconv.uint64pow10", laid_internal_strconv_uint64pow10), ("strconv.ErrRange", laid_strconv_ErrRange), ("strconv.ErrSyntax", laid_strconv_ErrSyntax)], narrowed := true }
def FnWordsBackUptoSaid : Prop := fnWordsBackUptoRow.holds Tryd.pinned (OpenSpec.upto fnWordsBackSpec)

/-- 'laws.FnExactRangeLeq', WHERE WHAT IT READS IS OF BULK AT MOST 1048576: true; the input reads as it did. -/
def fnExactRangeLeqUptoRow : OpenClaim := { program := "ytognjmgkbmmjjaadoor", sum := "e254a2e1d17643cf66bcdbac4c0b530e409b6e5236fc7162034b78c282d24ff1", func := "loop.example/g00093/laws.FnExactRangeLeq", spec := "fnExactRangeLeq", named := ["loop.example/g00093/impl.none"], apart := false, laid := [("loop.example/g00093/impl.none", laid_loop_example_g00093_impl_none)], narrowed := true }
def FnExactRangeLeqUptoSaid : Prop := fnExactRangeLeqUptoRow.holds Tryd.pinned (OpenSpec.upto fnExactRangeLeqSpec)

/-- 'laws.FnExactValLeq', WHERE WHAT IT READS IS OF BULK AT MOST 1048576: true; the input reads as it did. -/
def fnExactValLeqUptoRow : OpenClaim := { program := "ytognjmgkbmmjjaadoor", sum := "e254a2e1d17643cf66bcdbac4c0b530e409b6e5236fc7162034b78c282d24ff1", func := "loop.example/g00093/laws.FnExactValLeq", spec := "fnExactValLeq", named := ["loop.example/g00093/impl.none"], apart := false, laid := [("loop.example/g00093/impl.none", laid_loop_example_g00093_impl_none)], narrowed := true }
def FnExactValLeqUptoSaid : Prop := fnExactValLeqUptoRow.holds Tryd.pinned (OpenSpec.upto fnExactValLeqSpec)

/-- 'laws.FnExactValHas', WHERE WHAT IT READS IS OF BULK AT MOST 1048576: true; the input reads as it did. -/
def fnExactValHasUptoRow : OpenClaim := { program := "ytognjmgkbmmjjaadoor", sum := "e254a2e1d17643cf66bcdbac4c0b530e409b6e5236fc7162034b78c282d24ff1", func := "loop.example/g00093/laws.FnExactValHas", spec := "fnExactValHas", named := ["loop.example/g00093/impl.none"], apart := false, laid := [("loop.example/g00093/impl.none", laid_loop_example_g00093_impl_none)], narrowed := true }
def FnExactValHasUptoSaid : Prop := fnExactValHasUptoRow.holds Tryd.pinned (OpenSpec.upto fnExactValHasSpec)

/-- 'laws.FnExactRangeJoin', WHERE WHAT IT READS IS OF BULK AT MOST 1048576: true; the input reads as it did. -/
def fnExactRangeJoinUptoRow : OpenClaim := { program := "ytognjmgkbmmjjaadoor", sum := "e254a2e1d17643cf66bcdbac4c0b530e409b6e5236fc7162034b78c282d24ff1", func := "loop.example/g00093/laws.FnExactRangeJoin", spec := "fnExactRangeJoin", named := ["loop.example/g00093/impl.none"], apart := false, laid := [("loop.example/g00093/impl.none", laid_loop_example_g00093_impl_none)], narrowed := true }
def FnExactRangeJoinUptoSaid : Prop := fnExactRangeJoinUptoRow.holds Tryd.pinned (OpenSpec.upto fnExactRangeJoinSpec)

end Rows
end Go.Proofs.YtognjmgkbmmjjaaDoor
