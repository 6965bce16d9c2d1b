/-
  NARROWER THAN 'FOR EVERY INPUT', by the rows' own cells (each row's printed sentence says how): FnExactRangeWiden: laid · FnExactValWiden: laid · FnExactRangeGuard: laid · FnRangeRests: laid · FnRangeSums: laid.
  DERIVED. THE GIVEN ROWS OF THIS SEAT. 5 by the template 'for every input the law returns true; each argument reads behind the call as it read before'; 0 by the template 'total and deterministic' (their statements: YthkdkcdbjbihkaaDoorTotals.lean).
  GIVEN WITH THE SEED: the statements are not yours to turn. If you find one false, say at which input.
  Laid BY PROGRAM, IN A SANDBOX (cutbox-rows.mjs): the forced cells as the released guide's own fill.sh prints them over the translation efcbd99accb71a56… (all of the seat's roots in one cut). By AI agents, Wed Nov 11 2026. No macro, syntax, notation, axiom, sorry.
-/
import Derived.Test.YthkdkcdbjbihkaaDoorChecked
import GoSem.Claim
import GoSem.ClaimJoined
import GoSem.ClaimMapViews
import Derived.JoinedTies
import Derived.KernelRfl
namespace Go.Proofs.YthkdkcdbjbihkaaDoor
/- THE CELL 'sum', in the pinned program and in every row, IS THE sha256 OF THE DUMP (.gsa) THAT YthkdkcdbjbihkaaDoorProg.lean LOADS. Nothing in Lean hashes anything: it is a label: what it is worth is what the hold of that sum in a sandbox is worth. -/
noncomputable def Tryd.pinned : Pinned := { name := "ythkdkcdbjbihkaadoor", sum := "efcbd99accb71a56084bb37820c5ccb41fa3a5dde8b8ce7337957f91709ff6e8", checked := Tryd.checked }
namespace Rows
def none {H : Type} : Left H := { results := [], args := [] }

/- WHAT THE LISTED PACKAGE-LEVEL VARIABLES READ AS WHEN THE CALL BEGINS. Each datum BY PROGRAM (the guide's laid-datum.mjs) off the statement by which the dump's own 'gosem.cut.vars' lays the variable. In a bare row this is a premise. The card (YthkdkcdbjbihkaaDoorCards.lean) ties it to the program's text. -/
def laid_loop_example_g00093_impl_none {H : Type} : DataW H := .agg [.lit (.int .i64 1), .lit (.int .i64 0)]
def laid_loop_example_g00093_impl_noCell {H : Type} : DataW H := .agg [.agg [.lit (.int .i64 1), .lit (.int .i64 0)], .lit (.bool true)]

/-- 'laws.FnExactRangeWiden': WHATEVER THE INPUT: true; the input reads as it did. -/
def fnExactRangeWidenSpec : ChangeSpec := { name := "fnExactRangeWiden", vars := ["loop.example/g00093/impl.none"], fn := fun _ => fun
  | [d1, d2, d3, g1] => { results := [.lit (.bool true)], args := [d1, d2, d3], vars := [g1] }
  | _ => none }
def fnExactRangeWidenRow : OpenClaim := { program := "ythkdkcdbjbihkaadoor", sum := "efcbd99accb71a56084bb37820c5ccb41fa3a5dde8b8ce7337957f91709ff6e8", func := "loop.example/g00093/laws.FnExactRangeWiden", spec := "fnExactRangeWiden", named := ["loop.example/g00093/impl.none"], apart := false, laid := [("loop.example/g00093/impl.none", laid_loop_example_g00093_impl_none)] }
def FnExactRangeWidenSaid : Prop := fnExactRangeWidenRow.holds Tryd.pinned (OpenSpec.ofChange fnExactRangeWidenSpec)

/-- ITS FALSE NEIGHBOUR: 'it returns false'. Refute it at one input. -/
def fnExactRangeWidenWrong : ChangeSpec := { name := "fnExactRangeWiden", vars := ["loop.example/g00093/impl.none"], fn := fun _ => fun
  | [d1, d2, d3, g1] => { results := [.lit (.bool false)], args := [d1, d2, d3], vars := [g1] }
  | _ => none }
def FnExactRangeWidenWrongFalsely : Prop := fnExactRangeWidenRow.holds Tryd.pinned (OpenSpec.ofChange fnExactRangeWidenWrong)

/-- 'laws.FnExactValWiden': WHATEVER THE INPUT: true; the input reads as it did. -/
def fnExactValWidenSpec : ChangeSpec := { name := "fnExactValWiden", vars := ["loop.example/g00093/impl.noCell", "loop.example/g00093/impl.none"], fn := fun _ => fun
  | [d1, d2, d3, g1, g2] => { results := [.lit (.bool true)], args := [d1, d2, d3], vars := [g1, g2] }
  | _ => none }
def fnExactValWidenRow : OpenClaim := { program := "ythkdkcdbjbihkaadoor", sum := "efcbd99accb71a56084bb37820c5ccb41fa3a5dde8b8ce7337957f91709ff6e8", func := "loop.example/g00093/laws.FnExactValWiden", spec := "fnExactValWiden", named := ["loop.example/g00093/impl.noCell", "loop.example/g00093/impl.none"], apart := false, laid := [("loop.example/g00093/impl.none", laid_loop_example_g00093_impl_none), ("loop.example/g00093/impl.noCell", laid_loop_example_g00093_impl_noCell)] }
def FnExactValWidenSaid : Prop := fnExactValWidenRow.holds Tryd.pinned (OpenSpec.ofChange fnExactValWidenSpec)

/-- ITS FALSE NEIGHBOUR: 'it returns false'. Refute it at one input. -/
def fnExactValWidenWrong : ChangeSpec := { name := "fnExactValWiden", vars := ["loop.example/g00093/impl.noCell", "loop.example/g00093/impl.none"], fn := fun _ => fun
  | [d1, d2, d3, g1, g2] => { results := [.lit (.bool false)], args := [d1, d2, d3], vars := [g1, g2] }
  | _ => none }
def FnExactValWidenWrongFalsely : Prop := fnExactValWidenRow.holds Tryd.pinned (OpenSpec.ofChange fnExactValWidenWrong)

/-- 'laws.FnExactRangeGuard': WHATEVER THE INPUT: true; the input reads as it did. -/
def fnExactRangeGuardSpec : ChangeSpec := { name := "fnExactRangeGuard", vars := ["loop.example/g00093/impl.none"], fn := fun _ => fun
  | [d1, d2, d3, g1] => { results := [.lit (.bool true)], args := [d1, d2, d3], vars := [g1] }
  | _ => none }
def fnExactRangeGuardRow : OpenClaim := { program := "ythkdkcdbjbihkaadoor", sum := "efcbd99accb71a56084bb37820c5ccb41fa3a5dde8b8ce7337957f91709ff6e8", func := "loop.example/g00093/laws.FnExactRangeGuard", spec := "fnExactRangeGuard", unfollowed := true, recurses := true, named := ["loop.example/g00093/impl.none"], apart := false, laid := [("loop.example/g00093/impl.none", laid_loop_example_g00093_impl_none)] }
def FnExactRangeGuardSaid : Prop := fnExactRangeGuardRow.holds Tryd.pinned (OpenSpec.ofChange fnExactRangeGuardSpec)

/-- ITS FALSE NEIGHBOUR: 'it returns false'. Refute it at one input. -/
def fnExactRangeGuardWrong : ChangeSpec := { name := "fnExactRangeGuard", vars := ["loop.example/g00093/impl.none"], fn := fun _ => fun
  | [d1, d2, d3, g1] => { results := [.lit (.bool false)], args := [d1, d2, d3], vars := [g1] }
  | _ => none }
def FnExactRangeGuardWrongFalsely : Prop := fnExactRangeGuardRow.holds Tryd.pinned (OpenSpec.ofChange fnExactRangeGuardWrong)

/-- 'laws.FnRangeRests': WHATEVER THE INPUT: true; the input reads as it did. -/
def fnRangeRestsSpec : ChangeSpec := { name := "fnRangeRests", vars := ["loop.example/g00093/impl.none"], fn := fun _ => fun
  | [d1, d2, g1] => { results := [.lit (.bool true)], args := [d1, d2], vars := [g1] }
  | _ => none }
def fnRangeRestsRow : OpenClaim := { program := "ythkdkcdbjbihkaadoor", sum := "efcbd99accb71a56084bb37820c5ccb41fa3a5dde8b8ce7337957f91709ff6e8", func := "loop.example/g00093/laws.FnRangeRests", spec := "fnRangeRests", named := ["loop.example/g00093/impl.none"], apart := false, laid := [("loop.example/g00093/impl.none", laid_loop_example_g00093_impl_none)] }
def FnRangeRestsSaid : Prop := fnRangeRestsRow.holds Tryd.pinned (OpenSpec.ofChange fnRangeRestsSpec)

/-- ITS FALSE NEIGHBOUR: 'it returns false'. Refute it at one input. -/
def fnRangeRestsWrong : ChangeSpec := { name := "fnRangeRests", vars := ["loop.example/g00093/impl.none"], fn := fun _ => fun
  | [d1, d2, g1] => { results := [.lit (.bool false)], args := [d1, d2], vars := [g1] }
  | _ => none }
def FnRangeRestsWrongFalsely : Prop := fnRangeRestsRow.holds Tryd.pinned (OpenSpec.ofChange fnRangeRestsWrong)

/-- 'laws.FnRangeSums': WHATEVER THE INPUT: true; the input reads as it did. -/
def fnRangeSumsSpec : ChangeSpec := { name := "fnRangeSums", vars := ["loop.example/g00093/impl.none"], fn := fun _ => fun
  | [d, g1] => { results := [.lit (.bool true)], args := [d], vars := [g1] }
  | _ => none }
def fnRangeSumsRow : OpenClaim := { program := "ythkdkcdbjbihkaadoor", sum := "efcbd99accb71a56084bb37820c5ccb41fa3a5dde8b8ce7337957f91709ff6e8", func := "loop.example/g00093/laws.FnRangeSums", spec := "fnRangeSums", unfollowed := true, recurses := true, named := ["loop.example/g00093/impl.none"], apart := false, laid := [("loop.example/g00093/impl.none", laid_loop_example_g00093_impl_none)] }
def FnRangeSumsSaid : Prop := fnRangeSumsRow.holds Tryd.pinned (OpenSpec.ofChange fnRangeSumsSpec)

/-- ITS FALSE NEIGHBOUR: 'it returns false'. Refute it at one input. -/
def fnRangeSumsWrong : ChangeSpec := { name := "fnRangeSums", vars := ["loop.example/g00093/impl.none"], fn := fun _ => fun
  | [d, g1] => { results := [.lit (.bool false)], args := [d], vars := [g1] }
  | _ => none }
def FnRangeSumsWrongFalsely : Prop := fnRangeSumsRow.holds Tryd.pinned (OpenSpec.ofChange fnRangeSumsWrong)

/- THE SECOND FORM. 'bulk': how many values and letters a reading holds, each counted each time it is reached (what is shared counts as often as it is met; a slice's spare places count too). A statement '..UptoSaid' is the law's where the arguments, and the package variables that the reading takes, are together of bulk at most 1048576: NARROWER than '..Said'. Prove '..Said' where nothing that the law and all that it calls make is longer than what came in: it says more and counts as full. Else prove '..UptoSaid'. A law counts once. -/
mutual
def uptoBulk {H : Type} : DataW H → Nat
  | .lit (.string bytes) => bytes.length + 1
  | .lit _ => 1
  | .nil => 1
  | .ptr d => uptoBulk d + 1
  | .slice elems spare => uptoBulkAll elems + uptoBulkAll spare + 1
  | .agg parts => uptoBulkAll parts + 1
  | .iface _ d => uptoBulk d + 1
  | .map entries => uptoBulkEntries entries + 1
  | .held _ => 1
def uptoBulkAll {H : Type} : List (DataW H) → Nat
  | [] => 0
  | d :: r => uptoBulk d + uptoBulkAll r
def uptoBulkEntries {H : Type} : List (Lit × DataW H) → Nat
  | [] => 0
  | x :: r => uptoBulkEntry x + uptoBulkEntries r
def uptoBulkEntry {H : Type} : Lit × DataW H → Nat
  | (.string bytes, d) => bytes.length + uptoBulk d + 1
  | (_, d) => uptoBulk d + 1
 end
def uptoSmall : (H : Type) → List (DataW H) → Bool := fun _ ds => decide (uptoBulkAll ds ≤ 1048576)
def OpenSpec.upto (s : _root_.Go.ChangeSpec) : _root_.Go.OpenSpec := { _root_.Go.OpenSpec.ofChange s with cond := some uptoSmall }

/-- 'laws.FnExactRangeWiden', WHERE WHAT IT READS IS OF BULK AT MOST 1048576: true; the input reads as it did. -/
def fnExactRangeWidenUptoRow : OpenClaim := { program := "ythkdkcdbjbihkaadoor", sum := "efcbd99accb71a56084bb37820c5ccb41fa3a5dde8b8ce7337957f91709ff6e8", func := "loop.example/g00093/laws.FnExactRangeWiden", spec := "fnExactRangeWiden", named := ["loop.example/g00093/impl.none"], apart := false, laid := [("loop.example/g00093/impl.none", laid_loop_example_g00093_impl_none)], narrowed := true }
def FnExactRangeWidenUptoSaid : Prop := fnExactRangeWidenUptoRow.holds Tryd.pinned (OpenSpec.upto fnExactRangeWidenSpec)

/-- 'laws.FnExactValWiden', WHERE WHAT IT READS IS OF BULK AT MOST 1048576: true; the input reads as it did. -/
def fnExactValWidenUptoRow : OpenClaim := { program := "ythkdkcdbjbihkaadoor", sum := "efcbd99accb71a56084bb37820c5ccb41fa3a5dde8b8ce7337957f91709ff6e8", func := "loop.example/g00093/laws.FnExactValWiden", spec := "fnExactValWiden", named := ["loop.example/g00093/impl.noCell", "loop.example/g00093/impl.none"], apart := false, laid := [("loop.example/g00093/impl.none", laid_loop_example_g00093_impl_none), ("loop.example/g00093/impl.noCell", laid_loop_example_g00093_impl_noCell)], narrowed := true }
def FnExactValWidenUptoSaid : Prop := fnExactValWidenUptoRow.holds Tryd.pinned (OpenSpec.upto fnExactValWidenSpec)

/-- 'laws.FnExactRangeGuard', WHERE WHAT IT READS IS OF BULK AT MOST 1048576: true; the input reads as it did. -/
def fnExactRangeGuardUptoRow : OpenClaim := { program := "ythkdkcdbjbihkaadoor", sum := "efcbd99accb71a56084bb37820c5ccb41fa3a5dde8b8ce7337957f91709ff6e8", func := "loop.example/g00093/laws.FnExactRangeGuard", spec := "fnExactRangeGuard", unfollowed := true, recurses := true, named := ["loop.example/g00093/impl.none"], apart := false, laid := [("loop.example/g00093/impl.none", laid_loop_example_g00093_impl_none)], narrowed := true }
def FnExactRangeGuardUptoSaid : Prop := fnExactRangeGuardUptoRow.holds Tryd.pinned (OpenSpec.upto fnExactRangeGuardSpec)

/-- 'laws.FnRangeRests', WHERE WHAT IT READS IS OF BULK AT MOST 1048576: true; the input reads as it did. -/
def fnRangeRestsUptoRow : OpenClaim := { program := "ythkdkcdbjbihkaadoor", sum := "efcbd99accb71a56084bb37820c5ccb41fa3a5dde8b8ce7337957f91709ff6e8", func := "loop.example/g00093/laws.FnRangeRests", spec := "fnRangeRests", named := ["loop.example/g00093/impl.none"], apart := false, laid := [("loop.example/g00093/impl.none", laid_loop_example_g00093_impl_none)], narrowed := true }
def FnRangeRestsUptoSaid : Prop := fnRangeRestsUptoRow.holds Tryd.pinned (OpenSpec.upto fnRangeRestsSpec)

/-- 'laws.FnRangeSums', WHERE WHAT IT READS IS OF BULK AT MOST 1048576: true; the input reads as it did. -/
def fnRangeSumsUptoRow : OpenClaim := { program := "ythkdkcdbjbihkaadoor", sum := "efcbd99accb71a56084bb37820c5ccb41fa3a5dde8b8ce7337957f91709ff6e8", func := "loop.example/g00093/laws.FnRangeSums", spec := "fnRangeSums", unfollowed := true, recurses := true, named := ["loop.example/g00093/impl.none"], apart := false, laid := [("loop.example/g00093/impl.none", laid_loop_example_g00093_impl_none)], narrowed := true }
def FnRangeSumsUptoSaid : Prop := fnRangeSumsUptoRow.holds Tryd.pinned (OpenSpec.upto fnRangeSumsSpec)

end Rows
end Go.Proofs.YthkdkcdbjbihkaaDoor
