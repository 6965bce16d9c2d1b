/-
  NARROWER THAN 'FOR EVERY INPUT', by the rows' own cells (each row's printed sentence says how): FnExactRangeNeg: laid · FnExactRangeAdd: laid · FnExactRangeMeet: laid · FnExactRangeSub: laid · FnExactValJoin: laid · FnExactRangeMul: laid.
  DERIVED. THE GIVEN ROWS OF THIS SEAT. 6 by the template 'for every input the law returns true; each argument reads behind the call as it read before'; 0 by the template 'total and deterministic' (their statements: YtoimomfcdhmnbaaDoorTotals.lean).
  GIVEN WITH THE SEED: the statements are not yours to turn. If you find one false, say at which input.
  Laid BY PROGRAM, IN A SANDBOX (cutbox-rows.mjs): the forced cells as the released guide's own fill.sh prints them over the translation b8690275f63bc791… (all of the seat's roots in one cut). By AI agents, Wed Nov 11 2026. No macro, syntax, notation, axiom, sorry.
-/
import Derived.Test.YtoimomfcdhmnbaaDoorChecked
import GoSem.Claim
import GoSem.ClaimJoined
import GoSem.ClaimMapViews
import Derived.JoinedTies
import Derived.KernelRfl
namespace Go.Proofs.YtoimomfcdhmnbaaDoor
/- THE CELL 'sum', in the pinned program and in every row, IS THE sha256 OF THE DUMP (.gsa) THAT YtoimomfcdhmnbaaDoorProg.lean LOADS. Nothing in Lean hashes anything: it is a label: what it is worth is what the hold of that sum in a sandbox is worth. -/
noncomputable def Tryd.pinned : Pinned := { name := "ytoimomfcdhmnbaadoor", sum := "b8690275f63bc791a176a5f00502c121686e77f41a48e0c845c8bc9517fbd4e0", checked := Tryd.checked }
namespace Rows
def none {H : Type} : Left H := { results := [], args := [] }

/- WHAT THE LISTED PACKAGE-LEVEL VARIABLES READ AS WHEN THE CALL BEGINS. Each datum BY PROGRAM (the guide's laid-datum.mjs) off the statement by which the dump's own 'gosem.cut.vars' lays the variable. In a bare row this is a premise. The card (YtoimomfcdhmnbaaDoorCards.lean) ties it to the program's text. -/
def laid_loop_example_g00093_impl_none {H : Type} : DataW H := .agg [.lit (.int .i64 1), .lit (.int .i64 0)]
def laid_loop_example_g00093_impl_noCell {H : Type} : DataW H := .agg [.agg [.lit (.int .i64 1), .lit (.int .i64 0)], .lit (.bool true)]

/-- 'laws.FnExactRangeNeg': WHATEVER THE INPUT: true; the input reads as it did. -/
def fnExactRangeNegSpec : ChangeSpec := { name := "fnExactRangeNeg", vars := ["loop.example/g00093/impl.none"], fn := fun _ => fun
  | [d, g1] => { results := [.lit (.bool true)], args := [d], vars := [g1] }
  | _ => none }
def fnExactRangeNegRow : OpenClaim := { program := "ytoimomfcdhmnbaadoor", sum := "b8690275f63bc791a176a5f00502c121686e77f41a48e0c845c8bc9517fbd4e0", func := "loop.example/g00093/laws.FnExactRangeNeg", spec := "fnExactRangeNeg", unfollowed := true, recurses := true, named := ["loop.example/g00093/impl.none"], apart := false, laid := [("loop.example/g00093/impl.none", laid_loop_example_g00093_impl_none)] }
def FnExactRangeNegSaid : Prop := fnExactRangeNegRow.holds Tryd.pinned (OpenSpec.ofChange fnExactRangeNegSpec)

/-- ITS FALSE NEIGHBOUR: 'it returns false'. Refute it at one input. -/
def fnExactRangeNegWrong : ChangeSpec := { name := "fnExactRangeNeg", vars := ["loop.example/g00093/impl.none"], fn := fun _ => fun
  | [d, g1] => { results := [.lit (.bool false)], args := [d], vars := [g1] }
  | _ => none }
def FnExactRangeNegWrongFalsely : Prop := fnExactRangeNegRow.holds Tryd.pinned (OpenSpec.ofChange fnExactRangeNegWrong)

/-- 'laws.FnExactRangeAdd': WHATEVER THE INPUT: true; the input reads as it did. -/
def fnExactRangeAddSpec : ChangeSpec := { name := "fnExactRangeAdd", vars := ["loop.example/g00093/impl.none"], fn := fun _ => fun
  | [d1, d2, g1] => { results := [.lit (.bool true)], args := [d1, d2], vars := [g1] }
  | _ => none }
def fnExactRangeAddRow : OpenClaim := { program := "ytoimomfcdhmnbaadoor", sum := "b8690275f63bc791a176a5f00502c121686e77f41a48e0c845c8bc9517fbd4e0", func := "loop.example/g00093/laws.FnExactRangeAdd", spec := "fnExactRangeAdd", unfollowed := true, recurses := true, named := ["loop.example/g00093/impl.none"], apart := false, laid := [("loop.example/g00093/impl.none", laid_loop_example_g00093_impl_none)] }
def FnExactRangeAddSaid : Prop := fnExactRangeAddRow.holds Tryd.pinned (OpenSpec.ofChange fnExactRangeAddSpec)

/-- ITS FALSE NEIGHBOUR: 'it returns false'. Refute it at one input. -/
def fnExactRangeAddWrong : ChangeSpec := { name := "fnExactRangeAdd", vars := ["loop.example/g00093/impl.none"], fn := fun _ => fun
  | [d1, d2, g1] => { results := [.lit (.bool false)], args := [d1, d2], vars := [g1] }
  | _ => none }
def FnExactRangeAddWrongFalsely : Prop := fnExactRangeAddRow.holds Tryd.pinned (OpenSpec.ofChange fnExactRangeAddWrong)

/-- 'laws.FnExactRangeMeet': WHATEVER THE INPUT: true; the input reads as it did. -/
def fnExactRangeMeetSpec : ChangeSpec := { name := "fnExactRangeMeet", vars := ["loop.example/g00093/impl.none"], fn := fun _ => fun
  | [d1, d2, g1] => { results := [.lit (.bool true)], args := [d1, d2], vars := [g1] }
  | _ => none }
def fnExactRangeMeetRow : OpenClaim := { program := "ytoimomfcdhmnbaadoor", sum := "b8690275f63bc791a176a5f00502c121686e77f41a48e0c845c8bc9517fbd4e0", func := "loop.example/g00093/laws.FnExactRangeMeet", spec := "fnExactRangeMeet", unfollowed := true, recurses := true, named := ["loop.example/g00093/impl.none"], apart := false, laid := [("loop.example/g00093/impl.none", laid_loop_example_g00093_impl_none)] }
def FnExactRangeMeetSaid : Prop := fnExactRangeMeetRow.holds Tryd.pinned (OpenSpec.ofChange fnExactRangeMeetSpec)

/-- ITS FALSE NEIGHBOUR: 'it returns false'. Refute it at one input. -/
def fnExactRangeMeetWrong : ChangeSpec := { name := "fnExactRangeMeet", vars := ["loop.example/g00093/impl.none"], fn := fun _ => fun
  | [d1, d2, g1] => { results := [.lit (.bool false)], args := [d1, d2], vars := [g1] }
  | _ => none }
def FnExactRangeMeetWrongFalsely : Prop := fnExactRangeMeetRow.holds Tryd.pinned (OpenSpec.ofChange fnExactRangeMeetWrong)

/-- 'laws.FnExactRangeSub': WHATEVER THE INPUT: true; the input reads as it did. -/
def fnExactRangeSubSpec : ChangeSpec := { name := "fnExactRangeSub", vars := ["loop.example/g00093/impl.none"], fn := fun _ => fun
  | [d1, d2, g1] => { results := [.lit (.bool true)], args := [d1, d2], vars := [g1] }
  | _ => none }
def fnExactRangeSubRow : OpenClaim := { program := "ytoimomfcdhmnbaadoor", sum := "b8690275f63bc791a176a5f00502c121686e77f41a48e0c845c8bc9517fbd4e0", func := "loop.example/g00093/laws.FnExactRangeSub", spec := "fnExactRangeSub", unfollowed := true, recurses := true, named := ["loop.example/g00093/impl.none"], apart := false, laid := [("loop.example/g00093/impl.none", laid_loop_example_g00093_impl_none)] }
def FnExactRangeSubSaid : Prop := fnExactRangeSubRow.holds Tryd.pinned (OpenSpec.ofChange fnExactRangeSubSpec)

/-- ITS FALSE NEIGHBOUR: 'it returns false'. Refute it at one input. -/
def fnExactRangeSubWrong : ChangeSpec := { name := "fnExactRangeSub", vars := ["loop.example/g00093/impl.none"], fn := fun _ => fun
  | [d1, d2, g1] => { results := [.lit (.bool false)], args := [d1, d2], vars := [g1] }
  | _ => none }
def FnExactRangeSubWrongFalsely : Prop := fnExactRangeSubRow.holds Tryd.pinned (OpenSpec.ofChange fnExactRangeSubWrong)

/-- 'laws.FnExactValJoin': WHATEVER THE INPUT: true; the input reads as it did. -/
def fnExactValJoinSpec : ChangeSpec := { name := "fnExactValJoin", vars := ["loop.example/g00093/impl.noCell", "loop.example/g00093/impl.none"], fn := fun _ => fun
  | [d1, d2, g1, g2] => { results := [.lit (.bool true)], args := [d1, d2], vars := [g1, g2] }
  | _ => none }
def fnExactValJoinRow : OpenClaim := { program := "ytoimomfcdhmnbaadoor", sum := "b8690275f63bc791a176a5f00502c121686e77f41a48e0c845c8bc9517fbd4e0", func := "loop.example/g00093/laws.FnExactValJoin", spec := "fnExactValJoin", named := ["loop.example/g00093/impl.noCell", "loop.example/g00093/impl.none"], apart := false, laid := [("loop.example/g00093/impl.none", laid_loop_example_g00093_impl_none), ("loop.example/g00093/impl.noCell", laid_loop_example_g00093_impl_noCell)] }
def FnExactValJoinSaid : Prop := fnExactValJoinRow.holds Tryd.pinned (OpenSpec.ofChange fnExactValJoinSpec)

/-- ITS FALSE NEIGHBOUR: 'it returns false'. Refute it at one input. -/
def fnExactValJoinWrong : ChangeSpec := { name := "fnExactValJoin", vars := ["loop.example/g00093/impl.noCell", "loop.example/g00093/impl.none"], fn := fun _ => fun
  | [d1, d2, g1, g2] => { results := [.lit (.bool false)], args := [d1, d2], vars := [g1, g2] }
  | _ => none }
def FnExactValJoinWrongFalsely : Prop := fnExactValJoinRow.holds Tryd.pinned (OpenSpec.ofChange fnExactValJoinWrong)

/-- 'laws.FnExactRangeMul': WHATEVER THE INPUT: true; the input reads as it did. -/
def fnExactRangeMulSpec : ChangeSpec := { name := "fnExactRangeMul", vars := ["loop.example/g00093/impl.none"], fn := fun _ => fun
  | [d1, d2, g1] => { results := [.lit (.bool true)], args := [d1, d2], vars := [g1] }
  | _ => none }
def fnExactRangeMulRow : OpenClaim := { program := "ytoimomfcdhmnbaadoor", sum := "b8690275f63bc791a176a5f00502c121686e77f41a48e0c845c8bc9517fbd4e0", func := "loop.example/g00093/laws.FnExactRangeMul", spec := "fnExactRangeMul", unfollowed := true, recurses := true, named := ["loop.example/g00093/impl.none"], apart := false, laid := [("loop.example/g00093/impl.none", laid_loop_example_g00093_impl_none)] }
def FnExactRangeMulSaid : Prop := fnExactRangeMulRow.holds Tryd.pinned (OpenSpec.ofChange fnExactRangeMulSpec)

/-- ITS FALSE NEIGHBOUR: 'it returns false'. Refute it at one input. -/
def fnExactRangeMulWrong : ChangeSpec := { name := "fnExactRangeMul", vars := ["loop.example/g00093/impl.none"], fn := fun _ => fun
  | [d1, d2, g1] => { results := [.lit (.bool false)], args := [d1, d2], vars := [g1] }
  | _ => none }
def FnExactRangeMulWrongFalsely : Prop := fnExactRangeMulRow.holds Tryd.pinned (OpenSpec.ofChange fnExactRangeMulWrong)

/- THE SECOND FORM. 'bulk': how many values and letters a reading holds, each counted each time it is reached (what is shared counts as often as it is met; a slice's spare places count too). A statement '..UptoSaid' is the law's where the arguments, and the package variables that the reading takes, are together of bulk at most 1048576: NARROWER than '..Said'. Prove '..Said' where nothing that the law and all that it calls make is longer than what came in: it says more and counts as full. Else prove '..UptoSaid'. A law counts once. -/
mutual
def uptoBulk {H : Type} : DataW H → Nat
  | .lit (.string bytes) => bytes.length + 1
  | .lit _ => 1
  | .nil => 1
  | .ptr d => uptoBulk d + 1
  | .slice elems spare => uptoBulkAll elems + uptoBulkAll spare + 1
  | .agg parts => uptoBulkAll parts + 1
  | .iface _ d => uptoBulk d + 1
  | .map entries => uptoBulkEntries entries + 1
  | .held _ => 1
def uptoBulkAll {H : Type} : List (DataW H) → Nat
  | [] => 0
  | d :: r => uptoBulk d + uptoBulkAll r
def uptoBulkEntries {H : Type} : List (Lit × DataW H) → Nat
  | [] => 0
  | x :: r => uptoBulkEntry x + uptoBulkEntries r
def uptoBulkEntry {H : Type} : Lit × DataW H → Nat
  | (.string bytes, d) => bytes.length + uptoBulk d + 1
  | (_, d) => uptoBulk d + 1
 end
def uptoSmall : (H : Type) → List (DataW H) → Bool := fun _ ds => decide (uptoBulkAll ds ≤ 1048576)
def OpenSpec.upto (s : _root_.Go.ChangeSpec) : _root_.Go.OpenSpec := { _root_.Go.OpenSpec.ofChange s with cond := some uptoSmall }

/-- 'laws.FnExactRangeNeg', WHERE WHAT IT READS IS OF BULK AT MOST 1048576: true; the input reads as it did. -/
def fnExactRangeNegUptoRow : OpenClaim := { program := "ytoimomfcdhmnbaadoor", sum := "b8690275f63bc791a176a5f00502c121686e77f41a48e0c845c8bc9517fbd4e0", func := "loop.example/g00093/laws.FnExactRangeNeg", spec := "fnExactRangeNeg", unfollowed := true, recurses := true, named := ["loop.example/g00093/impl.none"], apart := false, laid := [("loop.example/g00093/impl.none", laid_loop_example_g00093_impl_none)], narrowed := true }
def FnExactRangeNegUptoSaid : Prop := fnExactRangeNegUptoRow.holds Tryd.pinned (OpenSpec.upto fnExactRangeNegSpec)

/-- 'laws.FnExactRangeAdd', WHERE WHAT IT READS IS OF BULK AT MOST 1048576: true; the input reads as it did. -/
def fnExactRangeAddUptoRow : OpenClaim := { program := "ytoimomfcdhmnbaadoor", sum := "b8690275f63bc791a176a5f00502c121686e77f41a48e0c845c8bc9517fbd4e0", func := "loop.example/g00093/laws.FnExactRangeAdd", spec := "fnExactRangeAdd", unfollowed := true, recurses := true, named := ["loop.example/g00093/impl.none"], apart := false, laid := [("loop.example/g00093/impl.none", laid_loop_example_g00093_impl_none)], narrowed := true }
def FnExactRangeAddUptoSaid : Prop := fnExactRangeAddUptoRow.holds Tryd.pinned (OpenSpec.upto fnExactRangeAddSpec)

/-- 'laws.FnExactRangeMeet', WHERE WHAT IT READS IS OF BULK AT MOST 1048576: true; the input reads as it did. -/
def fnExactRangeMeetUptoRow : OpenClaim := { program := "ytoimomfcdhmnbaadoor", sum := "b8690275f63bc791a176a5f00502c121686e77f41a48e0c845c8bc9517fbd4e0", func := "loop.example/g00093/laws.FnExactRangeMeet", spec := "fnExactRangeMeet", unfollowed := true, recurses := true, named := ["loop.example/g00093/impl.none"], apart := false, laid := [("loop.example/g00093/impl.none", laid_loop_example_g00093_impl_none)], narrowed := true }
def FnExactRangeMeetUptoSaid : Prop := fnExactRangeMeetUptoRow.holds Tryd.pinned (OpenSpec.upto fnExactRangeMeetSpec)

/-- 'laws.FnExactRangeSub', WHERE WHAT IT READS IS OF BULK AT MOST 1048576: true; the input reads as it did. -/
def fnExactRangeSubUptoRow : OpenClaim := { program := "ytoimomfcdhmnbaadoor", sum := "b8690275f63bc791a176a5f00502c121686e77f41a48e0c845c8bc9517fbd4e0", func := "loop.example/g00093/laws.FnExactRangeSub", spec := "fnExactRangeSub", unfollowed := true, recurses := true, named := ["loop.example/g00093/impl.none"], apart := false, laid := [("loop.example/g00093/impl.none", laid_loop_example_g00093_impl_none)], narrowed := true }
def FnExactRangeSubUptoSaid : Prop := fnExactRangeSubUptoRow.holds Tryd.pinned (OpenSpec.upto fnExactRangeSubSpec)

/-- 'laws.FnExactValJoin', WHERE WHAT IT READS IS OF BULK AT MOST 1048576: true; the input reads as it did. -/
def fnExactValJoinUptoRow : OpenClaim := { program := "ytoimomfcdhmnbaadoor", sum := "b8690275f63bc791a176a5f00502c121686e77f41a48e0c845c8bc9517fbd4e0", func := "loop.example/g00093/laws.FnExactValJoin", spec := "fnExactValJoin", named := ["loop.example/g00093/impl.noCell", "loop.example/g00093/impl.none"], apart := false, laid := [("loop.example/g00093/impl.none", laid_loop_example_g00093_impl_none), ("loop.example/g00093/impl.noCell", laid_loop_example_g00093_impl_noCell)], narrowed := true }
def FnExactValJoinUptoSaid : Prop := fnExactValJoinUptoRow.holds Tryd.pinned (OpenSpec.upto fnExactValJoinSpec)

/-- 'laws.FnExactRangeMul', WHERE WHAT IT READS IS OF BULK AT MOST 1048576: true; the input reads as it did. -/
def fnExactRangeMulUptoRow : OpenClaim := { program := "ytoimomfcdhmnbaadoor", sum := "b8690275f63bc791a176a5f00502c121686e77f41a48e0c845c8bc9517fbd4e0", func := "loop.example/g00093/laws.FnExactRangeMul", spec := "fnExactRangeMul", unfollowed := true, recurses := true, named := ["loop.example/g00093/impl.none"], apart := false, laid := [("loop.example/g00093/impl.none", laid_loop_example_g00093_impl_none)], narrowed := true }
def FnExactRangeMulUptoSaid : Prop := fnExactRangeMulUptoRow.holds Tryd.pinned (OpenSpec.upto fnExactRangeMulSpec)

end Rows
end Go.Proofs.YtoimomfcdhmnbaaDoor
