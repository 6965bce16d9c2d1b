/-
  No cell of these rows narrows 'for every input' (looked for: loops, veiled, ifaces, maps, wideKeys, modest, calm, conditions, laid).
  DERIVED. THE GIVEN ROWS OF THIS SEAT. 4 by the template 'for every input the law returns true; each argument reads behind the call as it read before'; 0 by the template 'total and deterministic' (their statements: YtognjmgkbmmjjaaTotals.lean).
  GIVEN WITH THE SEED: the statements are not yours to turn. If you find one false, say at which input.
  Laid BY PROGRAM, IN A SANDBOX (cutbox-rows.mjs): the forced cells as the released guide's own fill.sh prints them over the translation f9dcfce47a16c28a… (all of the seat's roots in one cut). By AI agents, Wed Nov 11 2026. No macro, syntax, notation, axiom, sorry.
-/
import Derived.Test.YtognjmgkbmmjjaaChecked
import GoSem.Claim
import GoSem.ClaimJoined
import GoSem.ClaimMapViews
import Derived.JoinedTies
import Derived.KernelRfl
namespace Go.Proofs.Ytognjmgkbmmjjaa
/- THE CELL 'sum', in the pinned program and in every row, IS THE sha256 OF THE DUMP (.gsa) THAT YtognjmgkbmmjjaaProg.lean LOADS. Nothing in Lean hashes anything: it is a label: what it is worth is what the hold of that sum in a sandbox is worth. -/
noncomputable def Try.pinned : Pinned := { name := "ytognjmgkbmmjjaa", sum := "f9dcfce47a16c28af054d7fa7dbd50787472e88012b06ddddbb9ed5d75c1412a", checked := Try.checked }
namespace Rows
def none {H : Type} : Left H := { results := [], args := [] }

/-- 'laws.FnExactConstants': WHATEVER THE INPUT: true; the input reads as it did. -/
def fnExactConstantsSpec : ChangeSpec := { name := "fnExactConstants", fn := fun _ => fun
  | [] => { results := [.lit (.bool true)], args := [] }
  | _ => none }
def fnExactConstantsRow : OpenClaim := { program := "ytognjmgkbmmjjaa", sum := "f9dcfce47a16c28af054d7fa7dbd50787472e88012b06ddddbb9ed5d75c1412a", func := "loop.example/g00093/laws.FnExactConstants", spec := "fnExactConstants", apart := false }
def FnExactConstantsSaid : Prop := fnExactConstantsRow.holds Try.pinned (OpenSpec.ofChange fnExactConstantsSpec)

/-- ITS FALSE NEIGHBOUR: 'it returns false'. Refute it at one input. -/
def fnExactConstantsWrong : ChangeSpec := { name := "fnExactConstants", fn := fun _ => fun
  | [] => { results := [.lit (.bool false)], args := [] }
  | _ => none }
def FnExactConstantsWrongFalsely : Prop := fnExactConstantsRow.holds Try.pinned (OpenSpec.ofChange fnExactConstantsWrong)

/-- 'laws.FnExactSymLess': WHATEVER THE INPUT: true; the input reads as it did. -/
def fnExactSymLessSpec : ChangeSpec := { name := "fnExactSymLess", fn := fun _ => fun
  | [d1, d2] => { results := [.lit (.bool true)], args := [d1, d2] }
  | _ => none }
def fnExactSymLessRow : OpenClaim := { program := "ytognjmgkbmmjjaa", sum := "f9dcfce47a16c28af054d7fa7dbd50787472e88012b06ddddbb9ed5d75c1412a", func := "loop.example/g00093/laws.FnExactSymLess", spec := "fnExactSymLess", apart := false }
def FnExactSymLessSaid : Prop := fnExactSymLessRow.holds Try.pinned (OpenSpec.ofChange fnExactSymLessSpec)

/-- ITS FALSE NEIGHBOUR: 'it returns false'. Refute it at one input. -/
def fnExactSymLessWrong : ChangeSpec := { name := "fnExactSymLess", fn := fun _ => fun
  | [d1, d2] => { results := [.lit (.bool false)], args := [d1, d2] }
  | _ => none }
def FnExactSymLessWrongFalsely : Prop := fnExactSymLessRow.holds Try.pinned (OpenSpec.ofChange fnExactSymLessWrong)

/-- 'laws.FnExactSymOk': WHATEVER THE INPUT: true; the input reads as it did. -/
def fnExactSymOkSpec : ChangeSpec := { name := "fnExactSymOk", fn := fun _ => fun
  | [d1, d2] => { results := [.lit (.bool true)], args := [d1, d2] }
  | _ => none }
def fnExactSymOkRow : OpenClaim := { program := "ytognjmgkbmmjjaa", sum := "f9dcfce47a16c28af054d7fa7dbd50787472e88012b06ddddbb9ed5d75c1412a", func := "loop.example/g00093/laws.FnExactSymOk", spec := "fnExactSymOk", apart := false }
def FnExactSymOkSaid : Prop := fnExactSymOkRow.holds Try.pinned (OpenSpec.ofChange fnExactSymOkSpec)

/-- ITS FALSE NEIGHBOUR: 'it returns false'. Refute it at one input. -/
def fnExactSymOkWrong : ChangeSpec := { name := "fnExactSymOk", fn := fun _ => fun
  | [d1, d2] => { results := [.lit (.bool false)], args := [d1, d2] }
  | _ => none }
def FnExactSymOkWrongFalsely : Prop := fnExactSymOkRow.holds Try.pinned (OpenSpec.ofChange fnExactSymOkWrong)

/-- 'laws.FnExactSymVal': WHATEVER THE INPUT: true; the input reads as it did. -/
def fnExactSymValSpec : ChangeSpec := { name := "fnExactSymVal", fn := fun _ => fun
  | [d1, d2] => { results := [.lit (.bool true)], args := [d1, d2] }
  | _ => none }
def fnExactSymValRow : OpenClaim := { program := "ytognjmgkbmmjjaa", sum := "f9dcfce47a16c28af054d7fa7dbd50787472e88012b06ddddbb9ed5d75c1412a", func := "loop.example/g00093/laws.FnExactSymVal", spec := "fnExactSymVal", unfollowed := true, recurses := true, apart := false }
def FnExactSymValSaid : Prop := fnExactSymValRow.holds Try.pinned (OpenSpec.ofChange fnExactSymValSpec)

/-- ITS FALSE NEIGHBOUR: 'it returns false'. Refute it at one input. -/
def fnExactSymValWrong : ChangeSpec := { name := "fnExactSymVal", fn := fun _ => fun
  | [d1, d2] => { results := [.lit (.bool false)], args := [d1, d2] }
  | _ => none }
def FnExactSymValWrongFalsely : Prop := fnExactSymValRow.holds Try.pinned (OpenSpec.ofChange fnExactSymValWrong)

/- THE SECOND FORM. 'bulk': how many values and letters a reading holds, each counted each time it is reached (what is shared counts as often as it is met; a slice's spare places count too). A statement '..UptoSaid' is the law's where the arguments, and the package variables that the reading takes, are together of bulk at most 1048576: NARROWER than '..Said'. Prove '..Said' where nothing that the law and all that it calls make is longer than what came in: it says more and counts as full. Else prove '..UptoSaid'. A law counts once. -/
mutual
def uptoBulk {H : Type} : DataW H → Nat
  | .lit (.string bytes) => bytes.length + 1
  | .lit _ => 1
  | .nil => 1
  | .ptr d => uptoBulk d + 1
  | .slice elems spare => uptoBulkAll elems + uptoBulkAll spare + 1
  | .agg parts => uptoBulkAll parts + 1
  | .iface _ d => uptoBulk d + 1
  | .map entries => uptoBulkEntries entries + 1
  | .held _ => 1
def uptoBulkAll {H : Type} : List (DataW H) → Nat
  | [] => 0
  | d :: r => uptoBulk d + uptoBulkAll r
def uptoBulkEntries {H : Type} : List (Lit × DataW H) → Nat
  | [] => 0
  | x :: r => uptoBulkEntry x + uptoBulkEntries r
def uptoBulkEntry {H : Type} : Lit × DataW H → Nat
  | (.string bytes, d) => bytes.length + uptoBulk d + 1
  | (_, d) => uptoBulk d + 1
 end
def uptoSmall : (H : Type) → List (DataW H) → Bool := fun _ ds => decide (uptoBulkAll ds ≤ 1048576)
def OpenSpec.upto (s : _root_.Go.ChangeSpec) : _root_.Go.OpenSpec := { _root_.Go.OpenSpec.ofChange s with cond := some uptoSmall }

/-- 'laws.FnExactConstants', WHERE WHAT IT READS IS OF BULK AT MOST 1048576: true; the input reads as it did. -/
def fnExactConstantsUptoRow : OpenClaim := { program := "ytognjmgkbmmjjaa", sum := "f9dcfce47a16c28af054d7fa7dbd50787472e88012b06ddddbb9ed5d75c1412a", func := "loop.example/g00093/laws.FnExactConstants", spec := "fnExactConstants", apart := false, narrowed := true }
def FnExactConstantsUptoSaid : Prop := fnExactConstantsUptoRow.holds Try.pinned (OpenSpec.upto fnExactConstantsSpec)

/-- 'laws.FnExactSymLess', WHERE WHAT IT READS IS OF BULK AT MOST 1048576: true; the input reads as it did. -/
def fnExactSymLessUptoRow : OpenClaim := { program := "ytognjmgkbmmjjaa", sum := "f9dcfce47a16c28af054d7fa7dbd50787472e88012b06ddddbb9ed5d75c1412a", func := "loop.example/g00093/laws.FnExactSymLess", spec := "fnExactSymLess", apart := false, narrowed := true }
def FnExactSymLessUptoSaid : Prop := fnExactSymLessUptoRow.holds Try.pinned (OpenSpec.upto fnExactSymLessSpec)

/-- 'laws.FnExactSymOk', WHERE WHAT IT READS IS OF BULK AT MOST 1048576: true; the input reads as it did. -/
def fnExactSymOkUptoRow : OpenClaim := { program := "ytognjmgkbmmjjaa", sum := "f9dcfce47a16c28af054d7fa7dbd50787472e88012b06ddddbb9ed5d75c1412a", func := "loop.example/g00093/laws.FnExactSymOk", spec := "fnExactSymOk", apart := false, narrowed := true }
def FnExactSymOkUptoSaid : Prop := fnExactSymOkUptoRow.holds Try.pinned (OpenSpec.upto fnExactSymOkSpec)

/-- 'laws.FnExactSymVal', WHERE WHAT IT READS IS OF BULK AT MOST 1048576: true; the input reads as it did. -/
def fnExactSymValUptoRow : OpenClaim := { program := "ytognjmgkbmmjjaa", sum := "f9dcfce47a16c28af054d7fa7dbd50787472e88012b06ddddbb9ed5d75c1412a", func := "loop.example/g00093/laws.FnExactSymVal", spec := "fnExactSymVal", unfollowed := true, recurses := true, apart := false, narrowed := true }
def FnExactSymValUptoSaid : Prop := fnExactSymValUptoRow.holds Try.pinned (OpenSpec.upto fnExactSymValSpec)

end Rows
end Go.Proofs.Ytognjmgkbmmjjaa
