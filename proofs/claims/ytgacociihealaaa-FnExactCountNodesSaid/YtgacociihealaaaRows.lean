/-
  NARROWER THAN 'FOR EVERY INPUT', by the rows' own cells (each row's printed sentence says how): FnExactCountNodes: loops · FnExactDepthOf: loops · FnExactGraphOk: loops · FnExactHeadsOf: loops · FnExactNestOf: loops.
  DERIVED. THE GIVEN ROWS OF THIS SEAT. 8 by the template 'for every input the law returns true; each argument reads behind the call as it read before'; 0 by the template 'total and deterministic' (their statements: YtgacociihealaaaTotals.lean).
  GIVEN WITH THE SEED: the statements are not yours to turn. If you find one false, say at which input.
  Laid BY PROGRAM, IN A SANDBOX (cutbox-rows.mjs): the forced cells as the released guide's own fill.sh prints them over the translation 5912ec29c162ec3c… (all of the seat's roots in one cut). By AI agents, Wed Nov 11 2026. No macro, syntax, notation, axiom, sorry.
-/
import Derived.Test.YtgacociihealaaaChecked
import GoSem.Claim
import GoSem.ClaimJoined
import GoSem.ClaimMapViews
import Derived.JoinedTies
import Derived.KernelRfl
namespace Go.Proofs.Ytgacociihealaaa
/- THE CELL 'sum', in the pinned program and in every row, IS THE sha256 OF THE DUMP (.gsa) THAT YtgacociihealaaaProg.lean LOADS. Nothing in Lean hashes anything: it is a label: what it is worth is what the hold of that sum in a sandbox is worth. -/
noncomputable def Try.pinned : Pinned := { name := "ytgacociihealaaa", sum := "5912ec29c162ec3c39a44cec226dfc3a557a761467460a0310df7049bc5e0f01", checked := Try.checked }
namespace Rows
def none {H : Type} : Left H := { results := [], args := [] }

/-- 'laws.FnExactCountNodes': WHATEVER THE INPUT: true; the input reads as it did. -/
def fnExactCountNodesSpec : ChangeSpec := { name := "fnExactCountNodes", fn := fun _ => fun
  | [d] => { results := [.lit (.bool true)], args := [d] }
  | _ => none }
def fnExactCountNodesRow : OpenClaim := { program := "ytgacociihealaaa", sum := "5912ec29c162ec3c39a44cec226dfc3a557a761467460a0310df7049bc5e0f01", func := "loop.example/g00093/laws.FnExactCountNodes", spec := "fnExactCountNodes", recurses := true, loops := true, apart := false }
def FnExactCountNodesSaid : Prop := fnExactCountNodesRow.holds Try.pinned (OpenSpec.ofChange fnExactCountNodesSpec)

/-- ITS FALSE NEIGHBOUR: 'it returns false'. Refute it at one input. -/
def fnExactCountNodesWrong : ChangeSpec := { name := "fnExactCountNodes", fn := fun _ => fun
  | [d] => { results := [.lit (.bool false)], args := [d] }
  | _ => none }
def FnExactCountNodesWrongFalsely : Prop := fnExactCountNodesRow.holds Try.pinned (OpenSpec.ofChange fnExactCountNodesWrong)

/-- 'laws.FnExactDepthOf': WHATEVER THE INPUT: true; the input reads as it did. -/
def fnExactDepthOfSpec : ChangeSpec := { name := "fnExactDepthOf", fn := fun _ => fun
  | [d] => { results := [.lit (.bool true)], args := [d] }
  | _ => none }
def fnExactDepthOfRow : OpenClaim := { program := "ytgacociihealaaa", sum := "5912ec29c162ec3c39a44cec226dfc3a557a761467460a0310df7049bc5e0f01", func := "loop.example/g00093/laws.FnExactDepthOf", spec := "fnExactDepthOf", recurses := true, loops := true, apart := false }
def FnExactDepthOfSaid : Prop := fnExactDepthOfRow.holds Try.pinned (OpenSpec.ofChange fnExactDepthOfSpec)

/-- ITS FALSE NEIGHBOUR: 'it returns false'. Refute it at one input. -/
def fnExactDepthOfWrong : ChangeSpec := { name := "fnExactDepthOf", fn := fun _ => fun
  | [d] => { results := [.lit (.bool false)], args := [d] }
  | _ => none }
def FnExactDepthOfWrongFalsely : Prop := fnExactDepthOfRow.holds Try.pinned (OpenSpec.ofChange fnExactDepthOfWrong)

/-- 'laws.FnExactFactsOk': WHATEVER THE INPUT: true; the input reads as it did. -/
def fnExactFactsOkSpec : ChangeSpec := { name := "fnExactFactsOk", fn := fun _ => fun
  | [d] => { results := [.lit (.bool true)], args := [d] }
  | _ => none }
def fnExactFactsOkRow : OpenClaim := { program := "ytgacociihealaaa", sum := "5912ec29c162ec3c39a44cec226dfc3a557a761467460a0310df7049bc5e0f01", func := "loop.example/g00093/laws.FnExactFactsOk", spec := "fnExactFactsOk", apart := false }
def FnExactFactsOkSaid : Prop := fnExactFactsOkRow.holds Try.pinned (OpenSpec.ofChange fnExactFactsOkSpec)

/-- ITS FALSE NEIGHBOUR: 'it returns false'. Refute it at one input. -/
def fnExactFactsOkWrong : ChangeSpec := { name := "fnExactFactsOk", fn := fun _ => fun
  | [d] => { results := [.lit (.bool false)], args := [d] }
  | _ => none }
def FnExactFactsOkWrongFalsely : Prop := fnExactFactsOkRow.holds Try.pinned (OpenSpec.ofChange fnExactFactsOkWrong)

/-- 'laws.FnExactFactsTop': WHATEVER THE INPUT: true; the input reads as it did. -/
def fnExactFactsTopSpec : ChangeSpec := { name := "fnExactFactsTop", fn := fun _ => fun
  | [d] => { results := [.lit (.bool true)], args := [d] }
  | _ => none }
def fnExactFactsTopRow : OpenClaim := { program := "ytgacociihealaaa", sum := "5912ec29c162ec3c39a44cec226dfc3a557a761467460a0310df7049bc5e0f01", func := "loop.example/g00093/laws.FnExactFactsTop", spec := "fnExactFactsTop", apart := false }
def FnExactFactsTopSaid : Prop := fnExactFactsTopRow.holds Try.pinned (OpenSpec.ofChange fnExactFactsTopSpec)

/-- ITS FALSE NEIGHBOUR: 'it returns false'. Refute it at one input. -/
def fnExactFactsTopWrong : ChangeSpec := { name := "fnExactFactsTop", fn := fun _ => fun
  | [d] => { results := [.lit (.bool false)], args := [d] }
  | _ => none }
def FnExactFactsTopWrongFalsely : Prop := fnExactFactsTopRow.holds Try.pinned (OpenSpec.ofChange fnExactFactsTopWrong)

/-- 'laws.FnExactFactsHas': WHATEVER THE INPUT: true; the input reads as it did. -/
def fnExactFactsHasSpec : ChangeSpec := { name := "fnExactFactsHas", fn := fun _ => fun
  | [d1, d2] => { results := [.lit (.bool true)], args := [d1, d2] }
  | _ => none }
def fnExactFactsHasRow : OpenClaim := { program := "ytgacociihealaaa", sum := "5912ec29c162ec3c39a44cec226dfc3a557a761467460a0310df7049bc5e0f01", func := "loop.example/g00093/laws.FnExactFactsHas", spec := "fnExactFactsHas", unfollowed := true, recurses := true, apart := false }
def FnExactFactsHasSaid : Prop := fnExactFactsHasRow.holds Try.pinned (OpenSpec.ofChange fnExactFactsHasSpec)

/-- ITS FALSE NEIGHBOUR: 'it returns false'. Refute it at one input. -/
def fnExactFactsHasWrong : ChangeSpec := { name := "fnExactFactsHas", fn := fun _ => fun
  | [d1, d2] => { results := [.lit (.bool false)], args := [d1, d2] }
  | _ => none }
def FnExactFactsHasWrongFalsely : Prop := fnExactFactsHasRow.holds Try.pinned (OpenSpec.ofChange fnExactFactsHasWrong)

/-- 'laws.FnExactGraphOk': WHATEVER THE INPUT: true; the input reads as it did. -/
def fnExactGraphOkSpec : ChangeSpec := { name := "fnExactGraphOk", fn := fun _ => fun
  | [d] => { results := [.lit (.bool true)], args := [d] }
  | _ => none }
def fnExactGraphOkRow : OpenClaim := { program := "ytgacociihealaaa", sum := "5912ec29c162ec3c39a44cec226dfc3a557a761467460a0310df7049bc5e0f01", func := "loop.example/g00093/laws.FnExactGraphOk", spec := "fnExactGraphOk", unfollowed := true, recurses := true, loops := true, apart := false }
def FnExactGraphOkSaid : Prop := fnExactGraphOkRow.holds Try.pinned (OpenSpec.ofChange fnExactGraphOkSpec)

/-- ITS FALSE NEIGHBOUR: 'it returns false'. Refute it at one input. -/
def fnExactGraphOkWrong : ChangeSpec := { name := "fnExactGraphOk", fn := fun _ => fun
  | [d] => { results := [.lit (.bool false)], args := [d] }
  | _ => none }
def FnExactGraphOkWrongFalsely : Prop := fnExactGraphOkRow.holds Try.pinned (OpenSpec.ofChange fnExactGraphOkWrong)

/-- 'laws.FnExactHeadsOf': WHATEVER THE INPUT: true; the input reads as it did. -/
def fnExactHeadsOfSpec : ChangeSpec := { name := "fnExactHeadsOf", fn := fun _ => fun
  | [d] => { results := [.lit (.bool true)], args := [d] }
  | _ => none }
def fnExactHeadsOfRow : OpenClaim := { program := "ytgacociihealaaa", sum := "5912ec29c162ec3c39a44cec226dfc3a557a761467460a0310df7049bc5e0f01", func := "loop.example/g00093/laws.FnExactHeadsOf", spec := "fnExactHeadsOf", unfollowed := true, recurses := true, loops := true, apart := false }
def FnExactHeadsOfSaid : Prop := fnExactHeadsOfRow.holds Try.pinned (OpenSpec.ofChange fnExactHeadsOfSpec)

/-- ITS FALSE NEIGHBOUR: 'it returns false'. Refute it at one input. -/
def fnExactHeadsOfWrong : ChangeSpec := { name := "fnExactHeadsOf", fn := fun _ => fun
  | [d] => { results := [.lit (.bool false)], args := [d] }
  | _ => none }
def FnExactHeadsOfWrongFalsely : Prop := fnExactHeadsOfRow.holds Try.pinned (OpenSpec.ofChange fnExactHeadsOfWrong)

/-- 'laws.FnExactNestOf': WHATEVER THE INPUT: true; the input reads as it did. -/
def fnExactNestOfSpec : ChangeSpec := { name := "fnExactNestOf", fn := fun _ => fun
  | [d] => { results := [.lit (.bool true)], args := [d] }
  | _ => none }
def fnExactNestOfRow : OpenClaim := { program := "ytgacociihealaaa", sum := "5912ec29c162ec3c39a44cec226dfc3a557a761467460a0310df7049bc5e0f01", func := "loop.example/g00093/laws.FnExactNestOf", spec := "fnExactNestOf", unfollowed := true, recurses := true, loops := true, apart := false }
def FnExactNestOfSaid : Prop := fnExactNestOfRow.holds Try.pinned (OpenSpec.ofChange fnExactNestOfSpec)

/-- ITS FALSE NEIGHBOUR: 'it returns false'. Refute it at one input. -/
def fnExactNestOfWrong : ChangeSpec := { name := "fnExactNestOf", fn := fun _ => fun
  | [d] => { results := [.lit (.bool false)], args := [d] }
  | _ => none }
def FnExactNestOfWrongFalsely : Prop := fnExactNestOfRow.holds Try.pinned (OpenSpec.ofChange fnExactNestOfWrong)

/- THE SECOND FORM. 'bulk': how many values and letters a reading holds, each counted each time it is reached (what is shared counts as often as it is met; a slice's spare places count too). A statement '..UptoSaid' is the law's where the arguments, and the package variables that the reading takes, are together of bulk at most 1048576: NARROWER than '..Said'. Prove '..Said' where nothing that the law and all that it calls make is longer than what came in: it says more and counts as full. Else prove '..UptoSaid'. A law counts once. -/
mutual
def uptoBulk {H : Type} : DataW H → Nat
  | .lit (.string bytes) => bytes.length + 1
  | .lit _ => 1
  | .nil => 1
  | .ptr d => uptoBulk d + 1
  | .slice elems spare => uptoBulkAll elems + uptoBulkAll spare + 1
  | .agg parts => uptoBulkAll parts + 1
  | .iface _ d => uptoBulk d + 1
  | .map entries => uptoBulkEntries entries + 1
  | .held _ => 1
def uptoBulkAll {H : Type} : List (DataW H) → Nat
  | [] => 0
  | d :: r => uptoBulk d + uptoBulkAll r
def uptoBulkEntries {H : Type} : List (Lit × DataW H) → Nat
  | [] => 0
  | x :: r => uptoBulkEntry x + uptoBulkEntries r
def uptoBulkEntry {H : Type} : Lit × DataW H → Nat
  | (.string bytes, d) => bytes.length + uptoBulk d + 1
  | (_, d) => uptoBulk d + 1
 end
def uptoSmall : (H : Type) → List (DataW H) → Bool := fun _ ds => decide (uptoBulkAll ds ≤ 1048576)
def OpenSpec.upto (s : _root_.Go.ChangeSpec) : _root_.Go.OpenSpec := { _root_.Go.OpenSpec.ofChange s with cond := some uptoSmall }

/-- 'laws.FnExactCountNodes', WHERE WHAT IT READS IS OF BULK AT MOST 1048576: true; the input reads as it did. -/
def fnExactCountNodesUptoRow : OpenClaim := { program := "ytgacociihealaaa", sum := "5912ec29c162ec3c39a44cec226dfc3a557a761467460a0310df7049bc5e0f01", func := "loop.example/g00093/laws.FnExactCountNodes", spec := "fnExactCountNodes", recurses := true, loops := true, apart := false, narrowed := true }
def FnExactCountNodesUptoSaid : Prop := fnExactCountNodesUptoRow.holds Try.pinned (OpenSpec.upto fnExactCountNodesSpec)

/-- 'laws.FnExactDepthOf', WHERE WHAT IT READS IS OF BULK AT MOST 1048576: true; the input reads as it did. -/
def fnExactDepthOfUptoRow : OpenClaim := { program := "ytgacociihealaaa", sum := "5912ec29c162ec3c39a44cec226dfc3a557a761467460a0310df7049bc5e0f01", func := "loop.example/g00093/laws.FnExactDepthOf", spec := "fnExactDepthOf", recurses := true, loops := true, apart := false, narrowed := true }
def FnExactDepthOfUptoSaid : Prop := fnExactDepthOfUptoRow.holds Try.pinned (OpenSpec.upto fnExactDepthOfSpec)

/-- 'laws.FnExactFactsOk', WHERE WHAT IT READS IS OF BULK AT MOST 1048576: true; the input reads as it did. -/
def fnExactFactsOkUptoRow : OpenClaim := { program := "ytgacociihealaaa", sum := "5912ec29c162ec3c39a44cec226dfc3a557a761467460a0310df7049bc5e0f01", func := "loop.example/g00093/laws.FnExactFactsOk", spec := "fnExactFactsOk", apart := false, narrowed := true }
def FnExactFactsOkUptoSaid : Prop := fnExactFactsOkUptoRow.holds Try.pinned (OpenSpec.upto fnExactFactsOkSpec)

/-- 'laws.FnExactFactsTop', WHERE WHAT IT READS IS OF BULK AT MOST 1048576: true; the input reads as it did. -/
def fnExactFactsTopUptoRow : OpenClaim := { program := "ytgacociihealaaa", sum := "5912ec29c162ec3c39a44cec226dfc3a557a761467460a0310df7049bc5e0f01", func := "loop.example/g00093/laws.FnExactFactsTop", spec := "fnExactFactsTop", apart := false, narrowed := true }
def FnExactFactsTopUptoSaid : Prop := fnExactFactsTopUptoRow.holds Try.pinned (OpenSpec.upto fnExactFactsTopSpec)

/-- 'laws.FnExactFactsHas', WHERE WHAT IT READS IS OF BULK AT MOST 1048576: true; the input reads as it did. -/
def fnExactFactsHasUptoRow : OpenClaim := { program := "ytgacociihealaaa", sum := "5912ec29c162ec3c39a44cec226dfc3a557a761467460a0310df7049bc5e0f01", func := "loop.example/g00093/laws.FnExactFactsHas", spec := "fnExactFactsHas", unfollowed := true, recurses := true, apart := false, narrowed := true }
def FnExactFactsHasUptoSaid : Prop := fnExactFactsHasUptoRow.holds Try.pinned (OpenSpec.upto fnExactFactsHasSpec)

/-- 'laws.FnExactGraphOk', WHERE WHAT IT READS IS OF BULK AT MOST 1048576: true; the input reads as it did. -/
def fnExactGraphOkUptoRow : OpenClaim := { program := "ytgacociihealaaa", sum := "5912ec29c162ec3c39a44cec226dfc3a557a761467460a0310df7049bc5e0f01", func := "loop.example/g00093/laws.FnExactGraphOk", spec := "fnExactGraphOk", unfollowed := true, recurses := true, loops := true, apart := false, narrowed := true }
def FnExactGraphOkUptoSaid : Prop := fnExactGraphOkUptoRow.holds Try.pinned (OpenSpec.upto fnExactGraphOkSpec)

/-- 'laws.FnExactHeadsOf', WHERE WHAT IT READS IS OF BULK AT MOST 1048576: true; the input reads as it did. -/
def fnExactHeadsOfUptoRow : OpenClaim := { program := "ytgacociihealaaa", sum := "5912ec29c162ec3c39a44cec226dfc3a557a761467460a0310df7049bc5e0f01", func := "loop.example/g00093/laws.FnExactHeadsOf", spec := "fnExactHeadsOf", unfollowed := true, recurses := true, loops := true, apart := false, narrowed := true }
def FnExactHeadsOfUptoSaid : Prop := fnExactHeadsOfUptoRow.holds Try.pinned (OpenSpec.upto fnExactHeadsOfSpec)

/-- 'laws.FnExactNestOf', WHERE WHAT IT READS IS OF BULK AT MOST 1048576: true; the input reads as it did. -/
def fnExactNestOfUptoRow : OpenClaim := { program := "ytgacociihealaaa", sum := "5912ec29c162ec3c39a44cec226dfc3a557a761467460a0310df7049bc5e0f01", func := "loop.example/g00093/laws.FnExactNestOf", spec := "fnExactNestOf", unfollowed := true, recurses := true, loops := true, apart := false, narrowed := true }
def FnExactNestOfUptoSaid : Prop := fnExactNestOfUptoRow.holds Try.pinned (OpenSpec.upto fnExactNestOfSpec)

end Rows
end Go.Proofs.Ytgacociihealaaa
