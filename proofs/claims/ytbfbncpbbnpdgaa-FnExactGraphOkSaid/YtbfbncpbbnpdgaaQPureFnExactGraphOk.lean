/- What is left of the law FnExactGraphOk, stated over numbers and lists alone: no proof in here. -/
import Derived.Test.YtbfbncpbbnpdgaaQx10
import Derived.Test.YtbfbncpbbnpdgaaQKinds
import Derived.Test.YtbfbncpbbnpdgaaQOpen
namespace Go.Proofs.Ytbfbncpbbnpdgaa.Q
open Go.RowKit Go.Proofs.YtbfbncpbbnpdgaaW.PrintWords Go.Proofs.YtbfbncpbbnpdgaaW.PrintLast Go.Proofs.YtbfbncpbbnpdgaaW.PrintMore
open Go.Proofs.Ytbfbncpbbnpdgaa.Open
/-- What is left of the law FnExactGraphOk: over numbers and lists alone. -/
def laws_FnExactGraphOk.Pure : Prop := ∀ (a0_0 : Int) (l0_1 : List (S61)), (Lit.int .i64 a0_0).wf = true → FitL Fit61 l0_1 → ∃ k, laws_FnExactGraphOk.f k a0_0 l0_1 = some true
end Go.Proofs.Ytbfbncpbbnpdgaa.Q
