/- What is left of the law FnExactRangeText, stated over numbers and lists alone: no proof in here. -/
import Derived.Test.YtdofhbcohijpiaaDoorQx6
import Derived.Test.YtdofhbcohijpiaaDoorQKinds
import Derived.Test.YtdofhbcohijpiaaDoorQOpen
namespace Go.Proofs.YtdofhbcohijpiaaDoor.Q
open Go.RowKit Go.Proofs.YtdofhbcohijpiaaDoorW.PrintWords Go.Proofs.YtdofhbcohijpiaaDoorW.PrintLast Go.Proofs.YtdofhbcohijpiaaDoorW.PrintMore
open Go.Proofs.YtdofhbcohijpiaaDoor.Open
/-- What is left of the law FnExactRangeText: over numbers and lists alone. -/
def laws_FnExactRangeText.Pure : Prop := ∀ (a0_0 : Int) (a0_1 : Int), (Lit.int .i64 a0_0).wf = true → (Lit.int .i64 a0_1).wf = true → ∃ k, laws_FnExactRangeText.f k a0_0 a0_1 = some true
end Go.Proofs.YtdofhbcohijpiaaDoor.Q
