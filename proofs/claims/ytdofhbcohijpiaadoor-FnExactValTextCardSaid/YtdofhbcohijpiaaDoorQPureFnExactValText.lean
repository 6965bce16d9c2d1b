/- What is left of the law FnExactValText, stated over numbers and lists alone: no proof in here. -/
import Derived.Test.YtdofhbcohijpiaaDoorQx7
import Derived.Test.YtdofhbcohijpiaaDoorQKinds
import Derived.Test.YtdofhbcohijpiaaDoorQOpen
namespace Go.Proofs.YtdofhbcohijpiaaDoor.Q
open Go.RowKit Go.Proofs.YtdofhbcohijpiaaDoorW.PrintWords Go.Proofs.YtdofhbcohijpiaaDoorW.PrintLast Go.Proofs.YtdofhbcohijpiaaDoorW.PrintMore
open Go.Proofs.YtdofhbcohijpiaaDoor.Open
/-- What is left of the law FnExactValText: over numbers and lists alone. -/
def laws_FnExactValText.Pure : Prop := ∀ (a0_0 : Int) (a0_1 : Int) (a0_2 : Bool), (Lit.int .i64 a0_0).wf = true → (Lit.int .i64 a0_1).wf = true → ∃ k, laws_FnExactValText.f k a0_0 a0_1 a0_2 = some true
end Go.Proofs.YtdofhbcohijpiaaDoor.Q
