/- What is left of the law FnExactRangeGuard, stated over numbers and lists alone: no proof in here. -/
import Derived.Test.YthkdkcdbjbihkaaDoorQx23
import Derived.Test.YthkdkcdbjbihkaaDoorQKinds
import Derived.Test.YthkdkcdbjbihkaaDoorQOpen
namespace Go.Proofs.YthkdkcdbjbihkaaDoor.Q
open Go.RowKit Go.Proofs.YthkdkcdbjbihkaaDoorW.PrintWords Go.Proofs.YthkdkcdbjbihkaaDoorW.PrintLast Go.Proofs.YthkdkcdbjbihkaaDoorW.PrintMore
open Go.Proofs.YthkdkcdbjbihkaaDoor.Open
/-- What is left of the law FnExactRangeGuard: over numbers and lists alone. -/
def laws_FnExactRangeGuard.Pure : Prop := ∀ (a0 : Int) (a1_0 : Int) (a1_1 : Int) (a2_0 : Int) (a2_1 : Int), (Lit.int .i64 a0).wf = true → (Lit.int .i64 a1_0).wf = true → (Lit.int .i64 a1_1).wf = true → (Lit.int .i64 a2_0).wf = true → (Lit.int .i64 a2_1).wf = true → ∃ k, laws_FnExactRangeGuard.f k a0 a1_0 a1_1 a2_0 a2_1 = some true
end Go.Proofs.YthkdkcdbjbihkaaDoor.Q
