/- What is left of the law FnExactSegTop, stated over numbers and lists alone: no proof in here. -/
import Derived.Test.YtkmeihmfppcpaaaDoorQx12
import Derived.Test.YtkmeihmfppcpaaaDoorQKinds
import Derived.Test.YtkmeihmfppcpaaaDoorQOpen
namespace Go.Proofs.YtkmeihmfppcpaaaDoor.Q
open Go.RowKit Go.Proofs.YtkmeihmfppcpaaaDoorW.PrintWords Go.Proofs.YtkmeihmfppcpaaaDoorW.PrintLast Go.Proofs.YtkmeihmfppcpaaaDoorW.PrintMore
open Go.Proofs.YtkmeihmfppcpaaaDoor.Open
/-- What is left of the law FnExactSegTop: over numbers and lists alone. -/
def laws_FnExactSegTop.Pure : Prop := ∀ (a0 : Int) (a1 : Int) (a2_0 : Int) (a2_1 : Int) (a2_2 : Bool), (Lit.int .i64 a0).wf = true → (Lit.int .i64 a1).wf = true → (Lit.int .i64 a2_0).wf = true → (Lit.int .i64 a2_1).wf = true → ∃ k, laws_FnExactSegTop.f k a0 a1 a2_0 a2_1 a2_2 = some true
end Go.Proofs.YtkmeihmfppcpaaaDoor.Q
