/- What is left of the law FnExactRangeHas, stated over numbers and lists alone: no proof in here. -/
import Derived.Test.YtognjmgkbmmjjaaDoorQx3
import Derived.Test.YtognjmgkbmmjjaaDoorQKinds
import Derived.Test.YtognjmgkbmmjjaaDoorQOpen
namespace Go.Proofs.YtognjmgkbmmjjaaDoor.Q
open Go.RowKit Go.Proofs.YtognjmgkbmmjjaaDoorW.PrintWords Go.Proofs.YtognjmgkbmmjjaaDoorW.PrintLast Go.Proofs.YtognjmgkbmmjjaaDoorW.PrintMore
open Go.Proofs.YtognjmgkbmmjjaaDoor.Open
/-- What is left of the law FnExactRangeHas: over numbers and lists alone. -/
def laws_FnExactRangeHas.Pure : Prop := ∀ (a0_0 : Int) (a0_1 : Int) (a1 : Int), (Lit.int .i64 a0_0).wf = true → (Lit.int .i64 a0_1).wf = true → (Lit.int .i64 a1).wf = true → laws_FnExactRangeHas.f a0_0 a0_1 a1 = some true
end Go.Proofs.YtognjmgkbmmjjaaDoor.Q
