/- What is left of the law FnExactValHas, stated over numbers and lists alone: no proof in here. -/
import Derived.Test.YtognjmgkbmmjjaaDoorQx8
import Derived.Test.YtognjmgkbmmjjaaDoorQKinds
import Derived.Test.YtognjmgkbmmjjaaDoorQOpen
namespace Go.Proofs.YtognjmgkbmmjjaaDoor.Q
open Go.RowKit Go.Proofs.YtognjmgkbmmjjaaDoorW.PrintWords Go.Proofs.YtognjmgkbmmjjaaDoorW.PrintLast Go.Proofs.YtognjmgkbmmjjaaDoorW.PrintMore
open Go.Proofs.YtognjmgkbmmjjaaDoor.Open
/-- What is left of the law FnExactValHas: over numbers and lists alone. -/
def laws_FnExactValHas.Pure : Prop := ∀ (a0_0 : Int) (a0_1 : Int) (a0_2 : Bool) (a1_0 : Bool) (a1_1 : Int), (Lit.int .i64 a0_0).wf = true → (Lit.int .i64 a0_1).wf = true → (Lit.int .i64 a1_1).wf = true → laws_FnExactValHas.f a0_0 a0_1 a0_2 a1_0 a1_1 = some true
end Go.Proofs.YtognjmgkbmmjjaaDoor.Q
