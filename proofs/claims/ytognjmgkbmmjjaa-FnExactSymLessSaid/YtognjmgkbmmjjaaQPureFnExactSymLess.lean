/- What is left of the law FnExactSymLess, stated over numbers and lists alone: no proof in here. -/
import Derived.Test.YtognjmgkbmmjjaaQx2
import Derived.Test.YtognjmgkbmmjjaaQKinds
import Derived.Test.YtognjmgkbmmjjaaQOpen
namespace Go.Proofs.Ytognjmgkbmmjjaa.Q
open Go.RowKit Go.Proofs.YtognjmgkbmmjjaaW.PrintWords Go.Proofs.YtognjmgkbmmjjaaW.PrintLast Go.Proofs.YtognjmgkbmmjjaaW.PrintMore
open Go.Proofs.Ytognjmgkbmmjjaa.Open
/-- What is left of the law FnExactSymLess: over numbers and lists alone. -/
def laws_FnExactSymLess.Pure : Prop := ∀ (a0_0 : Int) (a0_1 : Int) (a1_0 : Int) (a1_1 : Int), (Lit.int .i64 a0_0).wf = true → (Lit.int .i64 a0_1).wf = true → (Lit.int .i64 a1_0).wf = true → (Lit.int .i64 a1_1).wf = true → laws_FnExactSymLess.f a0_0 a0_1 a1_0 a1_1 = some true
end Go.Proofs.Ytognjmgkbmmjjaa.Q
