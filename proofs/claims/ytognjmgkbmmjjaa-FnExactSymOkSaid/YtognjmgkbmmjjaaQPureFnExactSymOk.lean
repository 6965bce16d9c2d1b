/- What is left of the law FnExactSymOk, stated over numbers and lists alone: no proof in here. -/
import Derived.Test.YtognjmgkbmmjjaaQx3
import Derived.Test.YtognjmgkbmmjjaaQKinds
import Derived.Test.YtognjmgkbmmjjaaQOpen
namespace Go.Proofs.Ytognjmgkbmmjjaa.Q
open Go.RowKit Go.Proofs.YtognjmgkbmmjjaaW.PrintWords Go.Proofs.YtognjmgkbmmjjaaW.PrintLast Go.Proofs.YtognjmgkbmmjjaaW.PrintMore
open Go.Proofs.Ytognjmgkbmmjjaa.Open
/-- What is left of the law FnExactSymOk: over numbers and lists alone. -/
def laws_FnExactSymOk.Pure : Prop := ∀ (a0 : Int) (a1_0 : Int) (a1_1 : Int), (Lit.int .i64 a0).wf = true → (Lit.int .i64 a1_0).wf = true → (Lit.int .i64 a1_1).wf = true → laws_FnExactSymOk.f a0 a1_0 a1_1 = some true
end Go.Proofs.Ytognjmgkbmmjjaa.Q
