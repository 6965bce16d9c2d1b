/- What is left of the law FnExactSymVal, stated over numbers and lists alone: no proof in here. -/
import Derived.Test.YtognjmgkbmmjjaaQx7
import Derived.Test.YtognjmgkbmmjjaaQKinds
import Derived.Test.YtognjmgkbmmjjaaQOpen
namespace Go.Proofs.Ytognjmgkbmmjjaa.Q
open Go.RowKit Go.Proofs.YtognjmgkbmmjjaaW.PrintWords Go.Proofs.YtognjmgkbmmjjaaW.PrintLast Go.Proofs.YtognjmgkbmmjjaaW.PrintMore
open Go.Proofs.Ytognjmgkbmmjjaa.Open
/-- What is left of the law FnExactSymVal: over numbers and lists alone. -/
def laws_FnExactSymVal.Pure : Prop := ∀ (a0_0 : Int) (a0_1 : Int) (l1 : List Int), (Lit.int .i64 a0_0).wf = true → (Lit.int .i64 a0_1).wf = true → FitL (fun x : Int => (Lit.int .i64 x).wf = true) l1 → ∃ k, laws_FnExactSymVal.f k a0_0 a0_1 l1 = some true
end Go.Proofs.Ytognjmgkbmmjjaa.Q
