/- What is left of the law FnExactValWiden, stated over numbers and lists alone: no proof in here. -/
import Derived.Test.YthkdkcdbjbihkaaDoorQx15
import Derived.Test.YthkdkcdbjbihkaaDoorQKinds
import Derived.Test.YthkdkcdbjbihkaaDoorQOpen
namespace Go.Proofs.YthkdkcdbjbihkaaDoor.Q
open Go.RowKit Go.Proofs.YthkdkcdbjbihkaaDoorW.PrintWords Go.Proofs.YthkdkcdbjbihkaaDoorW.PrintLast Go.Proofs.YthkdkcdbjbihkaaDoorW.PrintMore
open Go.Proofs.YthkdkcdbjbihkaaDoor.Open
/-- What is left of the law FnExactValWiden: over numbers and lists alone. -/
def laws_FnExactValWiden.Pure : Prop := ∀ (a0_0 : Int) (a0_1 : Int) (a0_2 : Bool) (a1_0 : Int) (a1_1 : Int) (a1_2 : Bool) (l2 : List Int), (Lit.int .i64 a0_0).wf = true → (Lit.int .i64 a0_1).wf = true → (Lit.int .i64 a1_0).wf = true → (Lit.int .i64 a1_1).wf = true → FitL (fun x : Int => (Lit.int .i64 x).wf = true) l2 → ∃ k, laws_FnExactValWiden.f k a0_0 a0_1 a0_2 a1_0 a1_1 a1_2 l2 = some true
end Go.Proofs.YthkdkcdbjbihkaaDoor.Q
