/- What is left of the law FnRangeRests, stated over numbers and lists alone: no proof in here. -/
import Derived.Test.YthkdkcdbjbihkaaDoorQx32
import Derived.Test.YthkdkcdbjbihkaaDoorQKinds
import Derived.Test.YthkdkcdbjbihkaaDoorQOpen
namespace Go.Proofs.YthkdkcdbjbihkaaDoor.Q
open Go.RowKit Go.Proofs.YthkdkcdbjbihkaaDoorW.PrintWords Go.Proofs.YthkdkcdbjbihkaaDoorW.PrintLast Go.Proofs.YthkdkcdbjbihkaaDoorW.PrintMore
open Go.Proofs.YthkdkcdbjbihkaaDoor.Open
/-- What is left of the law FnRangeRests: over numbers and lists alone. -/
def laws_FnRangeRests.Pure : Prop := ∀ (l0 : List Int) (l1 : List Int), FitL (fun x : Int => (Lit.int .u8 x).wf = true) l0 → FitL (fun x : Int => (Lit.int .u8 x).wf = true) l1 → ∃ k, laws_FnRangeRests.f k l0 l1 = some true
end Go.Proofs.YthkdkcdbjbihkaaDoor.Q
