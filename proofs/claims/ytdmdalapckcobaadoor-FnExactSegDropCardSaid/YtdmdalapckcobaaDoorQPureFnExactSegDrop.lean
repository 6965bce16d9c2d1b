/- What is left of the law FnExactSegDrop, stated over numbers and lists alone: no proof in here. -/
import Derived.Test.YtdmdalapckcobaaDoorQXFnExactSegDrop
import Derived.Test.YtdmdalapckcobaaDoorQKinds
import Derived.Test.YtdmdalapckcobaaDoorQOpen
namespace Go.Proofs.YtdmdalapckcobaaDoor.Q
open Go.RowKit Go.Proofs.YtdmdalapckcobaaDoorW.PrintWords Go.Proofs.YtdmdalapckcobaaDoorW.PrintLast Go.Proofs.YtdmdalapckcobaaDoorW.PrintMore
open Go.Proofs.YtdmdalapckcobaaDoor.Open
/-- What is left of the law FnExactSegDrop: over numbers and lists alone. -/
def laws_FnExactSegDrop.Pure : Prop := ∀ (a0 : Int) (a1 : Int) (l2_0 : List (List (S65))) (l2_1 : List (S111)) (l2_2 : List Bool) (l3 : List (S65)), (Lit.int .i64 a0).wf = true → (Lit.int .i64 a1).wf = true → FitL (FitL Fit65) l2_0 → FitL Fit111 l2_1 → FitL (fun _ : Bool => True) l2_2 → FitL Fit65 l3 → ∃ k, laws_FnExactSegDrop.f k a0 a1 l2_0 l2_1 l2_2 l3 = some true
end Go.Proofs.YtdmdalapckcobaaDoor.Q
