/- What is left of the law FnExactSegHas, stated over numbers and lists alone: no proof in here. -/
import Derived.Test.YtfeloencepgdlaaDoorQXFnExactSegHas
import Derived.Test.YtfeloencepgdlaaDoorQKinds
import Derived.Test.YtfeloencepgdlaaDoorQOpen
namespace Go.Proofs.YtfeloencepgdlaaDoor.Q
open Go.RowKit Go.Proofs.YtfeloencepgdlaaDoorW.PrintWords Go.Proofs.YtfeloencepgdlaaDoorW.PrintLast Go.Proofs.YtfeloencepgdlaaDoorW.PrintMore
open Go.Proofs.YtfeloencepgdlaaDoor.Open
/-- What is left of the law FnExactSegHas: over numbers and lists alone. -/
def laws_FnExactSegHas.Pure : Prop := ∀ (a0 : Int) (a1 : Int) (l2_0 : List (List (S110))) (l2_1 : List (S95)) (l2_2 : List Bool) (l3 : List Int) (l4 : List (S79)), (Lit.int .i64 a0).wf = true → (Lit.int .i64 a1).wf = true → FitL (FitL Fit110) l2_0 → FitL Fit95 l2_1 → FitL (fun _ : Bool => True) l2_2 → FitL (fun x : Int => (Lit.int .i64 x).wf = true) l3 → FitL Fit79 l4 → ∃ k, laws_FnExactSegHas.f k a0 a1 l2_0 l2_1 l2_2 l3 l4 = some true
end Go.Proofs.YtfeloencepgdlaaDoor.Q
