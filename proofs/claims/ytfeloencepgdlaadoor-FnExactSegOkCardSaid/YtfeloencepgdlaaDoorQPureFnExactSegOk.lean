/- What is left of the law FnExactSegOk, stated over numbers and lists alone: no proof in here. -/
import Derived.Test.YtfeloencepgdlaaDoorQx19
import Derived.Test.YtfeloencepgdlaaDoorQKinds
import Derived.Test.YtfeloencepgdlaaDoorQOpen
namespace Go.Proofs.YtfeloencepgdlaaDoor.Q
open Go.RowKit Go.Proofs.YtfeloencepgdlaaDoorW.PrintWords Go.Proofs.YtfeloencepgdlaaDoorW.PrintLast Go.Proofs.YtfeloencepgdlaaDoorW.PrintMore
open Go.Proofs.YtfeloencepgdlaaDoor.Open
/-- What is left of the law FnExactSegOk: over numbers and lists alone. -/
def laws_FnExactSegOk.Pure : Prop := ∀ (a0 : Int) (a1 : Int) (l2_0 : List (List (S110))) (l2_1 : List (S95)) (l2_2 : List Bool), (Lit.int .i64 a0).wf = true → (Lit.int .i64 a1).wf = true → FitL (FitL Fit110) l2_0 → FitL Fit95 l2_1 → FitL (fun _ : Bool => True) l2_2 → ∃ k, laws_FnExactSegOk.f k a0 a1 l2_0 l2_1 l2_2 = some true
end Go.Proofs.YtfeloencepgdlaaDoor.Q
