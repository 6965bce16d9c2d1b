/- What is left of the law FnExactFactsOk, stated over numbers and lists alone: no proof in here. -/
import Derived.Test.YtgacociihealaaaQx8
import Derived.Test.YtgacociihealaaaQKinds
import Derived.Test.YtgacociihealaaaQOpen
namespace Go.Proofs.Ytgacociihealaaa.Q
open Go.RowKit Go.Proofs.YtgacociihealaaaW.PrintWords Go.Proofs.YtgacociihealaaaW.PrintLast Go.Proofs.YtgacociihealaaaW.PrintMore
open Go.Proofs.Ytgacociihealaaa.Open
/-- What is left of the law FnExactFactsOk: over numbers and lists alone. -/
def laws_FnExactFactsOk.Pure : Prop := ∀ (a0_0 : Int) (l0_1 : List Int), (Lit.int .i64 a0_0).wf = true → FitL (fun x : Int => (Lit.int .i64 x).wf = true) l0_1 → ∃ k, laws_FnExactFactsOk.f k a0_0 l0_1 = some true
end Go.Proofs.Ytgacociihealaaa.Q
