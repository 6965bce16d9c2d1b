/- What is left of the law FnExactFactsHas, stated over numbers and lists alone: no proof in here. -/
import Derived.Test.YtgacociihealaaaQx17
import Derived.Test.YtgacociihealaaaQKinds
import Derived.Test.YtgacociihealaaaQOpen
namespace Go.Proofs.Ytgacociihealaaa.Q
open Go.RowKit Go.Proofs.YtgacociihealaaaW.PrintWords Go.Proofs.YtgacociihealaaaW.PrintLast Go.Proofs.YtgacociihealaaaW.PrintMore
open Go.Proofs.Ytgacociihealaaa.Open
/-- What is left of the law FnExactFactsHas: over numbers and lists alone. -/
def laws_FnExactFactsHas.Pure : Prop := ∀ (a0_0 : Int) (l0_1 : List Int) (l1 : List Int), (Lit.int .i64 a0_0).wf = true → FitL (fun x : Int => (Lit.int .i64 x).wf = true) l0_1 → FitL (fun x : Int => (Lit.int .i64 x).wf = true) l1 → ∃ k, laws_FnExactFactsHas.f k a0_0 l0_1 l1 = some true
end Go.Proofs.Ytgacociihealaaa.Q
