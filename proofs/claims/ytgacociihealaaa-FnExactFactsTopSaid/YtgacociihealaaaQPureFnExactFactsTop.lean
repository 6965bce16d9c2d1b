/- What is left of the law FnExactFactsTop, stated over numbers and lists alone: no proof in here. -/
import Derived.Test.YtgacociihealaaaQx12
import Derived.Test.YtgacociihealaaaQKinds
import Derived.Test.YtgacociihealaaaQOpen
namespace Go.Proofs.Ytgacociihealaaa.Q
open Go.RowKit Go.Proofs.YtgacociihealaaaW.PrintWords Go.Proofs.YtgacociihealaaaW.PrintLast Go.Proofs.YtgacociihealaaaW.PrintMore
open Go.Proofs.Ytgacociihealaaa.Open
/-- What is left of the law FnExactFactsTop: over numbers and lists alone. -/
def laws_FnExactFactsTop.Pure : Prop := ∀ (a0 : Int), (Lit.int .i64 a0).wf = true → ∃ k, laws_FnExactFactsTop.f k a0 = some true
end Go.Proofs.Ytgacociihealaaa.Q
