/- What is left of the law FnExactCountNodes, stated over numbers and lists alone: no proof in here. -/
import Derived.Test.YtgacociihealaaaQx5
import Derived.Test.YtgacociihealaaaQKinds
import Derived.Test.YtgacociihealaaaQOpen
namespace Go.Proofs.Ytgacociihealaaa.Q
open Go.RowKit Go.Proofs.YtgacociihealaaaW.PrintWords Go.Proofs.YtgacociihealaaaW.PrintLast Go.Proofs.YtgacociihealaaaW.PrintMore
open Go.Proofs.Ytgacociihealaaa.Open
/-- What is left of the law FnExactCountNodes: over numbers and lists alone. -/
def laws_FnExactCountNodes.Pure : Prop := ∀ (a0_0 : Int) (a0_1 : ByteArray) (a0_2 : Int) (l0_3 : List (S24)), (Lit.int .i64 a0_0).wf = true → a0_1.size ≤ maxLen → (Lit.int .i64 a0_2).wf = true → FitL Fit24 l0_3 → ∃ k, laws_FnExactCountNodes.f k a0_0 a0_1 a0_2 l0_3 = some true
end Go.Proofs.Ytgacociihealaaa.Q
