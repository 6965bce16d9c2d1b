/- What is left of the law FnExactWordOk, stated over numbers and lists alone: no proof in here. -/
import Derived.Test.YtdofhbcohijpiaaDoorQx31
import Derived.Test.YtdofhbcohijpiaaDoorQKinds
import Derived.Test.YtdofhbcohijpiaaDoorQOpen
namespace Go.Proofs.YtdofhbcohijpiaaDoor.Q
open Go.RowKit Go.Proofs.YtdofhbcohijpiaaDoorW.PrintWords Go.Proofs.YtdofhbcohijpiaaDoorW.PrintLast Go.Proofs.YtdofhbcohijpiaaDoorW.PrintMore
open Go.Proofs.YtdofhbcohijpiaaDoor.Open
/-- What is left of the law FnExactWordOk: over numbers and lists alone. -/
def laws_FnExactWordOk.Pure : Prop := ∀ (a0_0 : Int) (a0_1 : ByteArray) (a0_2 : Int), (Lit.int .i64 a0_0).wf = true → a0_1.size ≤ maxLen → (Lit.int .i64 a0_2).wf = true → ∃ k, laws_FnExactWordOk.f k a0_0 a0_1 a0_2 = some true
end Go.Proofs.YtdofhbcohijpiaaDoor.Q
