/- What is left of the law FnExactWords, stated over numbers and lists alone: no proof in here. -/
import Derived.Test.YtdofhbcohijpiaaDoorQx41
import Derived.Test.YtdofhbcohijpiaaDoorQKinds
import Derived.Test.YtdofhbcohijpiaaDoorQOpen
namespace Go.Proofs.YtdofhbcohijpiaaDoor.Q
open Go.RowKit Go.Proofs.YtdofhbcohijpiaaDoorW.PrintWords Go.Proofs.YtdofhbcohijpiaaDoorW.PrintLast Go.Proofs.YtdofhbcohijpiaaDoorW.PrintMore
open Go.Proofs.YtdofhbcohijpiaaDoor.Open
/-- What is left of the law FnExactWords: over numbers and lists alone. -/
def laws_FnExactWords.Pure : Prop := ∀ (a0 : ByteArray), a0.size ≤ maxLen → ∃ k, laws_FnExactWords.f k a0 = some true
end Go.Proofs.YtdofhbcohijpiaaDoor.Q
