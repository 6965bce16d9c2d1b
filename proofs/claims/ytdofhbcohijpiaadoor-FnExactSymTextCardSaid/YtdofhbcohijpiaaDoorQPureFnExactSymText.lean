/- What is left of the law FnExactSymText, stated over numbers and lists alone: no proof in here. -/
import Derived.Test.YtdofhbcohijpiaaDoorQx52
import Derived.Test.YtdofhbcohijpiaaDoorQKinds
import Derived.Test.YtdofhbcohijpiaaDoorQOpen
namespace Go.Proofs.YtdofhbcohijpiaaDoor.Q
open Go.RowKit Go.Proofs.YtdofhbcohijpiaaDoorW.PrintWords Go.Proofs.YtdofhbcohijpiaaDoorW.PrintLast Go.Proofs.YtdofhbcohijpiaaDoorW.PrintMore
open Go.Proofs.YtdofhbcohijpiaaDoor.Open
/-- What is left of the law FnExactSymText: over numbers and lists alone. -/
def laws_FnExactSymText.Pure : Prop := ∀ (a0_0 : Int) (a0_1 : Int) (l1 : List ByteArray), (Lit.int .i64 a0_0).wf = true → (Lit.int .i64 a0_1).wf = true → FitL (fun s : ByteArray => s.size ≤ maxLen) l1 → ∃ k, laws_FnExactSymText.f k a0_0 a0_1 l1 = some true
end Go.Proofs.YtdofhbcohijpiaaDoor.Q
