/- What is left of the law FnExactWordsText, stated over numbers and lists alone: no proof in here. -/
import Derived.Test.YtdofhbcohijpiaaDoorQx44
import Derived.Test.YtdofhbcohijpiaaDoorQKinds
import Derived.Test.YtdofhbcohijpiaaDoorQOpen
namespace Go.Proofs.YtdofhbcohijpiaaDoor.Q
open Go.RowKit Go.Proofs.YtdofhbcohijpiaaDoorW.PrintWords Go.Proofs.YtdofhbcohijpiaaDoorW.PrintLast Go.Proofs.YtdofhbcohijpiaaDoorW.PrintMore
open Go.Proofs.YtdofhbcohijpiaaDoor.Open
/-- What is left of the law FnExactWordsText: over numbers and lists alone. -/
def laws_FnExactWordsText.Pure : Prop := ∀ (l0 : List (S43)), FitL Fit43 l0 → ∃ k, laws_FnExactWordsText.f k l0 = some true
end Go.Proofs.YtdofhbcohijpiaaDoor.Q
