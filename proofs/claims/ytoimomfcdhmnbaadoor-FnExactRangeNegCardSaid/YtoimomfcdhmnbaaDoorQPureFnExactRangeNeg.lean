/- What is left of the law FnExactRangeNeg, stated over numbers and lists alone: no proof in here. -/
import Derived.Test.YtoimomfcdhmnbaaDoorQx4
import Derived.Test.YtoimomfcdhmnbaaDoorQKinds
import Derived.Test.YtoimomfcdhmnbaaDoorQOpen
namespace Go.Proofs.YtoimomfcdhmnbaaDoor.Q
open Go.RowKit Go.Proofs.YtoimomfcdhmnbaaDoorW.PrintWords Go.Proofs.YtoimomfcdhmnbaaDoorW.PrintLast Go.Proofs.YtoimomfcdhmnbaaDoorW.PrintMore
open Go.Proofs.YtoimomfcdhmnbaaDoor.Open
/-- What is left of the law FnExactRangeNeg: over numbers and lists alone. -/
def laws_FnExactRangeNeg.Pure : Prop := ∀ (a0_0 : Int) (a0_1 : Int), (Lit.int .i64 a0_0).wf = true → (Lit.int .i64 a0_1).wf = true → ∃ k, laws_FnExactRangeNeg.f k a0_0 a0_1 = some true
end Go.Proofs.YtoimomfcdhmnbaaDoor.Q
