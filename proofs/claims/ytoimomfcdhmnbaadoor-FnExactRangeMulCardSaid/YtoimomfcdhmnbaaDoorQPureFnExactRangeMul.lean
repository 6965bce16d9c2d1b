/- What is left of the law FnExactRangeMul, stated over numbers and lists alone: no proof in here. -/
import Derived.Test.YtoimomfcdhmnbaaDoorQx19
import Derived.Test.YtoimomfcdhmnbaaDoorQKinds
import Derived.Test.YtoimomfcdhmnbaaDoorQOpen
namespace Go.Proofs.YtoimomfcdhmnbaaDoor.Q
open Go.RowKit Go.Proofs.YtoimomfcdhmnbaaDoorW.PrintWords Go.Proofs.YtoimomfcdhmnbaaDoorW.PrintLast Go.Proofs.YtoimomfcdhmnbaaDoorW.PrintMore
open Go.Proofs.YtoimomfcdhmnbaaDoor.Open
/-- What is left of the law FnExactRangeMul: over numbers and lists alone. -/
def laws_FnExactRangeMul.Pure : Prop := ∀ (a0_0 : Int) (a0_1 : Int) (a1_0 : Int) (a1_1 : Int), (Lit.int .i64 a0_0).wf = true → (Lit.int .i64 a0_1).wf = true → (Lit.int .i64 a1_0).wf = true → (Lit.int .i64 a1_1).wf = true → ∃ k, laws_FnExactRangeMul.f k a0_0 a0_1 a1_0 a1_1 = some true
end Go.Proofs.YtoimomfcdhmnbaaDoor.Q
