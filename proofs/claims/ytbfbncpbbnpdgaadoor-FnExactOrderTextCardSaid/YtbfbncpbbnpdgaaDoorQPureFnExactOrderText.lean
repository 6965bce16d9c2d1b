/- What is left of the law FnExactOrderText, stated over numbers and lists alone: no proof in here. -/
import Derived.Test.YtbfbncpbbnpdgaaDoorQx16
import Derived.Test.YtbfbncpbbnpdgaaDoorQKinds
import Derived.Test.YtbfbncpbbnpdgaaDoorQOpen
namespace Go.Proofs.YtbfbncpbbnpdgaaDoor.Q
open Go.RowKit Go.Proofs.YtbfbncpbbnpdgaaDoorW.PrintWords Go.Proofs.YtbfbncpbbnpdgaaDoorW.PrintLast Go.Proofs.YtbfbncpbbnpdgaaDoorW.PrintMore
open Go.Proofs.YtbfbncpbbnpdgaaDoor.Open
/-- What is left of the law FnExactOrderText: over numbers and lists alone. -/
def laws_FnExactOrderText.Pure : Prop := ∀ (a0_0 : Int) (l0_1 : List (S50)), (Lit.int .i64 a0_0).wf = true → FitL Fit50 l0_1 → ∃ k, laws_FnExactOrderText.f k a0_0 l0_1 = some true
end Go.Proofs.YtbfbncpbbnpdgaaDoor.Q
