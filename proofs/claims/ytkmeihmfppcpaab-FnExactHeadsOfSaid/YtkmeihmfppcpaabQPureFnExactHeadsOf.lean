/- What is left of the law FnExactHeadsOf, stated over numbers and lists alone: no proof in here. -/
import Derived.Test.YtkmeihmfppcpaabQx17
import Derived.Test.YtkmeihmfppcpaabQKinds
import Derived.Test.YtkmeihmfppcpaabQOpen
namespace Go.Proofs.Ytkmeihmfppcpaab.Q
open Go.RowKit Go.Proofs.YtkmeihmfppcpaabW.PrintWords Go.Proofs.YtkmeihmfppcpaabW.PrintLast Go.Proofs.YtkmeihmfppcpaabW.PrintMore
open Go.Proofs.Ytkmeihmfppcpaab.Open
/-- What is left of the law FnExactHeadsOf: over numbers and lists alone. -/
def laws_FnExactHeadsOf.Pure : Prop := ∀ (a0_0 : Int) (l0_1 : List (S48)), (Lit.int .i64 a0_0).wf = true → FitL Fit48 l0_1 → ∃ k, laws_FnExactHeadsOf.f k a0_0 l0_1 = some true
end Go.Proofs.Ytkmeihmfppcpaab.Q
