/- What is left of the law FnExactNestOf, stated over numbers and lists alone: no proof in here. -/
import Derived.Test.YtmdebfbkehnocaaQx19
import Derived.Test.YtmdebfbkehnocaaQKinds
import Derived.Test.YtmdebfbkehnocaaQOpen
namespace Go.Proofs.Ytmdebfbkehnocaa.Q
open Go.RowKit Go.Proofs.YtmdebfbkehnocaaW.PrintWords Go.Proofs.YtmdebfbkehnocaaW.PrintLast Go.Proofs.YtmdebfbkehnocaaW.PrintMore
open Go.Proofs.Ytmdebfbkehnocaa.Open
/-- What is left of the law FnExactNestOf: over numbers and lists alone. -/
def laws_FnExactNestOf.Pure : Prop := ∀ (a0_0 : Int) (l0_1 : List (S52)), (Lit.int .i64 a0_0).wf = true → FitL Fit52 l0_1 → ∃ k, laws_FnExactNestOf.f k a0_0 l0_1 = some true
end Go.Proofs.Ytmdebfbkehnocaa.Q
