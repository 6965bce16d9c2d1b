/- What is left of the law FnVals, stated over numbers and lists alone: no proof in here. -/
import Derived.Test.YtmibaaicadgchaaDoorQx40
import Derived.Test.YtmibaaicadgchaaDoorQKinds
import Derived.Test.YtmibaaicadgchaaDoorQOpen
namespace Go.Proofs.YtmibaaicadgchaaDoor.Q
open Go.RowKit Go.Proofs.YtmibaaicadgchaaDoorW.PrintWords Go.Proofs.YtmibaaicadgchaaDoorW.PrintLast Go.Proofs.YtmibaaicadgchaaDoorW.PrintMore
open Go.Proofs.YtmibaaicadgchaaDoor.Open
/-- What is left of the law FnVals: over numbers and lists alone. -/
def laws_FnVals.Pure : Prop := ∀ (l0 : List Int) (l1 : List Int), FitL (fun x : Int => (Lit.int .u8 x).wf = true) l0 → FitL (fun x : Int => (Lit.int .u8 x).wf = true) l1 → ∃ k, laws_FnVals.f k l0 l1 = some true
end Go.Proofs.YtmibaaicadgchaaDoor.Q
