/- What is left of the law FnRangeSums, stated over numbers and lists alone: no proof in here. -/
import Derived.Test.YtmibaaicadgchaaDoorQx14
import Derived.Test.YtmibaaicadgchaaDoorQKinds
import Derived.Test.YtmibaaicadgchaaDoorQOpen
namespace Go.Proofs.YtmibaaicadgchaaDoor.Q
open Go.RowKit Go.Proofs.YtmibaaicadgchaaDoorW.PrintWords Go.Proofs.YtmibaaicadgchaaDoorW.PrintLast Go.Proofs.YtmibaaicadgchaaDoorW.PrintMore
open Go.Proofs.YtmibaaicadgchaaDoor.Open
/-- What is left of the law FnRangeSums: over numbers and lists alone. -/
def laws_FnRangeSums.Pure : Prop := ∀ (l0 : List Int), FitL (fun x : Int => (Lit.int .u8 x).wf = true) l0 → ∃ k, laws_FnRangeSums.f k l0 = some true
end Go.Proofs.YtmibaaicadgchaaDoor.Q
