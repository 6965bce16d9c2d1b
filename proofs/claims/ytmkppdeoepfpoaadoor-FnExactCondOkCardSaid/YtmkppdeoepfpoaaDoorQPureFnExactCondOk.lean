/- What is left of the law FnExactCondOk, stated over numbers and lists alone: no proof in here. -/
import Derived.Test.YtmkppdeoepfpoaaDoorQx30
import Derived.Test.YtmkppdeoepfpoaaDoorQKinds
import Derived.Test.YtmkppdeoepfpoaaDoorQOpen
namespace Go.Proofs.YtmkppdeoepfpoaaDoor.Q
open Go.RowKit Go.Proofs.YtmkppdeoepfpoaaDoorW.PrintWords Go.Proofs.YtmkppdeoepfpoaaDoorW.PrintLast Go.Proofs.YtmkppdeoepfpoaaDoorW.PrintMore
open Go.Proofs.YtmkppdeoepfpoaaDoor.Open
/-- What is left of the law FnExactCondOk: over numbers and lists alone. -/
def laws_FnExactCondOk.Pure : Prop := ∀ (a0_0 : Int) (a0_1 : ByteArray) (a0_2 : Int) (l0_3 : List (S34)), (Lit.int .i64 a0_0).wf = true → a0_1.size ≤ maxLen → (Lit.int .i64 a0_2).wf = true → FitL Fit34 l0_3 → ∃ k, laws_FnExactCondOk.f k a0_0 a0_1 a0_2 l0_3 = some true
end Go.Proofs.YtmkppdeoepfpoaaDoor.Q
