/- What is left of the law FnExactSymRead, stated over numbers and lists alone: no proof in here. -/
import Derived.Test.YtmkppdeoepfpoaaDoorQx15
import Derived.Test.YtmkppdeoepfpoaaDoorQKinds
import Derived.Test.YtmkppdeoepfpoaaDoorQOpen
namespace Go.Proofs.YtmkppdeoepfpoaaDoor.Q
open Go.RowKit Go.Proofs.YtmkppdeoepfpoaaDoorW.PrintWords Go.Proofs.YtmkppdeoepfpoaaDoorW.PrintLast Go.Proofs.YtmkppdeoepfpoaaDoorW.PrintMore
open Go.Proofs.YtmkppdeoepfpoaaDoor.Open
/-- What is left of the law FnExactSymRead: over numbers and lists alone. -/
def laws_FnExactSymRead.Pure : Prop := ∀ (a0 : ByteArray) (l1 : List ByteArray), a0.size ≤ maxLen → FitL (fun s : ByteArray => s.size ≤ maxLen) l1 → ∃ k, laws_FnExactSymRead.f k a0 l1 = some true
end Go.Proofs.YtmkppdeoepfpoaaDoor.Q
