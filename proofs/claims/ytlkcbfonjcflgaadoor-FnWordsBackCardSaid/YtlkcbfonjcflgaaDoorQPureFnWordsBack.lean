/- What is left of the law FnWordsBack, stated over numbers and lists alone: no proof in here. -/
import Derived.Test.YtlkcbfonjcflgaaDoorQx59
import Derived.Test.YtlkcbfonjcflgaaDoorQKinds
import Derived.Test.YtlkcbfonjcflgaaDoorQOpen
namespace Go.Proofs.YtlkcbfonjcflgaaDoor.Q
open Go.RowKit Go.Proofs.YtlkcbfonjcflgaaDoorW.PrintWords Go.Proofs.YtlkcbfonjcflgaaDoorW.PrintLast Go.Proofs.YtlkcbfonjcflgaaDoorW.PrintMore
open Go.Proofs.YtlkcbfonjcflgaaDoor.Open
/-- What is left of the law FnWordsBack: over numbers and lists alone. -/
def laws_FnWordsBack.Pure : Prop := ∀ (l0 : List Int) (l1 : List Int), FitL (fun x : Int => (Lit.int .u8 x).wf = true) l0 → FitL (fun x : Int => (Lit.int .u8 x).wf = true) l1 → ∃ k, laws_FnWordsBack.f k l0 l1 = some true
end Go.Proofs.YtlkcbfonjcflgaaDoor.Q
