/- What is left of the law FnExactFactsText, stated over numbers and lists alone: no proof in here. -/
import Derived.Test.YtlkcbfonjcflgaaDoorQx38
import Derived.Test.YtlkcbfonjcflgaaDoorQKinds
import Derived.Test.YtlkcbfonjcflgaaDoorQOpen
namespace Go.Proofs.YtlkcbfonjcflgaaDoor.Q
open Go.RowKit Go.Proofs.YtlkcbfonjcflgaaDoorW.PrintWords Go.Proofs.YtlkcbfonjcflgaaDoorW.PrintLast Go.Proofs.YtlkcbfonjcflgaaDoorW.PrintMore
open Go.Proofs.YtlkcbfonjcflgaaDoor.Open
/-- What is left of the law FnExactFactsText: over numbers and lists alone. -/
def laws_FnExactFactsText.Pure : Prop := ∀ (a0_0 : Int) (l0_1 : List Int) (l1 : List ByteArray), (Lit.int .i64 a0_0).wf = true → FitL (fun x : Int => (Lit.int .i64 x).wf = true) l0_1 → FitL (fun s : ByteArray => s.size ≤ maxLen) l1 → ∃ k, laws_FnExactFactsText.f k a0_0 l0_1 l1 = some true
end Go.Proofs.YtlkcbfonjcflgaaDoor.Q
