/- What is said of cells: the program's and the reference's functions as plain functions. -/
import Derived.Test.YtdofhbcohijpiaaDoorQRng
import Derived.Test.YtdofhbcohijpiaaDoorQOpen
import Derived.Test.YtdofhbcohijpiaaDoorQx7
namespace Go.Proofs.YtdofhbcohijpiaaDoor.Q
open Go.RowKit Go.Proofs.YtdofhbcohijpiaaDoorW.PrintWords Go.Proofs.YtdofhbcohijpiaaDoorW.PrintLast Go.Proofs.YtdofhbcohijpiaaDoorW.PrintMore
open Go.Proofs.YtdofhbcohijpiaaDoor.Open
set_option linter.unusedSimpArgs false
set_option linter.unusedVariables false
theorem i_vok (a b : Int) (c : Bool) : impl_ValOk.f a b c = some (okR a b) := by unfold impl_ValOk.f; rw [i_ok]; rfl
theorem s_vok (a b : Int) (c : Bool) : spec_ValOk.f a b c = some (okR a b) := by unfold spec_ValOk.f; rw [s_ok]; rfl
end Go.Proofs.YtdofhbcohijpiaaDoor.Q
