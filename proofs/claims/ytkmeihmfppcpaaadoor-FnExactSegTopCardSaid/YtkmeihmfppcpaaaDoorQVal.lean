/- What is said of cells: the program's and the reference's functions as plain functions. -/
import Derived.Test.YtkmeihmfppcpaaaDoorQRng
import Derived.Test.YtkmeihmfppcpaaaDoorQOpen
import Derived.Test.YtkmeihmfppcpaaaDoorQx11
import Derived.Test.YtkmeihmfppcpaaaDoorQx2
namespace Go.Proofs.YtkmeihmfppcpaaaDoor.Q
open Go.RowKit Go.Proofs.YtkmeihmfppcpaaaDoorW.PrintWords Go.Proofs.YtkmeihmfppcpaaaDoorW.PrintLast Go.Proofs.YtkmeihmfppcpaaaDoorW.PrintMore
open Go.Proofs.YtkmeihmfppcpaaaDoor.Open
set_option linter.unusedSimpArgs false
set_option linter.unusedVariables false
theorem i_vok (a b : Int) (c : Bool) : impl_ValOk.f a b c = some (okR a b) := by unfold impl_ValOk.f; rw [i_ok]; rfl
theorem s_vok (a b : Int) (c : Bool) : spec_ValOk.f a b c = some (okR a b) := by unfold spec_ValOk.f; rw [s_ok]; rfl
end Go.Proofs.YtkmeihmfppcpaaaDoor.Q
