/- The law FnExactRangeOk holds: the program's RangeOk and the reference's answer alike, at all arguments. No conditions. -/
import Derived.Test.YtognjmgkbmmjjaaDoorQPureFnExactRangeOk
import Derived.Test.YtognjmgkbmmjjaaDoorQRng
import Derived.Test.YtognjmgkbmmjjaaDoorQOpen
import Derived.Test.YtognjmgkbmmjjaaDoorQx2
namespace Go.Proofs.YtognjmgkbmmjjaaDoor.Q
open Go.RowKit Go.Proofs.YtognjmgkbmmjjaaDoorW.PrintWords Go.Proofs.YtognjmgkbmmjjaaDoorW.PrintLast Go.Proofs.YtognjmgkbmmjjaaDoorW.PrintMore
open Go.Proofs.YtognjmgkbmmjjaaDoor.Open
set_option linter.unusedSimpArgs false
set_option linter.unusedVariables false
theorem yoursFnExactRangeOk : laws_FnExactRangeOk.Pure := by
  intro a b _ _
  unfold laws_FnExactRangeOk.f laws_toRange.f
  simp only [Option.bind_some, s_ok, i_ok]
  simp
end Go.Proofs.YtognjmgkbmmjjaaDoor.Q
