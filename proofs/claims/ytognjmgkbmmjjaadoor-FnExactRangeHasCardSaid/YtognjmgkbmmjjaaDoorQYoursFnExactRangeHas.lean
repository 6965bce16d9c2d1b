/- The law FnExactRangeHas holds: the program's RangeHas and the reference's answer alike, at all arguments. No conditions. -/
import Derived.Test.YtognjmgkbmmjjaaDoorQPureFnExactRangeHas
import Derived.Test.YtognjmgkbmmjjaaDoorQRng
import Derived.Test.YtognjmgkbmmjjaaDoorQOpen
import Derived.Test.YtognjmgkbmmjjaaDoorQx2
import Derived.Test.YtognjmgkbmmjjaaDoorQx3
namespace Go.Proofs.YtognjmgkbmmjjaaDoor.Q
open Go.RowKit Go.Proofs.YtognjmgkbmmjjaaDoorW.PrintWords Go.Proofs.YtognjmgkbmmjjaaDoorW.PrintLast Go.Proofs.YtognjmgkbmmjjaaDoorW.PrintMore
open Go.Proofs.YtognjmgkbmmjjaaDoor.Open
set_option linter.unusedSimpArgs false
set_option linter.unusedVariables false
theorem yoursFnExactRangeHas : laws_FnExactRangeHas.Pure := by
  intro a b x _ _ _
  unfold laws_FnExactRangeHas.f laws_toRange.f
  simp only [Option.bind_some, s_has, i_has]
  simp
end Go.Proofs.YtognjmgkbmmjjaaDoor.Q
