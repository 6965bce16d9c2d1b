/- The law FnExactRangeLeq holds: the program's RangeLeq and the reference's answer alike, at all arguments. No conditions. -/
import Derived.Test.YtognjmgkbmmjjaaDoorQPureFnExactRangeLeq
import Derived.Test.YtognjmgkbmmjjaaDoorQRng
import Derived.Test.YtognjmgkbmmjjaaDoorQOpen
import Derived.Test.YtognjmgkbmmjjaaDoorQx2
import Derived.Test.YtognjmgkbmmjjaaDoorQx4
namespace Go.Proofs.YtognjmgkbmmjjaaDoor.Q
open Go.RowKit Go.Proofs.YtognjmgkbmmjjaaDoorW.PrintWords Go.Proofs.YtognjmgkbmmjjaaDoorW.PrintLast Go.Proofs.YtognjmgkbmmjjaaDoorW.PrintMore
open Go.Proofs.YtognjmgkbmmjjaaDoor.Open
set_option linter.unusedSimpArgs false
set_option linter.unusedVariables false
theorem yoursFnExactRangeLeq : laws_FnExactRangeLeq.Pure := by
  intro a b c d _ _ _ _
  unfold laws_FnExactRangeLeq.f laws_toRange.f
  simp only [Option.bind_some, s_leq, i_leq]
  simp
end Go.Proofs.YtognjmgkbmmjjaaDoor.Q
