/- The law FnExactValLeq holds: the program's ValLeq and the reference's answer alike, at all arguments. No conditions. -/
import Derived.Test.YtognjmgkbmmjjaaDoorQPureFnExactValLeq
import Derived.Test.YtognjmgkbmmjjaaDoorQVal
import Derived.Test.YtognjmgkbmmjjaaDoorQOpen
import Derived.Test.YtognjmgkbmmjjaaDoorQx2
import Derived.Test.YtognjmgkbmmjjaaDoorQx5
import Derived.Test.YtognjmgkbmmjjaaDoorQx6
namespace Go.Proofs.YtognjmgkbmmjjaaDoor.Q
open Go.RowKit Go.Proofs.YtognjmgkbmmjjaaDoorW.PrintWords Go.Proofs.YtognjmgkbmmjjaaDoorW.PrintLast Go.Proofs.YtognjmgkbmmjjaaDoorW.PrintMore
open Go.Proofs.YtognjmgkbmmjjaaDoor.Open
set_option linter.unusedSimpArgs false
set_option linter.unusedVariables false
theorem yoursFnExactValLeq : laws_FnExactValLeq.Pure := by
  intro a b c d e f _ _ _ _
  unfold laws_FnExactValLeq.f laws_toVal.f laws_toRange.f
  simp only [Option.bind_some, s_vleq, i_vleq]
  simp
end Go.Proofs.YtognjmgkbmmjjaaDoor.Q
