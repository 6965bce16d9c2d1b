/- The law FnExactValOk holds: the program's ValOk and the reference's answer alike, at all arguments. No conditions. -/
import Derived.Test.YtognjmgkbmmjjaaDoorQPureFnExactValOk
import Derived.Test.YtognjmgkbmmjjaaDoorQVal
import Derived.Test.YtognjmgkbmmjjaaDoorQOpen
import Derived.Test.YtognjmgkbmmjjaaDoorQx2
import Derived.Test.YtognjmgkbmmjjaaDoorQx5
namespace Go.Proofs.YtognjmgkbmmjjaaDoor.Q
open Go.RowKit Go.Proofs.YtognjmgkbmmjjaaDoorW.PrintWords Go.Proofs.YtognjmgkbmmjjaaDoorW.PrintLast Go.Proofs.YtognjmgkbmmjjaaDoorW.PrintMore
open Go.Proofs.YtognjmgkbmmjjaaDoor.Open
set_option linter.unusedSimpArgs false
set_option linter.unusedVariables false
theorem yoursFnExactValOk : laws_FnExactValOk.Pure := by
  intro a b c _ _
  unfold laws_FnExactValOk.f laws_toVal.f laws_toRange.f
  simp only [Option.bind_some, s_vok, i_vok]
  simp
end Go.Proofs.YtognjmgkbmmjjaaDoor.Q
