/- The law FnExactValHas holds: the program's ValHas and the reference's answer alike, at all arguments. No conditions. -/
import Derived.Test.YtognjmgkbmmjjaaDoorQPureFnExactValHas
import Derived.Test.YtognjmgkbmmjjaaDoorQVal
import Derived.Test.YtognjmgkbmmjjaaDoorQOpen
import Derived.Test.YtognjmgkbmmjjaaDoorQx2
import Derived.Test.YtognjmgkbmmjjaaDoorQx5
import Derived.Test.YtognjmgkbmmjjaaDoorQx7
import Derived.Test.YtognjmgkbmmjjaaDoorQx8
namespace Go.Proofs.YtognjmgkbmmjjaaDoor.Q
open Go.RowKit Go.Proofs.YtognjmgkbmmjjaaDoorW.PrintWords Go.Proofs.YtognjmgkbmmjjaaDoorW.PrintLast Go.Proofs.YtognjmgkbmmjjaaDoorW.PrintMore
open Go.Proofs.YtognjmgkbmmjjaaDoor.Open
set_option linter.unusedSimpArgs false
set_option linter.unusedVariables false
theorem yoursFnExactValHas : laws_FnExactValHas.Pure := by
  intro a b c d e _ _ _
  unfold laws_FnExactValHas.f laws_toVal.f laws_toRange.f laws_toCell.f
  simp only [Option.bind_some, s_vhas, i_vhas]
  simp
end Go.Proofs.YtognjmgkbmmjjaaDoor.Q
