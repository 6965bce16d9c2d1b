/- The law FnExactRangeJoin holds: the program's RangeJoin and the reference's answer alike, at all arguments. No conditions. -/
import Derived.Test.YtognjmgkbmmjjaaDoorQPureFnExactRangeJoin
import Derived.Test.YtognjmgkbmmjjaaDoorQRng2
import Derived.Test.YtognjmgkbmmjjaaDoorQOpen
import Derived.Test.YtognjmgkbmmjjaaDoorQx12
import Derived.Test.YtognjmgkbmmjjaaDoorQx2
namespace Go.Proofs.YtognjmgkbmmjjaaDoor.Q
open Go.RowKit Go.Proofs.YtognjmgkbmmjjaaDoorW.PrintWords Go.Proofs.YtognjmgkbmmjjaaDoorW.PrintLast Go.Proofs.YtognjmgkbmmjjaaDoorW.PrintMore
open Go.Proofs.YtognjmgkbmmjjaaDoor.Open
set_option linter.unusedSimpArgs false
set_option linter.unusedVariables false
theorem yoursFnExactRangeJoin : laws_FnExactRangeJoin.Pure := by
  intro a b c d _ _ _ _
  refine ⟨1, ?_⟩
  unfold laws_FnExactRangeJoin.f laws_toRange.f
  simp only [Option.bind_some, s_join 0, i_join 0, eqR]
  simp
end Go.Proofs.YtognjmgkbmmjjaaDoor.Q
