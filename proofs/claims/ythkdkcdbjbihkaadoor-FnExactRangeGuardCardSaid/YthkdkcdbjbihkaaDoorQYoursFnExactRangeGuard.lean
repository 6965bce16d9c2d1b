/- The law FnExactRangeGuard holds: the program's RangeGuard and the reference's answer alike, at all arguments. No conditions. -/
import Derived.Test.YthkdkcdbjbihkaaDoorQPureFnExactRangeGuard
import Derived.Test.YthkdkcdbjbihkaaDoorQGuard
import Derived.Test.YthkdkcdbjbihkaaDoorQOpen
import Derived.Test.YthkdkcdbjbihkaaDoorQx23
import Derived.Test.YthkdkcdbjbihkaaDoorQx8
namespace Go.Proofs.YthkdkcdbjbihkaaDoor.Q
open Go.RowKit Go.Proofs.YthkdkcdbjbihkaaDoorW.PrintWords Go.Proofs.YthkdkcdbjbihkaaDoorW.PrintLast Go.Proofs.YthkdkcdbjbihkaaDoorW.PrintMore
open Go.Proofs.YthkdkcdbjbihkaaDoor.Open
set_option linter.unusedSimpArgs false
set_option linter.unusedVariables false
theorem yoursFnExactRangeGuard : laws_FnExactRangeGuard.Pure := by
  intro k a b c d _ _ _ _ _
  refine ⟨12, ?_⟩
  unfold laws_FnExactRangeGuard.f laws_toRange.f laws_FnExactRangeGuard.j0
  simp only [Option.bind_some, s_guard 2, i_guard 3, eqR]
  simp
end Go.Proofs.YthkdkcdbjbihkaaDoor.Q
