/- The law FnExactRangeWiden holds: the program's RangeWiden and the reference's answer alike, at all arguments, and the program leaves the steps as they were. No conditions. -/
import Derived.Test.YthkdkcdbjbihkaaDoorQPureFnExactRangeWiden
import Derived.Test.YthkdkcdbjbihkaaDoorQWiden
import Derived.Test.YthkdkcdbjbihkaaDoorQInts
import Derived.Test.YthkdkcdbjbihkaaDoorQOpen
import Derived.Test.YthkdkcdbjbihkaaDoorQx5
import Derived.Test.YthkdkcdbjbihkaaDoorQx9
namespace Go.Proofs.YthkdkcdbjbihkaaDoor.Q
open Go.RowKit Go.Proofs.YthkdkcdbjbihkaaDoorW.PrintWords Go.Proofs.YthkdkcdbjbihkaaDoorW.PrintLast Go.Proofs.YthkdkcdbjbihkaaDoorW.PrintMore
open Go.Proofs.YthkdkcdbjbihkaaDoor.Open
set_option linter.unusedSimpArgs false
set_option linter.unusedVariables false
theorem yoursFnExactRangeWiden : laws_FnExactRangeWiden.Pure := by
  intro a b c d l _ _ _ _ _
  refine ⟨2 * l.length + 12, ?_⟩
  unfold laws_FnExactRangeWiden.f
  split
  · rfl
  · have hn : l.length ≤ 1048576 := by omega
    unfold laws_FnExactRangeWiden.j0
    unfold laws_FnExactRangeWiden.j1
    unfold laws_toRange.f
    simp only [Option.bind_some, toInts _ l (show l.length < 2 * l.length + 12 by omega) hn, s_wid _ _ _ _ _ l hn (show 2 * l.length + 8 ≤ 2 * l.length + 12 by omega), i_wid _ _ _ _ _ l hn (show 2 * l.length + 8 ≤ 2 * l.length + 11 by omega), eqR]
    simp [toInts (2 * l.length + 10) l (by omega) hn, eqInts (2 * l.length + 10) l (by omega) hn]
end Go.Proofs.YthkdkcdbjbihkaaDoor.Q
