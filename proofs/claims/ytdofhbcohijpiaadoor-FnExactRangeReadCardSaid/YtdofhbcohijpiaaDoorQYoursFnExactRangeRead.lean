/- The law FnExactRangeRead holds: the program's RangeRead and the reference's answer alike, at all texts. No conditions. -/
import Derived.Test.YtdofhbcohijpiaaDoorQPureFnExactRangeRead
import Derived.Test.YtdofhbcohijpiaaDoorQRRead
import Derived.Test.YtdofhbcohijpiaaDoorQOpen
import Derived.Test.YtdofhbcohijpiaaDoorQx13
import Derived.Test.YtdofhbcohijpiaaDoorQx18
namespace Go.Proofs.YtdofhbcohijpiaaDoor.Q
open Go.RowKit Go.Proofs.YtdofhbcohijpiaaDoorW.PrintWords Go.Proofs.YtdofhbcohijpiaaDoorW.PrintLast Go.Proofs.YtdofhbcohijpiaaDoorW.PrintMore
open Go.Proofs.YtdofhbcohijpiaaDoor.Open
set_option linter.unusedSimpArgs false
set_option linter.unusedVariables false
theorem yoursFnExactRangeRead : laws_FnExactRangeRead.Pure := by
  intro s _
  refine ⟨60, ?_⟩
  unfold laws_FnExactRangeRead.f laws_eqRange.f
  by_cases h : (s.size : Int) > 1048576
  · rw [if_pos h]
  · rw [if_neg h, s_rread s (by omega) 60 (Nat.le_refl _), i_rread s (by omega)]
    simp
end Go.Proofs.YtdofhbcohijpiaaDoor.Q
