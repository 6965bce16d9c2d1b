/- The law FnExactValRead holds: the program's ValRead and the reference's answer alike, at all texts. No conditions. -/
import Derived.Test.YtdofhbcohijpiaaDoorQPureFnExactValRead
import Derived.Test.YtdofhbcohijpiaaDoorQVRead
import Derived.Test.YtdofhbcohijpiaaDoorQOpen
import Derived.Test.YtdofhbcohijpiaaDoorQx13
import Derived.Test.YtdofhbcohijpiaaDoorQx19
import Derived.Test.YtdofhbcohijpiaaDoorQx21
namespace Go.Proofs.YtdofhbcohijpiaaDoor.Q
open Go.RowKit Go.Proofs.YtdofhbcohijpiaaDoorW.PrintWords Go.Proofs.YtdofhbcohijpiaaDoorW.PrintLast Go.Proofs.YtdofhbcohijpiaaDoorW.PrintMore
open Go.Proofs.YtdofhbcohijpiaaDoor.Open
set_option linter.unusedSimpArgs false
set_option linter.unusedVariables false
theorem yoursFnExactValRead : laws_FnExactValRead.Pure := by
  intro s _
  refine ⟨70, ?_⟩
  unfold laws_FnExactValRead.f laws_eqVal.f laws_eqRange.f
  by_cases h : (s.size : Int) > 1048576
  · rw [if_pos h]
  · rw [if_neg h, s_vread s (by omega) 70 (Nat.le_refl _), i_vread s (by omega)]
    simp
end Go.Proofs.YtdofhbcohijpiaaDoor.Q
