/- The law FnExactRangeText holds: the program's RangeText and the reference's answer alike, at all arguments. No conditions. -/
import Derived.Test.YtdofhbcohijpiaaDoorQPureFnExactRangeText
import Derived.Test.YtdofhbcohijpiaaDoorQRText
import Derived.Test.YtdofhbcohijpiaaDoorQOpen
import Derived.Test.YtdofhbcohijpiaaDoorQx4
import Derived.Test.YtdofhbcohijpiaaDoorQx6
namespace Go.Proofs.YtdofhbcohijpiaaDoor.Q
open Go.RowKit Go.Proofs.YtdofhbcohijpiaaDoorW.PrintWords Go.Proofs.YtdofhbcohijpiaaDoorW.PrintLast Go.Proofs.YtdofhbcohijpiaaDoorW.PrintMore
open Go.Proofs.YtdofhbcohijpiaaDoor.Open
set_option linter.unusedSimpArgs false
set_option linter.unusedVariables false
theorem yoursFnExactRangeText : laws_FnExactRangeText.Pure := by
  intro a b _ _
  refine ⟨1000010, ?_⟩
  unfold laws_FnExactRangeText.f laws_toRange.f
  simp only [Option.bind_some, s_rtext _ _ 1000010 (Nat.le_refl _), i_rtext, if_true]
end Go.Proofs.YtdofhbcohijpiaaDoor.Q
