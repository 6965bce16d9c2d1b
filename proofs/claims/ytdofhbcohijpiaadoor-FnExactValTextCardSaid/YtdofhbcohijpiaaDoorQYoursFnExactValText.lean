/- The law FnExactValText holds: the program's ValText and the reference's answer alike, at all arguments. No conditions. -/
import Derived.Test.YtdofhbcohijpiaaDoorQPureFnExactValText
import Derived.Test.YtdofhbcohijpiaaDoorQRText
import Derived.Test.YtdofhbcohijpiaaDoorQVal
import Derived.Test.YtdofhbcohijpiaaDoorQOpen
import Derived.Test.YtdofhbcohijpiaaDoorQx4
import Derived.Test.YtdofhbcohijpiaaDoorQx7
namespace Go.Proofs.YtdofhbcohijpiaaDoor.Q
open Go.RowKit Go.Proofs.YtdofhbcohijpiaaDoorW.PrintWords Go.Proofs.YtdofhbcohijpiaaDoorW.PrintLast Go.Proofs.YtdofhbcohijpiaaDoorW.PrintMore
open Go.Proofs.YtdofhbcohijpiaaDoor.Open
set_option linter.unusedSimpArgs false
set_option linter.unusedVariables false
theorem yoursFnExactValText : laws_FnExactValText.Pure := by
  intro a b s _ _
  refine ⟨1000010 + 1, ?_⟩
  unfold laws_FnExactValText.f laws_toVal.f laws_toRange.f spec_ValText.f impl_ValText.f
  simp only [Option.bind_some, s_vok, i_vok, s_rtext _ _ (1000010 + 1) (by omega)]
  rw [impl_ValText.j0, impl_ValText.j0]
  simp only [i_rtext, Option.bind_some]
  have l := rtext_len a b
  have c : (rtext a b).size + 13 ≤ 9223372036854775807 := by omega
  by_cases h : okR a b = true
  · cases s <;> simp [h, c]
  · simp [h, rtext]
end Go.Proofs.YtdofhbcohijpiaaDoor.Q
