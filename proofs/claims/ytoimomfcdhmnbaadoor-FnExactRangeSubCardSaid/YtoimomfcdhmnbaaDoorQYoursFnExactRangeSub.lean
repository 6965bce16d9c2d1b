/- The law FnExactRangeSub holds: the program's RangeSub and the reference's answer alike, at all arguments. No conditions. -/
import Derived.Test.YtoimomfcdhmnbaaDoorQPureFnExactRangeSub
import Derived.Test.YtoimomfcdhmnbaaDoorQRng3
import Derived.Test.YtoimomfcdhmnbaaDoorQOpen
import Derived.Test.YtoimomfcdhmnbaaDoorQx3
import Derived.Test.YtoimomfcdhmnbaaDoorQx9
namespace Go.Proofs.YtoimomfcdhmnbaaDoor.Q
open Go.RowKit Go.Proofs.YtoimomfcdhmnbaaDoorW.PrintWords Go.Proofs.YtoimomfcdhmnbaaDoorW.PrintLast Go.Proofs.YtoimomfcdhmnbaaDoorW.PrintMore
open Go.Proofs.YtoimomfcdhmnbaaDoor.Open
set_option linter.unusedSimpArgs false
set_option linter.unusedVariables false
theorem yoursFnExactRangeSub : laws_FnExactRangeSub.Pure := by
  intro a b c d _ _ _ _
  refine ⟨3, ?_⟩
  unfold laws_FnExactRangeSub.f laws_toRange.f
  simp only [Option.bind_some, s_sub, i_sub 0, eqR]
  simp
end Go.Proofs.YtoimomfcdhmnbaaDoor.Q
