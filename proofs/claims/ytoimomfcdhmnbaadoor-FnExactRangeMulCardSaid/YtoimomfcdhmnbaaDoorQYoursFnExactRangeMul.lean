/- The law FnExactRangeMul holds: the program's RangeMul and the reference's answer alike, at all arguments. No conditions. -/
import Derived.Test.YtoimomfcdhmnbaaDoorQPureFnExactRangeMul
import Derived.Test.YtoimomfcdhmnbaaDoorQMul
import Derived.Test.YtoimomfcdhmnbaaDoorQOpen
import Derived.Test.YtoimomfcdhmnbaaDoorQx19
import Derived.Test.YtoimomfcdhmnbaaDoorQx3
namespace Go.Proofs.YtoimomfcdhmnbaaDoor.Q
open Go.RowKit Go.Proofs.YtoimomfcdhmnbaaDoorW.PrintWords Go.Proofs.YtoimomfcdhmnbaaDoorW.PrintLast Go.Proofs.YtoimomfcdhmnbaaDoorW.PrintMore
open Go.Proofs.YtoimomfcdhmnbaaDoor.Open
set_option linter.unusedSimpArgs false
set_option linter.unusedVariables false
theorem yoursFnExactRangeMul : laws_FnExactRangeMul.Pure := by
  intro a b c d _ _ _ _
  refine ⟨8, ?_⟩
  unfold laws_FnExactRangeMul.f laws_toRange.f
  simp only [Option.bind_some, s_mul, i_mul 0, eqR]
  simp
end Go.Proofs.YtoimomfcdhmnbaaDoor.Q
