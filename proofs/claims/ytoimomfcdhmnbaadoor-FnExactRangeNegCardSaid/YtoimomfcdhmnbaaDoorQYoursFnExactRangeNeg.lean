/- The law FnExactRangeNeg holds: the program's RangeNeg and the reference's answer alike, at all arguments. No conditions. -/
import Derived.Test.YtoimomfcdhmnbaaDoorQPureFnExactRangeNeg
import Derived.Test.YtoimomfcdhmnbaaDoorQRng3
import Derived.Test.YtoimomfcdhmnbaaDoorQOpen
import Derived.Test.YtoimomfcdhmnbaaDoorQx3
import Derived.Test.YtoimomfcdhmnbaaDoorQx4
namespace Go.Proofs.YtoimomfcdhmnbaaDoor.Q
open Go.RowKit Go.Proofs.YtoimomfcdhmnbaaDoorW.PrintWords Go.Proofs.YtoimomfcdhmnbaaDoorW.PrintLast Go.Proofs.YtoimomfcdhmnbaaDoorW.PrintMore
open Go.Proofs.YtoimomfcdhmnbaaDoor.Open
set_option linter.unusedSimpArgs false
set_option linter.unusedVariables false
theorem yoursFnExactRangeNeg : laws_FnExactRangeNeg.Pure := by
  intro a b _ _
  refine ⟨2, ?_⟩
  unfold laws_FnExactRangeNeg.f laws_toRange.f
  simp only [Option.bind_some, s_neg, i_neg 0, eqR]
  simp
end Go.Proofs.YtoimomfcdhmnbaaDoor.Q
