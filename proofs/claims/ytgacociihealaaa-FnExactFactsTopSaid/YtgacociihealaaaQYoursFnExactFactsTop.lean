/- The law FnExactFactsTop holds: the program's FactsTop and the reference's answer alike, at all arguments, and what the program gives is its own. No conditions. -/
import Derived.Test.YtgacociihealaaaQPureFnExactFactsTop
import Derived.Test.YtgacociihealaaaQTop
import Derived.Test.YtgacociihealaaaQOpen
import Derived.Test.YtgacociihealaaaQx11
import Derived.Test.YtgacociihealaaaQx12
namespace Go.Proofs.Ytgacociihealaaa.Q
open Go.RowKit Go.Proofs.YtgacociihealaaaW.PrintWords Go.Proofs.YtgacociihealaaaW.PrintLast Go.Proofs.YtgacociihealaaaW.PrintMore
open Go.Proofs.Ytgacociihealaaa.Open
set_option linter.unusedSimpArgs false
set_option linter.unusedVariables false
theorem yoursFnExactFactsTop : laws_FnExactFactsTop.Pure := by
  intro n hw
  refine ⟨1000, ?_⟩
  unfold laws_FnExactFactsTop.f laws_markFacts.f laws_heldFacts.f
  simp only [s_top 1000 n (by omega), i_top 1000 n (by omega), Option.bind_some]
  have hl := topF_len n
  rw [eqF 1000 _ _ (by omega) (by omega)]
  simp only [Option.bind_some, if_true, marks 1000 _ (show (topF n).2.length < 1000 by omega) (by omega), helds 1000 _ (show (topF n).2.length < 1000 by omega) (by omega)]
  rw [if_neg (by omega)]
  simp only [Option.bind_some]
  rw [if_neg (by omega)]
  simp
  omega
end Go.Proofs.Ytgacociihealaaa.Q
