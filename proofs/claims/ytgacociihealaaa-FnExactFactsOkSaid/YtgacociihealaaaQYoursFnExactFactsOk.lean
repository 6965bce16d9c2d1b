/- The law FnExactFactsOk holds: the program's FactsOk and the reference's answer alike, at all arguments, and the program leaves the facts as they were. No conditions. -/
import Derived.Test.YtgacociihealaaaQPureFnExactFactsOk
import Derived.Test.YtgacociihealaaaQFacts
import Derived.Test.YtgacociihealaaaQOpen
import Derived.Test.YtgacociihealaaaQx8
namespace Go.Proofs.Ytgacociihealaaa.Q
open Go.RowKit Go.Proofs.YtgacociihealaaaW.PrintWords Go.Proofs.YtgacociihealaaaW.PrintLast Go.Proofs.YtgacociihealaaaW.PrintMore
open Go.Proofs.Ytgacociihealaaa.Open
set_option linter.unusedSimpArgs false
set_option linter.unusedVariables false
theorem yoursFnExactFactsOk : laws_FnExactFactsOk.Pure := by
  intro n l hw hf
  have hm := hf.1
  simp only [maxLen] at hm
  refine ⟨l.length + 302, ?_⟩
  unfold laws_FnExactFactsOk.f
  rw [szF n l (by omega)]
  simp only [Option.bind_some]
  by_cases hl : l.length ≤ 1048576
  · rw [if_pos hl, if_neg (by omega)]
    simp only [toF _ n l (show l.length < l.length + 302 by omega) hl, Option.bind_some, s_facts _ n l (show 300 ≤ l.length + 302 by omega) hw, i_facts _ n l hl (show l.length + 2 ≤ l.length + 302 by omega), eqF _ n l (show l.length < l.length + 302 by omega) hl]
    simp
  · rw [if_neg hl]; rfl
end Go.Proofs.Ytgacociihealaaa.Q
