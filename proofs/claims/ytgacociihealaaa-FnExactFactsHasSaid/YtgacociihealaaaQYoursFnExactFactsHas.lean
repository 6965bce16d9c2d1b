/- The law FnExactFactsHas holds: the program's FactsHas and the reference's answer alike, at all arguments, and the program leaves what it gets as it was. No conditions. -/
import Derived.Test.YtgacociihealaaaQPureFnExactFactsHas
import Derived.Test.YtgacociihealaaaQFactsHas
import Derived.Test.YtgacociihealaaaQOpen
import Derived.Test.YtgacociihealaaaQx17
namespace Go.Proofs.Ytgacociihealaaa.Q
open Go.RowKit Go.Proofs.YtgacociihealaaaW.PrintWords Go.Proofs.YtgacociihealaaaW.PrintLast Go.Proofs.YtgacociihealaaaW.PrintMore
open Go.Proofs.Ytgacociihealaaa.Open
set_option linter.unusedSimpArgs false
set_option linter.unusedVariables false
theorem yoursFnExactFactsHas : laws_FnExactFactsHas.Pure := by
  intro n l v hw hf hv
  have hm := hf.1
  simp only [maxLen] at hm
  refine ⟨l.length + v.length + 702, ?_⟩
  unfold laws_FnExactFactsHas.f
  split
  · rfl
  · have hvl : v.length ≤ 1048576 := by omega
    rw [szF n l (by omega)]
    simp only [Option.bind_some]
    by_cases hl : l.length ≤ 1048576
    · rw [if_pos hl, if_neg (by omega)]
      simp only [toF _ n l (show l.length < l.length + v.length + 702 by omega) hl, toInts _ v (show v.length < l.length + v.length + 702 by omega) hvl, Option.bind_some, s_fhas (l.length + v.length + 702) n l v hvl hw (by omega), i_fhas (l.length + v.length + 702) n l v hl hvl (by omega), eqF _ n l (show l.length < l.length + v.length + 702 by omega) hl, eqInts _ v (show v.length < l.length + v.length + 702 by omega) hvl]
      simp
    · rw [if_neg hl]; rfl
end Go.Proofs.Ytgacociihealaaa.Q
