/- The law FnExactFactsText holds: the program's FactsText and the reference's answer alike, at all arguments. No conditions. -/
import Derived.Test.YtlkcbfonjcflgaaDoorQPureFnExactFactsText
import Derived.Test.YtlkcbfonjcflgaaDoorQTFnExactFactsText
import Derived.Test.YtlkcbfonjcflgaaDoorQOpen
import Derived.Test.YtlkcbfonjcflgaaDoorQx38
namespace Go.Proofs.YtlkcbfonjcflgaaDoor.Q
open Go.RowKit Go.Proofs.YtlkcbfonjcflgaaDoorW.PrintWords Go.Proofs.YtlkcbfonjcflgaaDoorW.PrintLast Go.Proofs.YtlkcbfonjcflgaaDoorW.PrintMore
open Go.Proofs.YtlkcbfonjcflgaaDoor.Open
set_option linter.unusedSimpArgs false
set_option linter.unusedVariables false
theorem yoursFnExactFactsText : laws_FnExactFactsText.Pure := by
  intro n l names hw hfl hfn
  have hm := hfl.1
  simp only [maxLen] at hm
  have hl' : names.length ≤ 9223372036854775807 := by have := hfn.1; unfold maxLen at this; omega
  have hs : ∀ x ∈ names, x.size ≤ 9223372036854775807 := fun x hx => by
    have := hfn.2 x hx
    unfold maxLen at this; omega
  refine ⟨l.length + names.length + 5000000, ?_⟩
  unfold laws_FnExactFactsText.f
  rw [szF n l (by omega), Option.bind_some]
  by_cases hl : l.length ≤ 1048576
  · rw [if_pos hl, if_neg (by omega)]
    obtain ⟨r, e1, e3, e2⟩ := sz_strs names (1048576 - (l.length : Int)) (by omega) (by omega) hl' hs (l.length + names.length + 5000000) (by omega)
    rw [e1, Option.bind_some]
    by_cases h : r < 0
    · rw [if_pos h]
    · rw [if_neg h]
      have hwt := e2 (by omega)
      have hm2 : ∀ x ∈ names, x.size ≤ 1048576 := fun x hx => by
        have := weightS_mem hx
        omega
      obtain ⟨a, a1, a2⟩ := s_ftext n l names hw (by omega) hm2 (l.length + names.length + 5000000) (by omega)
      obtain ⟨b, b1, b2⟩ := i_ftext n l names hl (by omega) hm2 (l.length + names.length + 5000000) (by omega)
      rw [toF _ n l (by omega) hl, Option.bind_some, to_strs names (by omega) _ (by omega), Option.bind_some, a1, Option.bind_some, Option.bind_some, Option.bind_some, b1, Option.bind_some, toL, toL, if_pos (b2.trans a2.symm), Option.bind_some, eqF _ n l (by omega) hl, Option.bind_some, if_pos rfl, Option.bind_some, eqSs_self names (by omega) _ (by omega), Option.bind_some, if_pos rfl]
  · rw [if_neg hl, if_pos (by omega)]
end Go.Proofs.YtlkcbfonjcflgaaDoor.Q
