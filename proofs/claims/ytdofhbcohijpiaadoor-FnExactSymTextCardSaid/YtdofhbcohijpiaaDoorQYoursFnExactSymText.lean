/- The law FnExactSymText holds: the program's SymText and the reference's answer alike, at all arguments. No conditions. -/
import Derived.Test.YtdofhbcohijpiaaDoorQPureFnExactSymText
import Derived.Test.YtdofhbcohijpiaaDoorQTFnExactSymText
import Derived.Test.YtdofhbcohijpiaaDoorQOpen
import Derived.Test.YtdofhbcohijpiaaDoorQx48
import Derived.Test.YtdofhbcohijpiaaDoorQx52
namespace Go.Proofs.YtdofhbcohijpiaaDoor.Q
open Go.RowKit Go.Proofs.YtdofhbcohijpiaaDoorW.PrintWords Go.Proofs.YtdofhbcohijpiaaDoorW.PrintLast Go.Proofs.YtdofhbcohijpiaaDoorW.PrintMore
open Go.Proofs.YtdofhbcohijpiaaDoor.Open
set_option linter.unusedSimpArgs false
set_option linter.unusedVariables false
theorem yoursFnExactSymText : laws_FnExactSymText.Pure := by
  intro a b l _ _ hfit
  obtain ⟨hl, hall⟩ := hfit
  have hl' : l.length ≤ 9223372036854775807 := by unfold maxLen at hl; omega
  have hs : ∀ x ∈ l, x.size ≤ 9223372036854775807 := fun x hx => by
    have := hall x hx
    unfold maxLen at this; omega
  refine ⟨l.length + 4000000, ?_⟩
  unfold laws_FnExactSymText.f laws_toSym.f
  obtain ⟨r, e1, e3, e2⟩ := sz_strs l 1048576 (by omega) (by omega) hl' hs (l.length + 4000000) (by omega)
  rw [e1, Option.bind_some]
  by_cases h : r < 0
  · rw [if_pos h]
  · rw [if_neg h]
    have hw := e2 (by omega)
    have hto := to_strs l (by omega) (l.length + 4000000) (by omega)
    have hm : ∀ x ∈ l, x.size ≤ 1048576 := fun x hx => by
      have := weightS_mem hx
      omega
    rw [Option.bind_some, hto, Option.bind_some]
    simp only
    rw [s_symtext a b l (by omega) hm _ (by omega), Option.bind_some, Option.bind_some, Option.bind_some]
    simp only
    rw [i_symtext a b l (by omega) hm _ (by omega), Option.bind_some, if_pos rfl, Option.bind_some, eqSs_self l (by omega) _ (by omega), Option.bind_some, if_pos rfl]
end Go.Proofs.YtdofhbcohijpiaaDoor.Q
