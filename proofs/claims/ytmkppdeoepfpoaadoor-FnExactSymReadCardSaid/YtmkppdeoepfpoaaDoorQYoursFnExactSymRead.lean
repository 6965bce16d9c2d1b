/- The law FnExactSymRead holds: the program's SymRead and the reference's answer alike, at all arguments. No conditions. -/
import Derived.Test.YtmkppdeoepfpoaaDoorQPureFnExactSymRead
import Derived.Test.YtmkppdeoepfpoaaDoorQSRead
import Derived.Test.YtmkppdeoepfpoaaDoorQStrS
import Derived.Test.YtmkppdeoepfpoaaDoorQOpen
import Derived.Test.YtmkppdeoepfpoaaDoorQx15
import Derived.Test.YtmkppdeoepfpoaaDoorQx4
namespace Go.Proofs.YtmkppdeoepfpoaaDoor.Q
open Go.RowKit Go.Proofs.YtmkppdeoepfpoaaDoorW.PrintWords Go.Proofs.YtmkppdeoepfpoaaDoorW.PrintLast Go.Proofs.YtmkppdeoepfpoaaDoorW.PrintMore
open Go.Proofs.YtmkppdeoepfpoaaDoor.Open
set_option linter.unusedSimpArgs false
set_option linter.unusedVariables false
theorem yoursFnExactSymRead : laws_FnExactSymRead.Pure := by
  intro s l _ hfit
  obtain ⟨hl, hall⟩ := hfit
  have hl' : l.length ≤ 9223372036854775807 := by unfold maxLen at hl; omega
  have hs : ∀ x ∈ l, x.size ≤ 9223372036854775807 := fun x hx => by
    have := hall x hx
    unfold maxLen at this; omega
  refine ⟨7 * l.length + 4000001, ?_⟩
  unfold laws_FnExactSymRead.f
  by_cases h0 : (s.size : Int) > 1048576
  · rw [if_pos h0]
  · rw [if_neg h0]
    obtain ⟨r, e1, e3, e2⟩ := sz_strs l 1048576 (by omega) (by omega) hl' hs (7 * l.length + 4000001) (by omega)
    rw [e1, Option.bind_some]
    by_cases h : r < 0
    · rw [if_pos h]
    · rw [if_neg h]
      have hw := e2 (by omega)
      have hm : ∀ x ∈ l, x.size ≤ 1048576 := fun x hx => by
        have := weightS_mem hx
        omega
      rw [to_strs l (by omega) _ (by omega), Option.bind_some, s_sread s (by omega) l (by omega) hm _ (by omega), Option.bind_some, Option.bind_some, i_sread s (by omega) l (by omega) hm _ (by omega), Option.bind_some]
      generalize sread l s.data.toList = x
      have eqs : laws_eqSym.f x.1 x.2.1 x.1 x.2.1 = some true := by unfold laws_eqSym.f; rw [if_pos rfl, if_pos rfl]
      have eqb : (x.2.2 != x.2.2) = false := by simp
      rw [eqs, Option.bind_some, if_pos rfl, eqb, laws_FnExactSymRead.j0, if_neg (by simp), to_strs l (by omega) _ (by omega), Option.bind_some, eqSs_self l (by omega) _ (by omega), Option.bind_some, if_pos rfl]
end Go.Proofs.YtmkppdeoepfpoaaDoor.Q
