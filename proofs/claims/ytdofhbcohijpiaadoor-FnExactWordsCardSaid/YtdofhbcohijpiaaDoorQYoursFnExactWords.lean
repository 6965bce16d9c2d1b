/- The law FnExactWords holds: the program's Words and the reference's answer alike, at all texts, and what is handed back is the caller's own. No conditions. -/
import Derived.Test.YtdofhbcohijpiaaDoorQPureFnExactWords
import Derived.Test.YtdofhbcohijpiaaDoorQTFnExactWords
import Derived.Test.YtdofhbcohijpiaaDoorQOpen
import Derived.Test.YtdofhbcohijpiaaDoorQx37
import Derived.Test.YtdofhbcohijpiaaDoorQx41
namespace Go.Proofs.YtdofhbcohijpiaaDoor.Q
open Go.RowKit Go.Proofs.YtdofhbcohijpiaaDoorW.PrintWords Go.Proofs.YtdofhbcohijpiaaDoorW.PrintLast Go.Proofs.YtdofhbcohijpiaaDoorW.PrintMore
open Go.Proofs.YtdofhbcohijpiaaDoor.Open
set_option linter.unusedSimpArgs false
set_option linter.unusedVariables false
theorem yoursFnExactWords : laws_FnExactWords.Pure := by
  intro s _
  refine ⟨70002, ?_⟩
  unfold laws_FnExactWords.f
  by_cases h : (s.size : Int) > 1048576
  · rw [if_pos h]
  · have hl := wordsL_len s.data.toList
    rw [if_neg h, s_words s _ (by omega), i_words s _ (by omega), Option.bind_some, Option.bind_some]
    have iw := i_words s 70001 (by omega)
    generalize wordsL s.data.toList = x at hl iw
    obtain ⟨l, c, a⟩ := x
    simp only at hl
    have eqf : laws_eqFault.f c a c a = some true := by unfold laws_eqFault.f; rw [if_pos rfl, if_pos rfl]
    simp only
    rw [eqWs_self l (by omega) _ (by omega), Option.bind_some, if_pos rfl, eqf, Option.bind_some]
    rw [laws_FnExactWords.j0, if_neg (by simp), mark_is l (by omega) _ (by omega), Option.bind_some]
    simp only
    rw [held_is l.length (by omega) _ (by omega), Option.bind_some, if_neg (by omega), if_pos rfl, iw, Option.bind_some]
    simp only
    rw [eqWs_self l (by omega) _ (by omega), Option.bind_some, if_pos rfl, eqf, Option.bind_some]
    rw [laws_FnExactWords.j1, if_neg (by simp), held_is l.length (by omega) _ (by omega), Option.bind_some, if_neg (by omega), if_pos rfl]
end Go.Proofs.YtdofhbcohijpiaaDoor.Q
