/- The law FnExactWordOk holds: the program's WordOk and the reference's answer alike, at all words. No conditions. -/
import Derived.Test.YtdofhbcohijpiaaDoorQPureFnExactWordOk
import Derived.Test.YtdofhbcohijpiaaDoorQTFnExactWordOk
import Derived.Test.YtdofhbcohijpiaaDoorQOpen
import Derived.Test.YtdofhbcohijpiaaDoorQx22
import Derived.Test.YtdofhbcohijpiaaDoorQx31
namespace Go.Proofs.YtdofhbcohijpiaaDoor.Q
open Go.RowKit Go.Proofs.YtdofhbcohijpiaaDoorW.PrintWords Go.Proofs.YtdofhbcohijpiaaDoorW.PrintLast Go.Proofs.YtdofhbcohijpiaaDoorW.PrintMore
open Go.Proofs.YtdofhbcohijpiaaDoor.Open
set_option linter.unusedSimpArgs false
set_option linter.unusedVariables false
theorem yoursFnExactWordOk : laws_FnExactWordOk.Pure := by
  intro a s b _ hs _
  refine ⟨s.size + 40, ?_⟩
  have hs' : s.size ≤ 9223372036854775807 := by unfold maxLen at hs; omega
  unfold laws_FnExactWordOk.f laws_szWord.f laws_toWord.f
  rw [w64 (by omega) (by omega)]
  by_cases h : (1048576 : Int) - (s.size : Int) < 0
  · rw [if_pos h]; rfl
  · rw [if_neg h]
    simp only [Option.bind_some]
    rw [if_neg h, s_wordOk _ _ _ (by omega) _ (Nat.le_refl _), i_wordOk _ _ _ (by omega) _ (Nat.le_refl _)]
    simp
end Go.Proofs.YtdofhbcohijpiaaDoor.Q
