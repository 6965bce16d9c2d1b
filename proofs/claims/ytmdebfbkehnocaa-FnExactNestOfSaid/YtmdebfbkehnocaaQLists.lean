/- Rows of whole numbers, read by a place in them: small facts about the rest of a row behind a place. -/
import Derived.Test.YtmdebfbkehnocaaWLast
import Derived.Test.YtmdebfbkehnocaaWMore
import Derived.Test.YtmdebfbkehnocaaWWords
import Derived.Test.YtmdebfbkehnocaaQOpen
namespace Go.Proofs.Ytmdebfbkehnocaa.Q
open Go.RowKit Go.Proofs.YtmdebfbkehnocaaW.PrintWords Go.Proofs.YtmdebfbkehnocaaW.PrintLast Go.Proofs.YtmdebfbkehnocaaW.PrintMore
open Go.Proofs.Ytmdebfbkehnocaa.Open
set_option linter.unusedSimpArgs false
set_option linter.unusedVariables false
theorem drop_cons {α : Type} {l : List α} {i : Nat} {x : α} {t : List α} (h : l.drop i = x :: t) : i < l.length ∧ l[i]? = some x ∧ l.drop (i + 1) = t := by
  have h1 : i < l.length := by
    rcases Nat.lt_or_ge i l.length with h1 | h1
    · exact h1
    · rw [List.drop_eq_nil_of_le h1] at h; simp at h
  refine ⟨h1, ?_, ?_⟩
  · have := congrArg (fun z => z[0]?) h
    simpa using this
  · have := congrArg List.tail h
    simpa using this
theorem drop_nil {α : Type} {l : List α} {i : Nat} (h : l.drop i = []) : l.length ≤ i := by simpa using h
theorem rd_at {l : List Int} {i : Nat} {x : Int} (h : l[i]? = some x) : rd l (i : Int) = x := by
  unfold rd; simp [List.getD, h]
theorem w64 {n : Int} (h1 : -9223372036854775808 ≤ n) (h2 : n ≤ 9223372036854775807) : wrap64 n = n := by unfold wrap64; omega
theorem w64s (i : Nat) (h : i < 9223372036854775807) : wrap64 ((i : Int) + 1) = ((i + 1 : Nat) : Int) := by
  rw [w64 (by omega) (by omega)]; omega
end Go.Proofs.Ytmdebfbkehnocaa.Q
