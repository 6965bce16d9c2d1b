/- The law FnExactWordsText holds: the program's WordsText and the reference's answer alike, at all rows of words. No conditions. -/
import Derived.Test.YtdofhbcohijpiaaDoorQPureFnExactWordsText
import Derived.Test.YtdofhbcohijpiaaDoorQTFnExactWordsText
import Derived.Test.YtdofhbcohijpiaaDoorQOpen
import Derived.Test.YtdofhbcohijpiaaDoorQx44
namespace Go.Proofs.YtdofhbcohijpiaaDoor.Q
open Go.RowKit Go.Proofs.YtdofhbcohijpiaaDoorW.PrintWords Go.Proofs.YtdofhbcohijpiaaDoorW.PrintLast Go.Proofs.YtdofhbcohijpiaaDoorW.PrintMore
open Go.Proofs.YtdofhbcohijpiaaDoor.Open
set_option linter.unusedSimpArgs false
set_option linter.unusedVariables false
theorem join_weight : ∀ (l : List Wl), (Lib.join (texts (l.map conv)) [32]).length ≤ weight l + l.length
  | [] => by simp [texts, Lib.join]
  | x :: t => by
    have e : Lib.join (texts ((x :: t).map conv)) [32] = x.f1.data.toList ++ Lib.joinTail [32] (texts (t.map conv)) := Lib.join_cons _ _ _
    have tl : ∀ l : List Wl, (Lib.joinTail [32] (texts (l.map conv))).length ≤ weight l + l.length := by
      intro l
      induction l with
      | nil => simp [texts, Lib.joinTail]
      | cons y l ih =>
        have e2 : Lib.joinTail [32] (texts ((y :: l).map conv)) = [32] ++ y.f1.data.toList ++ Lib.joinTail [32] (texts (l.map conv)) := rfl
        rw [e2]
        simp only [List.length_append, List.length_cons, List.length_nil, weight]
        rw [← sizeL]
        omega
    rw [e, List.length_append, ← sizeL]
    have := tl t
    simp only [weight, List.length_cons]
    omega
theorem yoursFnExactWordsText : laws_FnExactWordsText.Pure := by
  intro l hfit
  obtain ⟨hl, hall⟩ := hfit
  have hl' : l.length ≤ 9223372036854775807 := by unfold maxLen at hl; omega
  have hs : ∀ x ∈ l, x.f1.size ≤ 9223372036854775807 := fun x hx => by
    have := (hall x hx).mk_.2.1
    unfold maxLen at this; omega
  refine ⟨l.length + 4000000, ?_⟩
  unfold laws_FnExactWordsText.f
  obtain ⟨r, e1, e2⟩ := sz_words l hl' hs (l.length + 4000000) (by omega)
  rw [e1, Option.bind_some]
  by_cases h : r < 0
  · rw [if_pos h]
  · rw [if_neg h]
    have hw := e2 (by omega)
    have hto := to_words l (by omega) (l.length + 4000000) (by omega)
    have hm : ∀ x ∈ l.map conv, x.f1.size ≤ 1048576 := fun x hx => by
      obtain ⟨y, hy, rfl⟩ := List.mem_map.1 hx
      have := weight_mem hy
      show y.f1.size ≤ 1048576
      omega
    have hj := join_weight l
    obtain ⟨a, a1, a2⟩ := s_wtext (l.map conv) hm (l.length + 4000000) (by omega)
    obtain ⟨b, b1, b2⟩ := i_wtext (l.map conv) (by rw [List.length_map]; omega) hm (by omega) (l.length + 4000000) (by omega)
    rw [hto, Option.bind_some, a1, Option.bind_some, Option.bind_some, b1, Option.bind_some, toL, toL, if_pos (b2.trans a2.symm), Option.bind_some, eqWs_self (l.map conv) (by rw [List.length_map]; omega) _ (by rw [List.length_map]; omega), Option.bind_some, if_pos rfl]
end Go.Proofs.YtdofhbcohijpiaaDoor.Q
