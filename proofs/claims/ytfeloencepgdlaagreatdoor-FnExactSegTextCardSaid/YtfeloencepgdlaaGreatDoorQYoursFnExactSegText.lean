/- The law FnExactSegText holds: the program's SegText and the reference's answer alike, at all arguments, and the program leaves them as they were. No conditions. -/
import Derived.Test.YtfeloencepgdlaaGreatDoorQPureFnExactSegText
import Derived.Test.YtfeloencepgdlaaGreatDoorQTFnExactSegText
import Derived.Test.YtfeloencepgdlaaGreatDoorQOpen
import Derived.Test.YtfeloencepgdlaaGreatDoorQXFnExactSegText
namespace Go.Proofs.YtfeloencepgdlaaGreatDoor.Q
open Go.RowKit Go.Proofs.YtfeloencepgdlaaGreatDoorW.PrintWords Go.Proofs.YtfeloencepgdlaaGreatDoorW.PrintLast Go.Proofs.YtfeloencepgdlaaGreatDoorW.PrintMore
open Go.Proofs.YtfeloencepgdlaaGreatDoor.Open
set_option linter.unusedSimpArgs false
set_option linter.unusedVariables false
theorem yoursFnExactSegText : laws_FnExactSegText.Pure := by
  intro size l b v m names hw _ hb hv hm hfit
  obtain ⟨hl, hall⟩ := hfit
  have hl' : names.length ≤ 9223372036854775807 := by unfold maxLen at hl; omega
  have hs : ∀ x ∈ names, x.size ≤ 9223372036854775807 := fun x hx => by
    have := hall x hx
    unfold maxLen at this; omega
  obtain ⟨r, q1, q3, q2⟩ := size_seg b v m hb.1 (fun x hx => (hb.2 x hx).1) hv.1 hm.1
  by_cases hr : r < 0
  · refine ⟨1048578, ?_⟩
    unfold laws_FnExactSegText.f
    rw [q1 _ (by omega), Option.bind_some, if_pos hr]
  · obtain ⟨h1, h2, h3, h4⟩ := q2 (by omega)
    have hsm := smallS b v m h1 h2 h3 h4
    by_cases hn : names.length ≤ 1048576 ∧ ∀ x ∈ names, x.size ≤ 1048576
    · obtain ⟨K, x, hx⟩ := segText size l _ _ _ names hsm hn.1 hn.2 hw
      obtain ⟨e1, e2⟩ := hx (K + names.length + 2097200) (by omega)
      refine ⟨K + names.length + 2097200, ?_⟩
      unfold laws_FnExactSegText.f
      obtain ⟨r2, p1, p3, p2⟩ := sz_strs names r (by omega) q3 hl' hs (K + names.length + 2097200) (by omega)
      rw [q1 _ (by omega), Option.bind_some, if_neg hr, p1, Option.bind_some]
      by_cases hr2 : r2 < 0
      · rw [if_pos hr2]
      · have hto := to_strs names hn.1 (K + names.length + 2097200) (by omega)
        rw [if_neg hr2, to_seg b v m h1 h2 h3 h4 _ (by omega), Option.bind_some, hto, Option.bind_some]
        simp only
        rw [e1, Option.bind_some, Option.bind_some, Option.bind_some]
        simp only
        rw [e2, Option.bind_some, if_pos rfl, Option.bind_some]
        simp only
        rw [eq_seg hsm _ (by omega), Option.bind_some, if_pos rfl, Option.bind_some, eqSs_self names (by omega) _ (by omega), Option.bind_some, if_pos rfl]
    · refine ⟨names.length + 2097200, ?_⟩
      unfold laws_FnExactSegText.f
      obtain ⟨r2, p1, p3, p2⟩ := sz_strs names r (by omega) q3 hl' hs (names.length + 2097200) (by omega)
      rw [q1 _ (by omega), Option.bind_some, if_neg hr, p1, Option.bind_some]
      by_cases hr2 : r2 < 0
      · rw [if_pos hr2]
      · have hw2 := p2 (by omega)
        exfalso
        refine hn ⟨by omega, fun x hx => ?_⟩
        have := weightS_mem hx
        omega
end Go.Proofs.YtfeloencepgdlaaGreatDoor.Q
