/- The law FnExactSegOk holds: the program's SegOk and the reference's answer alike, at all arguments, and the program leaves the row as it was. No conditions. -/
import Derived.Test.YtfeloencepgdlaaDoorQPureFnExactSegOk
import Derived.Test.YtfeloencepgdlaaDoorQTFnExactSegOk
import Derived.Test.YtfeloencepgdlaaDoorQOpen
import Derived.Test.YtfeloencepgdlaaDoorQx19
namespace Go.Proofs.YtfeloencepgdlaaDoor.Q
open Go.RowKit Go.Proofs.YtfeloencepgdlaaDoorW.PrintWords Go.Proofs.YtfeloencepgdlaaDoorW.PrintLast Go.Proofs.YtfeloencepgdlaaDoorW.PrintMore
open Go.Proofs.YtfeloencepgdlaaDoor.Open
set_option linter.unusedSimpArgs false
set_option linter.unusedVariables false
theorem yoursFnExactSegOk : laws_FnExactSegOk.Pure := by
  intro size l b v m _ _ hb hv hm
  obtain ⟨r, q1, q2⟩ := size_seg b v m hb.1 (fun x hx => (hb.2 x hx).1) hv.1 hm.1
  by_cases hr : r < 0
  · refine ⟨1048578, ?_⟩
    unfold laws_FnExactSegOk.f
    rw [q1 _ (by omega), Option.bind_some, if_pos hr]
  · obtain ⟨h1, h2, h3, h4⟩ := q2 (by omega)
    have hs := smallS b v m h1 h2 h3 h4
    obtain ⟨K, c, h⟩ := segOk size l _ _ _ hs
    obtain ⟨e1, e2⟩ := h (K + 2097200) (by omega)
    refine ⟨K + 2097200, ?_⟩
    unfold laws_FnExactSegOk.f
    rw [q1 _ (by omega), Option.bind_some, if_neg hr, to_seg b v m h1 h2 h3 h4 _ (by omega), Option.bind_some]
    simp only
    rw [e1, Option.bind_some, Option.bind_some]
    simp only
    rw [e2, Option.bind_some, if_neg (by simp), Option.bind_some]
    simp only
    rw [eq_seg hs _ (by omega), Option.bind_some, if_pos rfl]
end Go.Proofs.YtfeloencepgdlaaDoor.Q
