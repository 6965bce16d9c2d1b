/- The law FnExactGraphOk holds: the program's GraphOk and the reference's answer alike, at all arguments, and the program leaves the graph as it was. No conditions. -/
import Derived.Test.YtbfbncpbbnpdgaaQPureFnExactGraphOk
import Derived.Test.YtbfbncpbbnpdgaaQGOk
import Derived.Test.YtbfbncpbbnpdgaaQOpen
import Derived.Test.YtbfbncpbbnpdgaaQx10
namespace Go.Proofs.Ytbfbncpbbnpdgaa.Q
open Go.RowKit Go.Proofs.YtbfbncpbbnpdgaaW.PrintWords Go.Proofs.YtbfbncpbbnpdgaaW.PrintLast Go.Proofs.YtbfbncpbbnpdgaaW.PrintMore
open Go.Proofs.Ytbfbncpbbnpdgaa.Open
set_option linter.unusedSimpArgs false
set_option linter.unusedVariables false
theorem yoursFnExactGraphOk : laws_FnExactGraphOk.Pure := by
  intro a l ha hl
  obtain ⟨K1, v, q1, q3⟩ := size_graph a l hl.1 (fun y hy => sizeE y (sized y.f4 (hl.2 y hy).2.2.2.2))
  by_cases hv : v < 0
  · refine ⟨K1, ?_⟩
    unfold laws_FnExactGraphOk.f
    rw [q1 K1 (Nat.le_refl _), Option.bind_some, if_pos hv]
  · obtain ⟨zs, hz, hs, K2, r1⟩ := q3 (by omega)
    obtain ⟨K3, r2⟩ := eq_graph a zs hz hs
    refine ⟨K1 + K2 + K3 + zs.length + 2, ?_⟩
    unfold laws_FnExactGraphOk.f
    rw [q1 _ (by omega), Option.bind_some, if_neg hv, r1 _ (by omega), Option.bind_some]
    simp only
    rw [s_graph a zs hz _ (by omega), Option.bind_some, Option.bind_some]
    simp only
    rw [i_graph, Option.bind_some, if_neg (by simp), Option.bind_some]
    simp only
    rw [r2 _ (by omega), Option.bind_some, if_pos rfl]
end Go.Proofs.Ytbfbncpbbnpdgaa.Q
