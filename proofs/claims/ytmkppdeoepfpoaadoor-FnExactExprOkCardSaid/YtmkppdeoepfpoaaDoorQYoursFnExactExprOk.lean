/- The law FnExactExprOk holds: the program's ExprOk and the reference's answer alike, at all arguments, and the program leaves the tree as it was. No conditions. -/
import Derived.Test.YtmkppdeoepfpoaaDoorQPureFnExactExprOk
import Derived.Test.YtmkppdeoepfpoaaDoorQTFnExactExprOk
import Derived.Test.YtmkppdeoepfpoaaDoorQOpen
import Derived.Test.YtmkppdeoepfpoaaDoorQx22
import Derived.Test.YtmkppdeoepfpoaaDoorQx23
import Derived.Test.YtmkppdeoepfpoaaDoorQx27
import Derived.Test.YtmkppdeoepfpoaaDoorQx28
namespace Go.Proofs.YtmkppdeoepfpoaaDoor.Q
open Go.RowKit Go.Proofs.YtmkppdeoepfpoaaDoorW.PrintWords Go.Proofs.YtmkppdeoepfpoaaDoorW.PrintLast Go.Proofs.YtmkppdeoepfpoaaDoorW.PrintMore
open Go.Proofs.YtmkppdeoepfpoaaDoor.Open
set_option linter.unusedSimpArgs false
set_option linter.unusedVariables false
theorem exprOk (z : INode) (hz : Small z) : ∃ K b, ∀ k, K ≤ k → spec_ExprOk.f k z.f0 z.f1 z.f2 z.f3 = some b ∧ impl_ExprOk.f k z.f0 z.f1 z.f2 z.f3 = some b := by
  obtain ⟨c, ⟨K1, q1⟩, ⟨K2, q2⟩⟩ := expr_small z hz
  obtain ⟨K3, v, q3⟩ := same_CountNodes z hz
  obtain ⟨K4, d, q4⟩ := same_DepthOf z hz
  refine ⟨K1 + K2 + K3 + K4, decide (v ≤ 500) && decide (d ≤ 24) && (isK z.f0 && c), fun k hk => ?_⟩
  obtain ⟨n1, n2⟩ := q3 k (by omega)
  obtain ⟨d1, d2⟩ := q4 k (by omega)
  have e1 := q1 k (by omega)
  have e2 := q2 k (by omega)
  refine ⟨?_, ?_⟩
  · rw [spec_ExprOk.f, s_isK, Option.bind_some, spec_l02Fits.f, n1, Option.bind_some, d1, Option.bind_some, e1, Option.bind_some]
    by_cases h1 : v ≤ 500 <;> by_cases h2 : d ≤ 24 <;> cases isK z.f0 <;> simp [h1, h2]
  · rw [impl_ExprOk.f, impl_isLarge.f, n2, Option.bind_some, d2, Option.bind_some, e2, Option.bind_some]
    by_cases h1 : v ≤ 500
    · have h1' : ¬ v > 500 := by omega
      by_cases h2 : d ≤ 24
      · have h2' : ¬ d > 24 := by omega
        simp [h1, h1', h2, h2']
      · have h2' : d > 24 := by omega
        simp [h1, h1', h2, h2']
    · have h1' : v > 500 := by omega
      simp [h1, h1']
theorem yoursFnExactExprOk : laws_FnExactExprOk.Pure := by
  intro a s n l ha hs hn hl
  obtain ⟨K1, v, q1, q2, q3⟩ := size_one a s n l hs hl.1 (fun y hy => sized y (hl.2 y hy)) 1048576 (by omega) (by omega)
  by_cases hv : v < 0
  · refine ⟨K1, ?_⟩
    unfold laws_FnExactExprOk.f
    rw [q1 K1 (Nat.le_refl _)]
    simp only [Option.bind_some]
    rw [if_pos hv]
  · obtain ⟨z, hz, K2, r1⟩ := q3 (by omega)
    obtain ⟨K3, r2⟩ := eq_small z hz
    obtain ⟨K4, u, r3⟩ := exprOk z hz
    refine ⟨K1 + K2 + K3 + K4, ?_⟩
    obtain ⟨p1, p2⟩ := r3 (K1 + K2 + K3 + K4) (by omega)
    have e1 := r1 (K1 + K2 + K3 + K4) (by omega)
    have e2 := r2 (K1 + K2 + K3 + K4) (by omega)
    have e3 := q1 (K1 + K2 + K3 + K4) (by omega)
    simp only at e1 e3
    unfold laws_FnExactExprOk.f
    rw [e3, Option.bind_some, if_neg hv, e1, Option.bind_some]
    simp only
    rw [p1, Option.bind_some, Option.bind_some]
    simp only
    rw [p2, Option.bind_some, if_neg (by simp), Option.bind_some]
    simp only
    rw [e2, Option.bind_some, if_pos rfl]
end Go.Proofs.YtmkppdeoepfpoaaDoor.Q
