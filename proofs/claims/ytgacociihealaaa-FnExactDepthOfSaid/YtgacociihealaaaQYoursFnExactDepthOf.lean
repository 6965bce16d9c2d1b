/- The law FnExactDepthOf holds: the program's DepthOf and the reference's answer alike, at all arguments, and the program leaves the tree as it was. No conditions. -/
import Derived.Test.YtgacociihealaaaQPureFnExactDepthOf
import Derived.Test.YtgacociihealaaaQNode
import Derived.Test.YtgacociihealaaaQOpen
import Derived.Test.YtgacociihealaaaQx12
import Derived.Test.YtgacociihealaaaQx13
namespace Go.Proofs.Ytgacociihealaaa.Q
open Go.RowKit Go.Proofs.YtgacociihealaaaW.PrintWords Go.Proofs.YtgacociihealaaaW.PrintLast Go.Proofs.YtgacociihealaaaW.PrintMore
open Go.Proofs.Ytgacociihealaaa.Open
set_option linter.unusedSimpArgs false
set_option linter.unusedVariables false
def SameDepthOf (y : INode) : Prop := ∃ K v, ∀ k, K ≤ k → spec_DepthOf.f k y.f0 y.f1 y.f2 y.f3 = some v ∧ impl_DepthOf.f k y.f0 y.f1 y.f2 y.f3 = some v
theorem same_l_DepthOf (a : Int) (s : ByteArray) (n : Int) (l : List INode) (hn : l.length ≤ 1048576) : ∀ t i, l.drop i = t → (∀ y ∈ t, SameDepthOf y) → ∀ acc : Int,
    ∃ K v, ∀ k, K ≤ k → spec_DepthOf.l0 k acc (i : Int) a s n l = some v ∧ impl_DepthOf.l0 k acc l (l.length : Int) (i : Int) = some v
  | [], i, h, _, acc => by
    have h2 := drop_nil h
    refine ⟨1, wrap64 (acc + 1), fun k hk => ?_⟩
    obtain ⟨k, rfl⟩ : ∃ m, k = m + 1 := ⟨k - 1, by omega⟩
    rw [spec_DepthOf.l0, impl_DepthOf.l0, if_neg (by omega), if_neg (by omega)]
    exact ⟨rfl, rfl⟩
  | x :: t, i, h, hs, acc => by
    obtain ⟨h2, h3, h4⟩ := drop_consI h
    obtain ⟨K1, v, q1⟩ := hs x (by simp)
    obtain ⟨K2, u, q2⟩ := same_l_DepthOf a s n l hn t (i + 1) h4 (fun y hy => hs y (by simp [hy])) (mx acc v)
    refine ⟨K1 + K2 + 1, u, fun k hk => ?_⟩
    obtain ⟨k, rfl⟩ : ∃ m, k = m + 1 := ⟨k - 1, by omega⟩
    obtain ⟨p1, p2⟩ := q1 k (by omega)
    have r := q2 k (by omega)
    rw [spec_DepthOf.l0, impl_DepthOf.l0, if_pos (by omega), if_pos (by omega), if_pos (by omega), if_pos (by omega), if_pos (by omega), rd_in h3, p1, p2]
    simp only [Option.bind_some]
    rw [w64s i (by omega)]
    have em : (if v > acc then v else acc) = mx acc v := rfl
    by_cases hva : v > acc
    · rw [if_pos hva]; rw [← em, if_pos hva] at r ⊢; exact r
    · rw [if_neg hva]; rw [← em, if_neg hva] at r ⊢; exact r
theorem same_DepthOf (y : INode) (h : Small y) : SameDepthOf y := by
  induction h with
  | mk y hl g ih =>
    obtain ⟨K, v, q⟩ := same_l_DepthOf y.f0 y.f1 y.f2 y.f3 hl y.f3 0 rfl ih 0
    refine ⟨K + 1, v, fun k hk => ?_⟩
    obtain ⟨k, rfl⟩ : ∃ m, k = m + 1 := ⟨k - 1, by omega⟩
    rw [spec_DepthOf.f, impl_DepthOf.f]
    exact q k (by omega)
theorem yoursFnExactDepthOf : laws_FnExactDepthOf.Pure := by
  intro a s n l ha hs hn hl
  obtain ⟨K1, v, q1, q2, q3⟩ := size_one a s n l hs hl.1 (fun y hy => sized y (hl.2 y hy)) 1048576 (by omega) (by omega)
  by_cases hv : v < 0
  · refine ⟨K1, ?_⟩
    unfold laws_FnExactDepthOf.f
    rw [q1 K1 (Nat.le_refl _)]
    simp only [Option.bind_some]
    rw [if_pos hv]
  · obtain ⟨z, hz, K2, r1⟩ := q3 (by omega)
    obtain ⟨K3, r2⟩ := eq_small z hz
    obtain ⟨K4, u, r3⟩ := same_DepthOf z hz
    refine ⟨K1 + K2 + K3 + K4, ?_⟩
    obtain ⟨p1, p2⟩ := r3 (K1 + K2 + K3 + K4) (by omega)
    have e1 := r1 (K1 + K2 + K3 + K4) (by omega)
    have e2 := r2 (K1 + K2 + K3 + K4) (by omega)
    have e3 := q1 (K1 + K2 + K3 + K4) (by omega)
    simp only at e1 e3
    unfold laws_FnExactDepthOf.f
    rw [e3]
    simp only [Option.bind_some]
    rw [if_neg hv]
    simp only [e1, e2, p1, p2, Option.bind_some, if_true]
end Go.Proofs.Ytgacociihealaaa.Q
