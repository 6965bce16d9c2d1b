/- The law FnExactHeadsOf holds: the program's HeadsOf and the reference's answer alike, at all arguments; the program leaves the graph as it was and keeps nothing of it. No conditions. -/
import Derived.Test.YtkmeihmfppcpaabQPureFnExactHeadsOf
import Derived.Test.YtkmeihmfppcpaabQLasts
import Derived.Test.YtkmeihmfppcpaabQMarkN
import Derived.Test.YtkmeihmfppcpaabQUp
import Derived.Test.YtkmeihmfppcpaabQInts
import Derived.Test.YtkmeihmfppcpaabQOpen
import Derived.Test.YtkmeihmfppcpaabQx10
import Derived.Test.YtkmeihmfppcpaabQx15
import Derived.Test.YtkmeihmfppcpaabQx17
import Derived.Test.YtkmeihmfppcpaabQx5
namespace Go.Proofs.Ytkmeihmfppcpaab.Q
open Go.RowKit Go.Proofs.YtkmeihmfppcpaabW.PrintWords Go.Proofs.YtkmeihmfppcpaabW.PrintLast Go.Proofs.YtkmeihmfppcpaabW.PrintMore
open Go.Proofs.Ytkmeihmfppcpaab.Open
set_option linter.unusedSimpArgs false
set_option linter.unusedVariables false
/-- The places of what isn't less than 0. -/
def headsL : List Int → Nat → List Int
  | [], _ => []
  | v :: t, i => if v ≥ 0 then (i : Int) :: headsL t (i + 1) else headsL t (i + 1)
theorem headsL_len : ∀ (t : List Int) (i : Nat), (headsL t i).length ≤ t.length
  | [], _ => Nat.le_refl _
  | v :: t, i => by
    have := headsL_len t (i + 1)
    rw [headsL]
    split <;> simp only [List.length_cons] <;> omega
theorem i_heads (x : List Int) (hn : x.length ≤ 3000) : ∀ (t : List Int) (i : Nat) (acc : List Int) (k : Nat), x.drop i = t → acc.length ≤ i → t.length < k → impl_HeadsOf.l0 k acc x (x.length : Int) (i : Int) = some (acc ++ headsL t i)
  | [], i, acc, k, h, ha, hk => by
    have h1 := drop_nil h
    obtain ⟨k, rfl⟩ : ∃ m, k = m + 1 := ⟨k - 1, by omega⟩
    rw [impl_HeadsOf.l0, if_neg (by omega), headsL, List.append_nil]
  | v :: t, i, acc, k, h, ha, hk => by
    obtain ⟨h1, h2, h3⟩ := drop_cons h
    obtain ⟨k, rfl⟩ : ∃ m, k = m + 1 := ⟨k - 1, by omega⟩
    have hk' : t.length < k := by simp at hk; omega
    rw [impl_HeadsOf.l0, if_pos (by omega), if_pos (by omega), if_pos (by omega), rd_at h2, w64s i (by omega), headsL]
    by_cases hv : v ≥ 0
    · rw [if_pos hv, if_pos hv, if_pos (by omega), i_heads x hn t (i + 1) _ k h3 (by simp; omega) hk', List.append_assoc]; rfl
    · rw [if_neg hv, if_neg hv, i_heads x hn t (i + 1) _ k h3 (by omega) hk']
theorem s_heads (x : List Int) (hn : x.length ≤ 3000) (l : List IEdge) : ∀ (t : List Int) (i : Nat) (acc : List Int) (k : Nat), x.drop i = t → acc.length ≤ i → t.length < k → spec_HeadsOf.l0 k acc x (i : Int) (x.length : Int) l = some (acc ++ headsL t i)
  | [], i, acc, k, h, ha, hk => by
    have h1 := drop_nil h
    obtain ⟨k, rfl⟩ : ∃ m, k = m + 1 := ⟨k - 1, by omega⟩
    rw [spec_HeadsOf.l0, if_neg (by omega), headsL, List.append_nil]
  | v :: t, i, acc, k, h, ha, hk => by
    obtain ⟨h1, h2, h3⟩ := drop_cons h
    obtain ⟨k, rfl⟩ : ∃ m, k = m + 1 := ⟨k - 1, by omega⟩
    have hk' : t.length < k := by simp at hk; omega
    rw [spec_HeadsOf.l0, if_pos (by omega), if_pos (by omega), if_pos (by omega), rd_at h2, w64s i (by omega), headsL]
    by_cases hv : v ≥ 0
    · rw [if_pos hv, if_pos hv, if_pos (by omega), s_heads x hn l t (i + 1) _ k h3 (by simp; omega) hk', List.append_assoc]; rfl
    · rw [if_neg hv, if_neg hv, s_heads x hn l t (i + 1) _ k h3 (by omega) hk']
theorem headsOf (a : Int) (l : List IEdge) (hn : l.length ≤ 1048576) : ∃ K r, r.length ≤ 3000 ∧ ∀ k, K ≤ k → spec_HeadsOf.f k a l = some r ∧ impl_HeadsOf.f k a l = some r := by
  cases hg : graphB a l with
  | false =>
    refine ⟨l.length + 2, [], by simp, fun k hk => ?_⟩
    rw [spec_HeadsOf.f, impl_HeadsOf.f, Option.bind_some, s_graph a l hn k hk, i_graph, hg, Option.bind_some, Option.bind_some, if_neg (by decide), if_neg (by decide)]
    exact ⟨rfl, rfl⟩
  | true =>
    obtain ⟨p, rfl, h1, h2, he⟩ := graph_of hg
    have hx := lastsL_in p l he
    have hl := hx.1
    refine ⟨p + l.length + 10, headsL (lastsL p l) 0, by have := headsL_len (lastsL p l) 0; omega, fun k hk => ?_⟩
    rw [spec_HeadsOf.f, impl_HeadsOf.f, Option.bind_some, s_graph _ l hn k (by omega), i_graph, hg, Option.bind_some, Option.bind_some, if_pos rfl, if_pos rfl, s_lasts p h2 l hn he k (by omega), i_lasts p h1 h2 l hn he k (by omega), Option.bind_some, Option.bind_some]
    have e1 := s_heads (lastsL p l) (by omega) l (lastsL p l) 0 [] k rfl (by simp) (by omega)
    have e2 := i_heads (lastsL p l) (by omega) (lastsL p l) 0 [] k rfl (by simp) (by omega)
    rw [hl] at e1
    exact ⟨e1, e2⟩
theorem yoursFnExactHeadsOf : laws_FnExactHeadsOf.Pure := by
  intro a l ha hl
  obtain ⟨K1, v, q1, q3⟩ := size_graph2 a l hl.1 (fun y hy => sizeE2 y (sized2 y.f4 (hl.2 y hy).2.2.2.2))
  by_cases hv : v < 0
  · refine ⟨K1, ?_⟩
    unfold laws_FnExactHeadsOf.f
    rw [q1 K1 (Nat.le_refl _), Option.bind_some, if_pos hv]
  · obtain ⟨zs, hz, hs, hc, K2, r1⟩ := q3 (by omega)
    obtain ⟨K3, r2⟩ := eq_graph a zs hz hs
    obtain ⟨K4, r, hr, r3⟩ := headsOf a zs hz
    have p1 := fun k hk => (r3 k hk).1
    have p2 := fun k hk => (r3 k hk).2
    have m1 : laws_markGraph.f a zs 1 = some ((1 + cntE zs : Nat) : Int) := by
      unfold laws_markGraph.f; rw [if_pos ⟨rfl, hc⟩]
    refine ⟨K1 + K2 + K3 + K4 + 4000 + 1, ?_⟩
    have hj : laws_FnExactHeadsOf.j0 (K1 + K2 + K3 + K4 + 4000 + 1) r r false a l = some true := by
      rw [laws_FnExactHeadsOf.j0, if_neg (by decide), marks _ r (by omega) (by omega), Option.bind_some]
      simp only
      rw [helds _ r.length (by omega) (by omega), Option.bind_some, if_neg (by omega), if_pos rfl, r1 _ (by omega), Option.bind_some]
      simp only
      rw [p2 _ (by omega), Option.bind_some, eqInts _ r (by omega) (by omega), Option.bind_some, if_pos rfl, Option.bind_some, if_neg (by omega), if_pos rfl]
    unfold laws_FnExactHeadsOf.f
    rw [q1 _ (by omega), Option.bind_some, if_neg hv, r1 _ (by omega), Option.bind_some]
    simp only
    rw [p1 _ (by omega), Option.bind_some, Option.bind_some]
    simp only
    rw [p2 _ (by omega), Option.bind_some, eqInts _ r (by omega) (by omega), Option.bind_some, if_pos rfl, Option.bind_some]
    simp only
    rw [r2 _ (by omega), Option.bind_some, if_pos rfl, m1, Option.bind_some, if_neg (by omega), Option.bind_some]
    exact hj
end Go.Proofs.Ytkmeihmfppcpaab.Q
