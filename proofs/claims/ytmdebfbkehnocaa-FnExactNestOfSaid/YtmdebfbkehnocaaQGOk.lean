/- Which graphs are right: both tell the same. -/
import Derived.Test.YtmdebfbkehnocaaQGraph
import Derived.Test.YtmdebfbkehnocaaQOpen
import Derived.Test.YtmdebfbkehnocaaQx2
import Derived.Test.YtmdebfbkehnocaaQx3
import Derived.Test.YtmdebfbkehnocaaQx8
namespace Go.Proofs.Ytmdebfbkehnocaa.Q
open Go.RowKit Go.Proofs.YtmdebfbkehnocaaW.PrintWords Go.Proofs.YtmdebfbkehnocaaW.PrintLast Go.Proofs.YtmdebfbkehnocaaW.PrintMore
open Go.Proofs.Ytmdebfbkehnocaa.Open
set_option linter.unusedSimpArgs false
set_option linter.unusedVariables false
theorem g_between (a b c : Int) : spec_l01Between.f a b c = some (decide (b ≤ a) && decide (a ≤ c)) := by
  unfold spec_l01Between.f
  by_cases h : a ≥ b
  · rw [if_pos h, decide_eq_true h, Bool.true_and]
  · rw [if_neg h, decide_eq_false h, Bool.false_and]
theorem g_ir (a b c : Int) : impl_GraphOk.ir a b c = (decide (b ≤ a) && decide (a ≤ c)) := by
  unfold impl_GraphOk.ir impl_inRange.f
  by_cases h : b ≤ a
  · rw [if_pos h, decide_eq_true h, Bool.true_and]; rfl
  · rw [if_neg h, decide_eq_false h, Bool.false_and]; rfl
theorem g_ip (a b : Int) : impl_GraphOk.ip a b = (decide (0 ≤ a) && decide (a ≤ wrap64 (b - 1))) := by
  have := g_ir a 0 (wrap64 (b - 1))
  unfold impl_GraphOk.ir at this
  unfold impl_GraphOk.ip impl_isPlace.f
  cases h : impl_inRange.f a 0 (wrap64 (b - 1)) with
  | none => rw [h] at this; exact this
  | some r => rw [h] at this; exact this
def edgeB (p : Int) (e : IEdge) : Bool := (decide (0 ≤ e.f0) && decide (e.f0 ≤ wrap64 (p - 1))) && (decide (0 ≤ e.f1) && decide (e.f1 ≤ wrap64 (p - 1))) && (decide (1 ≤ e.f2) && decide (e.f2 ≤ 7))
def graphB (p : Int) (l : List IEdge) : Bool := (decide (1 ≤ p) && decide (p ≤ 3000)) && decide ((l.length : Int) ≤ 6000) && l.all (edgeB p)
theorem s_graph_l (p : Int) (l : List IEdge) (hn : l.length ≤ 1048576) : ∀ (t : List IEdge) (i k : Nat), l.drop i = t → t.length < k → spec_GraphOk.l0 k (i : Int) p l = some (t.all (edgeB p)) := by
  intro t
  induction t with
  | nil =>
    intro i k h hk
    have h2 := drop_nil h
    obtain ⟨k, rfl⟩ : ∃ m, k = m + 1 := ⟨k - 1, by simp at hk; omega⟩
    rw [spec_GraphOk.l0, if_neg (by omega)]; rfl
  | cons x t ih =>
    intro i k h hk
    obtain ⟨h2, h3, h4⟩ := drop_consIE h
    obtain ⟨k, rfl⟩ : ∃ m, k = m + 1 := ⟨k - 1, by simp at hk; omega⟩
    rw [spec_GraphOk.l0, if_pos (by omega), if_pos (by omega), rd_ie h3, g_between, g_between, g_between, w64s i (by omega), ih (i + 1) k h4 (by simp at hk; omega), List.all_cons]
    simp only [Option.bind_some]
    unfold edgeB
    cases (decide (0 ≤ x.f0) && decide (x.f0 ≤ wrap64 (p - 1))) <;> cases (decide (0 ≤ x.f1) && decide (x.f1 ≤ wrap64 (p - 1))) <;> cases (decide (1 ≤ x.f2) && decide (x.f2 ≤ 7)) <;> rfl
theorem s_graph (p : Int) (l : List IEdge) (hn : l.length ≤ 1048576) (k : Nat) (hk : l.length + 2 ≤ k) : spec_GraphOk.f k p l = some (graphB p l) := by
  obtain ⟨k, rfl⟩ : ∃ m, k = m + 1 := ⟨k - 1, by omega⟩
  rw [spec_GraphOk.f, g_between, Option.bind_some]
  unfold graphB
  cases (decide (1 ≤ p) && decide (p ≤ 3000)) with
  | false => rw [if_neg (by decide), spec_GraphOk.j0, if_pos rfl]; rfl
  | true =>
    rw [if_pos rfl, spec_GraphOk.j0]
    by_cases h : (l.length : Int) ≤ 6000
    · rw [show decide ((l.length : Int) > 6000) = false from decide_eq_false (by omega), if_neg (by decide), decide_eq_true h]
      exact s_graph_l p l hn l 0 k rfl (by omega)
    · rw [show decide ((l.length : Int) > 6000) = true from decide_eq_true (by omega), if_pos rfl, decide_eq_false h]; rfl
theorem i_graph (p : Int) (l : List IEdge) : impl_GraphOk.f p l = some (graphB p l) := by
  unfold impl_GraphOk.f graphB
  rw [g_ir]
  cases (decide (1 ≤ p) && decide (p ≤ 3000)) with
  | false => rw [if_neg (by decide)]; rfl
  | true =>
    rw [if_pos rfl]
    by_cases h : (l.length : Int) ≤ 6000
    · rw [if_pos h, decide_eq_true h]
      congr 1
      have : ∀ e : IEdge, impl_GraphOk.bad p e.f0 e.f1 e.f2 = !(edgeB p e) := by
        intro e
        unfold impl_GraphOk.bad edgeB
        rw [g_ip, g_ip, g_ir]
        cases (decide (0 ≤ e.f0) && decide (e.f0 ≤ wrap64 (p - 1))) <;> cases (decide (0 ≤ e.f1) && decide (e.f1 ≤ wrap64 (p - 1))) <;> cases (decide (1 ≤ e.f2) && decide (e.f2 ≤ 7)) <;> rfl
      induction l with
      | nil => rfl
      | cons x t ih =>
        rw [List.any_cons, this x, List.all_cons]
        have ih' : (!(t.any fun e => impl_GraphOk.bad p e.f0 e.f1 e.f2)) = (true && true && t.all (edgeB p)) := ih (by simp at h; omega)
        rw [Bool.not_or, ih', Bool.not_not]; rfl
    · rw [if_neg h, decide_eq_false h]; rfl
end Go.Proofs.Ytmdebfbkehnocaa.Q
