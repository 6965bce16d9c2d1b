/- Whether values keep to difference facts: the program's and the reference's answers as one plain function. -/
import Derived.Test.YtgacociihealaaaQFacts
import Derived.Test.YtgacociihealaaaQValsOk
import Derived.Test.YtgacociihealaaaQOpen
import Derived.Test.YtgacociihealaaaQx14
import Derived.Test.YtgacociihealaaaQx16
namespace Go.Proofs.Ytgacociihealaaa.Q
open Go.RowKit Go.Proofs.YtgacociihealaaaW.PrintWords Go.Proofs.YtgacociihealaaaW.PrintLast Go.Proofs.YtgacociihealaaaW.PrintMore
open Go.Proofs.Ytgacociihealaaa.Open
set_option linter.unusedSimpArgs false
set_option linter.unusedVariables false
def hasF (n : Nat) (l v : List Int) (a : Nat) : Bool := !decide (wrap64 (rd v ((a / n : Nat) : Int) - rd v ((a % n : Nat) : Int)) > rd l (a : Int))
def factsHas (n : Int) (l v : List Int) : Bool := factsOk n l && (decide ((v.length : Int) = n) && valsP v) && allP (hasF n.toNat l v) 0 l.length
theorem s_hin (n : Nat) (l v : List Int) (hn : n ≤ 13) (hl : l.length = n * n) (hv : v.length = n) (i : Nat) (hi : i < n) (K : Nat) : ∀ t j, j + t = n → spec_FactsHas.l1 (K + t + 1) v (i : Int) (j : Int) (n : Int) l = if allP (hasF n l v) (i * n + j) t = true then spec_FactsHas.l0 K v ((i + 1 : Nat) : Int) (n : Int) l else some false
  | 0, j, h => by
    conv => lhs; unfold spec_FactsHas.l1
    rw [if_neg (by omega), w64s i (by omega)]; simp [allP]
  | t + 1, j, h => by
    have ih := s_hin n l v hn hl hv i hi K t (j + 1) (by omega)
    have hm : i * n ≤ 12 * n := Nat.mul_le_mul_right n (by omega)
    have hm2 : (i + 1) * n ≤ n * n := Nat.mul_le_mul_right n (by omega)
    rw [Nat.add_mul, Nat.one_mul] at hm2
    have e1 : wrap64 ((wrap64 ((i : Int) * (n : Int))) + (j : Int)) = ((i * n + j : Nat) : Int) := by
      rw [show ((i : Int) * (n : Int)) = ((i * n : Nat) : Int) by simp, w64 (n := ((i * n : Nat) : Int)) (by omega) (by omega), w64 (by omega) (by omega)]; simp
    have e2 : hasF n l v (i * n + j) = !decide (wrap64 (rd v (i : Int) - rd v (j : Int)) > rd l ((i * n + j : Nat) : Int)) := by
      unfold hasF; rw [at_div (by omega), at_mod (by omega)]
    rw [show K + (t + 1) + 1 = (K + t + 1) + 1 by omega]
    conv => lhs; unfold spec_FactsHas.l1
    rw [if_pos (by omega), if_pos (by omega), if_pos (by omega), if_pos (by omega), if_pos (by omega), e1, if_pos (by omega), if_pos (by omega)]
    simp only [w64s j (by omega), ih, allP, e2]
    rw [show i * n + j + 1 = i * n + (j + 1) by omega]
    by_cases h0 : wrap64 (rd v (i : Int) - rd v (j : Int)) > rd l ((i * n + j : Nat) : Int)
    · rw [if_pos h0, decide_eq_true h0]; simp
    · rw [if_neg h0, decide_eq_false h0]; simp
theorem s_hok (n : Nat) (l v : List Int) (hn : n ≤ 13) (hl : l.length = n * n) (hv : v.length = n) : ∀ r i, i + r = n → ∀ K, spec_FactsHas.l0 (K + r * (n + 2) + 1) v (i : Int) (n : Int) l = some (allP (hasF n l v) (i * n) (r * n))
  | 0, i, h, K => by
    rw [Nat.zero_mul, Nat.zero_mul]
    unfold spec_FactsHas.l0
    rw [if_neg (by omega)]; rfl
  | r + 1, i, h, K => by
    have ih := s_hok n l v hn hl hv r (i + 1) (by omega) K
    conv => lhs; unfold spec_FactsHas.l0
    rw [if_pos (by omega), show K + (r + 1) * (n + 2) = (K + r * (n + 2) + 1) + n + 1 by rw [Nat.add_mul]; omega]
    have h1 := s_hin n l v hn hl hv i (by omega) (K + r * (n + 2) + 1) n 0 (by omega)
    rw [show ((0 : Nat) : Int) = 0 from rfl] at h1
    rw [h1, ih, Nat.add_mul r 1 n, Nat.one_mul, Nat.add_comm (r * n) n, allP_add, Nat.add_mul i 1 n, Nat.one_mul, Nat.add_zero]
    cases allP (hasF n l v) (i * n) n <;> simp
theorem i_hin (n : Nat) (l v : List Int) (hn : n ≤ 13) (h1 : 1 ≤ n) (hl : l.length = n * n) (hv : v.length = n) : ∀ t i k, i + t = l.length → t < k → impl_FactsHas.l0 k v l (l.length : Int) (i : Int) (n : Int) l = some (allP (hasF n l v) i t)
  | 0, i, k + 1, h, hk => by
    unfold impl_FactsHas.l0
    rw [if_neg (by omega)]; rfl
  | t + 1, i, k + 1, h, hk => by
    have ih := i_hin n l v hn h1 hl hv t (i + 1) k (by omega) (by omega)
    have hm : n * n ≤ 13 * 13 := Nat.mul_le_mul (by omega) (by omega)
    have hd : i / n < n := Nat.div_lt_of_lt_mul (by omega)
    have hr : i % n < n := Nat.mod_lt _ (by omega)
    have hw : wrap64 ((i / n : Nat) : Int) = ((i / n : Nat) : Int) := by generalize i / n = q at hd ⊢; exact w64 (by omega) (by omega)
    unfold impl_FactsHas.l0
    rw [if_pos (by omega), if_pos (by omega), if_pos (by omega), if_neg (by omega), ← Int.ofNat_tdiv, ← Int.ofNat_tmod, hw]
    simp only [w64s i (by omega), ih, allP, hasF]
    generalize i / n = q at hd ⊢
    generalize i % n = r at hr ⊢
    rw [if_pos (by omega), if_pos (by omega), if_pos (by omega), if_pos (by omega)]
    by_cases h0 : wrap64 (rd v (q : Int) - rd v (r : Int)) > rd l (i : Int)
    · rw [if_pos h0, decide_eq_true h0]; simp
    · rw [if_neg h0, decide_eq_false h0]; simp [allP, hasF]
theorem facts_n {n : Int} {l : List Int} (h : factsOk n l = true) : ∃ m : Nat, n = (m : Int) ∧ 1 ≤ m ∧ m ≤ 13 ∧ l.length = m * m := by
  simp only [factsOk, btwB, Bool.and_eq_true, decide_eq_true_eq, beq_iff_eq] at h
  obtain ⟨m, rfl⟩ : ∃ m : Nat, n = (m : Int) := ⟨n.toNat, by omega⟩
  refine ⟨m, rfl, by omega, by omega, ?_⟩
  have := h.1.2
  rw [show ((m : Int) * (m : Int)) = ((m * m : Nat) : Int) by simp] at this
  omega
theorem s_fhas (k : Nat) (n : Int) (l v : List Int) (hvl : v.length ≤ 1048576) (hw : (Lit.int .i64 n).wf = true) (hk : v.length + 600 ≤ k) : spec_FactsHas.f k n l v = some (factsHas n l v) := by
  unfold spec_FactsHas.f factsHas
  obtain ⟨k, rfl⟩ : ∃ m, k = m + 1 := ⟨k - 1, by omega⟩
  rw [s_facts (k + 1) n l (by omega) hw, s_valsN k n v hvl (by omega)]
  simp only [Option.bind_some]
  unfold spec_FactsHas.j0
  by_cases h : factsOk n l = true
  · rw [if_pos h, h]
    obtain ⟨m, rfl, m1, m2, m3⟩ := facts_n h
    by_cases h2 : (decide ((v.length : Int) = (m : Int)) && valsP v) = true
    · have h3 : v.length = m := by simp at h2; omega
      simp only [h2, Bool.not_true, Bool.false_eq_true, if_false, Bool.true_and, Int.toNat_natCast]
      have hm2 : m * (m + 2) ≤ 13 * 15 := Nat.mul_le_mul (by omega) (by omega)
      have h1 := s_hok m l v m2 m3 h3 m 0 (by omega) (k - m * (m + 2) - 1)
      rw [show k - m * (m + 2) - 1 + m * (m + 2) + 1 = k by omega, Nat.zero_mul, ← m3] at h1
      exact h1
    · rw [Bool.not_eq_true] at h2
      simp [h2]
  · rw [if_neg h]
    rw [Bool.not_eq_true] at h
    simp [h]
theorem i_fhas (k : Nat) (n : Int) (l v : List Int) (hl : l.length ≤ 1048576) (hvl : v.length ≤ 1048576) (hk : l.length + v.length + 10 ≤ k) : impl_FactsHas.f k n l v = some (factsHas n l v) := by
  unfold impl_FactsHas.f factsHas
  obtain ⟨k, rfl⟩ : ∃ m, k = m + 1 := ⟨k - 1, by omega⟩
  rw [i_facts (k + 1) n l hl (by omega), i_valsN (k + 1) n v hvl (by omega)]
  simp only [Option.bind_some]
  unfold impl_FactsHas.j0
  by_cases h : factsOk n l = true
  · rw [if_pos h, h]
    obtain ⟨m, rfl, m1, m2, m3⟩ := facts_n h
    by_cases h3 : v.length = m
    · have e1 : decide ((v.length : Int) = (m : Int)) = true := by simp; omega
      have e2 : decide (v.length ≤ 13) = true := by simp; omega
      rw [e1, e2]
      simp only [Bool.true_and, Int.toNat_natCast]
      have h1 := i_hin m l v m2 m1 m3 h3 l.length 0 k (by omega) (by omega)
      rw [show ((0 : Nat) : Int) = 0 from rfl] at h1
      rw [h1]
      cases valsP v <;> simp
    · have e1 : decide ((v.length : Int) = (m : Int)) = false := by simp; omega
      rw [e1]; simp
  · rw [if_neg h]
    rw [Bool.not_eq_true] at h
    simp [h]
end Go.Proofs.Ytgacociihealaaa.Q
