/- Difference facts: the program's and the reference's checks as one plain function. -/
import Derived.Test.YtgacociihealaaaQGrid
import Derived.Test.YtgacociihealaaaQInts
import Derived.Test.YtgacociihealaaaQOpen
import Derived.Test.YtgacociihealaaaQx2
import Derived.Test.YtgacociihealaaaQx3
import Derived.Test.YtgacociihealaaaQx4
import Derived.Test.YtgacociihealaaaQx5
import Derived.Test.YtgacociihealaaaQx6
import Derived.Test.YtgacociihealaaaQx7
namespace Go.Proofs.Ytgacociihealaaa.Q
open Go.RowKit Go.Proofs.YtgacociihealaaaW.PrintWords Go.Proofs.YtgacociihealaaaW.PrintLast Go.Proofs.YtgacociihealaaaW.PrintMore
open Go.Proofs.Ytgacociihealaaa.Open
set_option linter.unusedSimpArgs false
set_option linter.unusedVariables false
def btwB (a b c : Int) : Bool := decide (b ≤ a) && decide (a ≤ c)
theorem inR_F (a b c : Int) : impl_inRange.f a b c = some (btwB a b c) := by
  unfold impl_inRange.f btwB
  by_cases h : b ≤ a <;> simp [h]
theorem btw_F (a b c : Int) : spec_l01Between.f a b c = some (btwB a b c) := by
  unfold spec_l01Between.f btwB
  by_cases h : b ≤ a <;> simp [h]
def capF (i j : Int) : Int := if i = j then 0 else if i = 0 then 1000000 else if j = 0 then 1000000 else 2000000
theorem s_cap (i j : Int) : spec_l07Cap.f i j = some (capF i j) := by unfold spec_l07Cap.f capF; (repeat' split) <;> rfl
theorem i_cap (i j : Int) : impl_capOf.f i j = some (capF i j) := by unfold impl_capOf.f capF; (repeat' split) <;> rfl
/-- What is asked of one fact. -/
def okF (n : Nat) (l : List Int) (a : Nat) : Bool := btwB (rd l a) (-2000000) (capF (a / n : Nat) (a % n : Nat)) && (decide (a / n ≠ a % n) || rd l a == 0)
def factsOk (n : Int) (l : List Int) : Bool := btwB n 1 13 && ((l.length : Int) == n * n) && allP (okF n.toNat l) 0 l.length
theorem s_fin (n : Nat) (l : List Int) (hn : n ≤ 13) (hl : l.length = n * n) (i : Nat) (hi : i < n) (K : Nat) : ∀ t j, j + t = n → spec_FactsOk.l1 (K + t + 1) (i : Int) (j : Int) (n : Int) l = if allP (okF n l) (i * n + j) t = true then spec_FactsOk.l0 K ((i + 1 : Nat) : Int) (n : Int) l else some false
  | 0, j, h => by
    conv => lhs; unfold spec_FactsOk.l1
    rw [if_neg (by omega), w64s i (by omega)]; simp [allP]
  | t + 1, j, h => by
    have ih := s_fin n l hn hl i hi K t (j + 1) (by omega)
    have hm : i * n ≤ 12 * n := Nat.mul_le_mul_right n (by omega)
    have hm2 : (i + 1) * n ≤ n * n := Nat.mul_le_mul_right n (by omega)
    rw [Nat.add_mul, Nat.one_mul] at hm2
    have e1 : wrap64 ((wrap64 ((i : Int) * (n : Int))) + (j : Int)) = ((i * n + j : Nat) : Int) := by
      rw [show ((i : Int) * (n : Int)) = ((i * n : Nat) : Int) by simp, w64 (n := ((i * n : Nat) : Int)) (by omega) (by omega), w64 (by omega) (by omega)]; simp
    have e2 : okF n l (i * n + j) = (btwB (rd l ((i * n + j : Nat) : Int)) (-2000000) (capF (i : Int) (j : Int)) && (decide (i ≠ j) || rd l ((i * n + j : Nat) : Int) == 0)) := by
      unfold okF; rw [at_div (by omega), at_mod (by omega)]
    rw [show K + (t + 1) + 1 = (K + t + 1) + 1 by omega]
    conv => lhs; unfold spec_FactsOk.l1
    rw [if_pos (by omega), e1, if_pos (by omega), if_pos (by omega), s_cap]
    simp only [btw_F, Option.bind_some, w64s j (by omega), ih, allP, e2]
    rw [show i * n + j + 1 = i * n + (j + 1) by omega]
    generalize rd l ((i * n + j : Nat) : Int) = x
    generalize allP (okF n l) (i * n + (j + 1)) t = y
    cases btwB x (-2000000) (capF (i : Int) (j : Int))
    · simp
    · by_cases hij : i = j
      · subst hij
        by_cases h0 : x = 0
        · simp [h0]
        · simp [h0]
      · have : ¬ ((i : Int) = (j : Int)) := by omega
        simp [hij, this]
theorem s_fok (n : Nat) (l : List Int) (hn : n ≤ 13) (hl : l.length = n * n) : ∀ r i, i + r = n → ∀ K, spec_FactsOk.l0 (K + r * (n + 2) + 1) (i : Int) (n : Int) l = some (allP (okF n l) (i * n) (r * n))
  | 0, i, h, K => by
    rw [Nat.zero_mul, Nat.zero_mul]
    unfold spec_FactsOk.l0
    rw [if_neg (by omega)]; rfl
  | r + 1, i, h, K => by
    have ih := s_fok n l hn hl r (i + 1) (by omega) K
    conv => lhs; unfold spec_FactsOk.l0
    rw [if_pos (by omega), show K + (r + 1) * (n + 2) = (K + r * (n + 2) + 1) + n + 1 by rw [Nat.add_mul]; omega]
    have h1 := s_fin n l hn hl i (by omega) (K + r * (n + 2) + 1) n 0 (by omega)
    rw [show ((0 : Nat) : Int) = 0 from rfl] at h1
    rw [h1, ih, Nat.add_mul r 1 n, Nat.one_mul, Nat.add_comm (r * n) n, allP_add, Nat.add_mul i 1 n, Nat.one_mul, Nat.add_zero]
    cases allP (okF n l) (i * n) n <;> simp
theorem s_facts (k : Nat) (n : Int) (l : List Int) (hk : 300 ≤ k) (hw : (Lit.int .i64 n).wf = true) : spec_FactsOk.f k n l = some (factsOk n l) := by
  unfold spec_FactsOk.f factsOk
  rw [btw_F]; simp only [Option.bind_some]
  obtain ⟨k, rfl⟩ : ∃ m, k = m + 1 := ⟨k - 1, by omega⟩
  by_cases h : btwB n 1 13 = true
  · have h' := h
    simp only [btwB, Bool.and_eq_true, decide_eq_true_eq] at h'
    obtain ⟨m, rfl⟩ : ∃ m : Nat, n = (m : Int) := ⟨n.toNat, by omega⟩
    have hm : m * m ≤ 13 * 13 := Nat.mul_le_mul (by omega) (by omega)
    have e : wrap64 ((m : Int) * (m : Int)) = ((m * m : Nat) : Int) := by
      rw [show ((m : Int) * (m : Int)) = ((m * m : Nat) : Int) by simp]; exact w64 (by omega) (by omega)
    simp only [h, if_true, Bool.true_and, e, Int.toNat_natCast]
    unfold spec_FactsOk.j0
    by_cases hl : l.length = m * m
    · have hm2 : m * (m + 2) ≤ 13 * 15 := Nat.mul_le_mul (by omega) (by omega)
      have h1 := s_fok m l (by omega) hl m 0 (by omega) (k - m * (m + 2) - 1)
      rw [show k - m * (m + 2) - 1 + m * (m + 2) + 1 = k by omega, Nat.zero_mul, ← hl] at h1
      have e2 : ((l.length : Int) == (m : Int) * (m : Int)) = true := by rw [hl]; simp
      rw [e2, hl]; simp only [bne_self_eq_false, Bool.false_eq_true, if_false, Bool.true_and]
      rw [hl] at h1; exact h1
    · have e2 : ((l.length : Int) == (m : Int) * (m : Int)) = false := by
        rw [show ((m : Int) * (m : Int)) = ((m * m : Nat) : Int) by simp]; simp; omega
      have e3 : ((l.length : Int) != ((m * m : Nat) : Int)) = true := by simp; omega
      rw [e2, e3]; simp
  · rw [if_neg h]
    unfold spec_FactsOk.j0
    simp [h]
theorem i_fin (n : Nat) (l : List Int) (hn : n ≤ 13) (h1 : 1 ≤ n) (hl : l.length ≤ 1048576) : ∀ t i k, i + t = l.length → t < k → impl_FactsOk.l0 k l (l.length : Int) (i : Int) (n : Int) l = some (allP (okF n l) i t)
  | 0, i, k + 1, h, hk => by
    unfold impl_FactsOk.l0
    rw [if_neg (by omega)]; rfl
  | t + 1, i, k + 1, h, hk => by
    have ih := i_fin n l hn h1 hl t (i + 1) k (by omega) (by omega)
    have hd : i / n ≤ i := Nat.div_le_self i n
    have hw : wrap64 ((i / n : Nat) : Int) = ((i / n : Nat) : Int) := by generalize i / n = q at hd ⊢; exact w64 (by omega) (by omega)
    unfold impl_FactsOk.l0
    rw [if_pos (by omega), if_pos (by omega), if_pos (by omega), if_neg (by omega), ← Int.ofNat_tdiv, ← Int.ofNat_tmod, hw, i_cap]
    simp only [inR_F, Option.bind_some, w64s i (by omega), ih, allP, okF]
    cases btwB (rd l (i : Int)) (-2000000) (capF ((i / n : Nat) : Int) ((i % n : Nat) : Int))
    · simp
    · by_cases hij : i / n = i % n
      · by_cases h0 : rd l (i : Int) = 0
        · simp [h0, hij]
        · simp [h0, hij]
      · have : ¬ (((i / n : Nat) : Int) = ((i % n : Nat) : Int)) := by omega
        rw [if_pos rfl, if_neg this]; simp [hij]
theorem i_facts (k : Nat) (n : Int) (l : List Int) (hl : l.length ≤ 1048576) (hk : l.length + 2 ≤ k) : impl_FactsOk.f k n l = some (factsOk n l) := by
  unfold impl_FactsOk.f factsOk
  rw [inR_F]; simp only [Option.bind_some]
  obtain ⟨k, rfl⟩ : ∃ m, k = m + 1 := ⟨k - 1, by omega⟩
  by_cases h : btwB n 1 13 = true
  · have h' := h
    simp only [btwB, Bool.and_eq_true, decide_eq_true_eq] at h'
    obtain ⟨m, rfl⟩ : ∃ m : Nat, n = (m : Int) := ⟨n.toNat, by omega⟩
    have hm : m * m ≤ 13 * 13 := Nat.mul_le_mul (by omega) (by omega)
    have e : wrap64 ((m : Int) * (m : Int)) = ((m * m : Nat) : Int) := by
      rw [show ((m : Int) * (m : Int)) = ((m * m : Nat) : Int) by simp]; exact w64 (by omega) (by omega)
    simp only [h, if_true, Bool.true_and, e, Int.toNat_natCast]
    unfold impl_FactsOk.j0
    dsimp only
    have h1 := i_fin m l (by omega) (by omega) hl l.length 0 k (by omega) (by omega)
    rw [show ((0 : Nat) : Int) = 0 from rfl] at h1
    have e4 : ((m : Int) * (m : Int)) = ((m * m : Nat) : Int) := by simp
    rw [e4, h1]
    by_cases hh : l.length = m * m
    · simp [hh]
    · have e2 : ((l.length : Int) == ((m * m : Nat) : Int)) = false := by simp; omega
      have e3 : ((l.length : Int) != ((m * m : Nat) : Int)) = true := by simp; omega
      rw [e2, e3]; simp
  · rw [if_neg h]
    unfold impl_FactsOk.j0
    simp [h]
theorem szF (n : Int) (l : List Int) (hl : l.length < 9223372036854775808) : laws_szFacts.f n l 1048576 = some (if l.length ≤ 1048576 then 1048576 - (l.length : Int) else -1) := by
  unfold laws_szFacts.f laws_szIntS.f
  rw [w64 (by omega) (by omega)]
  by_cases h : l.length ≤ 1048576
  · rw [if_neg (by omega), if_pos h]; simp only [Option.bind_some]; rw [if_neg (by omega)]
  · rw [if_pos (by omega), if_neg h]; rfl
theorem toF (k : Nat) (n : Int) (l : List Int) (h : l.length < k) (hn : l.length ≤ 1048576) : laws_toFacts.f k n l = some (n, l) := by
  unfold laws_toFacts.f; rw [toInts k l h hn]; rfl
theorem eqF (k : Nat) (n : Int) (l : List Int) (h : l.length < k) (hn : l.length ≤ 1048576) : laws_eqFacts.f k n l n l = some true := by
  unfold laws_eqFacts.f; rw [if_pos rfl, eqInts k l h hn]; rfl
end Go.Proofs.Ytgacociihealaaa.Q
