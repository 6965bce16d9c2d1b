/- The facts that say nothing: the program's and the reference's answers as one plain function; and what the law writes into its answer. -/
import Derived.Test.YtgacociihealaaaQFacts
import Derived.Test.YtgacociihealaaaQOpen
import Derived.Test.YtgacociihealaaaQx10
import Derived.Test.YtgacociihealaaaQx11
import Derived.Test.YtgacociihealaaaQx9
namespace Go.Proofs.Ytgacociihealaaa.Q
open Go.RowKit Go.Proofs.YtgacociihealaaaW.PrintWords Go.Proofs.YtgacociihealaaaW.PrintLast Go.Proofs.YtgacociihealaaaW.PrintMore
open Go.Proofs.Ytgacociihealaaa.Open
set_option linter.unusedSimpArgs false
set_option linter.unusedVariables false
def topGo (n : Nat) (a : Nat) : Nat → List Int
  | 0 => []
  | m + 1 => capF (a / n : Nat) (a % n : Nat) :: topGo n (a + 1) m
theorem topGo_add (n : Nat) : ∀ m r a, topGo n a (m + r) = topGo n a m ++ topGo n (a + m) r
  | 0, r, a => by simp [topGo]
  | m + 1, r, a => by
    rw [show m + 1 + r = (m + r) + 1 by omega]
    simp only [topGo, topGo_add n m r (a + 1), show a + 1 + m = a + (m + 1) by omega, List.cons_append]
theorem topGo_len (n : Nat) : ∀ m a, (topGo n a m).length = m
  | 0, _ => rfl
  | m + 1, a => by simp [topGo, topGo_len n m (a + 1)]
def topF (n : Int) : Int × List Int := if btwB n 1 13 = true then (n, topGo n.toNat 0 (n.toNat * n.toNat)) else (0, [])
theorem topF_len (n : Int) : (topF n).2.length ≤ 169 := by
  unfold topF
  split
  · rename_i h
    simp only [btwB, Bool.and_eq_true, decide_eq_true_eq] at h
    rw [topGo_len]
    exact Nat.le_trans (Nat.mul_le_mul (show n.toNat ≤ 13 by omega) (show n.toNat ≤ 13 by omega)) (by omega)
  · simp
theorem s_tin (n : Nat) (hn : n ≤ 13) (i : Nat) (hi : i < n) (K : Nat) : ∀ t j (x : List Int), j + t = n → x.length + t ≤ 100000 → spec_FactsTop.l1 (K + t + 1) (n : Int) (i : Int) (j : Int) (n : Int) x = spec_FactsTop.l0 K (n : Int) ((i + 1 : Nat) : Int) (n : Int) (x ++ topGo n (i * n + j) t)
  | 0, j, x, h, hx => by
    conv => lhs; unfold spec_FactsTop.l1
    rw [if_neg (by omega), w64s i (by omega)]; simp [topGo]
  | t + 1, j, x, h, hx => by
    have ih := s_tin n hn i hi K t (j + 1) (x ++ [capF (i : Int) (j : Int)]) (by omega) (by simp; omega)
    rw [show K + (t + 1) + 1 = (K + t + 1) + 1 by omega]
    conv => lhs; unfold spec_FactsTop.l1
    rw [if_pos (by omega), s_cap, w64s j (by omega)]
    simp only [Option.bind_some]
    rw [if_pos (by omega), ih]
    simp only [topGo]
    rw [at_div (by omega), at_mod (by omega), show i * n + j + 1 = i * n + (j + 1) by omega, List.append_assoc]; rfl
theorem s_tout (n : Nat) (hn : n ≤ 13) : ∀ r i (x : List Int), i + r = n → x.length + r * n ≤ 100000 → ∀ K, spec_FactsTop.l0 (K + r * (n + 2) + 1) (n : Int) (i : Int) (n : Int) x = some ((n : Int), x ++ topGo n (i * n) (r * n))
  | 0, i, x, h, hx, K => by
    rw [Nat.zero_mul, Nat.zero_mul]
    unfold spec_FactsTop.l0
    rw [if_neg (by omega)]; simp [topGo]
  | r + 1, i, x, h, hx, K => by
    rw [Nat.add_mul, Nat.one_mul] at hx
    have ih := s_tout n hn r (i + 1) (x ++ topGo n (i * n) n) (by omega) (by simp [topGo_len]; omega) K
    conv => lhs; unfold spec_FactsTop.l0
    rw [if_pos (by omega), show K + (r + 1) * (n + 2) = (K + r * (n + 2) + 1) + n + 1 by rw [Nat.add_mul]; omega]
    have h1 := s_tin n hn i (by omega) (K + r * (n + 2) + 1) n 0 x (by omega) (by omega)
    rw [show ((0 : Nat) : Int) = 0 from rfl] at h1
    rw [h1, show i * n + 0 = i * n from rfl, ih, Nat.add_mul r 1 n, Nat.one_mul, Nat.add_comm (r * n) n, topGo_add, Nat.add_mul i 1 n, Nat.one_mul, List.append_assoc]
theorem i_tin (n : Nat) (hn : n ≤ 13) (i : Nat) (hi : i < n) (K : Nat) : ∀ t j (x : List Int), j + t = n → x.length + t ≤ 100000 → impl_caps.l1 (K + t + 1) (n : Int) (i : Int) (n : Int) (i : Int) (n : Int) (j : Int) (n : Int) x = impl_caps.l0 K (n : Int) (n : Int) ((i + 1 : Nat) : Int) (n : Int) (x ++ topGo n (i * n + j) t)
  | 0, j, x, h, hx => by
    conv => lhs; unfold impl_caps.l1
    rw [if_neg (by omega), w64s i (by omega)]; simp [topGo]
  | t + 1, j, x, h, hx => by
    have ih := i_tin n hn i hi K t (j + 1) (x ++ [capF (i : Int) (j : Int)]) (by omega) (by simp; omega)
    rw [show K + (t + 1) + 1 = (K + t + 1) + 1 by omega]
    conv => lhs; unfold impl_caps.l1
    rw [if_pos (by omega), i_cap, w64s j (by omega)]
    simp only [Option.bind_some]
    rw [if_pos (by omega), ih]
    simp only [topGo]
    rw [at_div (by omega), at_mod (by omega), show i * n + j + 1 = i * n + (j + 1) by omega, List.append_assoc]; rfl
theorem i_tout (n : Nat) (hn : n ≤ 13) : ∀ r i (x : List Int), i + r = n → x.length + r * n ≤ 100000 → ∀ K, impl_caps.l0 (K + r * (n + 2) + 1) (n : Int) (n : Int) (i : Int) (n : Int) x = some ((n : Int), x ++ topGo n (i * n) (r * n))
  | 0, i, x, h, hx, K => by
    rw [Nat.zero_mul, Nat.zero_mul]
    unfold impl_caps.l0
    rw [if_neg (by omega)]; simp [topGo]
  | r + 1, i, x, h, hx, K => by
    rw [Nat.add_mul, Nat.one_mul] at hx
    have ih := i_tout n hn r (i + 1) (x ++ topGo n (i * n) n) (by omega) (by simp [topGo_len]; omega) K
    conv => lhs; unfold impl_caps.l0
    rw [if_pos (by omega), show K + (r + 1) * (n + 2) = (K + r * (n + 2) + 1) + n + 1 by rw [Nat.add_mul]; omega]
    have h1 := i_tin n hn i (by omega) (K + r * (n + 2) + 1) n 0 x (by omega) (by omega)
    rw [show ((0 : Nat) : Int) = 0 from rfl] at h1
    rw [h1, show i * n + 0 = i * n from rfl, ih, Nat.add_mul r 1 n, Nat.one_mul, Nat.add_comm (r * n) n, topGo_add, Nat.add_mul i 1 n, Nat.one_mul, List.append_assoc]
theorem s_top (k : Nat) (n : Int) (hk : 300 ≤ k) : spec_FactsTop.f k n = some (topF n) := by
  unfold spec_FactsTop.f topF
  rw [btw_F]; simp only [Option.bind_some]
  by_cases h : btwB n 1 13 = true
  · rw [if_pos h, if_pos h]
    simp only [btwB, Bool.and_eq_true, decide_eq_true_eq] at h
    obtain ⟨m, rfl⟩ : ∃ m : Nat, n = (m : Int) := ⟨n.toNat, by omega⟩
    have hm2 : m * (m + 2) ≤ 13 * 15 := Nat.mul_le_mul (by omega) (by omega)
    have hm3 : m * m ≤ 13 * 13 := Nat.mul_le_mul (by omega) (by omega)
    have h1 := s_tout m (by omega) m 0 [] (by omega) (by simp; omega) (k - m * (m + 2) - 1)
    rw [show k - m * (m + 2) - 1 + m * (m + 2) + 1 = k by omega, Nat.zero_mul] at h1
    exact h1
  · rw [if_neg h, if_neg h]
theorem i_top (k : Nat) (n : Int) (hk : 300 ≤ k) : impl_FactsTop.f k n = some (topF n) := by
  unfold impl_FactsTop.f topF impl_caps.f
  rw [inR_F]; simp only [Option.bind_some]
  by_cases h : btwB n 1 13 = true
  · rw [if_pos h, if_pos h]
    simp only [btwB, Bool.and_eq_true, decide_eq_true_eq] at h
    obtain ⟨m, rfl⟩ : ∃ m : Nat, n = (m : Int) := ⟨n.toNat, by omega⟩
    have hm2 : m * (m + 2) ≤ 13 * 15 := Nat.mul_le_mul (by omega) (by omega)
    have hm3 : m * m ≤ 13 * 13 := Nat.mul_le_mul (by omega) (by omega)
    have h1 := i_tout m (by omega) m 0 [] (by omega) (by simp; omega) (k - m * (m + 2) - 1)
    rw [show k - m * (m + 2) - 1 + m * (m + 2) + 1 = k by omega, Nat.zero_mul] at h1
    rw [show ((0 : Nat) : Int) = 0 from rfl] at h1
    rw [h1]; rfl
  · rw [if_neg h, if_neg h]
/-- Numbers in a row from one on. -/
def up (a : Int) : Nat → List Int
  | 0 => []
  | m + 1 => a :: up (a + 1) m
theorem up_len : ∀ m a, (up a m).length = m
  | 0, _ => rfl
  | m + 1, a => by simp [up, up_len m]
theorem up_at : ∀ m (a : Int) i, i < m → (up a m)[i]? = some (a + (i : Int))
  | m + 1, a, 0, _ => by simp [up]
  | m + 1, a, i + 1, h => by
    simp only [up, List.getElem?_cons_succ]
    rw [up_at m (a + 1) i (by omega)]; congr 1; omega
theorem up_snoc : ∀ m (a : Int), up a (m + 1) = up a m ++ [a + (m : Int)]
  | 0, a => by simp [up]
  | m + 1, a => by
    rw [up, up_snoc m (a + 1), up, List.cons_append]
    rw [show a + 1 + (m : Int) = a + ((m + 1 : Nat) : Int) by omega]
theorem marks_l (n : Nat) (hn : n ≤ 1048576) (a : Int) (ha : 0 ≤ a) (hb : a ≤ 1048576) : ∀ t i k (x : List Int), i + t = n → t < k → x.length = n → x.take i = up a i → laws_markIntS.l0 k x (a + (i : Int)) (i : Int) = some (a + (n : Int), up a n)
  | 0, i, k + 1, x, h, hk, hx, hp => by
    unfold laws_markIntS.l0
    obtain rfl : i = n := by omega
    rw [if_neg (by omega)]
    rw [← hx, List.take_length] at hp
    rw [hp, hx]
  | t + 1, i, k + 1, x, h, hk, hx, hp => by
    unfold laws_markIntS.l0
    rw [if_pos (by omega), if_pos (by omega), Int.toNat_natCast, w64s i (by omega), w64 (by omega) (by omega)]
    have := marks_l n hn a ha hb t (i + 1) k (x.set i (a + (i : Int))) (by omega) (by omega) (by simpa using hx) (by
      rw [List.take_add_one, List.take_set_of_le (Nat.le_refl i), hp, List.getElem?_set_self (by omega), up_snoc]; rfl)
    rw [show a + (i : Int) + 1 = a + ((i + 1 : Nat) : Int) by omega]
    exact this
theorem marks (k : Nat) (x : List Int) (hk : x.length < k) (hn : x.length ≤ 1048576) : laws_markIntS.f k x 1 = some (1 + (x.length : Int), up 1 x.length) := by
  unfold laws_markIntS.f
  have := marks_l x.length hn 1 (by omega) (by omega) x.length 0 k x (by omega) hk rfl rfl
  exact this
theorem helds_l (n : Nat) (hn : n ≤ 1048576) (a : Int) (ha : 0 ≤ a) (hb : a ≤ 1048576) : ∀ t i k, i + t = n → t < k → laws_heldIntS.l0 k (up a n) (a + (i : Int)) (i : Int) = some (a + (n : Int))
  | 0, i, k + 1, h, hk => by
    unfold laws_heldIntS.l0
    obtain rfl : i = n := by omega
    rw [if_neg (by rw [up_len]; omega)]
  | t + 1, i, k + 1, h, hk => by
    unfold laws_heldIntS.l0
    rw [if_pos (by rw [up_len]; omega), if_pos (by omega), rd_at (up_at n a i (by omega)), if_pos rfl, w64s i (by omega), w64 (by omega) (by omega)]
    have := helds_l n hn a ha hb t (i + 1) k (by omega) (by omega)
    rw [show a + (i : Int) + 1 = a + ((i + 1 : Nat) : Int) by omega]
    exact this
theorem helds (k : Nat) (n : Nat) (hk : n < k) (hn : n ≤ 1048576) : laws_heldIntS.f k (up 1 n) 1 = some (1 + (n : Int)) := by
  unfold laws_heldIntS.f
  have := helds_l n hn 1 (by omega) (by omega) n 0 k (by omega) hk
  exact this
end Go.Proofs.Ytgacociihealaaa.Q
