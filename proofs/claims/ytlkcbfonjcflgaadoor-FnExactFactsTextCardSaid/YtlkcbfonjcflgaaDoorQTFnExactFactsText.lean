/- Plain laws over numbers, lists and texts, for the law FnExactFactsText: no program in sight. -/
import Derived.Test.YtlkcbfonjcflgaaDoorWLast
import Derived.Test.YtlkcbfonjcflgaaDoorWMore
import Derived.Test.YtlkcbfonjcflgaaDoorWWords
import Derived.Test.YtlkcbfonjcflgaaDoorQOpen
import Derived.Lib.Strings
import Derived.Lib.AtoiAll
import Derived.Lib.ItoaNum
import Derived.Lib.Join
import Derived.Test.YtlkcbfonjcflgaaDoorQx2
import Derived.Test.YtlkcbfonjcflgaaDoorQx29
import Derived.Test.YtlkcbfonjcflgaaDoorQx3
import Derived.Test.YtlkcbfonjcflgaaDoorQx30
import Derived.Test.YtlkcbfonjcflgaaDoorQx31
import Derived.Test.YtlkcbfonjcflgaaDoorQx32
import Derived.Test.YtlkcbfonjcflgaaDoorQx33
import Derived.Test.YtlkcbfonjcflgaaDoorQx34
import Derived.Test.YtlkcbfonjcflgaaDoorQx35
import Derived.Test.YtlkcbfonjcflgaaDoorQx36
import Derived.Test.YtlkcbfonjcflgaaDoorQx37
import Derived.Test.YtlkcbfonjcflgaaDoorQx4
import Derived.Test.YtlkcbfonjcflgaaDoorQx5
import Derived.Test.YtlkcbfonjcflgaaDoorQx6
import Derived.Test.YtlkcbfonjcflgaaDoorQx7
import Derived.Test.YtlkcbfonjcflgaaDoorQx8
import Derived.Test.YtlkcbfonjcflgaaDoorQx9
namespace Go.Proofs.YtlkcbfonjcflgaaDoor.Q
open Go.RowKit Go.Proofs.YtlkcbfonjcflgaaDoorW.PrintWords Go.Proofs.YtlkcbfonjcflgaaDoorW.PrintLast Go.Proofs.YtlkcbfonjcflgaaDoorW.PrintMore
open Go.Proofs.YtlkcbfonjcflgaaDoor.Open
set_option linter.unusedSimpArgs false
set_option linter.unusedVariables false
theorem drop_cons {α : Type} {l : List α} {i : Nat} {x : α} {t : List α} (h : l.drop i = x :: t) : i < l.length ∧ l[i]? = some x ∧ l.drop (i + 1) = t := by
  have h1 : i < l.length := by
    rcases Nat.lt_or_ge i l.length with h1 | h1
    · exact h1
    · rw [List.drop_eq_nil_of_le h1] at h; simp at h
  refine ⟨h1, ?_, ?_⟩
  · have := congrArg (fun z => z[0]?) h
    simpa using this
  · have := congrArg List.tail h
    simpa using this
theorem drop_nil {α : Type} {l : List α} {i : Nat} (h : l.drop i = []) : l.length ≤ i := by simpa using h
theorem w64 {n : Int} (h1 : -9223372036854775808 ≤ n) (h2 : n ≤ 9223372036854775807) : wrap64 n = n := by unfold wrap64; omega
theorem w64s (i : Nat) (h : i < 9223372036854775807) : wrap64 ((i : Int) + 1) = ((i + 1 : Nat) : Int) := by
  rw [w64 (by omega) (by omega)]; omega
end Go.Proofs.YtlkcbfonjcflgaaDoor.Q
namespace Go.Proofs.YtlkcbfonjcflgaaDoor.Q
open Go.RowKit Go.Proofs.YtlkcbfonjcflgaaDoorW.PrintWords Go.Proofs.YtlkcbfonjcflgaaDoorW.PrintLast Go.Proofs.YtlkcbfonjcflgaaDoorW.PrintMore
open Go.Proofs.YtlkcbfonjcflgaaDoor.Open
set_option linter.unusedSimpArgs false
set_option linter.unusedVariables false
def allP (P : Nat → Bool) (a : Nat) : Nat → Bool
  | 0 => true
  | m + 1 => P a && allP P (a + 1) m
theorem allP_add (P : Nat → Bool) : ∀ m n a, allP P a (m + n) = (allP P a m && allP P (a + m) n)
  | 0, n, a => by simp [allP]
  | m + 1, n, a => by
    rw [show m + 1 + n = (m + n) + 1 by omega]
    simp only [allP, allP_add P m n (a + 1), Bool.and_assoc, show a + 1 + m = a + (m + 1) by omega]
theorem at_div {i j n : Nat} (h : j < n) : (i * n + j) / n = i := by
  rw [Nat.mul_comm, Nat.mul_add_div (by omega), Nat.div_eq_of_lt h, Nat.add_zero]
theorem at_mod {i j n : Nat} (h : j < n) : (i * n + j) % n = j := by
  rw [Nat.mul_comm, Nat.mul_add_mod, Nat.mod_eq_of_lt h]
theorem allP_at {P : Nat → Bool} : ∀ {m a b : Nat}, allP P a m = true → a ≤ b → b < a + m → P b = true
  | 0, a, b, _, h1, h2 => by omega
  | m + 1, a, b, h, h1, h2 => by
    simp only [allP, Bool.and_eq_true] at h
    rcases Nat.lt_or_ge a b with q | q
    · exact allP_at h.2 q (by omega)
    · rw [show b = a by omega]; exact h.1
end Go.Proofs.YtlkcbfonjcflgaaDoor.Q
namespace Go.Proofs.YtlkcbfonjcflgaaDoor.Q
open Go.RowKit Go.Proofs.YtlkcbfonjcflgaaDoorW.PrintWords Go.Proofs.YtlkcbfonjcflgaaDoorW.PrintLast Go.Proofs.YtlkcbfonjcflgaaDoorW.PrintMore
open Go.Proofs.YtlkcbfonjcflgaaDoor.Open
set_option linter.unusedSimpArgs false
set_option linter.unusedVariables false
theorem toInts_l (x0 : List Int) (hn : x0.length < 9223372036854775807) : ∀ n k i (x3 : List Int), x0.length - i = n → n < k → i ≤ x0.length → x3.length = x0.length → x3.take i = x0.take i →
    laws_toIntS.l0 k x0 x3 (i : Int) = some x0
  | 0, k + 1, i, x3, h1, h2, h3, h4, h5 => by
    unfold laws_toIntS.l0
    rw [if_neg (by omega)]
    rw [show i = x0.length by omega] at h5
    rw [List.take_length, ← h4, List.take_length] at h5
    rw [h5]
  | n + 1, k + 1, i, x3, h1, h2, h3, h4, h5 => by
    unfold laws_toIntS.l0
    rw [if_pos (by omega), if_pos (by omega), if_pos (by omega), w64s i (by omega), Int.toNat_natCast]
    refine toInts_l x0 hn n k (i + 1) _ (by omega) (by omega) (by omega) (by simpa using h4) ?_
    have e : x0[i]? = some (rd x0 i) := by unfold rd; simp [show i < x0.length by omega]
    rw [List.take_add_one, List.take_add_one, e, List.take_set_of_le (Nat.le_refl i), h5, List.getElem?_set_self (by omega)]
theorem toInts (k : Nat) (l : List Int) (h : l.length < k) (hn : l.length ≤ 1048576) : laws_toIntS.f k l = some l := by
  unfold laws_toIntS.f
  rw [if_pos (by omega), if_pos (by omega)]
  exact toInts_l l (by omega) l.length k 0 _ (by omega) h (by omega) (by simp) (by simp)
theorem eqInts_l (x : List Int) (hn : x.length < 9223372036854775807) : ∀ n k i, x.length - i = n → n < k → i ≤ x.length → laws_eqIntS.l0 k x x (i : Int) = some true
  | 0, k + 1, i, h1, h2, h3 => by
    unfold laws_eqIntS.l0
    rw [if_neg (by omega)]
  | n + 1, k + 1, i, h1, h2, h3 => by
    unfold laws_eqIntS.l0
    rw [if_pos (by omega), if_pos (by omega), if_pos (by omega), if_pos rfl, w64s i (by omega)]
    exact eqInts_l x hn n k (i + 1) (by omega) (by omega) (by omega)
theorem eqInts (k : Nat) (l : List Int) (h : l.length < k) (hn : l.length ≤ 1048576) : laws_eqIntS.f k l l = some true := by
  unfold laws_eqIntS.f
  rw [if_pos rfl]
  exact eqInts_l l (by omega) l.length k 0 (by omega) h (by omega)
end Go.Proofs.YtlkcbfonjcflgaaDoor.Q
namespace Go.Proofs.YtlkcbfonjcflgaaDoor.Q
open Go.RowKit Go.Proofs.YtlkcbfonjcflgaaDoorW.PrintWords Go.Proofs.YtlkcbfonjcflgaaDoorW.PrintLast Go.Proofs.YtlkcbfonjcflgaaDoorW.PrintMore
open Go.Proofs.YtlkcbfonjcflgaaDoor.Open
set_option linter.unusedSimpArgs false
set_option linter.unusedVariables false
def btwB (a b c : Int) : Bool := decide (b ≤ a) && decide (a ≤ c)
theorem inR_F (a b c : Int) : impl_inRange.f a b c = some (btwB a b c) := by
  unfold impl_inRange.f btwB
  by_cases h : b ≤ a <;> simp [h]
theorem btw_F (a b c : Int) : spec_l01Between.f a b c = some (btwB a b c) := by
  unfold spec_l01Between.f btwB
  by_cases h : b ≤ a <;> simp [h]
def capF (i j : Int) : Int := if i = j then 0 else if i = 0 then 1000000 else if j = 0 then 1000000 else 2000000
theorem s_cap (i j : Int) : spec_l07Cap.f i j = some (capF i j) := by unfold spec_l07Cap.f capF; (repeat' split) <;> rfl
theorem i_cap (i j : Int) : impl_capOf.f i j = some (capF i j) := by unfold impl_capOf.f capF; (repeat' split) <;> rfl
/-- What is asked of one fact. -/
def okF (n : Nat) (l : List Int) (a : Nat) : Bool := btwB (rd l a) (-2000000) (capF (a / n : Nat) (a % n : Nat)) && (decide (a / n ≠ a % n) || rd l a == 0)
def factsOk (n : Int) (l : List Int) : Bool := btwB n 1 13 && ((l.length : Int) == n * n) && allP (okF n.toNat l) 0 l.length
theorem s_fin (n : Nat) (l : List Int) (hn : n ≤ 13) (hl : l.length = n * n) (i : Nat) (hi : i < n) (K : Nat) : ∀ t j, j + t = n → spec_FactsOk.l1 (K + t + 1) (i : Int) (j : Int) (n : Int) l = if allP (okF n l) (i * n + j) t = true then spec_FactsOk.l0 K ((i + 1 : Nat) : Int) (n : Int) l else some false
  | 0, j, h => by
    conv => lhs; unfold spec_FactsOk.l1
    rw [if_neg (by omega), w64s i (by omega)]; simp [allP]
  | t + 1, j, h => by
    have ih := s_fin n l hn hl i hi K t (j + 1) (by omega)
    have hm : i * n ≤ 12 * n := Nat.mul_le_mul_right n (by omega)
    have hm2 : (i + 1) * n ≤ n * n := Nat.mul_le_mul_right n (by omega)
    rw [Nat.add_mul, Nat.one_mul] at hm2
    have e1 : wrap64 ((wrap64 ((i : Int) * (n : Int))) + (j : Int)) = ((i * n + j : Nat) : Int) := by
      rw [show ((i : Int) * (n : Int)) = ((i * n : Nat) : Int) by simp, w64 (n := ((i * n : Nat) : Int)) (by omega) (by omega), w64 (by omega) (by omega)]; simp
    have e2 : okF n l (i * n + j) = (btwB (rd l ((i * n + j : Nat) : Int)) (-2000000) (capF (i : Int) (j : Int)) && (decide (i ≠ j) || rd l ((i * n + j : Nat) : Int) == 0)) := by
      unfold okF; rw [at_div (by omega), at_mod (by omega)]
    rw [show K + (t + 1) + 1 = (K + t + 1) + 1 by omega]
    conv => lhs; unfold spec_FactsOk.l1
    rw [if_pos (by omega), e1, if_pos (by omega), if_pos (by omega), s_cap]
    simp only [btw_F, Option.bind_some, w64s j (by omega), ih, allP, e2]
    rw [show i * n + j + 1 = i * n + (j + 1) by omega]
    generalize rd l ((i * n + j : Nat) : Int) = x
    generalize allP (okF n l) (i * n + (j + 1)) t = y
    cases btwB x (-2000000) (capF (i : Int) (j : Int))
    · simp
    · by_cases hij : i = j
      · subst hij
        by_cases h0 : x = 0
        · simp [h0]
        · simp [h0]
      · have : ¬ ((i : Int) = (j : Int)) := by omega
        simp [hij, this]
theorem s_fok (n : Nat) (l : List Int) (hn : n ≤ 13) (hl : l.length = n * n) : ∀ r i, i + r = n → ∀ K, spec_FactsOk.l0 (K + r * (n + 2) + 1) (i : Int) (n : Int) l = some (allP (okF n l) (i * n) (r * n))
  | 0, i, h, K => by
    rw [Nat.zero_mul, Nat.zero_mul]
    unfold spec_FactsOk.l0
    rw [if_neg (by omega)]; rfl
  | r + 1, i, h, K => by
    have ih := s_fok n l hn hl r (i + 1) (by omega) K
    conv => lhs; unfold spec_FactsOk.l0
    rw [if_pos (by omega), show K + (r + 1) * (n + 2) = (K + r * (n + 2) + 1) + n + 1 by rw [Nat.add_mul]; omega]
    have h1 := s_fin n l hn hl i (by omega) (K + r * (n + 2) + 1) n 0 (by omega)
    rw [show ((0 : Nat) : Int) = 0 from rfl] at h1
    rw [h1, ih, Nat.add_mul r 1 n, Nat.one_mul, Nat.add_comm (r * n) n, allP_add, Nat.add_mul i 1 n, Nat.one_mul, Nat.add_zero]
    cases allP (okF n l) (i * n) n <;> simp
theorem s_facts (k : Nat) (n : Int) (l : List Int) (hk : 300 ≤ k) (hw : (Lit.int .i64 n).wf = true) : spec_FactsOk.f k n l = some (factsOk n l) := by
  unfold spec_FactsOk.f factsOk
  rw [btw_F]; simp only [Option.bind_some]
  obtain ⟨k, rfl⟩ : ∃ m, k = m + 1 := ⟨k - 1, by omega⟩
  by_cases h : btwB n 1 13 = true
  · have h' := h
    simp only [btwB, Bool.and_eq_true, decide_eq_true_eq] at h'
    obtain ⟨m, rfl⟩ : ∃ m : Nat, n = (m : Int) := ⟨n.toNat, by omega⟩
    have hm : m * m ≤ 13 * 13 := Nat.mul_le_mul (by omega) (by omega)
    have e : wrap64 ((m : Int) * (m : Int)) = ((m * m : Nat) : Int) := by
      rw [show ((m : Int) * (m : Int)) = ((m * m : Nat) : Int) by simp]; exact w64 (by omega) (by omega)
    simp only [h, if_true, Bool.true_and, e, Int.toNat_natCast]
    unfold spec_FactsOk.j0
    by_cases hl : l.length = m * m
    · have hm2 : m * (m + 2) ≤ 13 * 15 := Nat.mul_le_mul (by omega) (by omega)
      have h1 := s_fok m l (by omega) hl m 0 (by omega) (k - m * (m + 2) - 1)
      rw [show k - m * (m + 2) - 1 + m * (m + 2) + 1 = k by omega, Nat.zero_mul, ← hl] at h1
      have e2 : ((l.length : Int) == (m : Int) * (m : Int)) = true := by rw [hl]; simp
      rw [e2, hl]; simp only [bne_self_eq_false, Bool.false_eq_true, if_false, Bool.true_and]
      rw [hl] at h1; exact h1
    · have e2 : ((l.length : Int) == (m : Int) * (m : Int)) = false := by
        rw [show ((m : Int) * (m : Int)) = ((m * m : Nat) : Int) by simp]; simp; omega
      have e3 : ((l.length : Int) != ((m * m : Nat) : Int)) = true := by simp; omega
      rw [e2, e3]; simp
  · rw [if_neg h]
    unfold spec_FactsOk.j0
    simp [h]
theorem i_fin (n : Nat) (l : List Int) (hn : n ≤ 13) (h1 : 1 ≤ n) (hl : l.length ≤ 1048576) : ∀ t i k, i + t = l.length → t < k → impl_FactsOk.l0 k l (l.length : Int) (i : Int) (n : Int) l = some (allP (okF n l) i t)
  | 0, i, k + 1, h, hk => by
    unfold impl_FactsOk.l0
    rw [if_neg (by omega)]; rfl
  | t + 1, i, k + 1, h, hk => by
    have ih := i_fin n l hn h1 hl t (i + 1) k (by omega) (by omega)
    have hd : i / n ≤ i := Nat.div_le_self i n
    have hw : wrap64 ((i / n : Nat) : Int) = ((i / n : Nat) : Int) := by generalize i / n = q at hd ⊢; exact w64 (by omega) (by omega)
    unfold impl_FactsOk.l0
    rw [if_pos (by omega), if_pos (by omega), if_pos (by omega), if_neg (by omega), ← Int.ofNat_tdiv, ← Int.ofNat_tmod, hw, i_cap]
    simp only [inR_F, Option.bind_some, w64s i (by omega), ih, allP, okF]
    cases btwB (rd l (i : Int)) (-2000000) (capF ((i / n : Nat) : Int) ((i % n : Nat) : Int))
    · simp
    · by_cases hij : i / n = i % n
      · by_cases h0 : rd l (i : Int) = 0
        · simp [h0, hij]
        · simp [h0, hij]
      · have : ¬ (((i / n : Nat) : Int) = ((i % n : Nat) : Int)) := by omega
        rw [if_pos rfl, if_neg this]; simp [hij]
theorem i_facts (k : Nat) (n : Int) (l : List Int) (hl : l.length ≤ 1048576) (hk : l.length + 2 ≤ k) : impl_FactsOk.f k n l = some (factsOk n l) := by
  unfold impl_FactsOk.f factsOk
  rw [inR_F]; simp only [Option.bind_some]
  obtain ⟨k, rfl⟩ : ∃ m, k = m + 1 := ⟨k - 1, by omega⟩
  by_cases h : btwB n 1 13 = true
  · have h' := h
    simp only [btwB, Bool.and_eq_true, decide_eq_true_eq] at h'
    obtain ⟨m, rfl⟩ : ∃ m : Nat, n = (m : Int) := ⟨n.toNat, by omega⟩
    have hm : m * m ≤ 13 * 13 := Nat.mul_le_mul (by omega) (by omega)
    have e : wrap64 ((m : Int) * (m : Int)) = ((m * m : Nat) : Int) := by
      rw [show ((m : Int) * (m : Int)) = ((m * m : Nat) : Int) by simp]; exact w64 (by omega) (by omega)
    simp only [h, if_true, Bool.true_and, e, Int.toNat_natCast]
    unfold impl_FactsOk.j0
    dsimp only
    have h1 := i_fin m l (by omega) (by omega) hl l.length 0 k (by omega) (by omega)
    rw [show ((0 : Nat) : Int) = 0 from rfl] at h1
    have e4 : ((m : Int) * (m : Int)) = ((m * m : Nat) : Int) := by simp
    rw [e4, h1]
    by_cases hh : l.length = m * m
    · simp [hh]
    · have e2 : ((l.length : Int) == ((m * m : Nat) : Int)) = false := by simp; omega
      have e3 : ((l.length : Int) != ((m * m : Nat) : Int)) = true := by simp; omega
      rw [e2, e3]; simp
  · rw [if_neg h]
    unfold impl_FactsOk.j0
    simp [h]
theorem szF (n : Int) (l : List Int) (hl : l.length < 9223372036854775808) : laws_szFacts.f n l 1048576 = some (if l.length ≤ 1048576 then 1048576 - (l.length : Int) else -1) := by
  unfold laws_szFacts.f laws_szIntS.f
  rw [w64 (by omega) (by omega)]
  by_cases h : l.length ≤ 1048576
  · rw [if_neg (by omega), if_pos h]; simp only [Option.bind_some]; rw [if_neg (by omega)]
  · rw [if_pos (by omega), if_neg h]; rfl
theorem toF (k : Nat) (n : Int) (l : List Int) (h : l.length < k) (hn : l.length ≤ 1048576) : laws_toFacts.f k n l = some (n, l) := by
  unfold laws_toFacts.f; rw [toInts k l h hn]; rfl
theorem eqF (k : Nat) (n : Int) (l : List Int) (h : l.length < k) (hn : l.length ≤ 1048576) : laws_eqFacts.f k n l n l = some true := by
  unfold laws_eqFacts.f; rw [if_pos rfl, eqInts k l h hn]; rfl
end Go.Proofs.YtlkcbfonjcflgaaDoor.Q
namespace Go.Proofs.YtlkcbfonjcflgaaDoor.Q
open Go.RowKit Go.Proofs.YtlkcbfonjcflgaaDoorW.PrintWords Go.Proofs.YtlkcbfonjcflgaaDoorW.PrintLast Go.Proofs.YtlkcbfonjcflgaaDoorW.PrintMore
open Go.Proofs.YtlkcbfonjcflgaaDoor.Open
set_option linter.unusedSimpArgs false
set_option linter.unusedVariables false
theorem toL (s : ByteArray) : s.toList = s.data.toList := Lib.toList_data s
theorem sizeL (s : ByteArray) : s.size = s.data.toList.length := Lib.size_eq s
theorem extL (s : ByteArray) (a b : Nat) : (s.extract a b).data.toList = (s.data.toList.drop a).take (b - a) := Lib.extract_data s a b
theorem ext_all (s : ByteArray) (a : Nat) : (s.extract a s.size).data.toList = s.data.toList.drop a := by
  rw [extL, sizeL, List.take_of_length_le (by simp)]
theorem ext_head (s : ByteArray) (b : Nat) : (s.extract 0 b).data.toList = s.data.toList.take b := by rw [extL]; simp
theorem bt_at_ {s : ByteArray} {i : Nat} {c : UInt8} (h : s.data.toList[i]? = some c) : bt s (i : Int) = (c.toNat : Int) := by
  obtain ⟨hi, e⟩ := List.getElem?_eq_some_iff.1 h
  have hs : i < s.size := by rw [sizeL]; exact hi
  unfold bt
  rw [dif_pos (by simpa using hs)]
  have : s[i] = c := by rw [← e]; simp [ByteArray.getElem_eq_getElem_data]
  simp only [Int.toNat_natCast, this]
theorem bt_zero {s : ByteArray} {c : UInt8} {r : List UInt8} (h : s.data.toList = c :: r) : bt s 0 = (c.toNat : Int) := bt_at_ (i := 0) (by rw [h]; rfl)
theorem u8_lt (c : UInt8) : c.toNat < 256 := UInt8.toNat_lt c
theorem u8_eq {c d : UInt8} (h : c.toNat = d.toNat) : c = d := UInt8.toNat_inj.1 h
theorem app_mk' (a b : ByteArray) : (a ++ b).data.toList = a.data.toList ++ b.data.toList := by simp [ByteArray.data_append]
end Go.Proofs.YtlkcbfonjcflgaaDoor.Q
namespace Go.Proofs.YtlkcbfonjcflgaaDoor.Q
open Go.RowKit Go.Proofs.YtlkcbfonjcflgaaDoorW.PrintWords Go.Proofs.YtlkcbfonjcflgaaDoorW.PrintLast Go.Proofs.YtlkcbfonjcflgaaDoorW.PrintMore
open Go.Proofs.YtlkcbfonjcflgaaDoor.Open
set_option linter.unusedSimpArgs false
set_option linter.unusedVariables false
def isDig (c : UInt8) : Prop := 48 ≤ c.toNat ∧ c.toNat ≤ 57
def dval (acc : Nat) (l : List UInt8) : Nat := l.foldl (fun a c => a * 10 + (c.toNat - 48)) acc
theorem dval_nil (acc : Nat) : dval acc [] = acc := by unfold dval; rw [List.foldl_nil]
theorem dval_cons (acc : Nat) (c : UInt8) (r : List UInt8) : dval acc (c :: r) = dval (acc * 10 + (c.toNat - 48)) r := by
  unfold dval
  rw [List.foldl_cons]
theorem dval_snoc (c : UInt8) (l : List UInt8) (acc : Nat) : dval acc (l ++ [c]) = dval acc l * 10 + (c.toNat - 48) := by
  unfold dval
  rw [List.foldl_append, List.foldl_cons, List.foldl_nil]
theorem dval_ge : ∀ (l : List UInt8) (acc : Nat), acc ≤ dval acc l
  | [], acc => Nat.le_refl _
  | c :: l, acc => by simp only [dval_cons, dval_nil]; have := dval_ge l (acc * 10 + (c.toNat - 48)); omega
theorem ofNat_dig (d : Nat) (h : d < 10) : (UInt8.ofNat (48 + d)).toNat = 48 + d := by simp; omega
theorem isDig_ofNat (d : Nat) (h : d < 10) : isDig (UInt8.ofNat (48 + d)) := by unfold isDig; rw [ofNat_dig d h]; omega
theorem dig_ofNat {c : UInt8} (h : isDig c) : UInt8.ofNat (48 + (c.toNat - 48)) = c := by
  unfold isDig at h
  rw [show 48 + (c.toNat - 48) = c.toNat by omega]
  simp
theorem dec_digs (u : Nat) : ∀ c ∈ Lib.decDigits u, isDig c := by
  induction u using Nat.strongRecOn with
  | _ u ih =>
    rw [Lib.decDigits]
    split
    · rename_i h; intro c hc; simp only [List.mem_singleton] at hc; subst hc; exact isDig_ofNat u h
    · intro c hc
      rcases List.mem_append.1 hc with h | h
      · exact ih (u / 10) (by omega) c h
      · simp only [List.mem_singleton] at h; subst h; exact isDig_ofNat _ (by omega)
theorem dval_dec (u : Nat) : dval 0 (Lib.decDigits u) = u := by
  induction u using Nat.strongRecOn with
  | _ u ih =>
    rw [Lib.decDigits]
    split
    · rename_i h; simp only [dval_cons, dval_nil, ofNat_dig u h]; omega
    · rw [dval_snoc, ih (u / 10) (by omega), ofNat_dig _ (by omega)]; omega
theorem dec_ne (u : Nat) : Lib.decDigits u ≠ [] := by rw [Lib.decDigits]; split <;> simp
theorem dec_head (u : Nat) (hu : 1 ≤ u) : ∃ c r, Lib.decDigits u = c :: r ∧ isDig c ∧ c.toNat ≠ 48 := by
  induction u using Nat.strongRecOn with
  | _ u ih =>
    rw [Lib.decDigits]
    split
    · rename_i h; exact ⟨_, [], rfl, isDig_ofNat u h, by rw [ofNat_dig u h]; omega⟩
    · obtain ⟨c, r, e, h1, h2⟩ := ih (u / 10) (by omega) (by omega)
      exact ⟨c, r ++ [_], by rw [e]; rfl, h1, h2⟩
theorem dec_of_dval (l : List UInt8) : l ≠ [] → (∀ c ∈ l, isDig c) → (1 < l.length → ∀ c, l.head? = some c → c.toNat ≠ 48) → Lib.decDigits (dval 0 l) = l := by
  induction h : l.length using Nat.strongRecOn generalizing l with
  | _ n ih =>
    intro h0 hd hz
    have e : l = l.dropLast ++ [l.getLast h0] := (List.dropLast_concat_getLast h0).symm
    have hcd := hd (l.getLast h0) (List.getLast_mem h0)
    generalize l.getLast h0 = c at e hcd
    generalize l.dropLast = p at e
    subst e
    rw [dval_snoc]
    have hcd' := hcd
    unfold isDig at hcd'
    by_cases hp : p = []
    · subst hp
      rw [Lib.decDigits, dif_pos (by simp only [dval_cons, dval_nil]; omega)]
      simp only [dval_cons, dval_nil, Nat.zero_mul, Nat.zero_add, List.nil_append, dig_ofNat hcd]
    · have hpl : 0 < p.length := List.length_pos_iff.2 hp
      have hhead : ∀ x, p.head? = some x → x.toNat ≠ 48 := fun x hx => hz (by simp at h ⊢; omega) x (by rw [List.head?_append, hx]; rfl)
      have i1 := ih p.length (by simp at h; omega) p rfl hp (fun x hx => hd x (by simp [hx])) (fun _ => hhead)
      have pos : 1 ≤ dval 0 p := by
        cases p with
        | nil => exact absurd rfl hp
        | cons x r =>
          have a := hhead x rfl
          have b := hd x (by simp)
          unfold isDig at b
          have := dval_ge r (0 * 10 + (x.toNat - 48))
          simp only [dval_cons, dval_nil]; omega
      rw [Lib.decDigits, dif_neg (by omega), show (dval 0 p * 10 + (c.toNat - 48)) / 10 = dval 0 p by omega, show (dval 0 p * 10 + (c.toNat - 48)) % 10 = c.toNat - 48 by omega, i1, dig_ofNat hcd]
theorem dec_len10 (k : Nat) : ∀ u, u < 10 ^ (k + 1) → (Lib.decDigits u).length ≤ k + 1 := by
  induction k with
  | zero => intro u hu; rw [Lib.decDigits, dif_pos (by simpa using hu)]; simp
  | succ k ih =>
    intro u hu
    rw [Lib.decDigits]
    split
    · simp
    · have := ih (u / 10) (by rw [Nat.pow_succ] at hu; omega)
      simp; omega
theorem parse_digs : ∀ (l : List UInt8) (acc : Nat), (∀ c ∈ l, isDig c) → dval acc l < 1000000000 → Lib.parseUint10 acc l = .ok (dval acc l)
  | [], acc, _, _ => rfl
  | c :: l, acc, hd, hv => by
    have hc := hd c (by simp)
    unfold isDig at hc
    rw [dval_cons] at hv ⊢
    have hge := dval_ge l (acc * 10 + (c.toNat - 48))
    rw [Lib.parseUint10, if_pos hc, if_neg (by omega), if_neg (by omega)]
    exact parse_digs l _ (fun x hx => hd x (by simp [hx])) hv
theorem atoi_dec (u : Nat) (hu : u < 1000000000) : Lib.atoiAll (Lib.decDigits u) = .ok (u : Int) := by
  have hp := parse_digs (Lib.decDigits u) 0 (dec_digs u) (by rw [dval_dec]; omega)
  rw [dval_dec] at hp
  have hd := dec_digs u
  have hne := dec_ne u
  cases e : Lib.decDigits u with
  | nil => exact absurd e hne
  | cons c r =>
    rw [e] at hp hd
    have hc := hd c (by simp)
    unfold isDig at hc
    unfold Lib.atoiAll
    simp only
    rw [if_neg (by omega)]
    unfold Lib.parseMag
    rw [if_neg (by simp), hp]
    simp only
    rw [if_neg (by omega), if_neg (by omega), if_neg (by omega)]
theorem atoi_neg_dec (u : Nat) (h1 : 1 ≤ u) (hu : u < 1000000000) : Lib.atoiAll (45 :: Lib.decDigits u) = .ok (-(u : Int)) := by
  have hp := parse_digs (Lib.decDigits u) 0 (dec_digs u) (by rw [dval_dec]; omega)
  rw [dval_dec] at hp
  unfold Lib.atoiAll
  simp only
  rw [if_pos (by decide)]
  unfold Lib.parseMag
  rw [if_neg (dec_ne u), hp]
  simp only
  rw [if_neg (by simp), if_neg (by omega), if_pos (by decide)]
theorem itoa_pos (u : Nat) : Lib.itoa (u : Int) = Lib.decDigits u := by unfold Lib.itoa; rw [if_neg (by omega)]; simp
theorem itoa_neg' (u : Nat) (h : 1 ≤ u) : Lib.itoa (-(u : Int)) = 45 :: Lib.decDigits u := by unfold Lib.itoa; rw [if_pos (by omega)]; simp
theorem int_cases (n : Int) : (∃ u : Nat, n = (u : Int)) ∨ ∃ u : Nat, 1 ≤ u ∧ n = -(u : Int) := by
  by_cases h : 0 ≤ n
  · exact .inl ⟨n.toNat, by omega⟩
  · exact .inr ⟨n.natAbs, by omega, by omega⟩
theorem atoi_itoa (n : Int) (h1 : -1000000 ≤ n) (h2 : n ≤ 1000000) : Lib.atoiAll (Lib.itoa n) = .ok n := by
  rcases int_cases n with ⟨u, rfl⟩ | ⟨u, hu, rfl⟩
  · rw [itoa_pos]; exact atoi_dec u (by omega)
  · rw [itoa_neg' u hu]; exact atoi_neg_dec u hu (by omega)
end Go.Proofs.YtlkcbfonjcflgaaDoor.Q
namespace Go.Proofs.YtlkcbfonjcflgaaDoor.Q
open Go.RowKit Go.Proofs.YtlkcbfonjcflgaaDoorW.PrintWords Go.Proofs.YtlkcbfonjcflgaaDoorW.PrintLast Go.Proofs.YtlkcbfonjcflgaaDoorW.PrintMore
open Go.Proofs.YtlkcbfonjcflgaaDoor.Open
set_option linter.unusedSimpArgs false
set_option linter.unusedVariables false
def digB (c : UInt8) : Bool := decide (48 ≤ c.toNat) && decide (c.toNat ≤ 57)
theorem digB_iff (c : UInt8) : digB c = true ↔ isDig c := by unfold digB isDig; simp
theorem all_digs (l : List UInt8) : l.all digB = true ↔ ∀ c ∈ l, isDig c := by simp [List.all_eq_true, digB_iff]
theorem s_digit (c : UInt8) : spec_l01Digit.f (c.toNat : Int) = some (digB c) := by
  unfold spec_l01Digit.f digB
  by_cases h : 48 ≤ c.toNat
  · rw [if_pos (by omega)]; simp [h]; omega
  · rw [if_neg (by omega)]; simp [h]
end Go.Proofs.YtlkcbfonjcflgaaDoor.Q
namespace Go.Proofs.YtlkcbfonjcflgaaDoor.Q
open Go.RowKit Go.Proofs.YtlkcbfonjcflgaaDoorW.PrintWords Go.Proofs.YtlkcbfonjcflgaaDoorW.PrintLast Go.Proofs.YtlkcbfonjcflgaaDoorW.PrintMore
open Go.Proofs.YtlkcbfonjcflgaaDoor.Open
set_option linter.unusedSimpArgs false
set_option linter.unusedVariables false
theorem itoa_len8 (n : Int) (h1 : -2000000 ≤ n) (h2 : n ≤ 2000000) : (Lib.itoa n).length ≤ 8 := by
  rcases int_cases n with ⟨u, rfl⟩ | ⟨u, hu, rfl⟩
  · rw [itoa_pos]; have := dec_len10 6 u (by omega); omega
  · rw [itoa_neg' u hu]; have := dec_len10 6 u (by omega); simp; omega
/-- What the text of a number is read as (impl_readNum.f). -/
theorem numOf_itoa (n : Int) (h1 : -1000000 ≤ n) (h2 : n ≤ 1000000) : numOf (Lib.itoa n) = (n, true) := by
  unfold numOf; rw [atoi_itoa n h1 h2]; simp
theorem numOf_true {l : List UInt8} (h : (numOf l).2 = true) : l = Lib.itoa (numOf l).1 := by
  unfold numOf at h ⊢
  cases e : Lib.atoiAll l with
  | ok v => rw [e] at h; simpa using (beq_iff_eq.1 h).symm
  | «syntax» => rw [e] at h; simp at h
  | range => rw [e] at h; simp at h
end Go.Proofs.YtlkcbfonjcflgaaDoor.Q
namespace Go.Proofs.YtlkcbfonjcflgaaDoor.Q
open Go.RowKit Go.Proofs.YtlkcbfonjcflgaaDoorW.PrintWords Go.Proofs.YtlkcbfonjcflgaaDoorW.PrintLast Go.Proofs.YtlkcbfonjcflgaaDoorW.PrintMore
open Go.Proofs.YtlkcbfonjcflgaaDoor.Open
set_option linter.unusedSimpArgs false
set_option linter.unusedVariables false
def hasL (l : List ByteArray) (s : List UInt8) : Bool := l.any fun x => x.data.toList == s
theorem hasL_cons (x : ByteArray) (t : List ByteArray) (s : List UInt8) : hasL (x :: t) s = (x.data.toList == s || hasL t s) := by unfold hasL; rw [List.any_cons]
theorem rdOf_at {α : Type} {d : α} {l : List α} {i : Nat} {x : α} (h : l[i]? = some x) : rdOf d l (i : Int) = x := by
  unfold rdOf; simp [List.getD, h]
theorem s_has_loop (l : List ByteArray) (s : ByteArray) (hl : l.length ≤ 1000) : ∀ (t : List ByteArray) (i k : Nat), l.drop i = t → t.length < k → spec_l01Has.l0 k l s (i : Int) = some (hasL t s.data.toList) := by
  intro t
  induction t with
  | nil =>
    intro i k hd hk
    obtain ⟨k, rfl⟩ : ∃ m, k = m + 1 := ⟨k - 1, by omega⟩
    have := drop_nil hd
    rw [spec_l01Has.l0, if_neg (by omega)]; rfl
  | cons x t ih =>
    intro i k hd hk
    obtain ⟨k, rfl⟩ : ∃ m, k = m + 1 := ⟨k - 1, by omega⟩
    obtain ⟨h1, h2, h3⟩ := drop_cons hd
    rw [spec_l01Has.l0, if_pos (by omega), if_pos (by omega), rdOf_at h2, toL, toL, w64s i (by omega), ih (i + 1) k h3 (by simp at hk; omega)]
    rw [hasL_cons]
    by_cases h : x.data.toList = s.data.toList
    · rw [if_pos h, beq_iff_eq.2 h]; rfl
    · rw [if_neg h, beq_eq_false_iff_ne.2 h]; rfl
theorem s_has (l : List ByteArray) (s : ByteArray) (hl : l.length ≤ 1000) (k : Nat) (hk : l.length < k) : spec_l01Has.f k l s = some (hasL l s.data.toList) :=
  s_has_loop l s hl l 0 k rfl hk
theorem i_index_loop (l : List ByteArray) (s : ByteArray) (hl : l.length ≤ 1000) : ∀ (t : List ByteArray) (i k : Nat), l.drop i = t → t.length < k → ∃ r, slices_Index_string_string.l0 k l s (l.length : Int) (i : Int) = some r ∧ decide (r ≥ 0) = hasL t s.data.toList := by
  intro t
  induction t with
  | nil =>
    intro i k hd hk
    obtain ⟨k, rfl⟩ : ∃ m, k = m + 1 := ⟨k - 1, by omega⟩
    have := drop_nil hd
    rw [slices_Index_string_string.l0, if_neg (by omega)]; exact ⟨_, rfl, rfl⟩
  | cons x t ih =>
    intro i k hd hk
    obtain ⟨k, rfl⟩ : ∃ m, k = m + 1 := ⟨k - 1, by omega⟩
    obtain ⟨h1, h2, h3⟩ := drop_cons hd
    rw [slices_Index_string_string.l0, if_pos (by omega), if_pos (by omega), if_pos (by omega), rdOf_at h2, toL, toL, w64s i (by omega)]
    by_cases h : s.data.toList = x.data.toList
    · rw [if_pos h]; refine ⟨_, rfl, ?_⟩; rw [hasL_cons, beq_iff_eq.2 h.symm]; simp
    · rw [if_neg h]
      obtain ⟨r, e1, e2⟩ := ih (i + 1) k h3 (by simp at hk; omega)
      refine ⟨r, e1, e2.trans ?_⟩
      have h' : ¬ x.data.toList = s.data.toList := fun e => h e.symm
      rw [hasL_cons, beq_eq_false_iff_ne.2 h']; rfl
theorem i_has (l : List ByteArray) (s : ByteArray) (hl : l.length ≤ 1000) (k : Nat) (hk : l.length < k) : slices_Contains_string_string.f k l s = some (hasL l s.data.toList) := by
  obtain ⟨r, e1, e2⟩ := i_index_loop l s hl l 0 k rfl hk
  unfold slices_Contains_string_string.f slices_Index_string_string.f
  rw [show (0 : Int) = ((0 : Nat) : Int) from rfl, e1]
  simp only [Option.bind_some]
  exact congrArg some e2
def letB (c : UInt8) : Bool := decide (97 ≤ c.toNat) && decide (c.toNat ≤ 122)
theorem s_letter (c : UInt8) : spec_l01Letter.f (c.toNat : Int) = some (letB c) := by
  unfold spec_l01Letter.f letB
  by_cases h : 97 ≤ c.toNat
  · rw [if_pos (by omega)]; simp [h]; omega
  · rw [if_neg (by omega)]; simp [h]
theorem i_letter (c : UInt8) : impl_isLetter.f (c.toNat : Int) = some (letB c) := by
  unfold impl_isLetter.f letB
  by_cases h : 97 ≤ c.toNat
  · rw [if_pos (by omega)]; simp [h]; omega
  · rw [if_neg (by omega)]; simp [h]
theorem i_digit (c : UInt8) : impl_isDigit.f (c.toNat : Int) = some (digB c) := by
  unfold impl_isDigit.f digB
  by_cases h : 48 ≤ c.toNat
  · rw [if_pos (by omega)]; simp [h]; omega
  · rw [if_neg (by omega)]; simp [h]
def keys : List ByteArray := [(⟨#[97, 114, 114, 97, 121]⟩ : ByteArray), (⟨#[99, 104, 101, 99, 107]⟩ : ByteArray), (⟨#[101, 108, 115, 101]⟩ : ByteArray), (⟨#[102, 111, 114]⟩ : ByteArray), (⟨#[102, 114, 111, 109]⟩ : ByteArray), (⟨#[105, 102]⟩ : ByteArray), (⟨#[108, 101, 110]⟩ : ByteArray), (⟨#[114, 101, 97, 100]⟩ : ByteArray), (⟨#[115, 107, 105, 112]⟩ : ByteArray), (⟨#[115, 116, 111, 112]⟩ : ByteArray), (⟨#[116, 111]⟩ : ByteArray), (⟨#[118, 97, 114]⟩ : ByteArray), (⟨#[119, 104, 105, 108, 101]⟩ : ByteArray)]
def ones : List ByteArray := [(⟨#[43]⟩ : ByteArray), (⟨#[45]⟩ : ByteArray), (⟨#[42]⟩ : ByteArray), (⟨#[40]⟩ : ByteArray), (⟨#[41]⟩ : ByteArray), (⟨#[91]⟩ : ByteArray), (⟨#[93]⟩ : ByteArray), (⟨#[123]⟩ : ByteArray), (⟨#[125]⟩ : ByteArray), (⟨#[59]⟩ : ByteArray), (⟨#[61]⟩ : ByteArray), (⟨#[60]⟩ : ByteArray), (⟨#[62]⟩ : ByteArray), (⟨#[63]⟩ : ByteArray)]
def twos : List ByteArray := [(⟨#[61, 61]⟩ : ByteArray), (⟨#[33, 61]⟩ : ByteArray), (⟨#[60, 61]⟩ : ByteArray), (⟨#[62, 61]⟩ : ByteArray)]
def wordB (c : UInt8) : Bool := letB c || digB c
def nameB (l : List UInt8) : Bool := decide (l.length ≤ 8) && (l.head?.any letB) && l.all wordB
def numB (l : List UInt8) : Bool := !(l.isEmpty || decide (7 < l.length) || (decide (1 < l.length) && l.head? == some 48)) && (l.all digB && decide (dval 0 l ≤ 1000000))
def kindL (l : List UInt8) : Int := if hasL keys l = true then 4 else if nameB l = true then 1 else if numB l = true then 2 else if hasL (ones ++ twos) l = true then 3 else 0
theorem s_key (s : ByteArray) (k : Nat) (hk : 40 ≤ k) : spec_l01Key.f k s = some (hasL keys s.data.toList) := by
  unfold spec_l01Key.f
  rw [s_has _ _ (by simp) k (by simp; omega)]; rfl
theorem i_key (s : ByteArray) (k : Nat) (hk : 40 ≤ k) : impl_isKey.f k s = some (hasL keys s.data.toList) := by
  unfold impl_isKey.f
  rw [i_has _ _ (by simp) k (by simp; omega)]; rfl
theorem s_name_loop (s : ByteArray) (hl : s.size ≤ 1048576) : ∀ (t : List UInt8) (i k : Nat), s.data.toList.drop i = t → t.length < k → spec_l01Name.l0 k s (i : Int) = some (t.all wordB) := by
  intro t
  induction t with
  | nil =>
    intro i k hd hk
    obtain ⟨k, rfl⟩ : ∃ m, k = m + 1 := ⟨k - 1, by omega⟩
    have := drop_nil hd
    rw [← sizeL] at this
    rw [spec_l01Name.l0, if_neg (by omega)]; rfl
  | cons c t ih =>
    intro i k hd hk
    obtain ⟨k, rfl⟩ : ∃ m, k = m + 1 := ⟨k - 1, by omega⟩
    obtain ⟨h1, h2, h3⟩ := drop_cons hd
    rw [← sizeL] at h1
    rw [spec_l01Name.l0, if_pos (by omega), if_pos (by omega), bt_at_ h2, s_letter, s_digit, w64s i (by omega), ih (i + 1) k h3 (by simp at hk; omega)]
    rw [List.all_cons, wordB]
    simp only [Option.bind_some]
    cases letB c <;> cases digB c <;> simp
theorem s_name (s : ByteArray) (hl : s.size ≤ 1048576) (k : Nat) (hk : s.size + 40 ≤ k) (hkey : hasL keys s.data.toList = false) : spec_l01Name.f k s = some (nameB s.data.toList) := by
  have stop : spec_l01Name.j0 k s true = some false := by
    obtain ⟨k, rfl⟩ : ∃ m, k = m + 1 := ⟨k - 1, by omega⟩
    rw [spec_l01Name.j0, if_pos rfl]
  have go : spec_l01Name.j0 k s false = some (s.data.toList.all wordB) := by
    obtain ⟨k, rfl⟩ : ∃ m, k = m + 1 := ⟨k - 1, by omega⟩
    rw [spec_l01Name.j0, if_neg (by simp)]
    exact s_name_loop s hl _ 0 k rfl (by rw [← sizeL]; omega)
  have hz := sizeL s
  unfold spec_l01Name.f nameB
  rcases e : s.data.toList with _ | ⟨c, r⟩
  · rw [e] at hz
    have hz0 : s.size = 0 := hz
    rw [if_pos (by omega), stop]; rfl
  · rw [e] at hz
    simp only [List.length_cons] at hz
    rw [if_neg (by omega)]
    by_cases h8 : (s.size : Int) > 8
    · rw [if_pos h8, stop]; simp; omega
    · rw [if_neg h8, if_pos (by omega), bt_zero e, s_letter, s_key s k (by omega), hkey]
      simp only [Option.bind_some]
      cases hb : letB c with
      | true =>
        rw [if_pos rfl, go, e]
        have h7 : r.length + 1 ≤ 8 := by omega
        simp [hb, h7]
      | false => rw [if_neg (by simp), stop]; simp [hb]
theorem num_itoa (l : List UInt8) : numB l = true ↔ ∃ u : Nat, u ≤ 1000000 ∧ l = Lib.decDigits u := by
  unfold numB
  simp only [Bool.and_eq_true, Bool.not_eq_true', Bool.or_eq_false_iff, decide_eq_true_eq, decide_eq_false_iff_not, Bool.and_eq_false_iff, beq_eq_false_iff_ne, ne_eq, List.isEmpty_eq_false_iff]
  constructor
  · rintro ⟨⟨⟨h1, h2⟩, h3⟩, h4, h5⟩
    refine ⟨dval 0 l, h5, (dec_of_dval l h1 ((all_digs l).1 h4) ?_).symm⟩
    intro hl c hc e
    rcases h3 with h3 | h3
    · exact h3 hl
    · exact h3 (by rw [hc, show c = 48 from u8_eq e])
  · rintro ⟨u, hu, rfl⟩
    refine ⟨⟨⟨dec_ne u, ?_⟩, ?_⟩, (all_digs _).2 (dec_digs u), by rw [dval_dec]; exact hu⟩
    · have := dec_len10 6 u (by omega); omega
    · rcases Nat.eq_zero_or_pos u with rfl | h
      · left; rw [Lib.decDigits, dif_pos (by omega)]; simp
      · right
        obtain ⟨c, r, e1, _, e2⟩ := dec_head u h
        rw [e1]
        intro h'
        simp only [List.head?_cons, Option.some.injEq] at h'
        rw [h'] at e2; exact e2 rfl
theorem sign_head {c : UInt8} {r : List UInt8} (h : hasL (ones ++ twos) (c :: r) = true) : letB c = false ∧ digB c = false := by
  simp only [hasL, ones, twos, List.cons_append, List.nil_append, List.any_cons, List.any_nil, Bool.or_eq_true, beq_iff_eq, List.cons.injEq, Bool.or_false] at h
  rcases h with h | h | h | h | h | h | h | h | h | h | h | h | h | h | h | h | h | h <;> (rw [← h.1]; decide)
theorem one_fin : ∀ n : Fin 256, Lib.contains [43, 45, 42, 40, 41, 91, 93, 123, 125, 59, 61, 60, 62, 63] [UInt8.ofNat n.val] = hasL ones [UInt8.ofNat n.val] := by decide +kernel
theorem one_sign (c : UInt8) : Lib.contains [43, 45, 42, 40, 41, 91, 93, 123, 125, 59, 61, 60, 62, 63] [c] = hasL ones [c] := by
  have := one_fin ⟨c.toNat, u8_lt c⟩
  simpa using this
theorem ones_len {l : List UInt8} (h : l.length ≠ 1) : hasL ones l = false := by
  cases e : hasL ones l with
  | false => rfl
  | true =>
    simp only [hasL, ones, List.any_cons, List.any_nil, Bool.or_eq_true, beq_iff_eq, Bool.or_false] at e
    rcases e with e | e | e | e | e | e | e | e | e | e | e | e | e | e <;> exact absurd (by rw [← e]; rfl) h
theorem i_kind_loop (s : ByteArray) (hl : s.size ≤ 1048576) : ∀ (t : List UInt8) (i k : Nat), s.data.toList.drop i = t → t.length < k →
    impl_kindOf.l0 k s (s.size : Int) (i : Int) = some (if t.all wordB = true then (if s.size ≤ 8 then 1 else 0) else 0) := by
  intro t
  induction t with
  | nil =>
    intro i k hd hk
    obtain ⟨k, rfl⟩ : ∃ m, k = m + 1 := ⟨k - 1, by omega⟩
    have := drop_nil hd
    rw [← sizeL] at this
    rw [impl_kindOf.l0, if_neg (by omega)]
    simp only [List.all_nil, if_true]
    by_cases h : s.size ≤ 8
    · rw [if_pos (by omega), if_pos h]
    · rw [if_neg (by omega), if_neg h]
  | cons c t ih =>
    intro i k hd hk
    obtain ⟨k, rfl⟩ : ∃ m, k = m + 1 := ⟨k - 1, by omega⟩
    obtain ⟨h1, h2, h3⟩ := drop_cons hd
    rw [← sizeL] at h1
    rw [impl_kindOf.l0, if_pos (by omega), if_pos (by omega), if_pos (by omega), bt_at_ h2, i_letter, i_digit, w64s i (by omega), ih (i + 1) k h3 (by simp at hk; omega)]
    rw [List.all_cons, wordB]
    simp only [Option.bind_some]
    cases letB c <;> cases digB c <;> simp
theorem let_dig {c : UInt8} (h : letB c = true) : digB c = false := by
  unfold letB at h; unfold digB
  simp only [Bool.and_eq_true, decide_eq_true_eq] at h
  simp; omega
theorem i_kind (s : ByteArray) (hl : s.size ≤ 1048576) (k : Nat) (hk : s.size + 40 ≤ k) : impl_kindOf.f k s = some (kindL s.data.toList) := by
  have hz := sizeL s
  unfold impl_kindOf.f
  rw [toL]
  rcases e : s.data.toList with _ | ⟨c, r⟩
  · rw [if_pos rfl]; rfl
  · rw [e] at hz
    simp only [List.length_cons] at hz
    rw [if_neg (List.cons_ne_nil c r), i_key s k (by omega), e]
    simp only [Option.bind_some]
    unfold kindL
    cases hkey : hasL keys (c :: r) with
    | true => simp
    | false =>
      simp only [Bool.false_eq_true, if_false]
      rw [if_pos (by omega), bt_zero e, i_letter, i_digit]
      simp only [Option.bind_some]
      cases hlet : letB c with
      | true =>
        rw [if_pos rfl, show (0 : Int) = ((0 : Nat) : Int) from rfl, i_kind_loop s hl _ 0 k rfl (by simp only [List.drop_zero, ← sizeL]; omega), List.drop_zero, e]
        have hnum : numB (c :: r) = false := by
          unfold numB; simp [let_dig hlet]
        have hsig : hasL (ones ++ twos) (c :: r) = false := by
          cases q : hasL (ones ++ twos) (c :: r) with
          | false => rfl
          | true => rw [(sign_head q).1] at hlet; cases hlet
        rw [hnum, hsig]
        unfold nameB
        by_cases h8 : s.size ≤ 8
        · have : r.length + 1 ≤ 8 := by omega
          rw [if_pos h8]
          simp [this, hlet, wordB]
        · have : ¬ r.length + 1 ≤ 8 := by omega
          rw [if_neg h8]
          simp [this]
      | false =>
        have hname : nameB (c :: r) = false := by unfold nameB; simp [hlet]
        rw [hname]
        simp only [Bool.false_eq_true, if_false]
        cases hdig : digB c with
        | true =>
          have hsig : hasL (ones ++ twos) (c :: r) = false := by
            cases q : hasL (ones ++ twos) (c :: r) with
            | false => rfl
            | true => rw [(sign_head q).2] at hdig; cases hdig
          rw [if_pos rfl, hsig]
          unfold impl_readNum.f
          rw [if_pos (by omega), e]
          simp only [Option.bind_some]
          have key : ((numOf (c :: r)).2 = true ∧ (numOf (c :: r)).1 ≤ 1000000) ↔ numB (c :: r) = true := by
            rw [num_itoa]
            constructor
            · rintro ⟨h1, h2⟩
              have h3 := numOf_true h1
              rcases int_cases (numOf (c :: r)).1 with ⟨u, hu⟩ | ⟨u, hu1, hu⟩
              · rw [hu, itoa_pos] at h3
                exact ⟨u, by omega, h3⟩
              · rw [hu, itoa_neg' u hu1] at h3
                rw [(List.cons.inj h3).1] at hdig
                exact absurd hdig (by decide)
            · rintro ⟨u, hu, h⟩
              rw [h, ← itoa_pos, numOf_itoa _ (by omega) (by omega)]
              exact ⟨rfl, by simp; omega⟩
          by_cases hn : numB (c :: r) = true
          · obtain ⟨k1, k2⟩ := key.2 hn
            rw [if_pos k1, if_pos k2, if_pos hn]
          · have hn' : ¬ ((numOf (c :: r)).2 = true ∧ (numOf (c :: r)).1 ≤ 1000000) := fun h => hn (key.1 h)
            rw [if_neg hn]
            simp only [Bool.false_eq_true, if_false]
            by_cases q : (numOf (c :: r)).2 = true
            · rw [if_pos q, if_neg (fun h => hn' ⟨q, h⟩)]
            · rw [if_neg q]
        | false =>
          have hnum : numB (c :: r) = false := by unfold numB; simp [hdig]
          rw [hnum, i_has _ _ (by simp) k (by simp; omega), e]
          simp only [Option.bind_some, Bool.false_eq_true, if_false]
          have app : hasL (ones ++ twos) (c :: r) = (hasL ones (c :: r) || hasL twos (c :: r)) := by unfold hasL; rw [List.any_append]
          rw [app]
          change (if hasL twos (c :: r) = true then _ else _) = _
          cases htw : hasL twos (c :: r) with
          | true => simp
          | false =>
            rw [Bool.or_false]
            simp only [Bool.false_eq_true, if_false]
            by_cases h1 : (s.size : Int) = 1
            · have hr : r = [] := List.eq_nil_of_length_eq_zero (by omega)
              subst hr
              rw [if_pos h1]
              unfold strings_Contains.f
              rw [if_pos (by decide), e]
              simp only [Option.bind_some]
              rw [one_sign]
              split <;> rfl
            · rw [if_neg h1, ones_len (by simp only [List.length_cons]; omega)]; simp
end Go.Proofs.YtlkcbfonjcflgaaDoor.Q
namespace Go.Proofs.YtlkcbfonjcflgaaDoor.Q
open Go.RowKit Go.Proofs.YtlkcbfonjcflgaaDoorW.PrintWords Go.Proofs.YtlkcbfonjcflgaaDoorW.PrintLast Go.Proofs.YtlkcbfonjcflgaaDoorW.PrintMore
open Go.Proofs.YtlkcbfonjcflgaaDoor.Open
set_option linter.unusedSimpArgs false
set_option linter.unusedVariables false
theorem key_head {c : UInt8} {r : List UInt8} (h : hasL keys (c :: r) = true) : letB c = true := by
  simp only [hasL, keys, List.any_cons, List.any_nil, Bool.or_eq_true, beq_iff_eq, List.cons.injEq, Bool.or_false] at h
  rcases h with h | h | h | h | h | h | h | h | h | h | h | h | h <;> (rw [← h.1]; decide)
end Go.Proofs.YtlkcbfonjcflgaaDoor.Q
namespace Go.Proofs.YtlkcbfonjcflgaaDoor.Q
open Go.RowKit Go.Proofs.YtlkcbfonjcflgaaDoorW.PrintWords Go.Proofs.YtlkcbfonjcflgaaDoorW.PrintLast Go.Proofs.YtlkcbfonjcflgaaDoorW.PrintMore
open Go.Proofs.YtlkcbfonjcflgaaDoor.Open
set_option linter.unusedSimpArgs false
set_option linter.unusedVariables false
def isName (l : List UInt8) : Bool := !hasL keys l && nameB l
theorem kind_name (l : List UInt8) : (kindL l != 1) = !isName l := by
  unfold kindL isName
  cases hasL keys l <;> cases nameB l <;> simp
  repeat' split
  all_goals simp
theorem s_isName (s : ByteArray) (hl : s.size ≤ 1048576) (k : Nat) (hk : s.size + 40 ≤ k) : spec_l01Name.f k s = some (isName s.data.toList) := by
  unfold isName
  cases hkey : hasL keys s.data.toList with
  | false => rw [s_name s hl k hk hkey]; rfl
  | true =>
    have stop : spec_l01Name.j0 k s true = some false := by
      obtain ⟨k, rfl⟩ : ∃ m, k = m + 1 := ⟨k - 1, by omega⟩
      rw [spec_l01Name.j0, if_pos rfl]
    have hz := sizeL s
    unfold spec_l01Name.f
    rcases e : s.data.toList with _ | ⟨c, r⟩
    · rw [e] at hkey; exact absurd hkey (by decide)
    · rw [e] at hz hkey
      simp only [List.length_cons] at hz
      rw [if_neg (by omega)]
      by_cases h8 : (s.size : Int) > 8
      · rw [if_pos h8, stop]; rfl
      · rw [if_neg h8, if_pos (by omega), bt_zero e, s_letter, key_head hkey, Option.bind_some, if_pos rfl, s_key s k (by omega), e, hkey, Option.bind_some, stop]; rfl
abbrev lenP : List UInt8 := [108, 101, 110, 40]
theorem len_noName (x : List UInt8) : isName (lenP ++ x) = false := by
  unfold isName nameB
  have : (lenP ++ x).all wordB = false := by simp [lenP, show wordB 40 = false by decide]
  rw [this]; simp
/-- A label: a name, or the length of one. -/
def labL (l : List UInt8) : Bool := if 5 < l.length ∧ l.take 4 = lenP ∧ l.getLast? = some 41 then isName ((l.drop 4).take (l.length - 5)) else isName l
theorem last_at {l : List UInt8} (h : 0 < l.length) : ∃ c, l[l.length - 1]? = some c ∧ l.getLast? = some c := by
  refine ⟨l[l.length - 1], List.getElem?_eq_getElem (by omega), ?_⟩
  rw [List.getLast?_eq_getElem?, List.getElem?_eq_getElem (by omega)]
theorem s_label (s : ByteArray) (hl : s.size ≤ 1048576) (k : Nat) (hk : s.size + 60 ≤ k) : spec_l07Label.f k s = some (labL s.data.toList) := by
  have hz := sizeL s
  obtain ⟨k, rfl⟩ : ∃ m, k = m + 1 := ⟨k - 1, by omega⟩
  have no : spec_l07Label.j0 (k + 1) s false = some (isName s.data.toList) := by
    rw [spec_l07Label.j0, if_neg (by simp), s_isName s hl k (by omega)]; rfl
  unfold spec_l07Label.f labL
  rw [← hz]
  by_cases h5 : 5 < s.size
  · rw [if_pos (by omega), if_pos (by omega), if_pos (by omega), toL, ext_head]
    by_cases hp : s.data.toList.take 4 = lenP
    · obtain ⟨c, c1, c2⟩ := last_at (l := s.data.toList) (by omega)
      rw [if_pos hp, w64 (by omega) (by omega), if_pos (by omega), if_pos (by omega), show ((s.size : Int) - 1) = ((s.data.toList.length - 1 : Nat) : Int) by omega, bt_at_ c1]
      by_cases hc : c = 41
      · subst hc
        rw [if_pos ⟨h5, hp, c2⟩, show (((41 : UInt8).toNat : Int) == 41) = true by decide]
        rw [spec_l07Label.j0, if_pos rfl, w64 (by omega) (by omega), if_pos (by omega), if_pos (by omega), s_isName _ (by rw [sizeL, extL, List.length_take, List.length_drop]; omega) k (by rw [sizeL, extL, List.length_take, List.length_drop]; omega), extL, Option.bind_some]
        rw [show ((s.size : Int) - 1).toNat - 4 = s.size - 5 by omega]
      · have hc' : (c.toNat : Int) ≠ 41 := fun h => hc (u8_eq (by show c.toNat = 41; omega))
        rw [if_neg (fun q => by rw [c2] at q; exact hc (Option.some.inj q.2.2)), show ((c.toNat : Int) == 41) = false by simpa using hc', no]
    · rw [if_neg hp, if_neg (fun q => hp q.2.1), no]
  · rw [if_neg (by omega), if_neg (fun q => h5 q.1), no]
def labels (l : List ByteArray) : Bool := l.all fun x => labL x.data.toList
theorem i_haslen (s : ByteArray) (hs : s.size ≤ 1048576) : stringslite_HasPrefix.f s (⟨#[108, 101, 110, 40]⟩ : ByteArray) = some (decide (4 ≤ s.size) && (s.data.toList.take 4 == lenP)) := by
  have z : (⟨#[108, 101, 110, 40]⟩ : ByteArray).size = 4 := rfl
  unfold stringslite_HasPrefix.f
  rw [z]
  by_cases h : 4 ≤ s.size
  · rw [if_pos (by omega), if_pos (by omega), if_pos (by omega), toL, toL, ext_head, decide_eq_true h, Bool.true_and]; rfl
  · rw [if_neg (by omega), decide_eq_false h, Bool.false_and]
theorem i_cutlen (s : ByteArray) (hs : s.size ≤ 1048576) : strings_CutPrefix.f s (⟨#[108, 101, 110, 40]⟩ : ByteArray) = some (if 4 ≤ s.size ∧ s.data.toList.take 4 = lenP then (s.extract 4 s.size, true) else (s, false)) := by
  have z : (⟨#[108, 101, 110, 40]⟩ : ByteArray).size = 4 := rfl
  unfold strings_CutPrefix.f stringslite_CutPrefix.f
  rw [i_haslen s hs, z, Option.bind_some]
  by_cases h : 4 ≤ s.size ∧ s.data.toList.take 4 = lenP
  · rw [if_pos h, decide_eq_true h.1, beq_iff_eq.2 h.2, Bool.and_self, if_pos rfl, if_pos (by omega), if_pos (by omega), Option.bind_some]; rfl
  · have : (decide (4 ≤ s.size) && (s.data.toList.take 4 == lenP)) = false := by
      cases q : (decide (4 ≤ s.size) && (s.data.toList.take 4 == lenP)) with
      | false => rfl
      | true =>
        rw [Bool.and_eq_true, decide_eq_true_eq, beq_iff_eq] at q
        exact absurd q h
    rw [if_neg h, this, if_neg (by simp), Option.bind_some]
theorem i_hasclose (s : ByteArray) (hs : s.size ≤ 1048576) : stringslite_HasSuffix.f s (⟨#[41]⟩ : ByteArray) = some (s.data.toList.getLast? == some 41) := by
  have z : (⟨#[41]⟩ : ByteArray).size = 1 := rfl
  have hz := sizeL s
  unfold stringslite_HasSuffix.f
  rw [z]
  by_cases h : 1 ≤ s.size
  · rw [if_pos (by omega), w64 (by omega) (by omega), if_pos (by omega), if_pos (by omega), toL, toL, ext_all, show ((s.size : Int) - ((1 : Nat) : Int)).toNat = s.size - 1 by omega]
    obtain ⟨c, c1, c2⟩ := last_at (l := s.data.toList) (by omega)
    have ed : s.data.toList.drop (s.size - 1) = [c] := by
      obtain ⟨hlt, e⟩ := List.getElem?_eq_some_iff.1 c1
      rw [hz, List.drop_eq_getElem_cons hlt, e, List.drop_eq_nil_of_le (by omega)]
    rw [ed, c2]
    by_cases hc : c = 41
    · rw [hc]; rfl
    · have q1 : (([c] : List UInt8) == [41]) = false := by simpa using hc
      have q2 : (some c == some (41 : UInt8)) = false := by simpa using hc
      rw [q2]; exact congrArg some q1
  · have : s.data.toList = [] := List.eq_nil_of_length_eq_zero (by omega)
    rw [if_neg (by omega), this]; rfl
theorem i_trim (s : ByteArray) (hs : s.size ≤ 1048576) : strings_TrimSuffix.f s (⟨#[41]⟩ : ByteArray) = some (if s.data.toList.getLast? = some 41 then s.extract 0 (s.size - 1) else s) := by
  have z : (⟨#[41]⟩ : ByteArray).size = 1 := rfl
  have hz := sizeL s
  unfold strings_TrimSuffix.f stringslite_TrimSuffix.f
  rw [i_hasclose s hs, z, Option.bind_some]
  by_cases h : s.data.toList.getLast? = some 41
  · have h1 : 1 ≤ s.size := by
      rcases Nat.eq_zero_or_pos s.size with q | q
      · rw [List.eq_nil_of_length_eq_zero (hz.symm.trans q)] at h; cases h
      · exact q
    rw [if_pos h, h, if_pos (by simp), w64 (by omega) (by omega), if_pos (by omega), if_pos (by omega), show ((s.size : Int) - ((1 : Nat) : Int)).toNat = s.size - 1 by omega, Option.bind_some]
  · rw [if_neg h, if_neg (by simpa using h), Option.bind_some]
theorem i_label (s : ByteArray) (hs : s.size ≤ 1048576) (k : Nat) (hk : s.size + 60 ≤ k) : impl_areLabels_1.f k s = some (!labL s.data.toList) := by
  have hz := sizeL s
  unfold impl_areLabels_1.f
  rw [i_cutlen s hs, Option.bind_some]
  by_cases hp : 4 ≤ s.size ∧ s.data.toList.take 4 = lenP
  · rw [if_pos hp]
    simp only [if_true]
    have hy : (s.extract 4 s.size).data.toList = s.data.toList.drop 4 := ext_all s 4
    have hys : (s.extract 4 s.size).size = s.size - 4 := by rw [sizeL, hy, List.length_drop, ← hz]
    have el : s.data.toList = lenP ++ s.data.toList.drop 4 := by rw [← hp.2, List.take_append_drop]
    rw [i_trim _ (by omega), Option.bind_some, hy]
    generalize s.extract 4 s.size = y at hy hys
    by_cases hl : (s.data.toList.drop 4).getLast? = some 41
    · rw [if_pos hl]
      have hm : (y.extract 0 (y.size - 1)).data.toList = (s.data.toList.drop 4).take (s.size - 5) := by rw [ext_head, hy, hys]; congr 1
      have hms : (y.extract 0 (y.size - 1)).size ≤ s.size := by rw [sizeL, hm, List.length_take, List.length_drop]; omega
      have hne : s.data.toList.drop 4 ≠ [] := by intro e; rw [e] at hl; cases hl
      have hlen := List.length_pos_iff.2 hne
      rw [List.length_drop] at hlen
      have ey : s.data.toList.drop 4 = (s.data.toList.drop 4).take (s.size - 5) ++ [41] := by
        rw [List.getLast?_eq_some_iff] at hl
        obtain ⟨m, e⟩ := hl
        have : m.length = s.size - 5 := by
          have := congrArg List.length e
          rw [List.length_drop, List.length_append, List.length_cons, List.length_nil] at this
          omega
        rw [e, ← this]; simp
      rw [if_pos (by omega), toL, toL, app_mk', hm, hy, if_pos ey, i_kind _ (by omega) k (by omega), Option.bind_some, hm, kind_name]
      unfold labL
      rw [← hz]
      by_cases h5 : 5 < s.size
      · have hll : s.data.toList.getLast? = some 41 := by rw [el, List.getLast?_append, hl]; rfl
        rw [if_pos ⟨h5, hp.2, hll⟩]
      · rw [if_neg (fun q => h5 q.1), show s.size - 5 = 0 by omega, List.take_zero, el, len_noName]; rfl
    · rw [if_neg hl, if_pos (by omega), toL, toL, app_mk', hy, if_neg (fun q => by have := congrArg List.length q; simp at this)]
      unfold labL
      rw [if_neg, el, len_noName]; rfl
      rintro ⟨q1, q2, q3⟩
      rw [el, List.getLast?_append] at q3
      cases q : (s.data.toList.drop 4).getLast? with
      | none =>
        rw [List.getLast?_eq_none_iff] at q
        have := congrArg List.length q
        rw [List.length_drop, List.length_nil] at this
        omega
      | some c =>
        rw [q] at q3 hl
        exact hl q3
  · rw [if_neg hp]
    simp only [Bool.false_eq_true, if_false]
    rw [i_kind s hs k (by omega), Option.bind_some, kind_name]
    unfold labL
    rw [if_neg]
    rintro ⟨q1, q2, _⟩
    exact hp ⟨by omega, q2⟩
theorem i_labels_loop (l : List ByteArray) (hl : l.length ≤ 1048576) (hs : ∀ x ∈ l, x.size ≤ 1048576) : ∀ (t : List ByteArray) (i k : Nat), l.drop i = t → 1100000 + t.length < k →
    ∃ r, slices_IndexFunc__impl_areLabels_1.l0 k l (l.length : Int) (i : Int) = some r ∧ decide (r ≥ 0) = !(t.all fun x => labL x.data.toList) := by
  intro t
  induction t with
  | nil =>
    intro i k hd hk
    obtain ⟨k, rfl⟩ : ∃ m, k = m + 1 := ⟨k - 1, by omega⟩
    have := drop_nil hd
    rw [slices_IndexFunc__impl_areLabels_1.l0, if_neg (by omega)]
    exact ⟨_, rfl, rfl⟩
  | cons x t ih =>
    intro i k hd hk
    obtain ⟨k, rfl⟩ : ∃ m, k = m + 1 := ⟨k - 1, by omega⟩
    obtain ⟨h1, h2, h3⟩ := drop_cons hd
    have hx := hs x (List.mem_of_getElem? h2)
    rw [slices_IndexFunc__impl_areLabels_1.l0, if_pos (by omega), if_pos (by omega), if_pos (by omega), rdOf_at h2, i_label x hx k (by simp at hk; omega), Option.bind_some, w64s i (by omega), List.all_cons]
    cases hq : labL x.data.toList with
    | true =>
      rw [if_neg (by simp)]
      obtain ⟨r, e1, e2⟩ := ih (i + 1) k h3 (by simp at hk; omega)
      exact ⟨r, e1, by rw [e2]; simp⟩
    | false =>
      rw [if_pos (by simp)]
      exact ⟨_, rfl, by simp⟩
theorem i_labels (l : List ByteArray) (hl : l.length ≤ 1048576) (hs : ∀ x ∈ l, x.size ≤ 1048576) (n : Int) (k : Nat) (hk : 1100000 + l.length < k) : impl_areLabels.f k l n = some (decide ((l.length : Int) = n) && labels l) := by
  unfold impl_areLabels.f
  by_cases h : (l.length : Int) = n
  · obtain ⟨r, e1, e2⟩ := i_labels_loop l hl hs l 0 k rfl hk
    rw [if_pos h]
    unfold slices_ContainsFunc__impl_areLabels_1.f slices_IndexFunc__impl_areLabels_1.f
    rw [show (0 : Int) = ((0 : Nat) : Int) from rfl, e1, Option.bind_some]
    rw [show (((0 : Nat) : Int)) = 0 from rfl, e2]
    simp [h, labels]
  · rw [if_neg h]; simp [h]
end Go.Proofs.YtlkcbfonjcflgaaDoor.Q
namespace Go.Proofs.YtlkcbfonjcflgaaDoor.Q
open Go.RowKit Go.Proofs.YtlkcbfonjcflgaaDoorW.PrintWords Go.Proofs.YtlkcbfonjcflgaaDoorW.PrintLast Go.Proofs.YtlkcbfonjcflgaaDoorW.PrintMore
open Go.Proofs.YtlkcbfonjcflgaaDoor.Open
set_option linter.unusedSimpArgs false
set_option linter.unusedVariables false
theorem app_mk (a b : List UInt8) : ((⟨a.toArray⟩ : ByteArray) ++ (⟨b.toArray⟩ : ByteArray)) = ⟨(a ++ b).toArray⟩ := by
  apply ByteArray.ext
  simp [ByteArray.data_append]
theorem size_mk (a : List UInt8) : (⟨a.toArray⟩ : ByteArray).size = a.length := by simp [ByteArray.size]
theorem dec_len (u : Nat) : (Lib.decDigits u).length ≤ u + 1 := by
  induction u using Nat.strongRecOn with
  | _ u ih =>
    rw [Lib.decDigits]
    split
    · simp
    · have := ih (u / 10) (by omega)
      simp; omega
theorem dig1 (u : Nat) (h : u < 10) : strOfNums [(wrap64 (48 + (u : Int))) % 256] = ⟨([UInt8.ofNat (48 + u)] : List UInt8).toArray⟩ := by
  unfold strOfNums
  rw [w64 (by omega) (by omega)]
  simp only [List.map_cons, List.map_nil]
  rw [show ((48 + (u : Int)) % 256).toNat = 48 + u by omega]
theorem dig_pos (u : Nat) (hu : u ≤ 1000000000) : ∀ k, u < k → spec_l01Digits.f k (u : Int) = some ⟨(Lib.decDigits u).toArray⟩ := by
  induction u using Nat.strongRecOn with
  | _ u ih =>
    intro k hk
    obtain ⟨k, rfl⟩ : ∃ m, k = m + 1 := ⟨k - 1, by omega⟩
    rw [spec_l01Digits.f, if_neg (by omega), if_neg (by omega), Lib.decDigits]
    by_cases h : u < 10
    · rw [if_pos (by omega), dif_pos h, dig1 u h]
    · have e1 : Int.tdiv (u : Int) 10 = ((u / 10 : Nat) : Int) := by rw [show (10 : Int) = ((10 : Nat) : Int) from rfl, ← Int.ofNat_tdiv]
      have e2 : Int.tmod (u : Int) 10 = ((u % 10 : Nat) : Int) := by rw [show (10 : Int) = ((10 : Nat) : Int) from rfl, ← Int.ofNat_tmod]
      rw [if_neg (by omega), dif_neg h, e1, e2, w64 (by omega) (by omega), ih (u / 10) (by omega) (by omega) k (by omega)]
      simp only [Option.bind_some]
      rw [dig1 (u % 10) (by omega), size_mk, size_mk, if_pos (by have := dec_len (u / 10); simp; omega), app_mk]
theorem digits (n : Int) (h1 : -2000000 ≤ n) (h2 : n ≤ 2000000) (k : Nat) (hk : n.natAbs + 3 < k) : spec_l01Digits.f k n = some ⟨(Lib.itoa n).toArray⟩ := by
  unfold Lib.itoa
  by_cases hn : n < 0
  · rw [if_pos hn]
    obtain ⟨u, hu⟩ : ∃ u : Nat, n = -(u : Int) := ⟨n.natAbs, by omega⟩
    subst hu
    rw [show (-(u : Int)).natAbs = u by omega]
    obtain ⟨k, rfl⟩ : ∃ m, k = m + 1 := ⟨k - 1, by omega⟩
    have one : (⟨#[45]⟩ : ByteArray) = ⟨([45] : List UInt8).toArray⟩ := rfl
    rw [spec_l01Digits.f, one]
    by_cases h10 : -(u : Int) < -9
    · have e1 : Int.tdiv (-(u : Int)) 10 = -((u / 10 : Nat) : Int) := by rw [Int.neg_tdiv, show (10 : Int) = ((10 : Nat) : Int) from rfl, ← Int.ofNat_tdiv]
      have e2 : Int.tmod (-(u : Int)) 10 = -((u % 10 : Nat) : Int) := by rw [Int.neg_tmod, show (10 : Int) = ((10 : Nat) : Int) from rfl, ← Int.ofNat_tmod]
      rw [if_pos h10, e1, e2, w64 (n := -((u / 10 : Nat) : Int)) (by omega) (by omega), Int.neg_neg, Int.neg_neg, w64 (n := ((u / 10 : Nat) : Int)) (by omega) (by omega), w64 (n := ((u % 10 : Nat) : Int)) (by omega) (by omega), dig_pos (u / 10) (by omega) k (by omega), dig_pos (u % 10) (by omega) k (by omega)]
      simp only [Option.bind_some]
      have l1 := dec_len (u / 10)
      have l2 := dec_len (u % 10)
      rw [if_pos (by rw [size_mk]; first | omega | (simp; omega)), app_mk, size_mk, size_mk, if_pos (by first | omega | (simp; omega)), app_mk]
      have e3 : Lib.decDigits u = Lib.decDigits (u / 10) ++ [UInt8.ofNat (48 + u % 10)] := by rw [Lib.decDigits, dif_neg (by omega)]
      have e4 : Lib.decDigits (u % 10) = [UInt8.ofNat (48 + u % 10)] := by rw [Lib.decDigits, dif_pos (by omega)]
      rw [e3, e4]; rfl
    · rw [if_neg h10, if_pos hn, Int.neg_neg, w64 (by omega) (by omega), dig_pos u (by omega) k (by omega)]
      simp only [Option.bind_some]
      have l1 := dec_len u
      rw [if_pos (by rw [size_mk]; first | omega | (simp; omega)), app_mk]; rfl
  · rw [if_neg hn]
    obtain ⟨u, rfl⟩ : ∃ u : Nat, n = (u : Int) := ⟨n.toNat, by omega⟩
    rw [Int.toNat_natCast]
    exact dig_pos u (by omega) k (by omega)
theorem itoa_i (n : Int) (h1 : -2000000 ≤ n) (h2 : n ≤ 2000000) : strconv_Itoa.f n = some ⟨(Lib.itoa n).toArray⟩ := by
  unfold strconv_Itoa.f; rw [if_pos ⟨by omega, by omega⟩]
end Go.Proofs.YtlkcbfonjcflgaaDoor.Q
namespace Go.Proofs.YtlkcbfonjcflgaaDoor.Q
open Go.RowKit Go.Proofs.YtlkcbfonjcflgaaDoorW.PrintWords Go.Proofs.YtlkcbfonjcflgaaDoorW.PrintLast Go.Proofs.YtlkcbfonjcflgaaDoorW.PrintMore
open Go.Proofs.YtlkcbfonjcflgaaDoor.Open
set_option linter.unusedSimpArgs false
set_option linter.unusedVariables false
def jl (xs : List ByteArray) (sep : List UInt8) : List UInt8 := Lib.join (xs.map (·.data.toList)) sep
theorem jl_nil (sep : List UInt8) : jl [] sep = [] := rfl
theorem jl_one (x : ByteArray) (sep : List UInt8) : jl [x] sep = x.data.toList := Lib.join_one _ _
theorem tail_app (sep : List UInt8) : ∀ (xs ys : List (List UInt8)), Lib.joinTail sep (xs ++ ys) = Lib.joinTail sep xs ++ Lib.joinTail sep ys
  | [], ys => by simp [Lib.joinTail]
  | x :: xs, ys => by
    have e : ∀ (z : List UInt8) (zs : List (List UInt8)), Lib.joinTail sep (z :: zs) = sep ++ z ++ Lib.joinTail sep zs := fun _ _ => rfl
    rw [List.cons_append, e, e, tail_app sep xs ys]; simp
theorem jl_snoc (xs : List ByteArray) (x : ByteArray) (sep : List UInt8) (h : xs ≠ []) : jl (xs ++ [x]) sep = jl xs sep ++ sep ++ x.data.toList := by
  cases xs with
  | nil => exact absurd rfl h
  | cons y ys =>
    unfold jl
    rw [List.cons_append, List.map_cons, List.map_cons, Lib.join_cons, Lib.join_cons, List.map_append, tail_app]
    have e : Lib.joinTail sep (List.map (·.data.toList) [x]) = sep ++ x.data.toList := by
      show sep ++ x.data.toList ++ [] = _
      rw [List.append_nil]
    rw [e]; simp
theorem jl_le (B : Nat) (sep : List UInt8) : ∀ xs : List ByteArray, (∀ x ∈ xs, x.size ≤ B) → (jl xs sep).length ≤ xs.length * (B + sep.length)
  | [], _ => by simp [jl_nil]
  | y :: ys, h => by
    have tl : ∀ zs : List ByteArray, (∀ x ∈ zs, x.size ≤ B) → (Lib.joinTail sep (zs.map (·.data.toList))).length ≤ zs.length * (B + sep.length) := by
      intro zs
      induction zs with
      | nil => intro _; simp [Lib.joinTail]
      | cons z zs ih =>
        intro hz
        have e : Lib.joinTail sep ((z :: zs).map (·.data.toList)) = sep ++ z.data.toList ++ Lib.joinTail sep (zs.map (·.data.toList)) := rfl
        have h1 := ih (fun x hx => hz x (by simp [hx]))
        have h2 := hz z (by simp)
        rw [e, List.length_append, List.length_append, ← sizeL, List.length_cons, Nat.add_mul]
        omega
    unfold jl
    rw [List.map_cons, Lib.join_cons, List.length_append, ← sizeL, List.length_cons, Nat.add_mul]
    have h1 := tl ys (fun x hx => h x (by simp [hx]))
    have h2 := h y (by simp)
    omega
theorem jl_le2 (xs : List ByteArray) (h : ∀ x ∈ xs, x.size ≤ 3000000) (hn : xs.length ≤ 169) : (jl xs [44, 32]).length ≤ 600000000 := by
  have h1 := jl_le 3000000 [44, 32] xs h
  have h2 : [44, 32].length = 2 := rfl
  generalize xs.length = n at h1 hn
  generalize (jl xs [44, 32]).length = y at h1 ⊢
  simp only [List.length_cons, List.length_nil] at h1
  omega
theorem jl_ne {xs : List ByteArray} {sep : List UInt8} (h : xs ≠ []) (hx : ∀ x ∈ xs, x.data.toList ≠ []) : jl xs sep ≠ [] := by
  cases xs with
  | nil => exact absurd rfl h
  | cons y ys =>
    unfold jl
    rw [List.map_cons, Lib.join_cons]
    intro e
    exact hx y (by simp) (List.append_eq_nil_iff.1 e).1
theorem i_join (xs : List ByteArray) (sep : ByteArray) (h1 : xs.length ≤ 140737488355328) (h2 : (jl xs sep.data.toList).length ≤ 140737488355328) : strings_Join.f xs sep = some ⟨(jl xs sep.data.toList).toArray⟩ := by
  unfold strings_Join.f
  rw [if_pos ⟨h1, h2⟩]; rfl
end Go.Proofs.YtlkcbfonjcflgaaDoor.Q
namespace Go.Proofs.YtlkcbfonjcflgaaDoor.Q
open Go.RowKit Go.Proofs.YtlkcbfonjcflgaaDoorW.PrintWords Go.Proofs.YtlkcbfonjcflgaaDoorW.PrintLast Go.Proofs.YtlkcbfonjcflgaaDoorW.PrintMore
open Go.Proofs.YtlkcbfonjcflgaaDoor.Open
set_option linter.unusedSimpArgs false
set_option linter.unusedVariables false
def nmB (names : List ByteArray) (i : Nat) : ByteArray := rdOf ByteArray.empty names ((i : Int) - 1)
theorem nmB_size (names : List ByteArray) (i : Nat) (hs : ∀ x ∈ names, x.size ≤ 1048576) : (nmB names i).size ≤ 1048576 := by
  unfold nmB rdOf
  rw [List.getD_eq_getElem?_getD]
  cases e : names[((i : Int) - 1).toNat]? with
  | none => exact Nat.zero_le _
  | some x => exact hs x (List.mem_of_getElem? e)
def numB' (x : Int) : ByteArray := ⟨(Lib.itoa x).toArray⟩
/-- What is written of two symbols and a number, if it says more than the cap. -/
def itemIJ (names : List ByteArray) (i j : Nat) (x : Int) : Option ByteArray :=
  if x = capF (i : Int) (j : Int) then none
  else if j = 0 then some ((nmB names i ++ (⟨#[32, 60, 61, 32]⟩ : ByteArray)) ++ numB' x)
  else if i = 0 then some ((nmB names j ++ (⟨#[32, 62, 61, 32]⟩ : ByteArray)) ++ numB' (-x))
  else some ((((nmB names i ++ (⟨#[32, 45, 32]⟩ : ByteArray)) ++ nmB names j) ++ (⟨#[32, 60, 61, 32]⟩ : ByteArray)) ++ numB' x)
def item (names : List ByteArray) (m : Nat) (l : List Int) (a : Nat) : Option ByteArray := itemIJ names (a / m) (a % m) (rd l (a : Int))
def its (names : List ByteArray) (m : Nat) (l : List Int) : Nat → Nat → List ByteArray
  | _, 0 => []
  | a, t + 1 => match item names m l a with
    | none => its names m l (a + 1) t
    | some s => s :: its names m l (a + 1) t
theorem its_add (names : List ByteArray) (m : Nat) (l : List Int) : ∀ t a r, its names m l a (t + r) = its names m l a t ++ its names m l (a + t) r
  | 0, a, r => by simp [its]
  | t + 1, a, r => by
    rw [show t + 1 + r = (t + r) + 1 by omega]
    simp only [its]
    rw [its_add names m l t (a + 1) r, show a + 1 + t = a + (t + 1) by omega]
    cases item names m l a <;> rfl
structure FT (names : List ByteArray) (m : Nat) (l : List Int) : Prop where
  m1 : 1 ≤ m
  m13 : m ≤ 13
  len : l.length = m * m
  nlen : names.length = m - 1
  nsz : ∀ x ∈ names, x.size ≤ 1048576
  ok : ∀ a, a < m * m → okF m l a = true
theorem FT.sq {names : List ByteArray} {m : Nat} {l : List Int} (h : FT names m l) : m * m ≤ 169 := Nat.mul_le_mul h.m13 h.m13
theorem FT.rng {names : List ByteArray} {m : Nat} {l : List Int} (h : FT names m l) {a : Nat} (ha : a < m * m) : -2000000 ≤ rd l (a : Int) ∧ rd l (a : Int) ≤ 2000000 ∧ (a / m = a % m → rd l (a : Int) = 0) := by
  have := h.ok a ha
  unfold okF btwB at this
  simp only [Bool.and_eq_true, decide_eq_true_eq, Bool.or_eq_true, beq_iff_eq] at this
  obtain ⟨⟨h1, h2⟩, h3⟩ := this
  refine ⟨h1, ?_, fun e => ?_⟩
  · unfold capF at h2
    repeat' split at h2
    all_goals omega
  · rcases h3 with h3 | h3
    · exact absurd e h3
    · exact h3
theorem numB_size (x : Int) (h1 : -2000000 ≤ x) (h2 : x ≤ 2000000) : (numB' x).size ≤ 8 := by
  unfold numB'; rw [sizeL]; exact itoa_len8 x h1 h2
theorem itemIJ_facts {names : List ByteArray} (hs : ∀ x ∈ names, x.size ≤ 1048576) {i j : Nat} {x : Int} (r1 : -2000000 ≤ x) (r2 : x ≤ 2000000) {s : ByteArray} (e : itemIJ names i j x = some s) : s.size ≤ 3000000 ∧ s.data.toList ≠ [] := by
  have n1 := nmB_size names i hs
  have n2 := nmB_size names j hs
  have b1 := numB_size _ r1 r2
  have b2 := numB_size (-x) (by omega) (by omega)
  have z1 : (⟨#[32, 60, 61, 32]⟩ : ByteArray).size = 4 := rfl
  have z2 : (⟨#[32, 62, 61, 32]⟩ : ByteArray).size = 4 := rfl
  have z3 : (⟨#[32, 45, 32]⟩ : ByteArray).size = 3 := rfl
  have asz : ∀ x y : ByteArray, (x ++ y).size = x.size + y.size := fun x y => by rw [sizeL, app_mk', List.length_append, ← sizeL, ← sizeL]
  have szne : ∀ x : ByteArray, 0 < x.size → x.data.toList ≠ [] := fun x hx e => by rw [sizeL, e] at hx; simp at hx
  unfold itemIJ at e
  split at e
  · cases e
  · split at e
    · injection e with e; subst e
      refine ⟨?_, szne _ ?_⟩ <;> rw [asz, asz, z1] <;> omega
    · split at e
      · injection e with e; subst e
        refine ⟨?_, szne _ ?_⟩ <;> rw [asz, asz, z2] <;> omega
      · injection e with e; subst e
        refine ⟨?_, szne _ ?_⟩ <;> rw [asz, asz, asz, asz, z1, z3] <;> omega
theorem item_facts {names : List ByteArray} {m : Nat} {l : List Int} (h : FT names m l) {a : Nat} (ha : a < m * m) {s : ByteArray} (e : item names m l a = some s) : s.size ≤ 3000000 ∧ s.data.toList ≠ [] := by
  obtain ⟨r1, r2, _⟩ := h.rng ha
  exact itemIJ_facts h.nsz r1 r2 e
set_option maxHeartbeats 4000000 in
theorem i_ft_step (names acc : List ByteArray) (hs : ∀ x ∈ names, x.size ≤ 1048576) (i j : Nat) (x : Int) (hi : i ≤ names.length) (hj : j ≤ names.length) (hn : names.length ≤ 1048576) (r1 : -2000000 ≤ x) (r2 : x ≤ 2000000) (r3 : i = j → x = 0) (hacc : acc.length < 8796093022208) (A : Option ByteArray) (G : List ByteArray → Option ByteArray) :
    (if x = capF (i : Int) (j : Int) then A else (if (j : Int) = 0 then (if 0 ≤ (wrap64 ((i : Int) - 1)) then (if (wrap64 ((i : Int) - 1)) < (names.length : Int) then (if (rdOf ByteArray.empty names (wrap64 ((i : Int) - 1))).size + 4 ≤ 9223372036854775807 then ((strconv_Itoa.f x).bind fun t280 => (if (rdOf ByteArray.empty names (wrap64 ((i : Int) - 1))).size + 4 + t280.size ≤ 9223372036854775807 then (if acc.length < 8796093022208 then (G (acc ++ [((rdOf ByteArray.empty names (wrap64 ((i : Int) - 1))) ++ (⟨#[32, 60, 61, 32]⟩ : ByteArray)) ++ t280])) else (none)) else (none))) else (none)) else (none)) else (none)) else (if (i : Int) = 0 then (if 0 ≤ (wrap64 ((j : Int) - 1)) then (if (wrap64 ((j : Int) - 1)) < (names.length : Int) then (if (rdOf ByteArray.empty names (wrap64 ((j : Int) - 1))).size + 4 ≤ 9223372036854775807 then ((strconv_Itoa.f (wrap64 (-x))).bind fun t285 => (if (rdOf ByteArray.empty names (wrap64 ((j : Int) - 1))).size + 4 + t285.size ≤ 9223372036854775807 then (if acc.length < 8796093022208 then (G (acc ++ [((rdOf ByteArray.empty names (wrap64 ((j : Int) - 1))) ++ (⟨#[32, 62, 61, 32]⟩ : ByteArray)) ++ t285])) else (none)) else (none))) else (none)) else (none)) else (none)) else (if 0 ≤ (wrap64 ((i : Int) - 1)) then (if (wrap64 ((i : Int) - 1)) < (names.length : Int) then (if (rdOf ByteArray.empty names (wrap64 ((i : Int) - 1))).size + 3 ≤ 9223372036854775807 then (if 0 ≤ (wrap64 ((j : Int) - 1)) then (if (wrap64 ((j : Int) - 1)) < (names.length : Int) then (if (rdOf ByteArray.empty names (wrap64 ((i : Int) - 1))).size + 3 + (rdOf ByteArray.empty names (wrap64 ((j : Int) - 1))).size ≤ 9223372036854775807 then (if (rdOf ByteArray.empty names (wrap64 ((i : Int) - 1))).size + 3 + (rdOf ByteArray.empty names (wrap64 ((j : Int) - 1))).size + 4 ≤ 9223372036854775807 then ((strconv_Itoa.f x).bind fun t291 => (if (rdOf ByteArray.empty names (wrap64 ((i : Int) - 1))).size + 3 + (rdOf ByteArray.empty names (wrap64 ((j : Int) - 1))).size + 4 + t291.size ≤ 9223372036854775807 then (if acc.length < 8796093022208 then (G (acc ++ [((((rdOf ByteArray.empty names (wrap64 ((i : Int) - 1))) ++ (⟨#[32, 45, 32]⟩ : ByteArray)) ++ (rdOf ByteArray.empty names (wrap64 ((j : Int) - 1)))) ++ (⟨#[32, 60, 61, 32]⟩ : ByteArray)) ++ t291])) else (none)) else (none))) else (none)) else (none)) else (none)) else (none)) else (none)) else (none)) else (none))))) =
    match itemIJ names i j x with
    | none => A
    | some s => G (acc ++ [s]) := by
  have n1 := nmB_size names i hs
  have n2 := nmB_size names j hs
  unfold nmB at n1 n2
  have b1 := numB_size _ r1 r2
  have b2 := numB_size (-x) (by omega) (by omega)
  unfold numB' at b1 b2
  have wi : wrap64 ((i : Int) - 1) = (i : Int) - 1 := w64 (by omega) (by omega)
  have wj : wrap64 ((j : Int) - 1) = (j : Int) - 1 := w64 (by omega) (by omega)
  have wn : wrap64 (-x) = -x := w64 (by omega) (by omega)
  unfold itemIJ
  by_cases hc : x = capF (i : Int) (j : Int)
  · rw [if_pos hc, if_pos hc]
  · have hij : i ≠ j := fun q => hc (by rw [r3 q]; unfold capF; rw [if_pos (by omega)])
    rw [if_neg hc, if_neg hc, wi, wj, wn, itoa_i _ r1 r2, itoa_i (-x) (by omega) (by omega)]
    by_cases hj0 : j = 0
    · rw [if_pos (show (j : Int) = 0 by omega), if_pos (by omega), if_pos (by omega), if_pos (by omega), Option.bind_some, if_pos (by omega), if_pos hacc, if_pos hj0]; rfl
    · rw [if_neg (show ¬ (j : Int) = 0 by omega), if_neg hj0]
      by_cases hi0 : i = 0
      · rw [if_pos (show (i : Int) = 0 by omega), if_pos (by omega), if_pos (by omega), if_pos (by omega), Option.bind_some, if_pos (by omega), if_pos hacc, if_pos hi0]; rfl
      · rw [if_neg (show ¬ (i : Int) = 0 by omega), if_neg hi0, if_pos (by omega), if_pos (by omega), if_pos (by omega), if_pos (by omega), if_pos (by omega), if_pos (by omega), if_pos (by omega), Option.bind_some, if_pos (by omega), if_pos hacc]; rfl
def anyB : ByteArray := ⟨#[97, 110, 121]⟩
def finT (xs : List ByteArray) : ByteArray := if xs = [] then anyB else ⟨(jl xs [44, 32]).toArray⟩
set_option maxHeartbeats 4000000 in
theorem i_ft {names : List ByteArray} {m : Nat} {l : List Int} (h : FT names m l) : ∀ t a k (acc : List ByteArray), a + t = m * m → t < k → (∀ x ∈ acc, x.size ≤ 3000000) → acc.length ≤ a →
    impl_FactsText.l0 k names acc l (l.length : Int) (a : Int) (m : Int) l = some (finT (acc ++ its names m l a t)) := by
  have hsq := h.sq
  have hlen := h.len
  have hm1 := h.m1
  have hm13 := h.m13
  have hnl := h.nlen
  intro t
  induction t with
  | zero =>
    intro a k acc hat hk hacc hal
    obtain ⟨k, rfl⟩ : ∃ n, k = n + 1 := ⟨k - 1, by omega⟩
    rw [impl_FactsText.l0, if_neg (by omega)]
    simp only [its, List.append_nil]
    unfold finT
    by_cases h0 : acc = []
    · rw [if_pos (by rw [h0]; rfl), if_pos h0]; rfl
    · have hp := List.length_pos_iff.2 h0
      have hj := jl_le2 acc hacc (by omega)
      rw [if_neg (by omega), if_neg h0, i_join acc _ (by omega) (Nat.le_trans hj (by omega)), Option.bind_some]
  | succ t ih =>
    intro a k acc hat hk hacc hal
    obtain ⟨k, rfl⟩ : ∃ n, k = n + 1 := ⟨k - 1, by omega⟩
    have ha : a < m * m := by omega
    obtain ⟨r1, r2, r3⟩ := h.rng ha
    have hd : a / m < m := Nat.div_lt_of_lt_mul ha
    have hmod : a % m < m := Nat.mod_lt _ (by omega)
    have wq : wrap64 ((a / m : Nat) : Int) = ((a / m : Nat) : Int) := by generalize a / m = q at hd; exact w64 (by omega) (by omega)
    have e1 : Int.tdiv (a : Int) (m : Int) = ((a / m : Nat) : Int) := (Int.ofNat_tdiv a m).symm
    have e2 : Int.tmod (a : Int) (m : Int) = ((a % m : Nat) : Int) := (Int.ofNat_tmod a m).symm
    rw [impl_FactsText.l0, if_pos (by omega), if_pos (by omega), if_pos (by omega), if_neg (by omega), e1, e2, wq, i_cap, Option.bind_some]
    rw [i_ft_step names acc h.nsz (a / m) (a % m) (rd l (a : Int)) (by rw [hnl]; generalize a / m = q at hd; omega) (by rw [hnl]; generalize a % m = q at hmod; omega) (by omega) r1 r2 r3 (by omega) _ (fun acc' => impl_FactsText.l0 k names acc' l (l.length : Int) (wrap64 ((a : Int) + 1)) (m : Int) l)]
    rw [w64s a (by omega)]
    have ei : itemIJ names (a / m) (a % m) (rd l (a : Int)) = item names m l a := rfl
    rw [ei]
    cases es : item names m l a with
    | none =>
      simp only
      rw [ih (a + 1) k acc (by omega) (by omega) hacc (by omega)]
      simp only [its, es]
    | some s =>
      simp only
      rw [ih (a + 1) k (acc ++ [s]) (by omega) (by omega) ?_ (by simp; omega)]
      · simp only [its, es]; rw [List.append_assoc]; rfl
      · intro x hx
        rcases List.mem_append.1 hx with q | q
        · exact hacc x q
        · rw [List.mem_singleton.1 q]; exact (item_facts h ha es).1
/-- What is written so far, and what is put behind it. -/
def putT (out s : ByteArray) : ByteArray := if out.data.toList = [] then out ++ s else (out ++ (⟨#[44, 32]⟩ : ByteArray)) ++ s
set_option maxHeartbeats 4000000 in
theorem s_ft_step (names : List ByteArray) (hs : ∀ x ∈ names, x.size ≤ 1048576) (i j : Nat) (x : Int) (out : ByteArray) (K : Nat) (hK : 2000010 ≤ K) (hi : i ≤ names.length) (hj : j ≤ names.length) (hn : names.length ≤ 1048576) (r1 : -2000000 ≤ x) (r2 : x ≤ 2000000) (r3 : i = j → x = 0) (hout : out.size ≤ 1000000000) (A : Option ByteArray) (G : ByteArray → Option ByteArray) :
    (if x = capF (i : Int) (j : Int) then A else (if (j : Int) = 0 then (if 0 ≤ (wrap64 ((i : Int) - 1)) then (if (wrap64 ((i : Int) - 1)) < (names.length : Int) then (if (rdOf ByteArray.empty names (wrap64 ((i : Int) - 1))).size + 4 ≤ 9223372036854775807 then ((spec_l01Digits.f K x).bind fun t246 => (if (rdOf ByteArray.empty names (wrap64 ((i : Int) - 1))).size + 4 + t246.size ≤ 9223372036854775807 then (if out.toList = ([] : List UInt8) then (if out.size + (rdOf ByteArray.empty names (wrap64 ((i : Int) - 1))).size + 4 + t246.size ≤ 9223372036854775807 then (G (out ++ (((rdOf ByteArray.empty names (wrap64 ((i : Int) - 1))) ++ (⟨#[32, 60, 61, 32]⟩ : ByteArray)) ++ t246))) else (none)) else (if out.size + 2 ≤ 9223372036854775807 then (if out.size + 2 + (rdOf ByteArray.empty names (wrap64 ((i : Int) - 1))).size + 4 + t246.size ≤ 9223372036854775807 then (G ((out ++ (⟨#[44, 32]⟩ : ByteArray)) ++ (((rdOf ByteArray.empty names (wrap64 ((i : Int) - 1))) ++ (⟨#[32, 60, 61, 32]⟩ : ByteArray)) ++ t246))) else (none)) else (none))) else (none))) else (none)) else (none)) else (none)) else (if (i : Int) = 0 then (if 0 ≤ (wrap64 ((j : Int) - 1)) then (if (wrap64 ((j : Int) - 1)) < (names.length : Int) then (if (rdOf ByteArray.empty names (wrap64 ((j : Int) - 1))).size + 4 ≤ 9223372036854775807 then ((spec_l01Digits.f K (wrap64 (-x))).bind fun t248 => (if (rdOf ByteArray.empty names (wrap64 ((j : Int) - 1))).size + 4 + t248.size ≤ 9223372036854775807 then (if out.toList = ([] : List UInt8) then (if out.size + (rdOf ByteArray.empty names (wrap64 ((j : Int) - 1))).size + 4 + t248.size ≤ 9223372036854775807 then (G (out ++ (((rdOf ByteArray.empty names (wrap64 ((j : Int) - 1))) ++ (⟨#[32, 62, 61, 32]⟩ : ByteArray)) ++ t248))) else (none)) else (if out.size + 2 ≤ 9223372036854775807 then (if out.size + 2 + (rdOf ByteArray.empty names (wrap64 ((j : Int) - 1))).size + 4 + t248.size ≤ 9223372036854775807 then (G ((out ++ (⟨#[44, 32]⟩ : ByteArray)) ++ (((rdOf ByteArray.empty names (wrap64 ((j : Int) - 1))) ++ (⟨#[32, 62, 61, 32]⟩ : ByteArray)) ++ t248))) else (none)) else (none))) else (none))) else (none)) else (none)) else (none)) else (if 0 ≤ (wrap64 ((i : Int) - 1)) then (if (wrap64 ((i : Int) - 1)) < (names.length : Int) then (if (rdOf ByteArray.empty names (wrap64 ((i : Int) - 1))).size + 3 ≤ 9223372036854775807 then (if 0 ≤ (wrap64 ((j : Int) - 1)) then (if (wrap64 ((j : Int) - 1)) < (names.length : Int) then (if (rdOf ByteArray.empty names (wrap64 ((i : Int) - 1))).size + 3 + (rdOf ByteArray.empty names (wrap64 ((j : Int) - 1))).size ≤ 9223372036854775807 then (if (rdOf ByteArray.empty names (wrap64 ((i : Int) - 1))).size + 3 + (rdOf ByteArray.empty names (wrap64 ((j : Int) - 1))).size + 4 ≤ 9223372036854775807 then ((spec_l01Digits.f K x).bind fun t251 => (if (rdOf ByteArray.empty names (wrap64 ((i : Int) - 1))).size + 3 + (rdOf ByteArray.empty names (wrap64 ((j : Int) - 1))).size + 4 + t251.size ≤ 9223372036854775807 then (if out.toList = ([] : List UInt8) then (if out.size + (rdOf ByteArray.empty names (wrap64 ((i : Int) - 1))).size + 3 + (rdOf ByteArray.empty names (wrap64 ((j : Int) - 1))).size + 4 + t251.size ≤ 9223372036854775807 then (G (out ++ (((((rdOf ByteArray.empty names (wrap64 ((i : Int) - 1))) ++ (⟨#[32, 45, 32]⟩ : ByteArray)) ++ (rdOf ByteArray.empty names (wrap64 ((j : Int) - 1)))) ++ (⟨#[32, 60, 61, 32]⟩ : ByteArray)) ++ t251))) else (none)) else (if out.size + 2 ≤ 9223372036854775807 then (if out.size + 2 + (rdOf ByteArray.empty names (wrap64 ((i : Int) - 1))).size + 3 + (rdOf ByteArray.empty names (wrap64 ((j : Int) - 1))).size + 4 + t251.size ≤ 9223372036854775807 then (G ((out ++ (⟨#[44, 32]⟩ : ByteArray)) ++ (((((rdOf ByteArray.empty names (wrap64 ((i : Int) - 1))) ++ (⟨#[32, 45, 32]⟩ : ByteArray)) ++ (rdOf ByteArray.empty names (wrap64 ((j : Int) - 1)))) ++ (⟨#[32, 60, 61, 32]⟩ : ByteArray)) ++ t251))) else (none)) else (none))) else (none))) else (none)) else (none)) else (none)) else (none)) else (none)) else (none)) else (none))))) =
    match itemIJ names i j x with
    | none => A
    | some s => G (putT out s) := by
  have n1 := nmB_size names i hs
  have n2 := nmB_size names j hs
  unfold nmB at n1 n2
  have b1 := numB_size _ r1 r2
  have b2 := numB_size (-x) (by omega) (by omega)
  unfold numB' at b1 b2
  have wi : wrap64 ((i : Int) - 1) = (i : Int) - 1 := w64 (by omega) (by omega)
  have wj : wrap64 ((j : Int) - 1) = (j : Int) - 1 := w64 (by omega) (by omega)
  have wn : wrap64 (-x) = -x := w64 (by omega) (by omega)
  unfold itemIJ putT
  rw [toL]
  by_cases hc : x = capF (i : Int) (j : Int)
  · rw [if_pos hc, if_pos hc]
  · have hij : i ≠ j := fun q => hc (by rw [r3 q]; unfold capF; rw [if_pos (by omega)])
    rw [if_neg hc, if_neg hc, wi, wj, wn, digits x r1 r2 K (by omega), digits (-x) (by omega) (by omega) K (by omega)]
    by_cases hj0 : j = 0
    · rw [if_pos (show (j : Int) = 0 by omega), if_pos (by omega), if_pos (by omega), if_pos (by omega), Option.bind_some, if_pos (by omega), if_pos hj0]
      by_cases h0 : out.data.toList = []
      · rw [if_pos h0, if_pos (by omega)]; simp only [h0, if_true]; rfl
      · rw [if_neg h0, if_pos (by omega), if_pos (by omega)]; simp only [h0, if_false]; rfl
    · rw [if_neg (show ¬ (j : Int) = 0 by omega), if_neg hj0]
      by_cases hi0 : i = 0
      · rw [if_pos (show (i : Int) = 0 by omega), if_pos (by omega), if_pos (by omega), if_pos (by omega), Option.bind_some, if_pos (by omega), if_pos hi0]
        by_cases h0 : out.data.toList = []
        · rw [if_pos h0, if_pos (by omega)]; simp only [h0, if_true]; rfl
        · rw [if_neg h0, if_pos (by omega), if_pos (by omega)]; simp only [h0, if_false]; rfl
      · rw [if_neg (show ¬ (i : Int) = 0 by omega), if_neg hi0, if_pos (by omega), if_pos (by omega), if_pos (by omega), if_pos (by omega), if_pos (by omega), if_pos (by omega), if_pos (by omega), Option.bind_some, if_pos (by omega)]
        by_cases h0 : out.data.toList = []
        · rw [if_pos h0, if_pos (by omega)]; simp only [h0, if_true]; rfl
        · rw [if_neg h0, if_pos (by omega), if_pos (by omega)]; simp only [h0, if_false]; rfl
theorem put_jl (done : List ByteArray) (out s : ByteArray) (ho : out.data.toList = jl done [44, 32]) (hd : ∀ x ∈ done, x.data.toList ≠ []) : (putT out s).data.toList = jl (done ++ [s]) [44, 32] := by
  unfold putT
  by_cases h0 : done = []
  · subst h0
    rw [if_pos (by rw [ho]; rfl), app_mk', ho, List.nil_append, jl_one]; rfl
  · rw [if_neg (by rw [ho]; exact jl_ne h0 hd), app_mk', app_mk', ho, jl_snoc _ _ _ h0]
set_option maxHeartbeats 4000000 in
theorem s_ft2 {names : List ByteArray} {m : Nat} {l : List Int} (h : FT names m l) (i : Nat) (hi : i < m) : ∀ t j K (out : ByteArray) (done : List ByteArray), j + t = m → 2000010 ≤ K → out.data.toList = jl done [44, 32] → (∀ x ∈ done, x.size ≤ 3000000 ∧ x.data.toList ≠ []) → done.length ≤ i * m + j →
    ∃ out', spec_FactsText.l2 (K + t + 1) names out (i : Int) (j : Int) (m : Int) l = spec_FactsText.l1 K names out' ((i + 1 : Nat) : Int) (m : Int) l ∧ out'.data.toList = jl (done ++ its names m l (i * m + j) t) [44, 32] ∧ (∀ x ∈ done ++ its names m l (i * m + j) t, x.size ≤ 3000000 ∧ x.data.toList ≠ []) ∧ (done ++ its names m l (i * m + j) t).length ≤ i * m + m := by
  have hsq := h.sq
  have hlen := h.len
  have hm1 := h.m1
  have hm13 := h.m13
  have hnl := h.nlen
  intro t
  induction t with
  | zero =>
    intro j K out done hj hK ho hd hl
    refine ⟨out, ?_, by simpa [its] using ho, by simpa [its] using hd, by simp [its]; omega⟩
    rw [spec_FactsText.l2, if_neg (by omega), w64s i (by omega)]
  | succ t ih =>
    intro j K out done hj hK ho hd hl
    have hm : i * m ≤ 12 * m := Nat.mul_le_mul_right m (by omega)
    have hm2 : (i + 1) * m ≤ m * m := Nat.mul_le_mul_right m (by omega)
    rw [Nat.add_mul, Nat.one_mul] at hm2
    have ha : i * m + j < m * m := by omega
    have hdl : done.length ≤ 169 := by omega
    have hal : i * m + j < l.length := by omega
    have hjm : j < m := by omega
    have hin : i ≤ names.length := by omega
    have hjn : j ≤ names.length := by omega
    have hnn : names.length ≤ 1048576 := by omega
    have e1 : wrap64 ((wrap64 ((i : Int) * (m : Int))) + (j : Int)) = ((i * m + j : Nat) : Int) := by
      rw [show ((i : Int) * (m : Int)) = ((i * m : Nat) : Int) by simp, w64 (n := ((i * m : Nat) : Int)) (by omega) (by omega), w64 (by omega) (by omega)]; simp
    have ed : (i * m + j) / m = i := at_div hjm
    have em : (i * m + j) % m = j := at_mod hjm
    obtain ⟨r1, r2, r3⟩ := h.rng ha
    rw [ed, em] at r3
    have ei : itemIJ names i j (rd l ((i * m + j : Nat) : Int)) = item names m l (i * m + j) := by unfold item; rw [ed, em]
    have hif : ∀ s, item names m l (i * m + j) = some s → s.size ≤ 3000000 ∧ s.data.toList ≠ [] := fun s es => item_facts h ha es
    have hout : out.size ≤ 1000000000 := by
      have hj := jl_le2 done (fun x hx => (hd x hx).1) hdl
      have e := sizeL out
      rw [ho] at e
      omega
    clear hm hm2 hsq ed em ha
    rw [show K + (t + 1) + 1 = (K + t + 1) + 1 from rfl, spec_FactsText.l2, if_pos (show (j : Int) < (m : Int) by omega), e1, if_pos (Int.natCast_nonneg _), if_pos (Int.ofNat_lt.2 hal), s_cap, Option.bind_some]
    rw [s_ft_step names h.nsz i j (rd l ((i * m + j : Nat) : Int)) out (K + t + 1) (by clear e1; omega) hin hjn hnn r1 r2 r3 hout _ (fun o => spec_FactsText.l2 (K + t + 1) names o (i : Int) (wrap64 ((j : Int) + 1)) (m : Int) l)]
    rw [w64s j (by clear e1; omega)]
    clear e1
    rw [ei]
    cases es : item names m l (i * m + j) with
    | none =>
      simp only
      obtain ⟨o, o1, o2, o3, o4⟩ := ih (j + 1) K out done (by omega) hK ho hd (by omega)
      refine ⟨o, o1, ?_⟩
      simp only [its, es]
      exact ⟨o2, o3, o4⟩
    | some s =>
      simp only
      have hs := hif s es
      obtain ⟨o, o1, o2, o3, o4⟩ := ih (j + 1) K (putT out s) (done ++ [s]) (by omega) hK (put_jl done out s ho (fun x hx => (hd x hx).2)) (by
        intro x hx
        rcases List.mem_append.1 hx with q | q
        · exact hd x q
        · rw [List.mem_singleton.1 q]; exact hs) (by simp; omega)
      refine ⟨o, o1, ?_⟩
      simp only [its, es]
      rw [List.append_assoc] at o2 o3 o4
      exact ⟨o2, o3, o4⟩
theorem s_ft1 {names : List ByteArray} {m : Nat} {l : List Int} (h : FT names m l) : ∀ r i K (out : ByteArray) (done : List ByteArray), i + r = m → 2000010 ≤ K → out.data.toList = jl done [44, 32] → (∀ x ∈ done, x.size ≤ 3000000 ∧ x.data.toList ≠ []) → done.length ≤ i * m →
    ∃ o, spec_FactsText.l1 (K + r * (m + 2) + 1) names out (i : Int) (m : Int) l = some o ∧ o.data.toList = (finT (done ++ its names m l (i * m) (r * m))).data.toList := by
  intro r
  induction r with
  | zero =>
    intro i K out done hi hK ho hd hl
    rw [Nat.zero_mul, Nat.zero_mul, spec_FactsText.l1, if_neg (by omega), toL]
    simp only [its, List.append_nil]
    unfold finT
    by_cases h0 : done = []
    · rw [if_pos (by rw [ho, h0]; rfl), if_pos h0]; exact ⟨_, rfl, rfl⟩
    · rw [if_neg (by rw [ho]; exact jl_ne h0 (fun x hx => (hd x hx).2)), if_neg h0]; exact ⟨_, rfl, by rw [ho]⟩
  | succ r ih =>
    intro i K out done hi hK ho hd hl
    rw [spec_FactsText.l1, if_pos (by omega), show K + (r + 1) * (m + 2) = (K + r * (m + 2) + 1) + m + 1 by rw [Nat.add_mul]; omega]
    have hKr : K ≤ K + r * (m + 2) + 1 := by omega
    obtain ⟨o, o1, o2, o3, o4⟩ := s_ft2 h i (by omega) m 0 (K + r * (m + 2) + 1) out done (by omega) (by omega) ho hd (by omega)
    rw [show ((0 : Nat) : Int) = 0 from rfl] at o1
    rw [o1]
    obtain ⟨q, q1, q2⟩ := ih (i + 1) K o _ (by omega) hK o2 o3 (by rw [Nat.add_mul, Nat.one_mul]; exact o4)
    refine ⟨q, q1, ?_⟩
    rw [q2, List.append_assoc, Nat.add_zero, Nat.add_mul i 1 m, Nat.one_mul, ← its_add, Nat.add_mul r 1 m, Nat.one_mul, Nat.add_comm (r * m) m]
def ftext (n : Int) (l : List Int) (names : List ByteArray) : List UInt8 :=
  if n = 0 ∧ l.length = 0 then [110, 111, 110, 101]
  else if factsOk n l = true ∧ (names.length : Int) = n - 1 ∧ labels names = true then (finT (its names n.toNat l 0 (n.toNat * n.toNat))).data.toList
  else []
theorem ft_of {names : List ByteArray} {n : Int} {l : List Int} (hok : factsOk n l = true) (hn : (names.length : Int) = n - 1) (hs : ∀ x ∈ names, x.size ≤ 1048576) : FT names n.toNat l ∧ n = (n.toNat : Int) := by
  unfold factsOk btwB at hok
  simp only [Bool.and_eq_true, decide_eq_true_eq, beq_iff_eq] at hok
  obtain ⟨⟨⟨h1, h2⟩, h3⟩, h4⟩ := hok
  obtain ⟨m, rfl⟩ : ∃ m : Nat, n = (m : Int) := ⟨n.toNat, by omega⟩
  rw [Int.toNat_natCast] at h4 ⊢
  have hl : l.length = m * m := by
    have : ((m : Int) * (m : Int)) = ((m * m : Nat) : Int) := by simp
    rw [this] at h3; omega
  refine ⟨⟨by omega, by omega, hl, by omega, hs, fun a ha => ?_⟩, rfl⟩
  rw [hl] at h4
  exact allP_at h4 (Nat.zero_le a) (by omega)
theorem s_lab_loop (names : List ByteArray) (hn : names.length ≤ 1048576) (hs : ∀ x ∈ names, x.size ≤ 1048576) (n : Int) (l : List Int) : ∀ (t : List ByteArray) (i K : Nat), names.drop i = t → 1100000 ≤ K →
    spec_FactsText.l0 (K + t.length + 1) names (i : Int) n l = if (t.all fun x => labL x.data.toList) = true then spec_FactsText.l1 K names ⟨#[]⟩ 0 n l else some ⟨#[]⟩ := by
  intro t
  induction t with
  | nil =>
    intro i K hd hk
    have := drop_nil hd
    rw [List.length_nil, Nat.add_zero, spec_FactsText.l0, if_neg (by omega)]; rfl
  | cons x t ih =>
    intro i K hd hk
    obtain ⟨h1, h2, h3⟩ := drop_cons hd
    have hx := hs x (List.mem_of_getElem? h2)
    rw [List.length_cons, show K + (t.length + 1) + 1 = (K + t.length + 1) + 1 by omega, spec_FactsText.l0, if_pos (by omega), if_pos (by omega), rdOf_at h2, s_label x hx _ (by omega), Option.bind_some, w64s i (by omega), ih (i + 1) K h3 hk, List.all_cons]
    cases labL x.data.toList <;> simp
theorem s_ftext (n : Int) (l : List Int) (names : List ByteArray) (hw : (Lit.int .i64 n).wf = true) (hn : names.length ≤ 1048576) (hs : ∀ x ∈ names, x.size ≤ 1048576) (k : Nat) (hk : 4000000 ≤ k) : ∃ r, spec_FactsText.f k n l names = some r ∧ r.data.toList = ftext n l names := by
  obtain ⟨k, rfl⟩ : ∃ m, k = m + 1 := ⟨k - 1, by omega⟩
  have stop : spec_FactsText.j0 (k + 1) names true n l = some ⟨#[]⟩ := by rw [spec_FactsText.j0, if_pos rfl]
  unfold spec_FactsText.f spec_l07None.f ftext
  have nn : (if n = 0 then some ((l.length : Int) == 0) else some false) = some (decide (n = 0 ∧ l.length = 0)) := by
    by_cases h : n = 0
    · rw [if_pos h]
      by_cases h2 : l.length = 0
      · rw [decide_eq_true ⟨h, h2⟩, h2]; rfl
      · have : ((l.length : Int) == 0) = false := by rw [beq_eq_false_iff_ne]; omega
        rw [decide_eq_false (fun q => h2 q.2), this]
    · rw [if_neg h, decide_eq_false (fun q => h q.1)]
  rw [nn, Option.bind_some]
  by_cases h0 : n = 0 ∧ l.length = 0
  · rw [if_pos (decide_eq_true h0), if_pos h0]; exact ⟨_, rfl, rfl⟩
  · rw [if_neg (by simpa using h0), if_neg h0, s_facts (k + 1) n l (by omega) hw, Option.bind_some]
    by_cases hok : factsOk n l = true
    · have hok' := hok
      unfold factsOk btwB at hok'
      simp only [Bool.and_eq_true, decide_eq_true_eq] at hok'
      have hn1 := hok'.1.1.1
      have hn2 := hok'.1.1.2
      rw [if_pos hok, w64 (by omega) (by omega)]
      by_cases hlen : (names.length : Int) = n - 1
      · obtain ⟨hf, hnn⟩ := ft_of hok hlen hs
        have hbne : ((names.length : Int) != n - 1) = false := by rw [bne_eq_false_iff_eq]; exact hlen
        rw [hbne, spec_FactsText.j0, if_neg (by simp)]
        have hlab := s_lab_loop names hn hs n l names 0 (k - names.length - 1) rfl (by omega)
        rw [show k - names.length - 1 + names.length + 1 = k by omega] at hlab
        have hlab2 : spec_FactsText.l0 k names ((0 : Nat) : Int) n l = if labels names = true then spec_FactsText.l1 (k - names.length - 1) names ⟨#[]⟩ 0 n l else some ⟨#[]⟩ := hlab
        rw [show (0 : Int) = ((0 : Nat) : Int) from rfl, hlab2]
        by_cases hl : labels names = true
        · rw [if_pos hl, if_pos ⟨hok, hlen, hl⟩]
          have hmm : n.toNat * (n.toNat + 2) ≤ 13 * 15 := Nat.mul_le_mul hf.m13 (by have := hf.m13; omega)
          obtain ⟨o, o1, o2⟩ := s_ft1 hf n.toNat 0 (k - names.length - 1 - n.toNat * (n.toNat + 2) - 1) ⟨#[]⟩ [] (by omega) (by omega) rfl (by simp) (by simp)
          rw [show k - names.length - 1 - n.toNat * (n.toNat + 2) - 1 + n.toNat * (n.toNat + 2) + 1 = k - names.length - 1 by omega, ← hnn] at o1
          refine ⟨o, o1, ?_⟩
          rw [o2, Nat.zero_mul, List.nil_append]
        · rw [if_neg hl, if_neg (fun q => hl q.2.2)]; exact ⟨_, rfl, rfl⟩
      · have hbne : ((names.length : Int) != n - 1) = true := by rw [bne_iff_ne]; exact hlen
        rw [hbne, stop, if_neg (fun q => hlen q.2.1)]; exact ⟨_, rfl, rfl⟩
    · rw [if_neg hok, stop, if_neg (fun q => hok q.1)]; exact ⟨_, rfl, rfl⟩
theorem i_ftext (n : Int) (l : List Int) (names : List ByteArray) (hl : l.length ≤ 1048576) (hn : names.length ≤ 1048576) (hs : ∀ x ∈ names, x.size ≤ 1048576) (k : Nat) (hk : 4000000 ≤ k) : ∃ r, impl_FactsText.f k n l names = some r ∧ r.data.toList = ftext n l names := by
  unfold impl_FactsText.f impl_Facts_isNone.f ftext
  have nn : (if n = 0 then some ((l.length : Int) == 0) else some false) = some (decide (n = 0 ∧ l.length = 0)) := by
    by_cases h : n = 0
    · rw [if_pos h]
      by_cases h2 : l.length = 0
      · rw [decide_eq_true ⟨h, h2⟩, h2]; rfl
      · have : ((l.length : Int) == 0) = false := by rw [beq_eq_false_iff_ne]; omega
        rw [decide_eq_false (fun q => h2 q.2), this]
    · rw [if_neg h, decide_eq_false (fun q => h q.1)]
  rw [nn, Option.bind_some]
  by_cases h0 : n = 0 ∧ l.length = 0
  · rw [if_pos (decide_eq_true h0), if_pos h0]; exact ⟨_, rfl, rfl⟩
  · rw [if_neg (by simpa using h0), if_neg h0, i_facts k n l hl (by omega), Option.bind_some]
    by_cases hok : factsOk n l = true
    · have hok' := hok
      unfold factsOk btwB at hok'
      simp only [Bool.and_eq_true, decide_eq_true_eq] at hok'
      have hn1 := hok'.1.1.1
      have hn2 := hok'.1.1.2
      rw [if_pos hok, w64 (by omega) (by omega), i_labels names hn hs _ k (by omega), Option.bind_some]
      by_cases hlen : (names.length : Int) = n - 1
      · obtain ⟨hf, hnn⟩ := ft_of hok hlen hs
        rw [decide_eq_true hlen, Bool.true_and]
        by_cases hlb : labels names = true
        · rw [if_pos hlb, if_pos ⟨hok, hlen, hlb⟩]
          have hsq := hf.sq
          have h1 := i_ft hf (n.toNat * n.toNat) 0 k [] (by omega) (by omega) (by simp) (by simp)
          rw [← hnn, List.nil_append] at h1
          exact ⟨_, h1, rfl⟩
        · rw [if_neg hlb, if_neg (fun q => hlb q.2.2)]; exact ⟨_, rfl, rfl⟩
      · rw [decide_eq_false hlen, Bool.false_and, if_neg (by simp), if_neg (fun q => hlen q.2.1)]; exact ⟨_, rfl, rfl⟩
    · rw [if_neg hok, if_neg (fun q => hok q.1)]; exact ⟨_, rfl, rfl⟩
end Go.Proofs.YtlkcbfonjcflgaaDoor.Q
namespace Go.Proofs.YtlkcbfonjcflgaaDoor.Q
open Go.RowKit Go.Proofs.YtlkcbfonjcflgaaDoorW.PrintWords Go.Proofs.YtlkcbfonjcflgaaDoorW.PrintLast Go.Proofs.YtlkcbfonjcflgaaDoorW.PrintMore
open Go.Proofs.YtlkcbfonjcflgaaDoor.Open
set_option linter.unusedSimpArgs false
set_option linter.unusedVariables false
def weightS : List ByteArray → Nat
  | [] => 0
  | x :: t => x.size + weightS t
theorem rdS_at {l : List ByteArray} {i : Nat} {x : ByteArray} (h : l[i]? = some x) : rdOf ByteArray.empty l (i : Int) = x := by
  unfold rdOf; simp [List.getD, h]
theorem szS_loop (l : List ByteArray) (hl : l.length ≤ 1048576) : ∀ (t : List ByteArray) (i k : Nat) (left : Int), l.drop i = t → (∀ x ∈ t, x.size ≤ 9223372036854775807) → 0 ≤ left → left ≤ 1048576 → t.length < k →
    ∃ r, laws_szStringS.l0 k l left (i : Int) = some r ∧ r ≤ left ∧ (0 ≤ r → r = left - (weightS t : Int)) := by
  intro t
  induction t with
  | nil =>
    intro i k left hd _ h0 h1 hk
    obtain ⟨k, rfl⟩ : ∃ m, k = m + 1 := ⟨k - 1, by omega⟩
    have := drop_nil hd
    rw [laws_szStringS.l0, if_neg (by omega)]
    exact ⟨_, rfl, by omega, fun _ => by simp [weightS]⟩
  | cons x t ih =>
    intro i k left hd hx h0 h1 hk
    obtain ⟨k, rfl⟩ : ∃ m, k = m + 1 := ⟨k - 1, by omega⟩
    obtain ⟨g1, g2, g3⟩ := drop_cons hd
    have hxs := hx x (by simp)
    rw [laws_szStringS.l0, if_pos (by omega), if_pos (by omega), rdS_at g2, w64 (n := left - (x.size : Int)) (by omega) (by omega)]
    by_cases hn : left - (x.size : Int) < 0
    · rw [if_pos hn]
      exact ⟨_, rfl, by omega, fun h => by omega⟩
    · rw [if_neg hn, w64s i (by omega)]
      obtain ⟨r, e1, e3, e2⟩ := ih (i + 1) k (left - (x.size : Int)) g3 (fun y hy => hx y (by simp [hy])) (by omega) (by omega) (by simp at hk; omega)
      refine ⟨r, e1, by omega, fun h => ?_⟩
      have := e2 h
      simp only [weightS]
      omega
theorem sz_strs (l : List ByteArray) (left : Int) (h0 : 0 ≤ left) (h1 : left ≤ 1048576) (hl : l.length ≤ 9223372036854775807) (hs : ∀ x ∈ l, x.size ≤ 9223372036854775807) (k : Nat) (hk : l.length < k) :
    ∃ r, laws_szStringS.f k l left = some r ∧ r ≤ left ∧ (0 ≤ r → (l.length : Int) + weightS l ≤ left) := by
  unfold laws_szStringS.f
  rw [w64 (by omega) (by omega)]
  by_cases h : left - (l.length : Int) < 0
  · rw [if_pos h]; exact ⟨_, rfl, by omega, fun h => by omega⟩
  · rw [if_neg h]
    obtain ⟨r, e1, e3, e2⟩ := szS_loop l (by omega) l 0 k (left - (l.length : Int)) rfl hs (by omega) (by omega) hk
    exact ⟨r, e1, by omega, fun h => by have := e2 h; omega⟩
theorem toS_loop (l : List ByteArray) (hl : l.length ≤ 1048576) : ∀ (t pre : List ByteArray) (k : Nat) (rest : List ByteArray), l = pre ++ t → rest.length = t.length → t.length < k →
    laws_toStringS.l0 k l (pre ++ rest) (pre.length : Int) = some l := by
  intro t
  induction t with
  | nil =>
    intro pre k rest hd hr hk
    obtain ⟨k, rfl⟩ : ∃ m, k = m + 1 := ⟨k - 1, by omega⟩
    obtain rfl := List.eq_nil_of_length_eq_zero (hr.trans rfl)
    rw [List.append_nil] at hd
    rw [laws_toStringS.l0, if_neg (by rw [hd]; omega), List.append_nil, hd]
  | cons x t ih =>
    intro pre k rest hd hr hk
    obtain ⟨k, rfl⟩ : ∃ m, k = m + 1 := ⟨k - 1, by omega⟩
    have hlen : l.length = pre.length + (t.length + 1) := by rw [hd, List.length_append, List.length_cons]
    match rest, hr with
    | y :: rest, hr =>
      have at_ : l[pre.length]? = some x := by rw [hd, List.getElem?_append_right (Nat.le_refl _)]; simp
      rw [laws_toStringS.l0, if_pos (by omega), if_pos (by omega), rdS_at at_, if_pos (by simp; omega), w64s pre.length (by omega), Int.toNat_natCast]
      have st : (pre ++ y :: rest).set pre.length x = (pre ++ [x]) ++ rest := by
        rw [List.set_append_right _ _ (Nat.le_refl _)]
        simp
      have := ih (pre ++ [x]) k rest (by rw [hd]; simp) (by simpa using hr) (by simp at hk; omega)
      rw [List.length_append, List.length_cons, List.length_nil] at this
      rw [st, this]
theorem to_strs (l : List ByteArray) (hl : l.length ≤ 1048576) (k : Nat) (hk : l.length < k) : laws_toStringS.f k l = some l := by
  unfold laws_toStringS.f
  rw [if_pos (by omega), if_pos (by omega)]
  have := toS_loop l hl l [] k (List.replicate ((l.length : Int)).toNat (⟨#[]⟩ : ByteArray)) rfl (by simp) hk
  simpa using this
theorem weightS_mem : ∀ {l : List ByteArray} {x : ByteArray}, x ∈ l → x.size ≤ weightS l
  | y :: t, x, h => by
    simp only [weightS]
    rcases List.mem_cons.1 h with rfl | h
    · omega
    · have := weightS_mem h; omega
theorem eqSs_loop (l : List ByteArray) (hl : l.length ≤ 9000000) : ∀ (t : List ByteArray) (i k : Nat), l.drop i = t → t.length < k → laws_eqStringS.l0 k l l (i : Int) = some true := by
  intro t
  induction t with
  | nil =>
    intro i k hd hk
    obtain ⟨k, rfl⟩ : ∃ m, k = m + 1 := ⟨k - 1, by omega⟩
    have := drop_nil hd
    rw [laws_eqStringS.l0, if_neg (by omega)]
  | cons x t ih =>
    intro i k hd hk
    obtain ⟨k, rfl⟩ : ∃ m, k = m + 1 := ⟨k - 1, by omega⟩
    obtain ⟨h1, h2, h3⟩ := drop_cons hd
    rw [laws_eqStringS.l0, if_pos (by omega), if_pos (by omega), if_pos (by omega), if_pos rfl, w64s i (by omega)]
    exact ih (i + 1) k h3 (by simp at hk; omega)
theorem eqSs_self (l : List ByteArray) (hl : l.length ≤ 9000000) (k : Nat) (hk : l.length < k) : laws_eqStringS.f k l l = some true := by
  unfold laws_eqStringS.f
  rw [if_pos rfl]
  exact eqSs_loop l hl l 0 k rfl hk
end Go.Proofs.YtlkcbfonjcflgaaDoor.Q
