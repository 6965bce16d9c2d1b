/- Decimal numerals: the reference's digits are what the library's Itoa gives. -/
import Derived.Test.YtbfbncpbbnpdgaaDoorQLists
import Derived.Test.YtbfbncpbbnpdgaaDoorQOpen
import Derived.Test.YtbfbncpbbnpdgaaDoorQx10
import Derived.Test.YtbfbncpbbnpdgaaDoorQx5
namespace Go.Proofs.YtbfbncpbbnpdgaaDoor.Q
open Go.RowKit Go.Proofs.YtbfbncpbbnpdgaaDoorW.PrintWords Go.Proofs.YtbfbncpbbnpdgaaDoorW.PrintLast Go.Proofs.YtbfbncpbbnpdgaaDoorW.PrintMore
open Go.Proofs.YtbfbncpbbnpdgaaDoor.Open
set_option linter.unusedSimpArgs false
set_option linter.unusedVariables false
theorem app_mk (a b : List UInt8) : ((⟨a.toArray⟩ : ByteArray) ++ (⟨b.toArray⟩ : ByteArray)) = ⟨(a ++ b).toArray⟩ := by
  apply ByteArray.ext
  simp [ByteArray.data_append]
theorem size_mk (a : List UInt8) : (⟨a.toArray⟩ : ByteArray).size = a.length := by simp [ByteArray.size]
theorem dec_len (u : Nat) : (Lib.decDigits u).length ≤ u + 1 := by
  induction u using Nat.strongRecOn with
  | _ u ih =>
    rw [Lib.decDigits]
    split
    · simp
    · have := ih (u / 10) (by omega)
      simp; omega
theorem dig1 (u : Nat) (h : u < 10) : strOfNums [(wrap64 (48 + (u : Int))) % 256] = ⟨([UInt8.ofNat (48 + u)] : List UInt8).toArray⟩ := by
  unfold strOfNums
  rw [w64 (by omega) (by omega)]
  simp only [List.map_cons, List.map_nil]
  rw [show ((48 + (u : Int)) % 256).toNat = 48 + u by omega]
theorem dig_pos (u : Nat) (hu : u ≤ 1000000000) : ∀ k, u < k → spec_l01Digits.f k (u : Int) = some ⟨(Lib.decDigits u).toArray⟩ := by
  induction u using Nat.strongRecOn with
  | _ u ih =>
    intro k hk
    obtain ⟨k, rfl⟩ : ∃ m, k = m + 1 := ⟨k - 1, by omega⟩
    rw [spec_l01Digits.f, if_neg (by omega), if_neg (by omega), Lib.decDigits]
    by_cases h : u < 10
    · rw [if_pos (by omega), dif_pos h, dig1 u h]
    · have e1 : Int.tdiv (u : Int) 10 = ((u / 10 : Nat) : Int) := by rw [show (10 : Int) = ((10 : Nat) : Int) from rfl, ← Int.ofNat_tdiv]
      have e2 : Int.tmod (u : Int) 10 = ((u % 10 : Nat) : Int) := by rw [show (10 : Int) = ((10 : Nat) : Int) from rfl, ← Int.ofNat_tmod]
      rw [if_neg (by omega), dif_neg h, e1, e2, w64 (by omega) (by omega), ih (u / 10) (by omega) (by omega) k (by omega)]
      simp only [Option.bind_some]
      rw [dig1 (u % 10) (by omega), size_mk, size_mk, if_pos (by have := dec_len (u / 10); simp; omega), app_mk]
theorem digits (n : Int) (h1 : -2000000 ≤ n) (h2 : n ≤ 2000000) (k : Nat) (hk : n.natAbs + 3 < k) : spec_l01Digits.f k n = some ⟨(Lib.itoa n).toArray⟩ := by
  unfold Lib.itoa
  by_cases hn : n < 0
  · rw [if_pos hn]
    obtain ⟨u, hu⟩ : ∃ u : Nat, n = -(u : Int) := ⟨n.natAbs, by omega⟩
    subst hu
    rw [show (-(u : Int)).natAbs = u by omega]
    obtain ⟨k, rfl⟩ : ∃ m, k = m + 1 := ⟨k - 1, by omega⟩
    have one : (⟨#[45]⟩ : ByteArray) = ⟨([45] : List UInt8).toArray⟩ := rfl
    rw [spec_l01Digits.f, one]
    by_cases h10 : -(u : Int) < -9
    · have e1 : Int.tdiv (-(u : Int)) 10 = -((u / 10 : Nat) : Int) := by rw [Int.neg_tdiv, show (10 : Int) = ((10 : Nat) : Int) from rfl, ← Int.ofNat_tdiv]
      have e2 : Int.tmod (-(u : Int)) 10 = -((u % 10 : Nat) : Int) := by rw [Int.neg_tmod, show (10 : Int) = ((10 : Nat) : Int) from rfl, ← Int.ofNat_tmod]
      rw [if_pos h10, e1, e2, w64 (n := -((u / 10 : Nat) : Int)) (by omega) (by omega), Int.neg_neg, Int.neg_neg, w64 (n := ((u / 10 : Nat) : Int)) (by omega) (by omega), w64 (n := ((u % 10 : Nat) : Int)) (by omega) (by omega), dig_pos (u / 10) (by omega) k (by omega), dig_pos (u % 10) (by omega) k (by omega)]
      simp only [Option.bind_some]
      have l1 := dec_len (u / 10)
      have l2 := dec_len (u % 10)
      rw [if_pos (by rw [size_mk]; first | omega | (simp; omega)), app_mk, size_mk, size_mk, if_pos (by first | omega | (simp; omega)), app_mk]
      have e3 : Lib.decDigits u = Lib.decDigits (u / 10) ++ [UInt8.ofNat (48 + u % 10)] := by rw [Lib.decDigits, dif_neg (by omega)]
      have e4 : Lib.decDigits (u % 10) = [UInt8.ofNat (48 + u % 10)] := by rw [Lib.decDigits, dif_pos (by omega)]
      rw [e3, e4]; rfl
    · rw [if_neg h10, if_pos hn, Int.neg_neg, w64 (by omega) (by omega), dig_pos u (by omega) k (by omega)]
      simp only [Option.bind_some]
      have l1 := dec_len u
      rw [if_pos (by rw [size_mk]; first | omega | (simp; omega)), app_mk]; rfl
  · rw [if_neg hn]
    obtain ⟨u, rfl⟩ : ∃ u : Nat, n = (u : Int) := ⟨n.toNat, by omega⟩
    rw [Int.toNat_natCast]
    exact dig_pos u (by omega) k (by omega)
theorem itoa_i (n : Int) (h1 : -2000000 ≤ n) (h2 : n ≤ 2000000) : strconv_Itoa.f n = some ⟨(Lib.itoa n).toArray⟩ := by
  unfold strconv_Itoa.f; rw [if_pos ⟨by omega, by omega⟩]
theorem itoa_len (n : Int) (h1 : -1000000 ≤ n) (h2 : n ≤ 1000000) : (Lib.itoa n).length ≤ 1000003 := by
  unfold Lib.itoa
  split
  · have := dec_len n.natAbs; simp; omega
  · have := dec_len n.toNat; omega
end Go.Proofs.YtbfbncpbbnpdgaaDoor.Q
