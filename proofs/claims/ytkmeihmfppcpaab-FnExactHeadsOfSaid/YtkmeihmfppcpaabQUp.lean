/- The marks of a row of whole numbers: they are told, and held. -/
import Derived.Test.YtkmeihmfppcpaabQLists
import Derived.Test.YtkmeihmfppcpaabQOpen
import Derived.Test.YtkmeihmfppcpaabQx16
namespace Go.Proofs.Ytkmeihmfppcpaab.Q
open Go.RowKit Go.Proofs.YtkmeihmfppcpaabW.PrintWords Go.Proofs.YtkmeihmfppcpaabW.PrintLast Go.Proofs.YtkmeihmfppcpaabW.PrintMore
open Go.Proofs.Ytkmeihmfppcpaab.Open
set_option linter.unusedSimpArgs false
set_option linter.unusedVariables false
def up (a : Int) : Nat → List Int
  | 0 => []
  | m + 1 => a :: up (a + 1) m
theorem up_len : ∀ m a, (up a m).length = m
  | 0, _ => rfl
  | m + 1, a => by simp [up, up_len m]
theorem up_at : ∀ m (a : Int) i, i < m → (up a m)[i]? = some (a + (i : Int))
  | m + 1, a, 0, _ => by simp [up]
  | m + 1, a, i + 1, h => by
    simp only [up, List.getElem?_cons_succ]
    rw [up_at m (a + 1) i (by omega)]; congr 1; omega
theorem up_snoc : ∀ m (a : Int), up a (m + 1) = up a m ++ [a + (m : Int)]
  | 0, a => by simp [up]
  | m + 1, a => by
    rw [up, up_snoc m (a + 1), up, List.cons_append]
    rw [show a + 1 + (m : Int) = a + ((m + 1 : Nat) : Int) by omega]
theorem marks_l (n : Nat) (hn : n ≤ 1048576) (a : Int) (ha : 0 ≤ a) (hb : a ≤ 1048576) : ∀ t i k (x : List Int), i + t = n → t < k → x.length = n → x.take i = up a i → laws_markIntS.l0 k x (a + (i : Int)) (i : Int) = some (a + (n : Int), up a n)
  | 0, i, k + 1, x, h, hk, hx, hp => by
    unfold laws_markIntS.l0
    obtain rfl : i = n := by omega
    rw [if_neg (by omega)]
    rw [← hx, List.take_length] at hp
    rw [hp, hx]
  | t + 1, i, k + 1, x, h, hk, hx, hp => by
    unfold laws_markIntS.l0
    rw [if_pos (by omega), if_pos (by omega), Int.toNat_natCast, w64s i (by omega), w64 (by omega) (by omega)]
    have := marks_l n hn a ha hb t (i + 1) k (x.set i (a + (i : Int))) (by omega) (by omega) (by simpa using hx) (by
      rw [List.take_add_one, List.take_set_of_le (Nat.le_refl i), hp, List.getElem?_set_self (by omega), up_snoc]; rfl)
    rw [show a + (i : Int) + 1 = a + ((i + 1 : Nat) : Int) by omega]
    exact this
theorem marks (k : Nat) (x : List Int) (hk : x.length < k) (hn : x.length ≤ 1048576) : laws_markIntS.f k x 1 = some (1 + (x.length : Int), up 1 x.length) := by
  unfold laws_markIntS.f
  have := marks_l x.length hn 1 (by omega) (by omega) x.length 0 k x (by omega) hk rfl rfl
  exact this
theorem helds_l (n : Nat) (hn : n ≤ 1048576) (a : Int) (ha : 0 ≤ a) (hb : a ≤ 1048576) : ∀ t i k, i + t = n → t < k → laws_heldIntS.l0 k (up a n) (a + (i : Int)) (i : Int) = some (a + (n : Int))
  | 0, i, k + 1, h, hk => by
    unfold laws_heldIntS.l0
    obtain rfl : i = n := by omega
    rw [if_neg (by rw [up_len]; omega)]
  | t + 1, i, k + 1, h, hk => by
    unfold laws_heldIntS.l0
    rw [if_pos (by rw [up_len]; omega), if_pos (by omega), rd_at (up_at n a i (by omega)), if_pos rfl, w64s i (by omega), w64 (by omega) (by omega)]
    have := helds_l n hn a ha hb t (i + 1) k (by omega) (by omega)
    rw [show a + (i : Int) + 1 = a + ((i + 1 : Nat) : Int) by omega]
    exact this
theorem helds (k : Nat) (n : Nat) (hk : n < k) (hn : n ≤ 1048576) : laws_heldIntS.f k (up 1 n) 1 = some (1 + (n : Int)) := by
  unfold laws_heldIntS.f
  have := helds_l n hn 1 (by omega) (by omega) n 0 k (by omega) hk
  exact this
end Go.Proofs.Ytkmeihmfppcpaab.Q
