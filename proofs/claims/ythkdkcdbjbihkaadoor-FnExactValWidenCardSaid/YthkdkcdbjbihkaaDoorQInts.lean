/- The law's copies of rows of whole numbers, and its comparing of two rows. -/
import Derived.Test.YthkdkcdbjbihkaaDoorQLists
import Derived.Test.YthkdkcdbjbihkaaDoorQOpen
import Derived.Test.YthkdkcdbjbihkaaDoorQx5
import Derived.Test.YthkdkcdbjbihkaaDoorQx8
namespace Go.Proofs.YthkdkcdbjbihkaaDoor.Q
open Go.RowKit Go.Proofs.YthkdkcdbjbihkaaDoorW.PrintWords Go.Proofs.YthkdkcdbjbihkaaDoorW.PrintLast Go.Proofs.YthkdkcdbjbihkaaDoorW.PrintMore
open Go.Proofs.YthkdkcdbjbihkaaDoor.Open
set_option linter.unusedSimpArgs false
set_option linter.unusedVariables false
theorem toInts_l (x0 : List Int) (hn : x0.length < 9223372036854775807) : ∀ n k i (x3 : List Int), x0.length - i = n → n < k → i ≤ x0.length → x3.length = x0.length → x3.take i = x0.take i →
    laws_toIntS.l0 k x0 x3 (i : Int) = some x0
  | 0, k + 1, i, x3, h1, h2, h3, h4, h5 => by
    unfold laws_toIntS.l0
    rw [if_neg (by omega)]
    rw [show i = x0.length by omega] at h5
    rw [List.take_length, ← h4, List.take_length] at h5
    rw [h5]
  | n + 1, k + 1, i, x3, h1, h2, h3, h4, h5 => by
    unfold laws_toIntS.l0
    rw [if_pos (by omega), if_pos (by omega), if_pos (by omega), w64s i (by omega), Int.toNat_natCast]
    refine toInts_l x0 hn n k (i + 1) _ (by omega) (by omega) (by omega) (by simpa using h4) ?_
    have e : x0[i]? = some (rd x0 i) := by unfold rd; simp [show i < x0.length by omega]
    rw [List.take_add_one, List.take_add_one, e, List.take_set_of_le (Nat.le_refl i), h5, List.getElem?_set_self (by omega)]
theorem toInts (k : Nat) (l : List Int) (h : l.length < k) (hn : l.length ≤ 1048576) : laws_toIntS.f k l = some l := by
  unfold laws_toIntS.f
  rw [if_pos (by omega), if_pos (by omega)]
  exact toInts_l l (by omega) l.length k 0 _ (by omega) h (by omega) (by simp) (by simp)
theorem eqInts_l (x : List Int) (hn : x.length < 9223372036854775807) : ∀ n k i, x.length - i = n → n < k → i ≤ x.length → laws_eqIntS.l0 k x x (i : Int) = some true
  | 0, k + 1, i, h1, h2, h3 => by
    unfold laws_eqIntS.l0
    rw [if_neg (by omega)]
  | n + 1, k + 1, i, h1, h2, h3 => by
    unfold laws_eqIntS.l0
    rw [if_pos (by omega), if_pos (by omega), if_pos (by omega), if_pos rfl, w64s i (by omega)]
    exact eqInts_l x hn n k (i + 1) (by omega) (by omega) (by omega)
theorem eqInts (k : Nat) (l : List Int) (h : l.length < k) (hn : l.length ≤ 1048576) : laws_eqIntS.f k l l = some true := by
  unfold laws_eqIntS.f
  rw [if_pos rfl]
  exact eqInts_l l (by omega) l.length k 0 (by omega) h (by omega)
end Go.Proofs.YthkdkcdbjbihkaaDoor.Q
