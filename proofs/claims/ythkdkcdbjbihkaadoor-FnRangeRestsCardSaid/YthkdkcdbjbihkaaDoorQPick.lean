/- A number that a law picks out of a row of bytes is below its bound. -/
import Derived.Test.YthkdkcdbjbihkaaDoorQDraw
import Derived.Test.YthkdkcdbjbihkaaDoorQOpen
import Derived.Test.YthkdkcdbjbihkaaDoorQx31
namespace Go.Proofs.YthkdkcdbjbihkaaDoor.Q
open Go.RowKit Go.Proofs.YthkdkcdbjbihkaaDoorW.PrintWords Go.Proofs.YthkdkcdbjbihkaaDoorW.PrintLast Go.Proofs.YthkdkcdbjbihkaaDoorW.PrintMore
open Go.Proofs.YthkdkcdbjbihkaaDoor.Open
set_option linter.unusedSimpArgs false
set_option linter.unusedVariables false
theorem lpick_ok {code : List Int} (hb : Bytes code) (hl : code.length ≤ 1048576) {at_ n : Int} (h0 : 0 ≤ at_) (h1 : at_ ≤ 1000000) (hn : 1 ≤ n) (hn2 : n ≤ 4611686018427387904) (k : Nat) (hk : 10 ≤ k) :
    ∃ v, laws_pick.f k code at_ n = some v ∧ 0 ≤ v ∧ v < n := by
  obtain ⟨k, rfl⟩ : ∃ m, k = m + 5 := ⟨k - 5, by omega⟩
  unfold laws_pick.f
  by_cases c0 : (code.length : Int) = 0
  · rw [if_pos c0]; exact ⟨0, rfl, by omega, by omega⟩
  rw [if_neg c0]
  by_cases c1 : n < 2
  · rw [decide_eq_true c1]; exact ⟨0, rfl, by omega, by omega⟩
  rw [decide_eq_false c1]
  have b0 := fun i => rd_byte hb i
  have t0 := tm (show 0 ≤ at_ by omega) (show 0 < (code.length : Int) by omega)
  have t1 := tm (show 0 ≤ at_ + 1 by omega) (show 0 < (code.length : Int) by omega)
  have t2 := tm (show 0 ≤ at_ + 2 by omega) (show 0 < (code.length : Int) by omega)
  have x0 := b0 (Int.tmod at_ (code.length : Int))
  have x1 := b0 (Int.tmod (at_ + 1) (code.length : Int))
  have x2 := b0 (Int.tmod (at_ + 2) (code.length : Int))
  rw [laws_pick.j0]
  rw [if_neg (by simp)]
  rw [laws_pick.l0]
  rw [if_pos (by omega), if_neg c0, show wrap64 (at_ + 0) = at_ by rw [w64 (by omega) (by omega)]; omega, if_pos t0.1, if_pos t0.2]
  generalize rd code (Int.tmod at_ (code.length : Int)) = y0 at x0 ⊢
  rw [show wrap64 (wrap64 (31 * 0) + wrap64 y0) = y0 by unfold wrap64; omega, show wrap64 (0 + 1) = 1 by unfold wrap64; omega]
  rw [laws_pick.l0]
  rw [if_pos (by omega), if_neg c0, show wrap64 (at_ + 1) = at_ + 1 from w64 (by omega) (by omega), if_pos t1.1, if_pos t1.2]
  generalize rd code (Int.tmod (at_ + 1) (code.length : Int)) = y1 at x1 ⊢
  rw [show wrap64 (wrap64 (31 * y0) + wrap64 y1) = 31 * y0 + y1 by unfold wrap64; omega, show wrap64 (1 + 1) = 2 by unfold wrap64; omega]
  rw [laws_pick.l0]
  rw [if_pos (by omega), if_neg c0, show wrap64 (at_ + 2) = at_ + 2 from w64 (by omega) (by omega), if_pos t2.1, if_pos t2.2]
  generalize rd code (Int.tmod (at_ + 2) (code.length : Int)) = y2 at x2 ⊢
  rw [show wrap64 (wrap64 (31 * (31 * y0 + y1)) + wrap64 y2) = 31 * (31 * y0 + y1) + y2 by unfold wrap64; omega, show wrap64 (2 + 1) = 3 by unfold wrap64; omega]
  rw [laws_pick.l0]
  rw [if_neg (by omega), if_neg (by omega), w64 (by omega) (by omega)]
  have t3 := tm (show 0 ≤ 31 * (31 * y0 + y1) + y2 + at_ by omega) (show 0 < n by omega)
  exact ⟨_, rfl, t3.1, t3.2⟩
end Go.Proofs.YthkdkcdbjbihkaaDoor.Q
