/- The product of two ranges, as a plain function. -/
import Derived.Test.YtoimomfcdhmnbaaDoorQRng3
import Derived.Test.YtoimomfcdhmnbaaDoorQOpen
import Derived.Test.YtoimomfcdhmnbaaDoorQx17
import Derived.Test.YtoimomfcdhmnbaaDoorQx18
import Derived.Test.YtoimomfcdhmnbaaDoorQx2
namespace Go.Proofs.YtoimomfcdhmnbaaDoor.Q
open Go.RowKit Go.Proofs.YtoimomfcdhmnbaaDoorW.PrintWords Go.Proofs.YtoimomfcdhmnbaaDoorW.PrintLast Go.Proofs.YtoimomfcdhmnbaaDoorW.PrintMore
open Go.Proofs.YtoimomfcdhmnbaaDoor.Open
set_option linter.unusedSimpArgs false
set_option linter.unusedVariables false
theorem mul_in {a b : Int} (h1 : -1000000 ≤ a) (h2 : a ≤ 1000000) (h3 : -1000000 ≤ b) (h4 : b ≤ 1000000) : -1000000000000 ≤ a * b ∧ a * b ≤ 1000000000000 := by
  have p1 := Int.mul_nonneg (show 0 ≤ 1000000 - a by omega) (show 0 ≤ 1000000 + b by omega)
  have p2 := Int.mul_nonneg (show 0 ≤ 1000000 + a by omega) (show 0 ≤ 1000000 - b by omega)
  have p3 := Int.mul_nonneg (show 0 ≤ 1000000 - a by omega) (show 0 ≤ 1000000 - b by omega)
  have p4 := Int.mul_nonneg (show 0 ≤ 1000000 + a by omega) (show 0 ≤ 1000000 + b by omega)
  simp only [Int.sub_mul, Int.add_mul, Int.mul_sub, Int.mul_add] at p1 p2 p3 p4
  omega
theorem w_mul {a b : Int} (h1 : -1000000 ≤ a) (h2 : a ≤ 1000000) (h3 : -1000000 ≤ b) (h4 : b ≤ 1000000) : wrap64 (a * b) = a * b := by
  obtain ⟨p, q⟩ := mul_in h1 h2 h3 h4
  exact w64 (by omega) (by omega)
theorem min4 (k : Nat) (p q r s : Int) : slices_Min_int_int.f (k + 5) [p, q, r, s] = some (mn (mn (mn p q) r) s) := by
  unfold slices_Min_int_int.f
  simp [slices_Min_int_int.l0, rd, wrap64]
theorem max4 (k : Nat) (p q r s : Int) : slices_Max_int_int.f (k + 5) [p, q, r, s] = some (mx (mx (mx p q) r) s) := by
  unfold slices_Max_int_int.f
  simp [slices_Max_int_int.l0, rd, wrap64]
def mulR (a b c d : Int) : Int × Int := iteR (smR a b && smR c d) (mn (mn (mn (a * c) (a * d)) (b * c)) (b * d)) (mx (mx (mx (a * c) (a * d)) (b * c)) (b * d))
theorem i_mul (k : Nat) (a b c d : Int) : impl_RangeMul.f (k + 8) a b c d = some (mulR a b c d) := by
  unfold impl_RangeMul.f mulR iteR impl_productEnds.f
  simp only [i_are2, Option.bind_some, i_of, min4, max4]
  by_cases h : (smR a b && smR c d) = true
  · have h' := h
    rw [Bool.and_eq_true, smR_iff, smR_iff] at h'
    rw [if_pos h, if_pos h, w_mul (a := a) (b := c) (by omega) (by omega) (by omega) (by omega), w_mul (a := a) (b := d) (by omega) (by omega) (by omega) (by omega), w_mul (a := b) (b := c) (by omega) (by omega) (by omega) (by omega), w_mul (a := b) (b := d) (by omega) (by omega) (by omega) (by omega)]
  · rw [if_neg h, if_neg h]
theorem s_mul (a b c d : Int) : spec_RangeMul.f a b c d = some (mulR a b c d) := by
  unfold spec_RangeMul.f mulR iteR spec_l06None.f
  simp only [s_both, Option.bind_some, s_min, s_max, s_make]
  by_cases h : (smR a b && smR c d) = true
  · have h' := h
    rw [Bool.and_eq_true, smR_iff, smR_iff] at h'
    rw [if_pos h, if_pos h, w_mul (a := a) (b := c) (by omega) (by omega) (by omega) (by omega), w_mul (a := a) (b := d) (by omega) (by omega) (by omega) (by omega), w_mul (a := b) (b := c) (by omega) (by omega) (by omega) (by omega), w_mul (a := b) (b := d) (by omega) (by omega) (by omega) (by omega)]
    generalize a * c = p
    generalize a * d = q
    generalize b * c = r
    generalize b * d = s
    have e1 : ∀ x y : Int, (if x < y then x else y) = mn x y := by intro x y; unfold mn; split <;> split <;> omega
    have e2 : ∀ x y : Int, (if y < x then x else y) = mx x y := by intro x y; unfold mx; split <;> split <;> omega
    simp only [e1, e2]
    have e3 : mn (mn p q) (mn r s) = mn (mn (mn p q) r) s := by unfold mn; (repeat' split) <;> omega
    have e4 : mx (mx p q) (mx r s) = mx (mx (mx p q) r) s := by unfold mx; (repeat' split) <;> omega
    rw [e3, e4]
  · rw [if_neg h, if_neg h]
end Go.Proofs.YtoimomfcdhmnbaaDoor.Q
