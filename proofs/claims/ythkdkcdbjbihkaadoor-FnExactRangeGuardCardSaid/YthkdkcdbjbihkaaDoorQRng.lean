/- Ranges: what the program's and the reference's functions on ranges answer, as plain functions. -/
import Derived.Test.YthkdkcdbjbihkaaDoorQOpen
import Derived.Test.YthkdkcdbjbihkaaDoorQx19
import Derived.Test.YthkdkcdbjbihkaaDoorQx2
import Derived.Test.YthkdkcdbjbihkaaDoorQx3
import Derived.Test.YthkdkcdbjbihkaaDoorQx8
namespace Go.Proofs.YthkdkcdbjbihkaaDoor.Q
open Go.RowKit Go.Proofs.YthkdkcdbjbihkaaDoorW.PrintWords Go.Proofs.YthkdkcdbjbihkaaDoorW.PrintLast Go.Proofs.YthkdkcdbjbihkaaDoorW.PrintMore
open Go.Proofs.YthkdkcdbjbihkaaDoor.Open
set_option linter.unusedSimpArgs false
set_option linter.unusedVariables false
def okR (lo hi : Int) : Bool := (lo == 1 && hi == 0) || (decide (-1000000 ≤ lo) && decide (hi ≤ 1000000) && decide (lo ≤ hi))
theorem okR_iff (lo hi : Int) : okR lo hi = true ↔ (lo = 1 ∧ hi = 0) ∨ (-1000000 ≤ lo ∧ hi ≤ 1000000 ∧ lo ≤ hi) := by
  simp [okR, and_assoc]
theorem inR (a b c : Int) : impl_inRange.f a b c = some (decide (b ≤ a) && decide (a ≤ c)) := by
  unfold impl_inRange.f
  by_cases h : b ≤ a <;> simp [h]
theorem btw (a b c : Int) : spec_l01Between.f a b c = some (decide (b ≤ a) && decide (a ≤ c)) := by
  unfold spec_l01Between.f
  by_cases h : b ≤ a <;> simp [h]
theorem i_val (a : Int) : impl_isVal.f a = some (decide (-1000000 ≤ a) && decide (a ≤ 1000000)) := by
  unfold impl_isVal.f
  rw [inR]; rfl
theorem s_val (a : Int) : spec_l05Val.f a = some (decide (-1000000 ≤ a) && decide (a ≤ 1000000)) := by
  unfold spec_l05Val.f
  rw [btw]; rfl
theorem i_ok (a b : Int) : impl_RangeOk.f a b = some (okR a b) := by
  unfold impl_RangeOk.f
  simp only [i_val, Option.bind_some]
  by_cases h : (a == 1 && b == 0) = true
  · rw [if_pos h]; simp [okR, h]
  · rw [if_neg h]
    have e : okR a b = (decide (-1000000 ≤ a) && decide (b ≤ 1000000) && decide (a ≤ b)) := by
      unfold okR
      rw [Bool.eq_false_iff.mpr h]; rfl
    rw [e]
    (repeat' split) <;> simp_all <;> omega
theorem s_is (a b : Int) : spec_l06Is.f a b = some (decide (a ≤ b)) := rfl
theorem s_ok (a b : Int) : spec_RangeOk.f a b = some (okR a b) := by
  rw [← i_ok]
  unfold spec_RangeOk.f impl_RangeOk.f
  simp only [s_is, s_val, i_val, Option.bind_some]
  by_cases h1 : a = 1
  · by_cases h2 : b = 0
    · simp [h1, h2]
    · simp only [h1, h2, if_true, if_false]
      (repeat' split) <;> simp_all <;> omega
  · simp only [h1, if_false]
    (repeat' split) <;> simp_all <;> omega
/-- A range between two ends, cut down. -/
def mkR (lo hi : Int) : Int × Int := if mx lo (-1000000) > mn hi 1000000 then (1, 0) else (mx lo (-1000000), mn hi 1000000)
theorem s_min (a b : Int) : spec_l06Min.f a b = some (if a < b then a else b) := by unfold spec_l06Min.f; split <;> rfl
theorem s_max (a b : Int) : spec_l06Max.f a b = some (if b < a then a else b) := by unfold spec_l06Max.f; split <;> simp_all
theorem s_make (lo hi : Int) : spec_l06Make.f lo hi = some (mkR lo hi) := by
  unfold spec_l06Make.f spec_l06None.f mkR mx mn
  simp only [s_min, s_max, Option.bind_some]
  (repeat' split) <;> first | rfl | omega | (simp; omega)
theorem i_of (lo hi : Int) : impl_rangeOf.f lo hi = some (mkR lo hi) := by
  unfold impl_rangeOf.f mkR
  split <;> rfl
theorem eqR (a b c d : Int) : laws_eqRange.f a b c d = some (decide (a = c) && decide (b = d)) := by
  unfold laws_eqRange.f
  (repeat' split) <;> simp_all
theorem mkR_in {lo hi : Int} (h1 : -1000000 ≤ lo) (h2 : hi ≤ 1000000) (h3 : lo ≤ hi) : mkR lo hi = (lo, hi) := by
  unfold mkR mx mn
  (repeat' split) <;> first | omega | (simp; omega) | simp_all
end Go.Proofs.YthkdkcdbjbihkaaDoor.Q
