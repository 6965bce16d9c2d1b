/- What the program's and the reference's functions make of two ranges that have numbers. -/
import Derived.Test.YtoimomfcdhmnbaaDoorQRng2
import Derived.Test.YtoimomfcdhmnbaaDoorQLists
import Derived.Test.YtoimomfcdhmnbaaDoorQOpen
import Derived.Test.YtoimomfcdhmnbaaDoorQx2
import Derived.Test.YtoimomfcdhmnbaaDoorQx3
import Derived.Test.YtoimomfcdhmnbaaDoorQx4
import Derived.Test.YtoimomfcdhmnbaaDoorQx6
import Derived.Test.YtoimomfcdhmnbaaDoorQx8
namespace Go.Proofs.YtoimomfcdhmnbaaDoor.Q
open Go.RowKit Go.Proofs.YtoimomfcdhmnbaaDoorW.PrintWords Go.Proofs.YtoimomfcdhmnbaaDoorW.PrintLast Go.Proofs.YtoimomfcdhmnbaaDoorW.PrintMore
open Go.Proofs.YtoimomfcdhmnbaaDoor.Open
set_option linter.unusedSimpArgs false
set_option linter.unusedVariables false
def smR (a b : Int) : Bool := decide (-1000000 ≤ a) && decide (b ≤ 1000000) && decide (a ≤ b)
theorem smR_iff (a b : Int) : smR a b = true ↔ -1000000 ≤ a ∧ b ≤ 1000000 ∧ a ≤ b := by simp [smR, and_assoc]
theorem smR_ok (a b : Int) : smR a b = (okR a b && !(a == 1 && b == 0)) := by
  unfold smR okR
  by_cases h : (a == 1 && b == 0) = true
  · simp only [h, Bool.true_or, Bool.not_true, Bool.and_false]
    simp at h; simp [h]
  · simp only [Bool.not_eq_true] at h
    simp only [h, Bool.false_or, Bool.not_false, Bool.and_true]
theorem smR_le (a b : Int) : smR a b = (okR a b && decide (a ≤ b)) := by
  unfold smR okR
  by_cases h : (a == 1 && b == 0) = true
  · simp only [h]; simp at h; simp [h]
  · simp only [Bool.not_eq_true] at h
    simp only [h, Bool.false_or]
    cases decide (a ≤ b) <;> simp
theorem i_some1 (a b : Int) : impl_areSome_1.f a b = some (!smR a b) := by
  unfold impl_areSome_1.f
  simp only [i_ok, Option.bind_some, smR_ok]
  split <;> simp_all
theorem i_are1 (k : Nat) (a b : Int) : impl_areSome.f (k + 2) [⟨a, b⟩] = some (smR a b) := by
  unfold impl_areSome.f slices_ContainsFunc__impl_areSome_1.f slices_IndexFunc__impl_areSome_1.f
  cases h : smR a b <;> simp [slices_IndexFunc__impl_areSome_1.l0, rd_T24, i_some1, h, wrap64]
theorem i_are2 (k : Nat) (a b c d : Int) : impl_areSome.f (k + 3) [⟨a, b⟩, ⟨c, d⟩] = some (smR a b && smR c d) := by
  unfold impl_areSome.f slices_ContainsFunc__impl_areSome_1.f slices_IndexFunc__impl_areSome_1.f
  cases h : smR a b <;> cases h2 : smR c d <;> simp [slices_IndexFunc__impl_areSome_1.l0, rd_T24, i_some1, h, h2, wrap64]
theorem s_both (a b c d : Int) : spec_l06Both.f a b c d = some (smR a b && smR c d) := by
  unfold spec_l06Both.f
  simp only [s_ok, s_is, Option.bind_some, smR_le]
  cases okR a b <;> cases okR c d <;> cases decide (a ≤ b) <;> simp
def iteR (b : Bool) (x y : Int) : Int × Int := if b = true then mkR x y else (1, 0)
theorem s_neg (a b : Int) : spec_RangeNeg.f a b = some (iteR (smR a b) (-b) (-a)) := by
  unfold spec_RangeNeg.f iteR spec_l06None.f
  simp only [s_both, Option.bind_some, Bool.and_self, s_make]
  by_cases h : smR a b = true
  · obtain ⟨h1, h2, h3⟩ := (smR_iff a b).1 h
    rw [if_pos h, if_pos h, w64 (by omega) (by omega), w64 (by omega) (by omega)]
  · rw [if_neg h, if_neg h]
theorem i_neg (k : Nat) (a b : Int) : impl_RangeNeg.f (k + 2) a b = some (iteR (smR a b) (-b) (-a)) := by
  unfold impl_RangeNeg.f iteR
  simp only [i_are1, Option.bind_some]
  by_cases h : smR a b = true
  · obtain ⟨h1, h2, h3⟩ := (smR_iff a b).1 h
    rw [if_pos h, if_pos h, w64 (by omega) (by omega), w64 (by omega) (by omega), mkR_in (by omega) (by omega) (by omega)]
  · rw [if_neg h, if_neg h]
theorem s_add (a b c d : Int) : spec_RangeAdd.f a b c d = some (iteR (smR a b && smR c d) (a + c) (b + d)) := by
  unfold spec_RangeAdd.f iteR spec_l06None.f
  simp only [s_both, Option.bind_some, s_make]
  by_cases h : (smR a b && smR c d) = true
  · have h' := h
    rw [Bool.and_eq_true, smR_iff, smR_iff] at h'
    rw [if_pos h, if_pos h, w64 (by omega) (by omega), w64 (by omega) (by omega)]
  · rw [if_neg h, if_neg h]
theorem i_add (k : Nat) (a b c d : Int) : impl_RangeAdd.f (k + 3) a b c d = some (iteR (smR a b && smR c d) (a + c) (b + d)) := by
  unfold impl_RangeAdd.f iteR
  simp only [i_are2, Option.bind_some, i_of]
  by_cases h : (smR a b && smR c d) = true
  · have h' := h
    rw [Bool.and_eq_true, smR_iff, smR_iff] at h'
    rw [if_pos h, if_pos h, w64 (by omega) (by omega), w64 (by omega) (by omega)]
  · rw [if_neg h, if_neg h]
theorem s_sub (a b c d : Int) : spec_RangeSub.f a b c d = some (iteR (smR a b && smR c d) (a - d) (b - c)) := by
  unfold spec_RangeSub.f iteR spec_l06None.f
  simp only [s_both, Option.bind_some, s_make]
  by_cases h : (smR a b && smR c d) = true
  · have h' := h
    rw [Bool.and_eq_true, smR_iff, smR_iff] at h'
    rw [if_pos h, if_pos h, w64 (by omega) (by omega), w64 (by omega) (by omega)]
  · rw [if_neg h, if_neg h]
theorem i_sub (k : Nat) (a b c d : Int) : impl_RangeSub.f (k + 3) a b c d = some (iteR (smR a b && smR c d) (a - d) (b - c)) := by
  unfold impl_RangeSub.f iteR
  simp only [i_are2, Option.bind_some, i_of]
  by_cases h : (smR a b && smR c d) = true
  · have h' := h
    rw [Bool.and_eq_true, smR_iff, smR_iff] at h'
    rw [if_pos h, if_pos h, w64 (by omega) (by omega), w64 (by omega) (by omega)]
  · rw [if_neg h, if_neg h]
theorem s_meet (a b c d : Int) : spec_RangeMeet.f a b c d = some (iteR (smR a b && smR c d) (mx a c) (mn b d)) := by
  unfold spec_RangeMeet.f iteR spec_l06None.f
  simp only [s_both, Option.bind_some, s_make, s_max, s_min]
  have e1 : (if c < a then a else c) = mx a c := by unfold mx; split <;> split <;> omega
  have e2 : (if b < d then b else d) = mn b d := by unfold mn; split <;> split <;> omega
  rw [e1, e2]
  split <;> rfl
theorem i_meet (k : Nat) (a b c d : Int) : impl_RangeMeet.f (k + 3) a b c d = some (iteR (smR a b && smR c d) (mx a c) (mn b d)) := by
  unfold impl_RangeMeet.f iteR
  simp only [i_are2, Option.bind_some, i_of]
  split <;> rfl
end Go.Proofs.YtoimomfcdhmnbaaDoor.Q
