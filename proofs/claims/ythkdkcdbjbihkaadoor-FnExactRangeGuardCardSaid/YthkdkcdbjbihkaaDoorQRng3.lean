/- What the program's and the reference's functions make of two ranges that have numbers. -/
import Derived.Test.YthkdkcdbjbihkaaDoorQRng
import Derived.Test.YthkdkcdbjbihkaaDoorQLists
import Derived.Test.YthkdkcdbjbihkaaDoorQOpen
import Derived.Test.YthkdkcdbjbihkaaDoorQx17
import Derived.Test.YthkdkcdbjbihkaaDoorQx19
namespace Go.Proofs.YthkdkcdbjbihkaaDoor.Q
open Go.RowKit Go.Proofs.YthkdkcdbjbihkaaDoorW.PrintWords Go.Proofs.YthkdkcdbjbihkaaDoorW.PrintLast Go.Proofs.YthkdkcdbjbihkaaDoorW.PrintMore
open Go.Proofs.YthkdkcdbjbihkaaDoor.Open
set_option linter.unusedSimpArgs false
set_option linter.unusedVariables false
def smR (a b : Int) : Bool := decide (-1000000 ≤ a) && decide (b ≤ 1000000) && decide (a ≤ b)
theorem smR_iff (a b : Int) : smR a b = true ↔ -1000000 ≤ a ∧ b ≤ 1000000 ∧ a ≤ b := by simp [smR, and_assoc]
theorem smR_ok (a b : Int) : smR a b = (okR a b && !(a == 1 && b == 0)) := by
  unfold smR okR
  by_cases h : (a == 1 && b == 0) = true
  · simp only [h, Bool.true_or, Bool.not_true, Bool.and_false]
    simp at h; simp [h]
  · simp only [Bool.not_eq_true] at h
    simp only [h, Bool.false_or, Bool.not_false, Bool.and_true]
theorem smR_le (a b : Int) : smR a b = (okR a b && decide (a ≤ b)) := by
  unfold smR okR
  by_cases h : (a == 1 && b == 0) = true
  · simp only [h]; simp at h; simp [h]
  · simp only [Bool.not_eq_true] at h
    simp only [h, Bool.false_or]
    cases decide (a ≤ b) <;> simp
theorem i_some1 (a b : Int) : impl_areSome_1.f a b = some (!smR a b) := by
  unfold impl_areSome_1.f
  simp only [i_ok, Option.bind_some, smR_ok]
  split <;> simp_all
theorem i_are1 (k : Nat) (a b : Int) : impl_areSome.f (k + 2) [⟨a, b⟩] = some (smR a b) := by
  unfold impl_areSome.f slices_ContainsFunc__impl_areSome_1.f slices_IndexFunc__impl_areSome_1.f
  cases h : smR a b <;> simp [slices_IndexFunc__impl_areSome_1.l0, rd_T25, i_some1, h, wrap64]
theorem i_are2 (k : Nat) (a b c d : Int) : impl_areSome.f (k + 3) [⟨a, b⟩, ⟨c, d⟩] = some (smR a b && smR c d) := by
  unfold impl_areSome.f slices_ContainsFunc__impl_areSome_1.f slices_IndexFunc__impl_areSome_1.f
  cases h : smR a b <;> cases h2 : smR c d <;> simp [slices_IndexFunc__impl_areSome_1.l0, rd_T25, i_some1, h, h2, wrap64]
theorem s_both (a b c d : Int) : spec_l06Both.f a b c d = some (smR a b && smR c d) := by
  unfold spec_l06Both.f
  simp only [s_ok, s_is, Option.bind_some, smR_le]
  cases okR a b <;> cases okR c d <;> cases decide (a ≤ b) <;> simp
def iteR (b : Bool) (x y : Int) : Int × Int := if b = true then mkR x y else (1, 0)
end Go.Proofs.YthkdkcdbjbihkaaDoor.Q
