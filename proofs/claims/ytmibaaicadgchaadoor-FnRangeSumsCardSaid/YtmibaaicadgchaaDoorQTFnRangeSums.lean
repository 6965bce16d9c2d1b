/- Plain laws over numbers, lists and texts, for the law FnRangeSums: no program in sight. -/
import Derived.Test.YtmibaaicadgchaaDoorProg
import Derived.Below
import Derived.Deep.Draws
import Derived.Deep.AppendLies
import Derived.Maps.AppendAt
import Derived.OwnWalk
import Derived.Laws.BytesArg
import Derived.Laws.MakeOwn
import Derived.Laws.OwnMore
import Derived.Deep.OwnRows
import Derived.Tactics
import Derived.Lib.ConvBytes
import Derived.Laws.Slices
import Derived.WalkKit
import Derived.KernelRfl
import Derived.RowKit3
import Derived.Deep.LoopGhost
import Derived.Deep.QuietTactic
import Derived.BigQuiet
import Derived.WideLaws
import Derived.Deep.DeepCutAuto
import Derived.Deep.CutBlock
import Derived.Deep.RegionHeld3
import Derived.Laws.Rows
import Derived.Lib.AppendStr
import Derived.ArgAppend
import Derived.Laws.IdiomCopy
import Derived.OrdersHeld
import Derived.Laws.BitsLemmas
import Derived.RowKit
import Derived.Test.YtmibaaicadgchaaDoorQShelf
import Derived.Lib.LaidTab
import Derived.Lib.AppendIntMem
import Derived.Lib.AtoiErrMem
import Derived.BigCall
import Derived.WalkSmall
import Derived.Laws.CopyOwn
import Derived.Deep.RegionLaw
import Derived.Test.YtmibaaicadgchaaDoorWWords
import Derived.Test.YtmibaaicadgchaaDoorWLast
import Derived.Test.YtmibaaicadgchaaDoorWQPut
import Derived.Test.YtmibaaicadgchaaDoorWApart
import Derived.Test.YtmibaaicadgchaaDoorWArr
import Derived.Test.YtmibaaicadgchaaDoorWZeros
import Derived.Test.YtmibaaicadgchaaDoorWFoot
import Derived.Test.YtmibaaicadgchaaDoorWKept
import Derived.Test.YtmibaaicadgchaaDoorWShare
import Derived.Test.YtmibaaicadgchaaDoorWN
import Derived.Test.YtmibaaicadgchaaDoorWRepsOne
import Derived.Test.YtmibaaicadgchaaDoorWNEv
import Derived.Test.YtmibaaicadgchaaDoorWMore
import Derived.Test.YtmibaaicadgchaaDoorWTab
import Derived.Test.YtmibaaicadgchaaDoorQOpen
import Derived.Test.YtmibaaicadgchaaDoorQx10
import Derived.Test.YtmibaaicadgchaaDoorQx11
import Derived.Test.YtmibaaicadgchaaDoorQx12
import Derived.Test.YtmibaaicadgchaaDoorQx13
import Derived.Test.YtmibaaicadgchaaDoorQx3
import Derived.Test.YtmibaaicadgchaaDoorQx4
import Derived.Test.YtmibaaicadgchaaDoorQx5
import Derived.Test.YtmibaaicadgchaaDoorQx6
import Derived.Test.YtmibaaicadgchaaDoorQx7
import Derived.Test.YtmibaaicadgchaaDoorQx8
namespace Go.Proofs.YtmibaaicadgchaaDoor.Q
open Go.RowKit Go.Proofs.YtmibaaicadgchaaDoorW.PrintWords Go.Proofs.YtmibaaicadgchaaDoorW.PrintLast Go.Proofs.YtmibaaicadgchaaDoorW.PrintMore
set_option linter.unusedVariables false
set_option linter.unusedSimpArgs false
section
variable {P : Program} {ops : Array Oper} {Q : Exit → Act → World → Prop} {md : Region.Mode} {S : World → Prop} {ds : List Nat}
end
section
variable {P : Program} {ops : Array Oper} {Q : Exit → Act → World → Prop}
end
end Go.Proofs.YtmibaaicadgchaaDoor.Q
namespace Go.Proofs.YtmibaaicadgchaaDoor.Q
open Go.RowKit Go.Proofs.YtmibaaicadgchaaDoorW.PrintWords Go.Proofs.YtmibaaicadgchaaDoorW.PrintLast Go.Proofs.YtmibaaicadgchaaDoorW.PrintMore
open Go.Proofs.YtmibaaicadgchaaDoor.Open
set_option linter.unusedSimpArgs false
set_option linter.unusedVariables false
def okR (lo hi : Int) : Bool := (lo == 1 && hi == 0) || (decide (-1000000 ≤ lo) && decide (hi ≤ 1000000) && decide (lo ≤ hi))
theorem okR_iff (lo hi : Int) : okR lo hi = true ↔ (lo = 1 ∧ hi = 0) ∨ (-1000000 ≤ lo ∧ hi ≤ 1000000 ∧ lo ≤ hi) := by
  simp [okR, and_assoc]
theorem inR (a b c : Int) : impl_inRange.f a b c = some (decide (b ≤ a) && decide (a ≤ c)) := by
  unfold impl_inRange.f
  by_cases h : b ≤ a <;> simp [h]
theorem btw (a b c : Int) : spec_l01Between.f a b c = some (decide (b ≤ a) && decide (a ≤ c)) := by
  unfold spec_l01Between.f
  by_cases h : b ≤ a <;> simp [h]
theorem i_val (a : Int) : impl_isVal.f a = some (decide (-1000000 ≤ a) && decide (a ≤ 1000000)) := by
  unfold impl_isVal.f
  rw [inR]; rfl
theorem s_val (a : Int) : spec_l05Val.f a = some (decide (-1000000 ≤ a) && decide (a ≤ 1000000)) := by
  unfold spec_l05Val.f
  rw [btw]; rfl
theorem i_ok (a b : Int) : impl_RangeOk.f a b = some (okR a b) := by
  unfold impl_RangeOk.f
  simp only [i_val, Option.bind_some]
  by_cases h : (a == 1 && b == 0) = true
  · rw [if_pos h]; simp [okR, h]
  · rw [if_neg h]
    have e : okR a b = (decide (-1000000 ≤ a) && decide (b ≤ 1000000) && decide (a ≤ b)) := by
      unfold okR
      rw [Bool.eq_false_iff.mpr h]; rfl
    rw [e]
    (repeat' split) <;> simp_all <;> omega
theorem s_is (a b : Int) : spec_l06Is.f a b = some (decide (a ≤ b)) := rfl
theorem s_ok (a b : Int) : spec_RangeOk.f a b = some (okR a b) := by
  rw [← i_ok]
  unfold spec_RangeOk.f impl_RangeOk.f
  simp only [s_is, s_val, i_val, Option.bind_some]
  by_cases h1 : a = 1
  · by_cases h2 : b = 0
    · simp [h1, h2]
    · simp only [h1, h2, if_true, if_false]
      (repeat' split) <;> simp_all <;> omega
  · simp only [h1, if_false]
    (repeat' split) <;> simp_all <;> omega
theorem i_has (a b x : Int) : impl_RangeHas.f a b x = some (okR a b && decide (a ≤ x) && decide (x ≤ b)) := by
  unfold impl_RangeHas.f
  rw [i_ok]; simp only [Option.bind_some]
  grind
/-- A range between two ends, cut down. -/
def mkR (lo hi : Int) : Int × Int := if mx lo (-1000000) > mn hi 1000000 then (1, 0) else (mx lo (-1000000), mn hi 1000000)
theorem mkR_in {lo hi : Int} (h1 : -1000000 ≤ lo) (h2 : hi ≤ 1000000) (h3 : lo ≤ hi) : mkR lo hi = (lo, hi) := by
  unfold mkR mx mn
  (repeat' split) <;> first | omega | (simp; omega) | simp_all
end Go.Proofs.YtmibaaicadgchaaDoor.Q
namespace Go.Proofs.YtmibaaicadgchaaDoor.Q
open Go.RowKit Go.Proofs.YtmibaaicadgchaaDoorW.PrintWords Go.Proofs.YtmibaaicadgchaaDoorW.PrintLast Go.Proofs.YtmibaaicadgchaaDoorW.PrintMore
open Go.Proofs.YtmibaaicadgchaaDoor.Open
set_option linter.unusedSimpArgs false
set_option linter.unusedVariables false
theorem w64 {n : Int} (h1 : -9223372036854775808 ≤ n) (h2 : n ≤ 9223372036854775807) : wrap64 n = n := by unfold wrap64; omega
theorem w64s (i : Nat) (h : i < 9223372036854775807) : wrap64 ((i : Int) + 1) = ((i + 1 : Nat) : Int) := by
  rw [w64 (by omega) (by omega)]; omega
end Go.Proofs.YtmibaaicadgchaaDoor.Q
namespace Go.Proofs.YtmibaaicadgchaaDoor.Q
open Go.RowKit Go.Proofs.YtmibaaicadgchaaDoorW.PrintWords Go.Proofs.YtmibaaicadgchaaDoorW.PrintLast Go.Proofs.YtmibaaicadgchaaDoorW.PrintMore
open Go.Proofs.YtmibaaicadgchaaDoor.Open
set_option linter.unusedSimpArgs false
set_option linter.unusedVariables false
theorem s_min (a b : Int) : spec_l06Min.f a b = some (if a < b then a else b) := by unfold spec_l06Min.f; split <;> rfl
theorem s_max (a b : Int) : spec_l06Max.f a b = some (if b < a then a else b) := by unfold spec_l06Max.f; split <;> simp_all
theorem s_make (lo hi : Int) : spec_l06Make.f lo hi = some (mkR lo hi) := by
  unfold spec_l06Make.f spec_l06None.f mkR mx mn
  simp only [s_min, s_max, Option.bind_some]
  (repeat' split) <;> first | rfl | omega | (simp; omega)
theorem i_of (lo hi : Int) : impl_rangeOf.f lo hi = some (mkR lo hi) := by
  unfold impl_rangeOf.f mkR
  split <;> rfl
end Go.Proofs.YtmibaaicadgchaaDoor.Q
namespace Go.Proofs.YtmibaaicadgchaaDoor.Q
open Go.RowKit Go.Proofs.YtmibaaicadgchaaDoorW.PrintWords Go.Proofs.YtmibaaicadgchaaDoorW.PrintLast Go.Proofs.YtmibaaicadgchaaDoorW.PrintMore
open Go.Proofs.YtmibaaicadgchaaDoor.Open
set_option linter.unusedSimpArgs false
set_option linter.unusedVariables false
def smR (a b : Int) : Bool := decide (-1000000 ≤ a) && decide (b ≤ 1000000) && decide (a ≤ b)
theorem smR_iff (a b : Int) : smR a b = true ↔ -1000000 ≤ a ∧ b ≤ 1000000 ∧ a ≤ b := by simp [smR, and_assoc]
theorem smR_ok (a b : Int) : smR a b = (okR a b && !(a == 1 && b == 0)) := by
  unfold smR okR
  by_cases h : (a == 1 && b == 0) = true
  · simp only [h, Bool.true_or, Bool.not_true, Bool.and_false]
    simp at h; simp [h]
  · simp only [Bool.not_eq_true] at h
    simp only [h, Bool.false_or, Bool.not_false, Bool.and_true]
theorem smR_le (a b : Int) : smR a b = (okR a b && decide (a ≤ b)) := by
  unfold smR okR
  by_cases h : (a == 1 && b == 0) = true
  · simp only [h]; simp at h; simp [h]
  · simp only [Bool.not_eq_true] at h
    simp only [h, Bool.false_or]
    cases decide (a ≤ b) <;> simp
theorem i_some1 (a b : Int) : impl_areSome_1.f a b = some (!smR a b) := by
  unfold impl_areSome_1.f
  simp only [i_ok, Option.bind_some, smR_ok]
  split <;> simp_all
theorem i_are1 (k : Nat) (a b : Int) : impl_areSome.f (k + 2) [⟨a, b⟩] = some (smR a b) := by
  unfold impl_areSome.f slices_ContainsFunc__impl_areSome_1.f slices_IndexFunc__impl_areSome_1.f
  cases h : smR a b <;> simp [slices_IndexFunc__impl_areSome_1.l0, rd_T25, i_some1, h, wrap64]
theorem i_are2 (k : Nat) (a b c d : Int) : impl_areSome.f (k + 3) [⟨a, b⟩, ⟨c, d⟩] = some (smR a b && smR c d) := by
  unfold impl_areSome.f slices_ContainsFunc__impl_areSome_1.f slices_IndexFunc__impl_areSome_1.f
  cases h : smR a b <;> cases h2 : smR c d <;> simp [slices_IndexFunc__impl_areSome_1.l0, rd_T25, i_some1, h, h2, wrap64]
theorem s_both (a b c d : Int) : spec_l06Both.f a b c d = some (smR a b && smR c d) := by
  unfold spec_l06Both.f
  simp only [s_ok, s_is, Option.bind_some, smR_le]
  cases okR a b <;> cases okR c d <;> cases decide (a ≤ b) <;> simp
def iteR (b : Bool) (x y : Int) : Int × Int := if b = true then mkR x y else (1, 0)
end Go.Proofs.YtmibaaicadgchaaDoor.Q
namespace Go.Proofs.YtmibaaicadgchaaDoor.Q
open Go.RowKit Go.Proofs.YtmibaaicadgchaaDoorW.PrintWords Go.Proofs.YtmibaaicadgchaaDoorW.PrintLast Go.Proofs.YtmibaaicadgchaaDoorW.PrintMore
open Go.Proofs.YtmibaaicadgchaaDoor.Open
set_option linter.unusedSimpArgs false
set_option linter.unusedVariables false
theorem s_add (a b c d : Int) : spec_RangeAdd.f a b c d = some (iteR (smR a b && smR c d) (a + c) (b + d)) := by
  unfold spec_RangeAdd.f iteR spec_l06None.f
  simp only [s_both, Option.bind_some, s_make]
  by_cases h : (smR a b && smR c d) = true
  · have h' := h
    rw [Bool.and_eq_true, smR_iff, smR_iff] at h'
    rw [if_pos h, if_pos h, w64 (by omega) (by omega), w64 (by omega) (by omega)]
  · rw [if_neg h, if_neg h]
theorem i_add (k : Nat) (a b c d : Int) : impl_RangeAdd.f (k + 3) a b c d = some (iteR (smR a b && smR c d) (a + c) (b + d)) := by
  unfold impl_RangeAdd.f iteR
  simp only [i_are2, Option.bind_some, i_of]
  by_cases h : (smR a b && smR c d) = true
  · have h' := h
    rw [Bool.and_eq_true, smR_iff, smR_iff] at h'
    rw [if_pos h, if_pos h, w64 (by omega) (by omega), w64 (by omega) (by omega)]
  · rw [if_neg h, if_neg h]
end Go.Proofs.YtmibaaicadgchaaDoor.Q
namespace Go.Proofs.YtmibaaicadgchaaDoor.Q
open Go.RowKit Go.Proofs.YtmibaaicadgchaaDoorW.PrintWords Go.Proofs.YtmibaaicadgchaaDoorW.PrintLast Go.Proofs.YtmibaaicadgchaaDoorW.PrintMore
open Go.Proofs.YtmibaaicadgchaaDoor.Open
set_option linter.unusedSimpArgs false
set_option linter.unusedVariables false
theorem s_sub (a b c d : Int) : spec_RangeSub.f a b c d = some (iteR (smR a b && smR c d) (a - d) (b - c)) := by
  unfold spec_RangeSub.f iteR spec_l06None.f
  simp only [s_both, Option.bind_some, s_make]
  by_cases h : (smR a b && smR c d) = true
  · have h' := h
    rw [Bool.and_eq_true, smR_iff, smR_iff] at h'
    rw [if_pos h, if_pos h, w64 (by omega) (by omega), w64 (by omega) (by omega)]
  · rw [if_neg h, if_neg h]
theorem i_sub (k : Nat) (a b c d : Int) : impl_RangeSub.f (k + 3) a b c d = some (iteR (smR a b && smR c d) (a - d) (b - c)) := by
  unfold impl_RangeSub.f iteR
  simp only [i_are2, Option.bind_some, i_of]
  by_cases h : (smR a b && smR c d) = true
  · have h' := h
    rw [Bool.and_eq_true, smR_iff, smR_iff] at h'
    rw [if_pos h, if_pos h, w64 (by omega) (by omega), w64 (by omega) (by omega)]
  · rw [if_neg h, if_neg h]
end Go.Proofs.YtmibaaicadgchaaDoor.Q
namespace Go.Proofs.YtmibaaicadgchaaDoor.Q
open Go.RowKit Go.Proofs.YtmibaaicadgchaaDoorW.PrintWords Go.Proofs.YtmibaaicadgchaaDoorW.PrintLast Go.Proofs.YtmibaaicadgchaaDoorW.PrintMore
open Go.Proofs.YtmibaaicadgchaaDoor.Open
set_option linter.unusedSimpArgs false
set_option linter.unusedVariables false
theorem mul_in {a b : Int} (h1 : -1000000 ≤ a) (h2 : a ≤ 1000000) (h3 : -1000000 ≤ b) (h4 : b ≤ 1000000) : -1000000000000 ≤ a * b ∧ a * b ≤ 1000000000000 := by
  have p1 := Int.mul_nonneg (show 0 ≤ 1000000 - a by omega) (show 0 ≤ 1000000 + b by omega)
  have p2 := Int.mul_nonneg (show 0 ≤ 1000000 + a by omega) (show 0 ≤ 1000000 - b by omega)
  have p3 := Int.mul_nonneg (show 0 ≤ 1000000 - a by omega) (show 0 ≤ 1000000 - b by omega)
  have p4 := Int.mul_nonneg (show 0 ≤ 1000000 + a by omega) (show 0 ≤ 1000000 + b by omega)
  simp only [Int.sub_mul, Int.add_mul, Int.mul_sub, Int.mul_add] at p1 p2 p3 p4
  omega
theorem w_mul {a b : Int} (h1 : -1000000 ≤ a) (h2 : a ≤ 1000000) (h3 : -1000000 ≤ b) (h4 : b ≤ 1000000) : wrap64 (a * b) = a * b := by
  obtain ⟨p, q⟩ := mul_in h1 h2 h3 h4
  exact w64 (by omega) (by omega)
theorem min4 (k : Nat) (p q r s : Int) : slices_Min_int_int.f (k + 5) [p, q, r, s] = some (mn (mn (mn p q) r) s) := by
  unfold slices_Min_int_int.f
  simp [slices_Min_int_int.l0, rd, wrap64]
theorem max4 (k : Nat) (p q r s : Int) : slices_Max_int_int.f (k + 5) [p, q, r, s] = some (mx (mx (mx p q) r) s) := by
  unfold slices_Max_int_int.f
  simp [slices_Max_int_int.l0, rd, wrap64]
def mulR (a b c d : Int) : Int × Int := iteR (smR a b && smR c d) (mn (mn (mn (a * c) (a * d)) (b * c)) (b * d)) (mx (mx (mx (a * c) (a * d)) (b * c)) (b * d))
theorem i_mul (k : Nat) (a b c d : Int) : impl_RangeMul.f (k + 8) a b c d = some (mulR a b c d) := by
  unfold impl_RangeMul.f mulR iteR impl_productEnds.f
  simp only [i_are2, Option.bind_some, i_of, min4, max4]
  by_cases h : (smR a b && smR c d) = true
  · have h' := h
    rw [Bool.and_eq_true, smR_iff, smR_iff] at h'
    rw [if_pos h, if_pos h, w_mul (a := a) (b := c) (by omega) (by omega) (by omega) (by omega), w_mul (a := a) (b := d) (by omega) (by omega) (by omega) (by omega), w_mul (a := b) (b := c) (by omega) (by omega) (by omega) (by omega), w_mul (a := b) (b := d) (by omega) (by omega) (by omega) (by omega)]
  · rw [if_neg h, if_neg h]
theorem s_mul (a b c d : Int) : spec_RangeMul.f a b c d = some (mulR a b c d) := by
  unfold spec_RangeMul.f mulR iteR spec_l06None.f
  simp only [s_both, Option.bind_some, s_min, s_max, s_make]
  by_cases h : (smR a b && smR c d) = true
  · have h' := h
    rw [Bool.and_eq_true, smR_iff, smR_iff] at h'
    rw [if_pos h, if_pos h, w_mul (a := a) (b := c) (by omega) (by omega) (by omega) (by omega), w_mul (a := a) (b := d) (by omega) (by omega) (by omega) (by omega), w_mul (a := b) (b := c) (by omega) (by omega) (by omega) (by omega), w_mul (a := b) (b := d) (by omega) (by omega) (by omega) (by omega)]
    generalize a * c = p
    generalize a * d = q
    generalize b * c = r
    generalize b * d = s
    have e1 : ∀ x y : Int, (if x < y then x else y) = mn x y := by intro x y; unfold mn; split <;> split <;> omega
    have e2 : ∀ x y : Int, (if y < x then x else y) = mx x y := by intro x y; unfold mx; split <;> split <;> omega
    simp only [e1, e2]
    have e3 : mn (mn p q) (mn r s) = mn (mn (mn p q) r) s := by unfold mn; (repeat' split) <;> omega
    have e4 : mx (mx p q) (mx r s) = mx (mx (mx p q) r) s := by unfold mx; (repeat' split) <;> omega
    rw [e3, e4]
  · rw [if_neg h, if_neg h]
end Go.Proofs.YtmibaaicadgchaaDoor.Q
namespace Go.Proofs.YtmibaaicadgchaaDoor.Q
open Go.RowKit Go.Proofs.YtmibaaicadgchaaDoorW.PrintWords Go.Proofs.YtmibaaicadgchaaDoorW.PrintLast Go.Proofs.YtmibaaicadgchaaDoorW.PrintMore
open Go.Proofs.YtmibaaicadgchaaDoor.Open
set_option linter.unusedSimpArgs false
set_option linter.unusedVariables false
theorem s_neg (a b : Int) : spec_RangeNeg.f a b = some (iteR (smR a b) (-b) (-a)) := by
  unfold spec_RangeNeg.f iteR spec_l06None.f
  simp only [s_both, Option.bind_some, Bool.and_self, s_make]
  by_cases h : smR a b = true
  · obtain ⟨h1, h2, h3⟩ := (smR_iff a b).1 h
    rw [if_pos h, if_pos h, w64 (by omega) (by omega), w64 (by omega) (by omega)]
  · rw [if_neg h, if_neg h]
theorem i_neg (k : Nat) (a b : Int) : impl_RangeNeg.f (k + 2) a b = some (iteR (smR a b) (-b) (-a)) := by
  unfold impl_RangeNeg.f iteR
  simp only [i_are1, Option.bind_some]
  by_cases h : smR a b = true
  · obtain ⟨h1, h2, h3⟩ := (smR_iff a b).1 h
    rw [if_pos h, if_pos h, w64 (by omega) (by omega), w64 (by omega) (by omega), mkR_in (by omega) (by omega) (by omega)]
  · rw [if_neg h, if_neg h]
end Go.Proofs.YtmibaaicadgchaaDoor.Q
namespace Go.Proofs.YtmibaaicadgchaaDoor.Q
open Go.RowKit Go.Proofs.YtmibaaicadgchaaDoorW.PrintWords Go.Proofs.YtmibaaicadgchaaDoorW.PrintLast Go.Proofs.YtmibaaicadgchaaDoorW.PrintMore
open Go.Proofs.YtmibaaicadgchaaDoor.Open
set_option linter.unusedSimpArgs false
set_option linter.unusedVariables false
theorem tm {a n : Int} (h : 0 ≤ a) (hn : 0 < n) : 0 ≤ Int.tmod a n ∧ Int.tmod a n < n := by
  rw [Int.tmod_eq_emod_of_nonneg h]
  exact ⟨Int.emod_nonneg _ (by omega), Int.emod_lt_of_pos _ hn⟩
theorem td {a : Int} (h : 0 ≤ a) : 0 ≤ Int.tdiv a 7 ∧ Int.tdiv a 7 ≤ a := by
  rw [Int.tdiv_eq_ediv_of_nonneg h]; omega
def Bytes (l : List Int) : Prop := ∀ x ∈ l, 0 ≤ x ∧ x ≤ 255
theorem rd_byte {l : List Int} (h : Bytes l) (i : Int) : 0 ≤ rd l i ∧ rd l i ≤ 255 := by
  unfold rd
  rcases Nat.lt_or_ge i.toNat l.length with h1 | h1
  · have : l.getD i.toNat 0 = l[i.toNat] := by simp [h1]
    rw [this]; exact h _ (List.getElem_mem h1)
  · have : l.getD i.toNat 0 = 0 := by simp [h1]
    rw [this]; omega
theorem bytes_of {l : List Int} (h : ∀ x ∈ l, (Lit.int .u8 x).wf = true) : Bytes l := by
  intro x hx
  have := h x hx
  have e : (decide ((0 : Int) ≤ x) && decide (x ≤ 255)) = true := this
  simp only [Bool.and_eq_true, decide_eq_true_eq] at e
  exact e
theorem pick_ok {code : List Int} (hb : Bytes code) (hl : code.length ≤ 1048576) {at_ seed n : Int} (h0 : 0 ≤ at_) (h1 : at_ ≤ 4611686018427387904) (h2 : 0 ≤ seed) (h3 : seed < 65521) (hn : 1 ≤ n) (hn2 : n ≤ 100000000) :
    ∃ v at1 seed1, spec_l01Cur_pick.f code at_ seed n = some (v, at1, seed1) ∧ 0 ≤ v ∧ v < n ∧ 0 ≤ at1 ∧ at1 ≤ at_ + 2 ∧ 0 ≤ seed1 ∧ seed1 < 65521 := by
  unfold spec_l01Cur_pick.f
  by_cases c1 : n < 2
  · rw [if_pos c1]; exact ⟨_, _, _, rfl, by omega, by omega, by omega, by omega, by omega, by omega⟩
  rw [if_neg c1]
  have e1 : wrap64 (at_ + 1) = at_ + 1 := w64 (by omega) (by omega)
  have e2 : wrap64 (at_ + 1 + 1) = at_ + 2 := by rw [w64 (by omega) (by omega)]; omega
  have b0 := rd_byte hb at_
  have b1 := rd_byte hb (at_ + 1)
  by_cases c2 : at_ < (code.length : Int)
  · rw [if_pos c2, if_pos h0, w64 (n := rd code at_) (by omega) (by omega)]
    have t0 := tm b0.1 (show 0 < n by omega)
    by_cases c3 : n > 200
    · rw [if_pos c3, e1]
      by_cases c4 : at_ + 1 < (code.length : Int)
      · rw [if_pos c4, if_pos (by omega), if_neg (by omega), e2, w64 (n := rd code (at_ + 1)) (by omega) (by omega), w64 (n := 256 * rd code at_) (by omega) (by omega), w64 (n := 256 * rd code at_ + rd code (at_ + 1)) (by omega) (by omega)]
        have t1 := tm (show 0 ≤ 256 * rd code at_ + rd code (at_ + 1) by omega) (show 0 < n by omega)
        exact ⟨_, _, _, rfl, t1.1, t1.2, by omega, by omega, h2, h3⟩
      · rw [if_neg c4, if_neg (by omega)]
        exact ⟨_, _, _, rfl, t0.1, t0.2, by omega, by omega, h2, h3⟩
    · rw [if_neg c3, if_neg (by omega), e1]
      exact ⟨_, _, _, rfl, t0.1, t0.2, by omega, by omega, h2, h3⟩
  · rw [if_neg c2, w64 (n := seed * 1103) (by omega) (by omega), w64 (n := seed * 1103 + 12345) (by omega) (by omega), e1]
    have t0 := tm (show 0 ≤ seed * 1103 + 12345 by omega) (show (0 : Int) < 65521 by omega)
    generalize Int.tmod (seed * 1103 + 12345) 65521 = s at t0 ⊢
    have d0 := td t0.1
    generalize Int.tdiv s 7 = u at d0 ⊢
    by_cases c3 : (code.length : Int) > 0
    · have t1 := tm h0 c3
      have b2 := rd_byte hb (Int.tmod at_ (code.length : Int))
      rw [if_pos c3, if_neg (by omega), if_pos t1.1, if_pos t1.2, if_neg (by omega)]
      generalize rd code (Int.tmod at_ (code.length : Int)) = r at b2 ⊢
      rw [w64 (n := u) (by omega) (by omega), w64 (n := r) (by omega) (by omega), w64 (n := u + r) (by omega) (by omega)]
      have t2 := tm (show 0 ≤ u + r by omega) (show 0 < n by omega)
      exact ⟨_, _, _, rfl, t2.1, t2.2, by omega, by omega, t0.1, t0.2⟩
    · rw [if_neg c3, if_neg (by omega)]
      exact ⟨_, _, _, rfl, by simp, by simp; omega, by omega, by omega, t0.1, t0.2⟩
theorem number_ok {code : List Int} (hb : Bytes code) (hl : code.length ≤ 1048576) {at_ seed : Int} (h0 : 0 ≤ at_) (h1 : at_ ≤ 4611686018427387900) (h2 : 0 ≤ seed) (h3 : seed < 65521) :
    ∃ v at1 seed1, spec_l01Cur_number.f code at_ seed = some (v, at1, seed1) ∧ 0 ≤ at1 ∧ at1 ≤ at_ + 4 ∧ 0 ≤ seed1 ∧ seed1 < 65521 := by
  unfold spec_l01Cur_number.f
  obtain ⟨v, a1, s1, e, p1, p2, p3, p4, p5, p6⟩ := pick_ok hb hl h0 (by omega) h2 h3 (n := 8) (by omega) (by omega)
  rw [e]; simp only [Option.bind_some]
  by_cases c1 : v = 0
  · rw [if_pos c1]
    obtain ⟨v', a2, s2, e', q1, q2, q3, q4, q5, q6⟩ := pick_ok hb hl p3 (by omega) p5 p6 (n := 256) (by omega) (by omega)
    rw [e']; exact ⟨_, a2, s2, rfl, q3, by omega, q5, q6⟩
  rw [if_neg c1]
  by_cases c2 : v = 1
  · rw [if_pos c2]
    obtain ⟨v', a2, s2, e', q1, q2, q3, q4, q5, q6⟩ := pick_ok hb hl p3 (by omega) p5 p6 (n := 8) (by omega) (by omega)
    rw [e']; simp only [Option.bind_some]
    rw [if_pos q1, if_pos (by simpa using q2)]
    exact ⟨_, a2, s2, rfl, q3, by omega, q5, q6⟩
  rw [if_neg c2]
  by_cases c3 : v = 2
  · rw [if_pos c3]
    obtain ⟨v', a2, s2, e', q1, q2, q3, q4, q5, q6⟩ := pick_ok hb hl p3 (by omega) p5 p6 (n := 65000) (by omega) (by omega)
    rw [e']; exact ⟨_, a2, s2, rfl, q3, by omega, q5, q6⟩
  rw [if_neg c3]
  obtain ⟨v', a2, s2, e', q1, q2, q3, q4, q5, q6⟩ := pick_ok hb hl p3 (by omega) p5 p6 (n := 12) (by omega) (by omega)
  rw [e']; exact ⟨_, a2, s2, rfl, q3, by omega, q5, q6⟩
end Go.Proofs.YtmibaaicadgchaaDoor.Q
namespace Go.Proofs.YtmibaaicadgchaaDoor.Q
open Go.RowKit Go.Proofs.YtmibaaicadgchaaDoorW.PrintWords Go.Proofs.YtmibaaicadgchaaDoorW.PrintLast Go.Proofs.YtmibaaicadgchaaDoorW.PrintMore
open Go.Proofs.YtmibaaicadgchaaDoor.Open
set_option linter.unusedSimpArgs false
set_option linter.unusedVariables false
theorem drawR_ok {code : List Int} (hb : Bytes code) (hl : code.length ≤ 1048576) {at_ seed : Int} (h0 : 0 ≤ at_) (h1 : at_ ≤ 4611686018427387000) (h2 : 0 ≤ seed) (h3 : seed < 65521) :
    ∃ a b at1 seed1, spec_l06DrawRange.f code at_ seed = some (a, b, at1, seed1) ∧ 0 ≤ at1 ∧ at1 ≤ at_ + 10 ∧ 0 ≤ seed1 ∧ seed1 < 65521 := by
  unfold spec_l06DrawRange.f spec_l06None.f
  obtain ⟨v, a1, s1, e, p1, p2, p3, p4, p5, p6⟩ := pick_ok hb hl h0 (by omega) h2 h3 (n := 9) (by omega) (by omega)
  rw [e]; simp only [Option.bind_some, s_val, s_make]
  by_cases c1 : v = 0
  · rw [if_pos c1]; exact ⟨_, _, a1, s1, rfl, p3, by omega, p5, p6⟩
  rw [if_neg c1]
  by_cases c2 : v = 1
  · rw [if_pos c2]; exact ⟨_, _, a1, s1, rfl, p3, by omega, p5, p6⟩
  rw [if_neg c2]
  by_cases c3 : v = 2
  · rw [if_pos c3]
    obtain ⟨v', a2, s2, e', q1, q2, q3, q4, q5, q6⟩ := pick_ok hb hl p3 (by omega) p5 p6 (n := 9) (by omega) (by omega)
    rw [e']; exact ⟨_, _, a2, s2, rfl, q3, by omega, q5, q6⟩
  rw [if_neg c3]
  obtain ⟨x, a2, s2, e2, q3, q4, q5, q6⟩ := number_ok hb hl p3 (by omega) p5 p6
  rw [e2]; simp only [Option.bind_some]
  by_cases c4 : v = 3
  · rw [if_pos c4]
    obtain ⟨y, a3, s3, e3, r3, r4, r5, r6⟩ := number_ok hb hl q3 (by omega) q5 q6
    rw [e3]; exact ⟨_, _, a3, s3, rfl, r3, by omega, r5, r6⟩
  rw [if_neg c4]
  obtain ⟨y, a3, s3, e3, r1, r2, r3, r4, r5, r6⟩ := pick_ok hb hl q3 (by omega) q5 q6 (n := 20) (by omega) (by omega)
  rw [e3]; simp only [Option.bind_some]
  split
  · exact ⟨_, _, a3, s3, rfl, r3, by omega, r5, r6⟩
  · exact ⟨_, _, a3, s3, rfl, r3, by omega, r5, r6⟩
end Go.Proofs.YtmibaaicadgchaaDoor.Q
namespace Go.Proofs.YtmibaaicadgchaaDoor.Q
open Go.RowKit Go.Proofs.YtmibaaicadgchaaDoorW.PrintWords Go.Proofs.YtmibaaicadgchaaDoorW.PrintLast Go.Proofs.YtmibaaicadgchaaDoorW.PrintMore
open Go.Proofs.YtmibaaicadgchaaDoor.Open
set_option linter.unusedSimpArgs false
set_option linter.unusedVariables false
theorem lpick_ok {code : List Int} (hb : Bytes code) (hl : code.length ≤ 1048576) {at_ n : Int} (h0 : 0 ≤ at_) (h1 : at_ ≤ 1000000) (hn : 1 ≤ n) (hn2 : n ≤ 4611686018427387904) (k : Nat) (hk : 10 ≤ k) :
    ∃ v, laws_pick.f k code at_ n = some v ∧ 0 ≤ v ∧ v < n := by
  obtain ⟨k, rfl⟩ : ∃ m, k = m + 5 := ⟨k - 5, by omega⟩
  unfold laws_pick.f
  by_cases c0 : (code.length : Int) = 0
  · rw [if_pos c0]; exact ⟨0, rfl, by omega, by omega⟩
  rw [if_neg c0]
  by_cases c1 : n < 2
  · rw [decide_eq_true c1]; exact ⟨0, rfl, by omega, by omega⟩
  rw [decide_eq_false c1]
  have b0 := fun i => rd_byte hb i
  have t0 := tm (show 0 ≤ at_ by omega) (show 0 < (code.length : Int) by omega)
  have t1 := tm (show 0 ≤ at_ + 1 by omega) (show 0 < (code.length : Int) by omega)
  have t2 := tm (show 0 ≤ at_ + 2 by omega) (show 0 < (code.length : Int) by omega)
  have x0 := b0 (Int.tmod at_ (code.length : Int))
  have x1 := b0 (Int.tmod (at_ + 1) (code.length : Int))
  have x2 := b0 (Int.tmod (at_ + 2) (code.length : Int))
  rw [laws_pick.j0]
  rw [if_neg (by simp)]
  rw [laws_pick.l0]
  rw [if_pos (by omega), if_neg c0, show wrap64 (at_ + 0) = at_ by rw [w64 (by omega) (by omega)]; omega, if_pos t0.1, if_pos t0.2]
  generalize rd code (Int.tmod at_ (code.length : Int)) = y0 at x0 ⊢
  rw [show wrap64 (wrap64 (31 * 0) + wrap64 y0) = y0 by unfold wrap64; omega, show wrap64 (0 + 1) = 1 by unfold wrap64; omega]
  rw [laws_pick.l0]
  rw [if_pos (by omega), if_neg c0, show wrap64 (at_ + 1) = at_ + 1 from w64 (by omega) (by omega), if_pos t1.1, if_pos t1.2]
  generalize rd code (Int.tmod (at_ + 1) (code.length : Int)) = y1 at x1 ⊢
  rw [show wrap64 (wrap64 (31 * y0) + wrap64 y1) = 31 * y0 + y1 by unfold wrap64; omega, show wrap64 (1 + 1) = 2 by unfold wrap64; omega]
  rw [laws_pick.l0]
  rw [if_pos (by omega), if_neg c0, show wrap64 (at_ + 2) = at_ + 2 from w64 (by omega) (by omega), if_pos t2.1, if_pos t2.2]
  generalize rd code (Int.tmod (at_ + 2) (code.length : Int)) = y2 at x2 ⊢
  rw [show wrap64 (wrap64 (31 * (31 * y0 + y1)) + wrap64 y2) = 31 * (31 * y0 + y1) + y2 by unfold wrap64; omega, show wrap64 (2 + 1) = 3 by unfold wrap64; omega]
  rw [laws_pick.l0]
  rw [if_neg (by omega), if_neg (by omega), w64 (by omega) (by omega)]
  have t3 := tm (show 0 ≤ 31 * (31 * y0 + y1) + y2 + at_ by omega) (show 0 < n by omega)
  exact ⟨_, rfl, t3.1, t3.2⟩
end Go.Proofs.YtmibaaicadgchaaDoor.Q
