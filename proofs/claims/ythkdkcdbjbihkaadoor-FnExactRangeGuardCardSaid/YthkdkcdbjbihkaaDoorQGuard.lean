/- What a condition leaves of two ranges, as a plain function. -/
import Derived.Test.YthkdkcdbjbihkaaDoorQMeet
import Derived.Test.YthkdkcdbjbihkaaDoorQOpen
import Derived.Test.YthkdkcdbjbihkaaDoorQx17
import Derived.Test.YthkdkcdbjbihkaaDoorQx18
import Derived.Test.YthkdkcdbjbihkaaDoorQx2
import Derived.Test.YthkdkcdbjbihkaaDoorQx20
import Derived.Test.YthkdkcdbjbihkaaDoorQx21
import Derived.Test.YthkdkcdbjbihkaaDoorQx22
namespace Go.Proofs.YthkdkcdbjbihkaaDoor.Q
open Go.RowKit Go.Proofs.YthkdkcdbjbihkaaDoorW.PrintWords Go.Proofs.YthkdkcdbjbihkaaDoorW.PrintLast Go.Proofs.YthkdkcdbjbihkaaDoorW.PrintMore
open Go.Proofs.YthkdkcdbjbihkaaDoor.Open
set_option linter.unusedSimpArgs false
set_option linter.unusedVariables false
/-- A range without an end. -/
def withoutR (a b x : Int) : Int × Int := if a = x then mkR (a + 1) b else if b = x then mkR a (b - 1) else (a, b)
abbrev R4 := Int × Int × Int × Int
def pair (p q : Int × Int) : R4 := (p.1, p.2, q.1, q.2)
def flip (p : R4) : R4 := (p.2.2.1, p.2.2.2, p.1, p.2.1)
/-- A condition below the turned ones. -/
def guard1 (k a b c d : Int) : R4 :=
  if k = 11 then pair (mkR a (mn b (d - 1))) (mkR (mx c (a + 1)) d)
  else if k = 12 then pair (mkR a (mn b d)) (mkR (mx c a) d)
  else if k = 15 then pair (mkR (mx a c) (mn b d)) (mkR (mx a c) (mn b d))
  else pair (if c = d then withoutR a b c else (a, b)) (if a = b then withoutR c d a else (c, d))
def guardR (k a b c d : Int) : R4 := if k = 13 ∨ k = 14 then flip (guard1 (k - 2) c d a b) else guard1 k a b c d
/-- Nothing is left of both if nothing is left of one. -/
def cut4 (p : R4) : R4 := if p.2.1 < p.1 ∨ p.2.2.2 < p.2.2.1 then (1, 0, 1, 0) else p
def rguard (k a b c d : Int) : R4 := if ((smR a b && smR c d) && (decide (11 ≤ k) && decide (k ≤ 16))) = true then cut4 (guardR k a b c d) else (1, 0, 1, 0)
theorem without_i {a b x : Int} (h : smR a b = true) : impl_without.f a b x = some (withoutR a b x) := by
  rw [smR_iff] at h
  unfold impl_without.f withoutR
  simp only [i_of]
  by_cases h1 : a = x
  · rw [if_pos h1.symm, if_pos h1, w64 (by omega) (by omega)]; rfl
  · rw [if_neg (by omega), if_neg h1]
    by_cases h2 : b = x
    · rw [if_pos h2.symm, if_pos h2, w64 (by omega) (by omega)]; rfl
    · rw [if_neg (by omega), if_neg h2]
theorem without_s {a b x : Int} (h : smR a b = true) : spec_l06Without.f a b x = some (withoutR a b x) := by
  rw [smR_iff] at h
  unfold spec_l06Without.f withoutR
  simp only [s_make]
  by_cases h1 : a = x
  · rw [if_pos h1, if_pos h1, w64 (by omega) (by omega)]; rfl
  · rw [if_neg h1, if_neg h1]
    by_cases h2 : b = x
    · rw [if_pos h2, if_pos h2, w64 (by omega) (by omega)]; rfl
    · rw [if_neg h2, if_neg h2]
theorem guard1_i {a b c d : Int} (h1 : smR a b = true) (h2 : smR c d = true) (n : Nat) {k : Int} (hk : k ≠ 13) (hk2 : k ≠ 14) : impl_guard.f (n + 6) k a b c d = some (guard1 k a b c d) := by
  have h1' := h1
  have h2' := h2
  rw [smR_iff] at h1' h2'
  rw [impl_guard.f]
  simp only [i_of, Option.bind_some]
  unfold guard1 pair
  by_cases c1 : k = 11
  · rw [if_pos c1, if_pos c1, w64 (by omega) (by omega), w64 (by omega) (by omega)]
  rw [if_neg c1, if_neg c1]
  by_cases c2 : k = 12
  · rw [if_pos c2, if_pos c2]
  rw [if_neg c2, if_neg c2, if_neg hk]
  have e14 : (k == 14) = false := by simpa using hk2
  rw [e14, impl_guard.j0]
  simp only [Bool.false_eq_true, if_false]
  by_cases c3 : k = 15
  · rw [if_pos c3, if_pos c3, show n + 4 = (n + 1) + 3 by omega, i_meet]
    simp [iteR, h1, h2]
  rw [if_neg c3, if_neg c3]
  have j1 : ∀ x y z u, impl_guard.j1 (n + 4) a b c d x y z u = some (if a = b then (x, y, (withoutR c d a).1, (withoutR c d a).2) else (x, y, z, u)) := by
    intro x y z u
    rw [show n + 4 = (n + 3) + 1 by omega, impl_guard.j1, without_i h2]
    simp only [Option.bind_some]
    split <;> rfl
  simp only [without_i h1, Option.bind_some, j1]
  (repeat' split) <;> rfl
theorem guardR_i {a b c d : Int} (h1 : smR a b = true) (h2 : smR c d = true) (n : Nat) (k : Int) (hk : 11 ≤ k ∧ k ≤ 16) : impl_guard.f (n + 8) k a b c d = some (guardR k a b c d) := by
  unfold guardR
  by_cases h : k = 13 ∨ k = 14
  · rw [if_pos h, impl_guard.f]
    rw [if_neg (by omega), if_neg (by omega)]
    have e : wrap64 (wrap64 (k - 13) + 11) = k - 2 := by unfold wrap64; omega
    have jj : impl_guard.j0 (n + 7) k k true a b c d = some (flip (guard1 (k - 2) c d a b)) := by
      rw [show n + 7 = (n + 6) + 1 by omega, impl_guard.j0]
      simp only [if_true]
      rw [e, guard1_i h2 h1 n (by omega) (by omega)]; rfl
    rcases h with rfl | rfl
    · rw [if_pos rfl]; exact jj
    · rw [if_neg (by omega)]; exact jj
  · rw [if_neg h, show n + 8 = (n + 2) + 6 by omega]
    exact guard1_i h1 h2 (n + 2) (by omega) (by omega)
theorem mkR_none (a b : Int) : ((mkR a b).1 = 1 ∧ (mkR a b).2 = 0) ∨ (mkR a b).1 ≤ (mkR a b).2 := by
  unfold mkR
  split
  · left; exact ⟨rfl, rfl⟩
  · right; simp only; omega
theorem withoutR_none {a b : Int} (x : Int) (h : a ≤ b) : ((withoutR a b x).1 = 1 ∧ (withoutR a b x).2 = 0) ∨ (withoutR a b x).1 ≤ (withoutR a b x).2 := by
  unfold withoutR
  (repeat' split) <;> first | exact mkR_none _ _ | exact .inr h
/-- Each half has numbers or is the one that has none. -/
def Half (p : R4) : Prop := ((p.1 = 1 ∧ p.2.1 = 0) ∨ p.1 ≤ p.2.1) ∧ ((p.2.2.1 = 1 ∧ p.2.2.2 = 0) ∨ p.2.2.1 ≤ p.2.2.2)
theorem guard1_half {a b c d : Int} (h1 : a ≤ b) (h2 : c ≤ d) (k : Int) : Half (guard1 k a b c d) := by
  unfold guard1 pair
  (repeat' split) <;> refine ⟨?_, ?_⟩ <;> first | exact mkR_none _ _ | exact withoutR_none _ h1 | exact withoutR_none _ h2 | exact .inr h1 | exact .inr h2
theorem guardR_half {a b c d : Int} (h1 : a ≤ b) (h2 : c ≤ d) (k : Int) : Half (guardR k a b c d) := by
  unfold guardR
  split
  · have := guard1_half h2 h1 (k - 2)
    exact ⟨this.2, this.1⟩
  · exact guard1_half h1 h2 k
theorem i_guard (n : Nat) (k a b c d : Int) : impl_RangeGuard.f (n + 9) k a b c d = some (rguard k a b c d) := by
  unfold impl_RangeGuard.f rguard
  rw [show n + 9 = (n + 6) + 3 by omega, i_are2]
  simp only [Option.bind_some, inR]
  rw [show (n + 6) + 3 = (n + 8) + 1 by omega]
  unfold impl_RangeGuard.j0
  by_cases h : (smR a b && smR c d) = true
  · rw [if_pos h, h, Bool.true_and]
    by_cases h3 : (decide (11 ≤ k) && decide (k ≤ 16)) = true
    · simp only [h3, Bool.not_true, Bool.false_eq_true, if_false, if_true]
      rw [Bool.and_eq_true] at h
      rw [Bool.and_eq_true, decide_eq_true_eq, decide_eq_true_eq] at h3
      have ha := h.1
      have hc := h.2
      rw [smR_iff] at ha hc
      rw [guardR_i h.1 h.2 n k h3]
      simp only [Option.bind_some]
      have hh := guardR_half ha.2.2 hc.2.2 k
      unfold cut4
      generalize guardR k a b c d = p at hh ⊢
      obtain ⟨x, y, z, u⟩ := p
      unfold Half at hh
      simp only at hh ⊢
      by_cases q1 : (x == 1 && y == 0) = true
      · rw [if_pos q1]
        simp only [Bool.and_eq_true, beq_iff_eq] at q1
        rw [if_pos (by omega)]
      · rw [if_neg q1]
        simp only [Bool.and_eq_true, beq_iff_eq] at q1
        by_cases q2 : (z == 1 && u == 0) = true
        · rw [if_pos q2]
          simp only [Bool.and_eq_true, beq_iff_eq] at q2
          rw [if_pos (by omega)]
        · rw [if_neg q2]
          simp only [Bool.and_eq_true, beq_iff_eq] at q2
          rw [if_neg (by omega)]
    · rw [Bool.not_eq_true] at h3
      simp [h3]
  · rw [if_neg h]
    rw [Bool.not_eq_true] at h
    simp [h]
theorem j2_s (n : Nat) (x y z u : Int) : spec_RangeGuard.j2 (n + 2) x y z u = some (cut4 (x, y, z, u)) := by
  rw [show n + 2 = (n + 1) + 1 by omega, spec_RangeGuard.j2]
  simp only [s_is, Option.bind_some, spec_RangeGuard.j3, spec_l06None.f]
  have e : cut4 (x, y, z, u) = if y < x ∨ u < z then (1, 0, 1, 0) else (x, y, z, u) := rfl
  rw [e]
  by_cases h1 : x ≤ y
  · by_cases h2 : z ≤ u
    · have c : ¬ (y < x ∨ u < z) := by omega
      simp [h1, h2, c]
    · have c : y < x ∨ u < z := by omega
      simp [h1, h2, c]
  · have c : y < x ∨ u < z := by omega
    simp [h1, c]
theorem isCond (k : Int) : spec_l02IsCond.f k = some (decide (11 ≤ k) && decide (k ≤ 16)) := by
  unfold spec_l02IsCond.f; rw [btw]; rfl
theorem mn_s (a b : Int) : (if a < b then a else b) = mn a b := by unfold mn; split <;> split <;> omega
theorem mx_s (a b : Int) : (if b < a then a else b) = mx a b := by unfold mx; split <;> split <;> omega
theorem guard1_s {a b c d : Int} (h1 : smR a b = true) (h2 : smR c d = true) (n : Nat) {k : Int} (hk : k ≠ 13) (hk2 : k ≠ 14) (hk3 : 11 ≤ k ∧ k ≤ 16) : spec_RangeGuard.f (n + 6) k a b c d = some (cut4 (guard1 k a b c d)) := by
  have h1' := h1
  have h2' := h2
  rw [smR_iff] at h1' h2'
  rw [spec_RangeGuard.f, isCond, s_both, h1, h2]
  have e3 : (decide (11 ≤ k) && decide (k ≤ 16)) = true := by simp; omega
  rw [e3]
  simp only [Option.bind_some, if_true, Bool.and_self, Bool.not_true]
  rw [show n + 5 = (n + 4) + 1 by omega, spec_RangeGuard.j0]
  simp only [Bool.false_eq_true, if_false, s_make, s_min, s_max, Option.bind_some, mn_s, mx_s]
  have J2 : ∀ x y z u, spec_RangeGuard.j2 (n + 4) x y z u = some (cut4 (x, y, z, u)) := fun x y z u => j2_s (n + 2) x y z u
  unfold guard1 pair
  by_cases c1 : k = 11
  · rw [if_pos c1, if_pos c1, w64 (by omega) (by omega), w64 (by omega) (by omega), J2]
  rw [if_neg c1, if_neg c1]
  by_cases c2 : k = 12
  · rw [if_pos c2, if_pos c2, J2]
  rw [if_neg c2, if_neg c2, if_neg hk]
  have e14 : (k == 14) = false := by simpa using hk2
  rw [e14, show n + 4 = (n + 3) + 1 by omega, spec_RangeGuard.j1]
  simp only [Bool.false_eq_true, if_false]
  have J3 : ∀ x y z u, spec_RangeGuard.j2 (n + 3) x y z u = some (cut4 (x, y, z, u)) := fun x y z u => j2_s (n + 1) x y z u
  by_cases c3 : k = 15
  · rw [if_pos c3, if_pos c3, s_meet]
    simp [iteR, h1, h2, J3]
  rw [if_neg c3, if_neg c3, without_s h1, without_s h2]
  simp only [Option.bind_some, J3]
  (repeat' split) <;> rfl
theorem cut4_flip (p : R4) : cut4 (flip p) = flip (cut4 p) := by
  obtain ⟨x, y, z, u⟩ := p
  unfold cut4 flip
  simp only
  by_cases h : y < x ∨ u < z
  · rw [if_pos h, if_pos (by omega)]
  · rw [if_neg h, if_neg (by omega)]
theorem cut4_cut4 (p : R4) : cut4 (cut4 p) = cut4 p := by
  obtain ⟨x, y, z, u⟩ := p
  unfold cut4
  by_cases h : y < x ∨ u < z
  · rw [if_pos h]; rfl
  · rw [if_neg h, if_neg h]
theorem s_guard (n : Nat) (k a b c d : Int) : spec_RangeGuard.f (n + 10) k a b c d = some (rguard k a b c d) := by
  unfold rguard
  by_cases h : ((smR a b && smR c d) && (decide (11 ≤ k) && decide (k ≤ 16))) = true
  · rw [if_pos h]
    simp only [Bool.and_eq_true, decide_eq_true_eq] at h
    obtain ⟨⟨h1, h2⟩, h3⟩ := h
    unfold guardR
    by_cases hk : k = 13 ∨ k = 14
    · rw [if_pos hk, spec_RangeGuard.f, isCond, s_both, h1, h2]
      have e3 : (decide (11 ≤ k) && decide (k ≤ 16)) = true := by simp; omega
      rw [e3]
      simp only [Option.bind_some, if_true, Bool.and_self, Bool.not_true]
      rw [show n + 9 = (n + 8) + 1 by omega, spec_RangeGuard.j0]
      simp only [Bool.false_eq_true, if_false, s_make, s_min, s_max, Option.bind_some]
      rw [if_neg (by omega), if_neg (by omega)]
      have e : wrap64 (wrap64 (k - 13) + 11) = k - 2 := by unfold wrap64; omega
      have jj : spec_RangeGuard.j1 (n + 8) k k true a b c d a b c d = some (cut4 (flip (guard1 (k - 2) c d a b))) := by
        rw [show n + 8 = (n + 7) + 1 by omega, spec_RangeGuard.j1]
        simp only [if_true]
        rw [e, show n + 7 = (n + 1) + 6 by omega, guard1_s h2 h1 (n + 1) (by omega) (by omega) (by omega)]
        simp only [Option.bind_some]
        rw [show (n + 1) + 6 = (n + 5) + 2 by omega, j2_s, cut4_flip]
        have := cut4_flip (cut4 (guard1 (k - 2) c d a b))
        rw [cut4_cut4] at this
        rw [← this]; rfl
      rcases hk with rfl | rfl
      · rw [if_pos rfl]; exact jj
      · rw [if_neg (by omega)]; exact jj
    · rw [if_neg hk, show n + 10 = (n + 4) + 6 by omega]
      exact guard1_s h1 h2 (n + 4) (by omega) (by omega) h3
  · rw [if_neg h, spec_RangeGuard.f, isCond, s_both]
    simp only [Option.bind_some]
    rw [show n + 9 = (n + 8) + 1 by omega]
    unfold spec_RangeGuard.j0 spec_l06None.f
    rw [Bool.not_eq_true] at h
    cases h3 : (decide (11 ≤ k) && decide (k ≤ 16))
    · simp
    · rw [h3, Bool.and_true] at h
      simp [h]
end Go.Proofs.YthkdkcdbjbihkaaDoor.Q
