/- The law FnExactSymVal holds: the program's SymVal and the reference's answer alike, at all arguments, and the program leaves the values as they were. No conditions. -/
import Derived.Test.YtognjmgkbmmjjaaQPureFnExactSymVal
import Derived.Test.YtognjmgkbmmjjaaQLists
import Derived.Test.YtognjmgkbmmjjaaQInts
import Derived.Test.YtognjmgkbmmjjaaQOpen
import Derived.Test.YtognjmgkbmmjjaaQx1
import Derived.Test.YtognjmgkbmmjjaaQx3
import Derived.Test.YtognjmgkbmmjjaaQx4
import Derived.Test.YtognjmgkbmmjjaaQx5
import Derived.Test.YtognjmgkbmmjjaaQx6
import Derived.Test.YtognjmgkbmmjjaaQx7
namespace Go.Proofs.Ytognjmgkbmmjjaa.Q
open Go.RowKit Go.Proofs.YtognjmgkbmmjjaaW.PrintWords Go.Proofs.YtognjmgkbmmjjaaW.PrintLast Go.Proofs.YtognjmgkbmmjjaaW.PrintMore
open Go.Proofs.Ytognjmgkbmmjjaa.Open
set_option linter.unusedSimpArgs false
set_option linter.unusedVariables false
theorem inR_SymVal (a b c : Int) : impl_inRange.f a b c = some (decide (b ≤ a) && decide (a ≤ c)) := by
  unfold impl_inRange.f
  by_cases h : b ≤ a <;> simp [h]
theorem btw_SymVal (a b c : Int) : spec_l01Between.f a b c = some (decide (b ≤ a) && decide (a ≤ c)) := by
  unfold spec_l01Between.f
  by_cases h : b ≤ a <;> simp [h]
def isV (x : Int) : Bool := decide (-1000000 ≤ x) && decide (x ≤ 1000000)
theorem i_isV (x : Int) : impl_isVal.f x = some (isV x) := by unfold impl_isVal.f; rw [inR_SymVal]; rfl
theorem s_isV (x : Int) : spec_l05Val.f x = some (isV x) := by unfold spec_l05Val.f; rw [btw_SymVal]; rfl
theorem idx_V (l : List Int) (hn : l.length < 9223372036854775807) : ∀ t k i, l.drop i = t → t.length < k → ∃ r, slices_IndexFunc__impl_valsOk_1.l0 k l (l.length : Int) (i : Int) = some r ∧ decide (r ≥ 0) = !t.all isV
  | [], k + 1, i, h, hk => by
    have := drop_nil h
    unfold slices_IndexFunc__impl_valsOk_1.l0
    rw [if_neg (by omega)]
    exact ⟨-1, rfl, rfl⟩
  | x :: t, k + 1, i, h, hk => by
    obtain ⟨h1, h2, h3⟩ := drop_cons h
    obtain ⟨r, hr, hd⟩ := idx_V l hn t k (i + 1) h3 (by simp at hk; omega)
    unfold slices_IndexFunc__impl_valsOk_1.l0 impl_valsOk_1.f
    rw [if_pos (by omega), if_pos (by omega), if_pos (by omega), rd_at h2, i_isV, w64s i (by omega), hr]
    simp only [Option.bind_some]
    cases hv : isV x
    · exact ⟨(i : Int), by simp, by simp [hv]⟩
    · exact ⟨r, by simp, by simp only [List.all_cons, hv, Bool.true_and]; exact hd⟩
theorem all_V (l : List Int) (hn : l.length < 9223372036854775807) : ∀ t k i, l.drop i = t → t.length < k → spec_l07Vals.l0 k (l.length : Int) l (i : Int) = some (t.all isV)
  | [], k + 1, i, h, hk => by
    have := drop_nil h
    unfold spec_l07Vals.l0
    rw [if_neg (by omega)]; rfl
  | x :: t, k + 1, i, h, hk => by
    obtain ⟨h1, h2, h3⟩ := drop_cons h
    have ih := all_V l hn t k (i + 1) h3 (by simp at hk; omega)
    unfold spec_l07Vals.l0
    rw [if_pos (by omega), if_pos (by omega), if_pos (by omega), rd_at h2, s_isV, w64s i (by omega), ih]
    simp only [Option.bind_some, List.all_cons]
    cases isV x <;> simp
def valsP (l : List Int) : Bool := decide (1 ≤ l.length) && (rd l 0 == 0) && l.all isV
theorem s_vals (k : Nat) (l : List Int) (hn : l.length ≤ 1048576) (hk : l.length < k) : spec_l07Vals.f (k + 1) (l.length : Int) l = some (valsP l) := by
  unfold spec_l07Vals.f spec_l07Vals.j0 valsP
  rw [if_pos rfl]
  by_cases h1 : 1 ≤ l.length
  · rw [if_neg (by omega), if_pos (by omega)]
    have := all_V l (by omega) l k 0 rfl hk
    by_cases h0 : rd l 0 = 0
    · simp only [h0, bne_self_eq_false, Bool.false_eq_true, if_false]
      simp only [h1, decide_true, Bool.true_and, beq_self_eq_true]
      exact this
    · simp [h0]
  · rw [if_pos (by omega)]; simp; omega
theorem i_vals (k : Nat) (l : List Int) (hn : l.length ≤ 1048576) (hk : l.length < k) : impl_valsOk.f k l (l.length : Int) = some (decide (l.length ≤ 13) && valsP l) := by
  unfold impl_valsOk.f valsP slices_ContainsFunc__impl_valsOk_1.f slices_IndexFunc__impl_valsOk_1.f
  rw [if_pos rfl, inR_SymVal]
  obtain ⟨r, hr, hd⟩ := idx_V l (by omega) l k 0 rfl hk
  have hr' : slices_IndexFunc__impl_valsOk_1.l0 k l (l.length : Int) 0 = some r := hr
  simp only [Option.bind_some, hr', hd, Bool.not_not]
  by_cases h1 : 1 ≤ l.length
  · have e1 : decide ((1 : Int) ≤ (l.length : Int)) = true := by simp; omega
    have e2 : decide ((l.length : Int) ≤ 13) = decide (l.length ≤ 13) := by rw [decide_eq_decide]; omega
    rw [e1, e2, if_pos (show (0 : Int) < (l.length : Int) by omega)]
    by_cases h0 : rd l 0 = 0
    · simp only [h0, h1, Bool.true_and, decide_true, beq_self_eq_true, if_true]
      cases decide (l.length ≤ 13) <;> simp
    · simp [h0]
  · have e1 : decide ((1 : Int) ≤ (l.length : Int)) = false := by simp; omega
    rw [e1]; simp [h1]
theorem yoursFnExactSymVal : laws_FnExactSymVal.Pure := by
  intro a b l _ _ _
  refine ⟨l.length + 4, ?_⟩
  unfold laws_FnExactSymVal.f
  split
  · rfl
  · have hn : l.length ≤ 1048576 := by omega
    unfold laws_FnExactSymVal.j0 laws_toSym.f
    have main : ∃ q, spec_SymVal.f (l.length + 4) a b l = some q ∧ impl_SymVal.f (l.length + 4) a b l = some q := by
      unfold spec_SymVal.f impl_SymVal.f impl_isPlace.f impl_isFar.f spec_l08Off.f
      simp only [s_vals (l.length + 3) l hn (by omega), i_vals (l.length + 4) l hn (by omega), inR_SymVal, btw_SymVal, Option.bind_some]
      by_cases h : l.length ≤ 13
      · rw [if_neg (by omega)]
        simp only [h, decide_true, Bool.true_and]
        cases hv : valsP l
        · exact ⟨(0, false), by simp, by simp⟩
        · have h1 : 1 ≤ l.length := by simp [valsP] at hv; omega
          simp only [if_true]
          rw [w64 (by omega) (by omega)]
          by_cases p : 0 ≤ a ∧ a < (l.length : Int)
          · have e : (decide (0 ≤ a) && decide (a ≤ (l.length : Int) - 1)) = true := by simp; omega
            have e' : (decide (0 ≤ a) && decide (a < (l.length : Int))) = true := by simp; omega
            rw [e]
            simp only [if_true, if_pos p.1, if_pos p.2]
            cases decide (-2000000 ≤ b) && decide (b ≤ 2000000)
            · exact ⟨(0, false), rfl, rfl⟩
            · exact ⟨_, rfl, rfl⟩
          · have e : (decide (0 ≤ a) && decide (a ≤ (l.length : Int) - 1)) = false := by simp; omega
            have e' : (decide (0 ≤ a) && decide (a < (l.length : Int))) = false := by simp; omega
            simp only [e, e', Bool.false_eq_true, if_false]
            exact ⟨_, rfl, rfl⟩
      · rw [if_pos (by omega)]
        exact ⟨_, rfl, by simp [h]⟩
    obtain ⟨q, h1, h2⟩ := main
    simp only [Option.bind_some, toInts _ l (show l.length < l.length + 4 by omega) hn, h1, h2]
    simp [toInts (l.length + 3) l (by omega) hn, eqInts (l.length + 3) l (by omega) hn]
end Go.Proofs.Ytognjmgkbmmjjaa.Q
