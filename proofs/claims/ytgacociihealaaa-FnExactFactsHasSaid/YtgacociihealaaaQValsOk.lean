/- The check of a row of values: the program's and the reference's as one plain function. -/
import Derived.Test.YtgacociihealaaaQLists
import Derived.Test.YtgacociihealaaaQOpen
import Derived.Test.YtgacociihealaaaQx12
import Derived.Test.YtgacociihealaaaQx13
import Derived.Test.YtgacociihealaaaQx15
import Derived.Test.YtgacociihealaaaQx3
import Derived.Test.YtgacociihealaaaQx5
namespace Go.Proofs.Ytgacociihealaaa.Q
open Go.RowKit Go.Proofs.YtgacociihealaaaW.PrintWords Go.Proofs.YtgacociihealaaaW.PrintLast Go.Proofs.YtgacociihealaaaW.PrintMore
open Go.Proofs.Ytgacociihealaaa.Open
set_option linter.unusedSimpArgs false
set_option linter.unusedVariables false
theorem inR_V (a b c : Int) : impl_inRange.f a b c = some (decide (b ≤ a) && decide (a ≤ c)) := by
  unfold impl_inRange.f
  by_cases h : b ≤ a <;> simp [h]
theorem btw_V (a b c : Int) : spec_l01Between.f a b c = some (decide (b ≤ a) && decide (a ≤ c)) := by
  unfold spec_l01Between.f
  by_cases h : b ≤ a <;> simp [h]
def isV (x : Int) : Bool := decide (-1000000 ≤ x) && decide (x ≤ 1000000)
theorem i_isV (x : Int) : impl_isVal.f x = some (isV x) := by unfold impl_isVal.f; rw [inR_V]; rfl
theorem s_isV (x : Int) : spec_l05Val.f x = some (isV x) := by unfold spec_l05Val.f; rw [btw_V]; rfl
theorem idx_V (l : List Int) (hn : l.length < 9223372036854775807) : ∀ t k i, l.drop i = t → t.length < k → ∃ r, slices_IndexFunc__impl_valsOk_1.l0 k l (l.length : Int) (i : Int) = some r ∧ decide (r ≥ 0) = !t.all isV
  | [], k + 1, i, h, hk => by
    have := drop_nil h
    unfold slices_IndexFunc__impl_valsOk_1.l0
    rw [if_neg (by omega)]
    exact ⟨-1, rfl, rfl⟩
  | x :: t, k + 1, i, h, hk => by
    obtain ⟨h1, h2, h3⟩ := drop_cons h
    obtain ⟨r, hr, hd⟩ := idx_V l hn t k (i + 1) h3 (by simp at hk; omega)
    unfold slices_IndexFunc__impl_valsOk_1.l0 impl_valsOk_1.f
    rw [if_pos (by omega), if_pos (by omega), if_pos (by omega), rd_at h2, i_isV, w64s i (by omega), hr]
    simp only [Option.bind_some]
    cases hv : isV x
    · exact ⟨(i : Int), by simp, by simp [hv]⟩
    · exact ⟨r, by simp, by simp only [List.all_cons, hv, Bool.true_and]; exact hd⟩
theorem all_V (l : List Int) (hn : l.length < 9223372036854775807) : ∀ t k i, l.drop i = t → t.length < k → spec_l07Vals.l0 k (l.length : Int) l (i : Int) = some (t.all isV)
  | [], k + 1, i, h, hk => by
    have := drop_nil h
    unfold spec_l07Vals.l0
    rw [if_neg (by omega)]; rfl
  | x :: t, k + 1, i, h, hk => by
    obtain ⟨h1, h2, h3⟩ := drop_cons h
    have ih := all_V l hn t k (i + 1) h3 (by simp at hk; omega)
    unfold spec_l07Vals.l0
    rw [if_pos (by omega), if_pos (by omega), if_pos (by omega), rd_at h2, s_isV, w64s i (by omega), ih]
    simp only [Option.bind_some, List.all_cons]
    cases isV x <;> simp
def valsP (l : List Int) : Bool := decide (1 ≤ l.length) && (rd l 0 == 0) && l.all isV
theorem s_vals (k : Nat) (l : List Int) (hn : l.length ≤ 1048576) (hk : l.length < k) : spec_l07Vals.f (k + 1) (l.length : Int) l = some (valsP l) := by
  unfold spec_l07Vals.f spec_l07Vals.j0 valsP
  rw [if_pos rfl]
  by_cases h1 : 1 ≤ l.length
  · rw [if_neg (by omega), if_pos (by omega)]
    have := all_V l (by omega) l k 0 rfl hk
    by_cases h0 : rd l 0 = 0
    · simp only [h0, bne_self_eq_false, Bool.false_eq_true, if_false]
      simp only [h1, decide_true, Bool.true_and, beq_self_eq_true]
      exact this
    · simp [h0]
  · rw [if_pos (by omega)]; simp; omega
theorem i_vals (k : Nat) (l : List Int) (hn : l.length ≤ 1048576) (hk : l.length < k) : impl_valsOk.f k l (l.length : Int) = some (decide (l.length ≤ 13) && valsP l) := by
  unfold impl_valsOk.f valsP slices_ContainsFunc__impl_valsOk_1.f slices_IndexFunc__impl_valsOk_1.f
  rw [if_pos rfl, inR_V]
  obtain ⟨r, hr, hd⟩ := idx_V l (by omega) l k 0 rfl hk
  have hr' : slices_IndexFunc__impl_valsOk_1.l0 k l (l.length : Int) 0 = some r := hr
  simp only [Option.bind_some, hr', hd, Bool.not_not]
  by_cases h1 : 1 ≤ l.length
  · have e1 : decide ((1 : Int) ≤ (l.length : Int)) = true := by simp; omega
    have e2 : decide ((l.length : Int) ≤ 13) = decide (l.length ≤ 13) := by rw [decide_eq_decide]; omega
    rw [e1, e2, if_pos (show (0 : Int) < (l.length : Int) by omega)]
    by_cases h0 : rd l 0 = 0
    · simp only [h0, h1, Bool.true_and, decide_true, beq_self_eq_true, if_true]
      cases decide (l.length ≤ 13) <;> simp
    · simp [h0]
  · have e1 : decide ((1 : Int) ≤ (l.length : Int)) = false := by simp; omega
    rw [e1]; simp [h1]
theorem s_valsN (k : Nat) (n : Int) (l : List Int) (hn : l.length ≤ 1048576) (hk : l.length < k) : spec_l07Vals.f (k + 1) n l = some (decide ((l.length : Int) = n) && valsP l) := by
  by_cases h : (l.length : Int) = n
  · subst h; rw [s_vals k l hn hk]; simp
  · unfold spec_l07Vals.f spec_l07Vals.j0
    rw [if_neg h]; simp [h]
theorem i_valsN (k : Nat) (n : Int) (l : List Int) (hn : l.length ≤ 1048576) (hk : l.length < k) : impl_valsOk.f k l n = some (decide ((l.length : Int) = n) && (decide (l.length ≤ 13) && valsP l)) := by
  by_cases h : (l.length : Int) = n
  · subst h; rw [i_vals k l hn hk]; simp
  · unfold impl_valsOk.f
    rw [if_neg h]; simp [h]
end Go.Proofs.Ytgacociihealaaa.Q
