/- What is drawn out of a row of bytes: the drawing never fails, and a drawn number is below its bound. -/
import Derived.Test.YthkdkcdbjbihkaaDoorQLists
import Derived.Test.YthkdkcdbjbihkaaDoorQOpen
import Derived.Test.YthkdkcdbjbihkaaDoorQx27
import Derived.Test.YthkdkcdbjbihkaaDoorQx28
namespace Go.Proofs.YthkdkcdbjbihkaaDoor.Q
open Go.RowKit Go.Proofs.YthkdkcdbjbihkaaDoorW.PrintWords Go.Proofs.YthkdkcdbjbihkaaDoorW.PrintLast Go.Proofs.YthkdkcdbjbihkaaDoorW.PrintMore
open Go.Proofs.YthkdkcdbjbihkaaDoor.Open
set_option linter.unusedSimpArgs false
set_option linter.unusedVariables false
theorem tm {a n : Int} (h : 0 ≤ a) (hn : 0 < n) : 0 ≤ Int.tmod a n ∧ Int.tmod a n < n := by
  rw [Int.tmod_eq_emod_of_nonneg h]
  exact ⟨Int.emod_nonneg _ (by omega), Int.emod_lt_of_pos _ hn⟩
theorem td {a : Int} (h : 0 ≤ a) : 0 ≤ Int.tdiv a 7 ∧ Int.tdiv a 7 ≤ a := by
  rw [Int.tdiv_eq_ediv_of_nonneg h]; omega
def Bytes (l : List Int) : Prop := ∀ x ∈ l, 0 ≤ x ∧ x ≤ 255
theorem rd_byte {l : List Int} (h : Bytes l) (i : Int) : 0 ≤ rd l i ∧ rd l i ≤ 255 := by
  unfold rd
  rcases Nat.lt_or_ge i.toNat l.length with h1 | h1
  · have : l.getD i.toNat 0 = l[i.toNat] := by simp [h1]
    rw [this]; exact h _ (List.getElem_mem h1)
  · have : l.getD i.toNat 0 = 0 := by simp [h1]
    rw [this]; omega
theorem bytes_of {l : List Int} (h : ∀ x ∈ l, (Lit.int .u8 x).wf = true) : Bytes l := by
  intro x hx
  have := h x hx
  have e : (decide ((0 : Int) ≤ x) && decide (x ≤ 255)) = true := this
  simp only [Bool.and_eq_true, decide_eq_true_eq] at e
  exact e
theorem pick_ok {code : List Int} (hb : Bytes code) (hl : code.length ≤ 1048576) {at_ seed n : Int} (h0 : 0 ≤ at_) (h1 : at_ ≤ 4611686018427387904) (h2 : 0 ≤ seed) (h3 : seed < 65521) (hn : 1 ≤ n) (hn2 : n ≤ 100000000) :
    ∃ v at1 seed1, spec_l01Cur_pick.f code at_ seed n = some (v, at1, seed1) ∧ 0 ≤ v ∧ v < n ∧ 0 ≤ at1 ∧ at1 ≤ at_ + 2 ∧ 0 ≤ seed1 ∧ seed1 < 65521 := by
  unfold spec_l01Cur_pick.f
  by_cases c1 : n < 2
  · rw [if_pos c1]; exact ⟨_, _, _, rfl, by omega, by omega, by omega, by omega, by omega, by omega⟩
  rw [if_neg c1]
  have e1 : wrap64 (at_ + 1) = at_ + 1 := w64 (by omega) (by omega)
  have e2 : wrap64 (at_ + 1 + 1) = at_ + 2 := by rw [w64 (by omega) (by omega)]; omega
  have b0 := rd_byte hb at_
  have b1 := rd_byte hb (at_ + 1)
  by_cases c2 : at_ < (code.length : Int)
  · rw [if_pos c2, if_pos h0, w64 (n := rd code at_) (by omega) (by omega)]
    have t0 := tm b0.1 (show 0 < n by omega)
    by_cases c3 : n > 200
    · rw [if_pos c3, e1]
      by_cases c4 : at_ + 1 < (code.length : Int)
      · rw [if_pos c4, if_pos (by omega), if_neg (by omega), e2, w64 (n := rd code (at_ + 1)) (by omega) (by omega), w64 (n := 256 * rd code at_) (by omega) (by omega), w64 (n := 256 * rd code at_ + rd code (at_ + 1)) (by omega) (by omega)]
        have t1 := tm (show 0 ≤ 256 * rd code at_ + rd code (at_ + 1) by omega) (show 0 < n by omega)
        exact ⟨_, _, _, rfl, t1.1, t1.2, by omega, by omega, h2, h3⟩
      · rw [if_neg c4, if_neg (by omega)]
        exact ⟨_, _, _, rfl, t0.1, t0.2, by omega, by omega, h2, h3⟩
    · rw [if_neg c3, if_neg (by omega), e1]
      exact ⟨_, _, _, rfl, t0.1, t0.2, by omega, by omega, h2, h3⟩
  · rw [if_neg c2, w64 (n := seed * 1103) (by omega) (by omega), w64 (n := seed * 1103 + 12345) (by omega) (by omega), e1]
    have t0 := tm (show 0 ≤ seed * 1103 + 12345 by omega) (show (0 : Int) < 65521 by omega)
    generalize Int.tmod (seed * 1103 + 12345) 65521 = s at t0 ⊢
    have d0 := td t0.1
    generalize Int.tdiv s 7 = u at d0 ⊢
    by_cases c3 : (code.length : Int) > 0
    · have t1 := tm h0 c3
      have b2 := rd_byte hb (Int.tmod at_ (code.length : Int))
      rw [if_pos c3, if_neg (by omega), if_pos t1.1, if_pos t1.2, if_neg (by omega)]
      generalize rd code (Int.tmod at_ (code.length : Int)) = r at b2 ⊢
      rw [w64 (n := u) (by omega) (by omega), w64 (n := r) (by omega) (by omega), w64 (n := u + r) (by omega) (by omega)]
      have t2 := tm (show 0 ≤ u + r by omega) (show 0 < n by omega)
      exact ⟨_, _, _, rfl, t2.1, t2.2, by omega, by omega, t0.1, t0.2⟩
    · rw [if_neg c3, if_neg (by omega)]
      exact ⟨_, _, _, rfl, by simp, by simp; omega, by omega, by omega, t0.1, t0.2⟩
theorem number_ok {code : List Int} (hb : Bytes code) (hl : code.length ≤ 1048576) {at_ seed : Int} (h0 : 0 ≤ at_) (h1 : at_ ≤ 4611686018427387900) (h2 : 0 ≤ seed) (h3 : seed < 65521) :
    ∃ v at1 seed1, spec_l01Cur_number.f code at_ seed = some (v, at1, seed1) ∧ 0 ≤ at1 ∧ at1 ≤ at_ + 4 ∧ 0 ≤ seed1 ∧ seed1 < 65521 := by
  unfold spec_l01Cur_number.f
  obtain ⟨v, a1, s1, e, p1, p2, p3, p4, p5, p6⟩ := pick_ok hb hl h0 (by omega) h2 h3 (n := 8) (by omega) (by omega)
  rw [e]; simp only [Option.bind_some]
  by_cases c1 : v = 0
  · rw [if_pos c1]
    obtain ⟨v', a2, s2, e', q1, q2, q3, q4, q5, q6⟩ := pick_ok hb hl p3 (by omega) p5 p6 (n := 256) (by omega) (by omega)
    rw [e']; exact ⟨_, a2, s2, rfl, q3, by omega, q5, q6⟩
  rw [if_neg c1]
  by_cases c2 : v = 1
  · rw [if_pos c2]
    obtain ⟨v', a2, s2, e', q1, q2, q3, q4, q5, q6⟩ := pick_ok hb hl p3 (by omega) p5 p6 (n := 8) (by omega) (by omega)
    rw [e']; simp only [Option.bind_some]
    rw [if_pos q1, if_pos (by simpa using q2)]
    exact ⟨_, a2, s2, rfl, q3, by omega, q5, q6⟩
  rw [if_neg c2]
  by_cases c3 : v = 2
  · rw [if_pos c3]
    obtain ⟨v', a2, s2, e', q1, q2, q3, q4, q5, q6⟩ := pick_ok hb hl p3 (by omega) p5 p6 (n := 65000) (by omega) (by omega)
    rw [e']; exact ⟨_, a2, s2, rfl, q3, by omega, q5, q6⟩
  rw [if_neg c3]
  obtain ⟨v', a2, s2, e', q1, q2, q3, q4, q5, q6⟩ := pick_ok hb hl p3 (by omega) p5 p6 (n := 12) (by omega) (by omega)
  rw [e']; exact ⟨_, a2, s2, rfl, q3, by omega, q5, q6⟩
end Go.Proofs.YthkdkcdbjbihkaaDoor.Q
