/- A drawn range and drawn steps: the drawing never fails. -/
import Derived.Test.YthkdkcdbjbihkaaDoorQDraw
import Derived.Test.YthkdkcdbjbihkaaDoorQRng
import Derived.Test.YthkdkcdbjbihkaaDoorQOpen
import Derived.Test.YthkdkcdbjbihkaaDoorQx2
import Derived.Test.YthkdkcdbjbihkaaDoorQx27
import Derived.Test.YthkdkcdbjbihkaaDoorQx28
import Derived.Test.YthkdkcdbjbihkaaDoorQx29
import Derived.Test.YthkdkcdbjbihkaaDoorQx30
namespace Go.Proofs.YthkdkcdbjbihkaaDoor.Q
open Go.RowKit Go.Proofs.YthkdkcdbjbihkaaDoorW.PrintWords Go.Proofs.YthkdkcdbjbihkaaDoorW.PrintLast Go.Proofs.YthkdkcdbjbihkaaDoorW.PrintMore
open Go.Proofs.YthkdkcdbjbihkaaDoor.Open
set_option linter.unusedSimpArgs false
set_option linter.unusedVariables false
theorem drawR_ok {code : List Int} (hb : Bytes code) (hl : code.length ≤ 1048576) {at_ seed : Int} (h0 : 0 ≤ at_) (h1 : at_ ≤ 4611686018427387000) (h2 : 0 ≤ seed) (h3 : seed < 65521) :
    ∃ a b at1 seed1, spec_l06DrawRange.f code at_ seed = some (a, b, at1, seed1) ∧ 0 ≤ at1 ∧ at1 ≤ at_ + 10 ∧ 0 ≤ seed1 ∧ seed1 < 65521 := by
  unfold spec_l06DrawRange.f spec_l06None.f
  obtain ⟨v, a1, s1, e, p1, p2, p3, p4, p5, p6⟩ := pick_ok hb hl h0 (by omega) h2 h3 (n := 9) (by omega) (by omega)
  rw [e]; simp only [Option.bind_some, s_val, s_make]
  by_cases c1 : v = 0
  · rw [if_pos c1]; exact ⟨_, _, a1, s1, rfl, p3, by omega, p5, p6⟩
  rw [if_neg c1]
  by_cases c2 : v = 1
  · rw [if_pos c2]; exact ⟨_, _, a1, s1, rfl, p3, by omega, p5, p6⟩
  rw [if_neg c2]
  by_cases c3 : v = 2
  · rw [if_pos c3]
    obtain ⟨v', a2, s2, e', q1, q2, q3, q4, q5, q6⟩ := pick_ok hb hl p3 (by omega) p5 p6 (n := 9) (by omega) (by omega)
    rw [e']; exact ⟨_, _, a2, s2, rfl, q3, by omega, q5, q6⟩
  rw [if_neg c3]
  obtain ⟨x, a2, s2, e2, q3, q4, q5, q6⟩ := number_ok hb hl p3 (by omega) p5 p6
  rw [e2]; simp only [Option.bind_some]
  by_cases c4 : v = 3
  · rw [if_pos c4]
    obtain ⟨y, a3, s3, e3, r3, r4, r5, r6⟩ := number_ok hb hl q3 (by omega) q5 q6
    rw [e3]; exact ⟨_, _, a3, s3, rfl, r3, by omega, r5, r6⟩
  rw [if_neg c4]
  obtain ⟨y, a3, s3, e3, r1, r2, r3, r4, r5, r6⟩ := pick_ok hb hl q3 (by omega) q5 q6 (n := 20) (by omega) (by omega)
  rw [e3]; simp only [Option.bind_some]
  split
  · exact ⟨_, _, a3, s3, rfl, r3, by omega, r5, r6⟩
  · exact ⟨_, _, a3, s3, rfl, r3, by omega, r5, r6⟩
theorem steps_l1 {code : List Int} (hb : Bytes code) (hl : code.length ≤ 1048576) : ∀ t k (x3 : List Int) (x4 at_ seed : Int), x3.length + t = 22 → t < k → 0 ≤ at_ → at_ + 2 * (t + 1 : Nat) ≤ 4611686018427387904 → 0 ≤ seed → seed < 65521 →
    ∃ out at1 seed1, spec_l06DrawSteps.l1 k x3 x4 code at_ seed = some (out, at1, seed1) ∧ out.length ≤ 22
  | t, k + 1, x3, x4, at_, seed, h, hk, h0, h1, h2, h3 => by
    unfold spec_l06DrawSteps.l1
    obtain ⟨v, a1, s1, e, p1, p2, p3, p4, p5, p6⟩ := pick_ok hb hl h0 (by omega) h2 h3 (n := 2) (by omega) (by omega)
    rw [e]; simp only [Option.bind_some]
    rw [w64 (by omega) (by omega)]
    by_cases c : (x3.length : Int) < 20 + v
    · rw [if_pos c, if_pos (by omega)]
      cases t with
      | zero => omega
      | succ t => exact steps_l1 hb hl t k _ _ a1 s1 (by simp; omega) (by omega) p3 (by omega) p5 p6
    · rw [if_neg c]
      exact ⟨_, _, _, rfl, by omega⟩
theorem steps_l0 {code : List Int} (hb : Bytes code) (hl : code.length ≤ 1048576) : ∀ t k (x3 : List Int) (x4 at_ seed : Int), x3.length + t ≤ 7 → t + 40 < k → 0 ≤ at_ → at_ + 2 * (t + 100 : Nat) ≤ 4611686018427387904 → 0 ≤ seed → seed < 65521 →
    ∃ out at1 seed1, spec_l06DrawSteps.l0 k x3 x4 (t : Int) code at_ seed = some (out, at1, seed1) ∧ out.length ≤ 22
  | 0, k + 1, x3, x4, at_, seed, h, hk, h0, h1, h2, h3 => by
    unfold spec_l06DrawSteps.l0
    rw [if_neg (by omega)]
    obtain ⟨v, a1, s1, e, p1, p2, p3, p4, p5, p6⟩ := pick_ok hb hl h0 (by omega) h2 h3 (n := 30) (by omega) (by omega)
    rw [e]; simp only [Option.bind_some]
    by_cases c1 : v = 0
    · rw [if_pos c1, if_pos (by omega)]; exact ⟨_, _, _, rfl, by simp; omega⟩
    rw [if_neg c1]
    by_cases c2 : v = 1
    · rw [if_pos c2]
      obtain ⟨v', a2, s2, e', q1, q2, q3, q4, q5, q6⟩ := pick_ok hb hl p3 (by omega) p5 p6 (n := 2) (by omega) (by omega)
      rw [e']; simp only [Option.bind_some]
      rw [if_pos (by omega)]; exact ⟨_, _, _, rfl, by simp; omega⟩
    rw [if_neg c2]
    by_cases c3 : v = 2
    · rw [if_pos c3]
      exact steps_l1 hb hl (22 - x3.length) k x3 x4 a1 s1 (by omega) (by omega) p3 (by omega) p5 p6
    · rw [if_neg c3]; exact ⟨_, _, _, rfl, by omega⟩
  | t + 1, k + 1, x3, x4, at_, seed, h, hk, h0, h1, h2, h3 => by
    unfold spec_l06DrawSteps.l0
    rw [if_pos (by omega)]
    obtain ⟨v, a1, s1, e, p1, p2, p3, p4, p5, p6⟩ := pick_ok hb hl h0 (by omega) h2 h3 (n := 25) (by omega) (by omega)
    rw [e]; simp only [Option.bind_some]
    rw [if_pos (by omega), w64 (n := ((t + 1 : Nat) : Int) - 1) (by omega) (by omega), show ((t + 1 : Nat) : Int) - 1 = (t : Int) by omega]
    exact steps_l0 hb hl t k _ _ a1 s1 (by simp; omega) (by omega) p3 (by omega) p5 p6
theorem steps_ok {code : List Int} (hb : Bytes code) (hl : code.length ≤ 1048576) {at_ seed : Int} (h0 : 0 ≤ at_) (h1 : at_ ≤ 4611686018427387000) (h2 : 0 ≤ seed) (h3 : seed < 65521) (k : Nat) (hk : 60 ≤ k) :
    ∃ out at1 seed1, spec_l06DrawSteps.f k code at_ seed = some (out, at1, seed1) ∧ out.length ≤ 22 := by
  unfold spec_l06DrawSteps.f
  obtain ⟨v, a1, s1, e, p1, p2, p3, p4, p5, p6⟩ := pick_ok hb hl h0 (by omega) h2 h3 (n := 7) (by omega) (by omega)
  rw [e]; simp only [Option.bind_some]
  obtain ⟨t, rfl⟩ : ∃ t : Nat, v = (t : Int) := ⟨v.toNat, by omega⟩
  exact steps_l0 hb hl t k [] (-30) a1 s1 (by simp; omega) (by omega) p3 (by omega) p5 p6
theorem drawWiden_ok {code : List Int} (hb : Bytes code) (hl : code.length ≤ 1048576) (k : Nat) (hk : 60 ≤ k) :
    ∃ a b c d out, spec_DrawRangeWiden.f k code = some (a, b, c, d, out) ∧ out.length ≤ 22 := by
  unfold spec_DrawRangeWiden.f spec_l01Open.f
  simp only [Option.bind_some]
  obtain ⟨a, b, a1, s1, e, p3, p4, p5, p6⟩ := drawR_ok hb hl (at_ := 0) (seed := 7 + ((code.length : Int) % 1000)) (by omega) (by omega) (by omega) (by omega)
  rw [e]; simp only [Option.bind_some]
  obtain ⟨c, d, a2, s2, e2, q3, q4, q5, q6⟩ := drawR_ok hb hl p3 (by omega) p5 p6
  rw [e2]; simp only [Option.bind_some]
  obtain ⟨out, a3, s3, e3, r⟩ := steps_ok hb hl q3 (by omega) q5 q6 k hk
  rw [e3]; exact ⟨_, _, _, _, _, rfl, r⟩
end Go.Proofs.YthkdkcdbjbihkaaDoor.Q
