/- The law FnRangeSums holds: what comes of numbers of two ranges by +, -, * or a change of sign is in the range that is told. No conditions. -/
import Derived.Test.YtmibaaicadgchaaDoorQPureFnRangeSums
import Derived.Test.YtmibaaicadgchaaDoorQTFnRangeSums
import Derived.Test.YtmibaaicadgchaaDoorQOpen
import Derived.Test.YtmibaaicadgchaaDoorQx14
import Derived.Test.YtmibaaicadgchaaDoorQx3
import Derived.Test.YtmibaaicadgchaaDoorQx7
import Derived.Test.YtmibaaicadgchaaDoorQx8
namespace Go.Proofs.YtmibaaicadgchaaDoor.Q
open Go.RowKit Go.Proofs.YtmibaaicadgchaaDoorW.PrintWords Go.Proofs.YtmibaaicadgchaaDoorW.PrintLast Go.Proofs.YtmibaaicadgchaaDoorW.PrintMore
open Go.Proofs.YtmibaaicadgchaaDoor.Open
set_option linter.unusedSimpArgs false
set_option linter.unusedVariables false
theorem has_mk {lo hi z : Int} (h1 : lo ≤ z) (h2 : z ≤ hi) (h3 : -1000000 ≤ z) (h4 : z ≤ 1000000) : (okR (mkR lo hi).1 (mkR lo hi).2 && decide ((mkR lo hi).1 ≤ z) && decide (z ≤ (mkR lo hi).2)) = true := by
  simp only [Bool.and_eq_true, decide_eq_true_eq, okR_iff]
  unfold mkR mx mn
  (repeat' split) <;> omega
theorem lin {a b x y : Int} (h1 : a ≤ x) (h2 : x ≤ b) : (a * y ≤ x * y ∧ x * y ≤ b * y) ∨ (b * y ≤ x * y ∧ x * y ≤ a * y) := by
  rcases Int.le_total 0 y with h | h
  · exact .inl ⟨Int.mul_le_mul_of_nonneg_right h1 h, Int.mul_le_mul_of_nonneg_right h2 h⟩
  · exact .inr ⟨Int.mul_le_mul_of_nonpos_right h2 h, Int.mul_le_mul_of_nonpos_right h1 h⟩
theorem mul_btw {a b c d x y : Int} (h1 : a ≤ x) (h2 : x ≤ b) (h3 : c ≤ y) (h4 : y ≤ d) :
    mn (mn (mn (a * c) (a * d)) (b * c)) (b * d) ≤ x * y ∧ x * y ≤ mx (mx (mx (a * c) (a * d)) (b * c)) (b * d) := by
  have p := lin (y := y) h1 h2
  have q := lin (y := a) h3 h4
  have r := lin (y := b) h3 h4
  rw [Int.mul_comm c a, Int.mul_comm y a, Int.mul_comm d a] at q
  rw [Int.mul_comm c b, Int.mul_comm y b, Int.mul_comm d b] at r
  generalize x * y = xy at *
  generalize a * y = ay at *
  generalize b * y = by_ at *
  generalize a * c = ac at *
  generalize a * d = ad at *
  generalize b * c = bc at *
  generalize b * d = bd at *
  unfold mn mx
  refine ⟨?_, ?_⟩ <;> (repeat' split) <;> omega
theorem in_thin (z : Int) : laws_within.f z = some (decide (-1000000 ≤ z) && decide (z ≤ 1000000)) := by
  unfold laws_within.f
  by_cases h : -1000000 ≤ z
  · rw [if_pos h]; simp [h]
  · rw [if_neg h]; simp [h]
theorem both {w h : Bool} {X Y : Option Bool} (hw : w = true → h = true) : (if w = true then (if h = true then X else Y) else X) = X := by
  cases w
  · simp
  · simp [hw rfl]
theorem sums_l {m : List Int} (hb : Bytes m) (hm : m.length ≤ 1048576) (a b c d : Int) (h1 : -1000000 ≤ a) (h2 : a ≤ b) (h3 : b ≤ 1000000) (h4 : -1000000 ≤ c) (h5 : c ≤ d) (h6 : d ≤ 1000000) :
    ∀ (t i k : Nat), i + t = 6 → t + 50 < k → laws_FnRangeSums.l0 k m (i : Int) a b c d (mkR (a + c) (b + d)).1 (mkR (a + c) (b + d)).2 (mkR (a - d) (b - c)).1 (mkR (a - d) (b - c)).2
      (mkR (mn (mn (mn (a * c) (a * d)) (b * c)) (b * d)) (mx (mx (mx (a * c) (a * d)) (b * c)) (b * d))).1 (mkR (mn (mn (mn (a * c) (a * d)) (b * c)) (b * d)) (mx (mx (mx (a * c) (a * d)) (b * c)) (b * d))).2 = some true
  | 0, i, k + 1, h, hk => by
    unfold laws_FnRangeSums.l0
    rw [if_neg (by omega)]
  | t + 1, i, k + 1, h, hk => by
    obtain ⟨k, rfl⟩ : ∃ n, k = n + 2 := ⟨k - 2, by omega⟩
    unfold laws_FnRangeSums.l0
    have sm : smR a b = true := (smR_iff a b).2 ⟨h1, h3, h2⟩
    rw [if_pos (by omega), w64 (n := b - a) (by omega) (by omega), w64 (n := d - c) (by omega) (by omega), w64 (n := b - a + 1) (by omega) (by omega), w64 (n := d - c + 1) (by omega) (by omega), w64 (n := (i : Int) + 9) (by omega) (by omega)]
    obtain ⟨u, e1, x1, x2⟩ := lpick_ok hb hm (at_ := (i : Int)) (n := b - a + 1) (by omega) (by omega) (by omega) (by omega) (k + 2) (by omega)
    obtain ⟨v, e2, y1, y2⟩ := lpick_ok hb hm (at_ := (i : Int) + 9) (n := d - c + 1) (by omega) (by omega) (by omega) (by omega) (k + 2) (by omega)
    rw [e1]; simp only [Option.bind_some]
    rw [e2]; simp only [Option.bind_some]
    obtain ⟨x, hx⟩ : ∃ x, x = a + u := ⟨_, rfl⟩
    obtain ⟨y, hy⟩ : ∃ y, y = c + v := ⟨_, rfl⟩
    have g1 : a ≤ x := by omega
    have g2 : x ≤ b := by omega
    have g3 : c ≤ y := by omega
    have g4 : y ≤ d := by omega
    rw [w64 (n := a + u) (by omega) (by omega), w64 (n := c + v) (by omega) (by omega), ← hx, ← hy]
    rw [w64 (n := x + y) (by omega) (by omega), w64 (n := x - y) (by omega) (by omega), w64 (n := -x) (by omega) (by omega), w_mul (a := x) (b := y) (by omega) (by omega) (by omega) (by omega)]
    have hM := mul_btw g1 g2 g3 g4
    simp only [in_thin, i_has, i_neg, Option.bind_some]
    have s1 : (decide (-1000000 ≤ x + y) && decide (x + y ≤ 1000000)) = true → (okR (mkR (a + c) (b + d)).1 (mkR (a + c) (b + d)).2 && decide ((mkR (a + c) (b + d)).1 ≤ x + y) && decide (x + y ≤ (mkR (a + c) (b + d)).2)) = true := fun q => by
      simp only [Bool.and_eq_true, decide_eq_true_eq] at q
      exact has_mk (by omega) (by omega) q.1 q.2
    have s2 : (decide (-1000000 ≤ x - y) && decide (x - y ≤ 1000000)) = true → (okR (mkR (a - d) (b - c)).1 (mkR (a - d) (b - c)).2 && decide ((mkR (a - d) (b - c)).1 ≤ x - y) && decide (x - y ≤ (mkR (a - d) (b - c)).2)) = true := fun q => by
      simp only [Bool.and_eq_true, decide_eq_true_eq] at q
      exact has_mk (by omega) (by omega) q.1 q.2
    generalize hml : mn (mn (mn (a * c) (a * d)) (b * c)) (b * d) = ml at hM ⊢
    generalize hmh : mx (mx (mx (a * c) (a * d)) (b * c)) (b * d) = mh at hM ⊢
    generalize x * y = z at hM ⊢
    have s3 : (decide (-1000000 ≤ z) && decide (z ≤ 1000000)) = true → (okR (mkR ml mh).1 (mkR ml mh).2 && decide ((mkR ml mh).1 ≤ z) && decide (z ≤ (mkR ml mh).2)) = true := fun q => by
      simp only [Bool.and_eq_true, decide_eq_true_eq] at q
      exact has_mk hM.1 hM.2 q.1 q.2
    have s4 : (okR (iteR (smR a b) (-b) (-a)).1 (iteR (smR a b) (-b) (-a)).2 && decide ((iteR (smR a b) (-b) (-a)).1 ≤ -x) && decide (-x ≤ (iteR (smR a b) (-b) (-a)).2)) = true := by
      unfold iteR
      rw [if_pos sm]
      exact has_mk (by omega) (by omega) (by omega) (by omega)
    rw [both s3, both s2, both s1, if_pos s4, w64s i (by omega)]
    subst hml
    subst hmh
    exact sums_l hb hm a b c d h1 h2 h3 h4 h5 h6 t (i + 1) (k + 2) (by omega) (by omega)
theorem drawMul_ok {code : List Int} (hb : Bytes code) (hl : code.length ≤ 1048576) : ∃ a b c d, spec_DrawRangeMul.f code = some (a, b, c, d) := by
  unfold spec_DrawRangeMul.f spec_l01Open.f
  simp only [Option.bind_some]
  obtain ⟨a, b, a1, s1, e, p3, p4, p5, p6⟩ := drawR_ok hb hl (at_ := 0) (seed := 7 + ((code.length : Int) % 1000)) (by omega) (by omega) (by omega) (by omega)
  rw [e]; simp only [Option.bind_some]
  obtain ⟨c, d, a2, s2, e2, q3, q4, q5, q6⟩ := drawR_ok hb hl p3 (by omega) p5 p6
  rw [e2]; exact ⟨_, _, _, _, rfl⟩
theorem yoursFnRangeSums : laws_FnRangeSums.Pure := by
  intro x hx
  have bx := bytes_of hx.2
  refine ⟨200, ?_⟩
  unfold laws_FnRangeSums.f laws_big.f
  simp only [Option.bind_some, decide_eq_true_eq]
  by_cases h1 : (x.length : Int) > 1048576
  · rw [if_pos h1]
  rw [if_neg h1]
  obtain ⟨a, b, c, d, e⟩ := drawMul_ok bx (by omega)
  rw [e]
  simp only [Option.bind_some, i_add 197, s_add, i_sub 197, s_sub, i_mul 192, s_mul, i_neg 198, s_neg, BEq.rfl, Bool.not_true, Bool.or_self, Bool.false_eq_true, if_false]
  rw [laws_FnRangeSums.j0, if_neg (by simp)]
  simp only [s_ok, Option.bind_some]
  by_cases g1 : okR a b = true
  · by_cases g2 : okR c d = true
    · rw [if_pos g1, if_pos g2]
      by_cases g3 : a > b
      · rw [if_pos g3, laws_FnRangeSums.j1, if_pos rfl]
      rw [if_neg g3, laws_FnRangeSums.j1]
      by_cases g4 : c > d
      · rw [if_pos (by simpa using g4)]
      rw [if_neg (by simpa using g4)]
      have m1 : smR a b = true := by rw [smR_le, g1]; simp; omega
      have m2 : smR c d = true := by rw [smR_le, g2]; simp; omega
      have n1 := (smR_iff a b).1 m1
      have n2 := (smR_iff c d).1 m2
      unfold mulR iteR
      rw [m1, m2]
      simp only [Bool.and_self, if_true]
      exact sums_l bx (by omega) a b c d n1.1 n1.2.2 n1.2.1 n2.1 n2.2.2 n2.2.1 6 0 198 (by omega) (by omega)
    · rw [if_pos g1, if_neg g2, laws_FnRangeSums.j1, if_pos rfl]
  · rw [if_neg g1, laws_FnRangeSums.j1, if_pos rfl]
end Go.Proofs.YtmibaaicadgchaaDoor.Q
