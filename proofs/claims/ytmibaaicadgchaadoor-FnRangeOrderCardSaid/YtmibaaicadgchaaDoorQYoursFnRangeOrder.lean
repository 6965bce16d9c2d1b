/- The law FnRangeOrder holds: ranges are ordered by what they have. No conditions. -/
import Derived.Test.YtmibaaicadgchaaDoorQPureFnRangeOrder
import Derived.Test.YtmibaaicadgchaaDoorQTFnRangeOrder
import Derived.Test.YtmibaaicadgchaaDoorQOpen
import Derived.Test.YtmibaaicadgchaaDoorQx15
import Derived.Test.YtmibaaicadgchaaDoorQx28
import Derived.Test.YtmibaaicadgchaaDoorQx3
namespace Go.Proofs.YtmibaaicadgchaaDoor.Q
open Go.RowKit Go.Proofs.YtmibaaicadgchaaDoorW.PrintWords Go.Proofs.YtmibaaicadgchaaDoorW.PrintLast Go.Proofs.YtmibaaicadgchaaDoorW.PrintMore
open Go.Proofs.YtmibaaicadgchaaDoor.Open
set_option linter.unusedSimpArgs false
set_option linter.unusedVariables false
/-- Three ways how two ranges that are ok may lie. -/
theorem two {a b c d : Int} (h1 : okR a b = true) (h2 : okR c d = true) : (a = 1 ∧ b = 0) ∨ ((c = 1 ∧ d = 0) ∧ -1000000 ≤ a ∧ b ≤ 1000000 ∧ a ≤ b) ∨ ((-1000000 ≤ a ∧ b ≤ 1000000 ∧ a ≤ b) ∧ -1000000 ≤ c ∧ d ≤ 1000000 ∧ c ≤ d) := by
  rcases (okR_iff a b).1 h1 with p | p
  · exact .inl p
  · rcases (okR_iff c d).1 h2 with q | q
    · exact .inr (.inl ⟨q, p⟩)
    · exact .inr (.inr ⟨p, q⟩)
theorem join1 {c d : Int} (h : okR c d = true) : joinR 1 0 c d = (c, d) := by unfold joinR; rw [h]; rfl
theorem join2 {a b : Int} (h : okR a b = true) (h2 : a ≤ b) : joinR a b 1 0 = (a, b) := by
  unfold joinR
  have : (a == 1 && b == 0) = false := by simp; omega
  rw [h, this]; rfl
theorem join3 {a b c d : Int} (h : okR a b = true) (h1 : a ≤ b) (h' : okR c d = true) (h2 : c ≤ d) : joinR a b c d = (mn a c, mx b d) := by
  unfold joinR
  have e1 : (a == 1 && b == 0) = false := by simp; omega
  have e2 : (c == 1 && d == 0) = false := by simp; omega
  rw [h, h', e1, e2]; rfl
theorem leq_iff (a b c d : Int) : leqR a b c d = true ↔ okR a b = true ∧ okR c d = true ∧ (b < a ∨ (c ≤ a ∧ b ≤ d)) := by
  unfold leqR; simp [and_assoc]
theorem join_ok {a b c d : Int} (h1 : okR a b = true) (h2 : okR c d = true) : okR (joinR a b c d).1 (joinR a b c d).2 = true := by
  rcases two h1 h2 with ⟨rfl, rfl⟩ | ⟨⟨rfl, rfl⟩, p⟩ | ⟨p, q⟩
  · rw [join1 h2]; exact h2
  · rw [join2 h1 p.2.2]; exact h1
  · rw [join3 h1 p.2.2 h2 q.2.2, okR_iff]; unfold mn mx; (repeat' split) <;> omega
theorem join_le {a b c d : Int} (h1 : okR a b = true) (h2 : okR c d = true) : leqR a b (joinR a b c d).1 (joinR a b c d).2 = true ∧ leqR c d (joinR a b c d).1 (joinR a b c d).2 = true := by
  rw [leq_iff, leq_iff]
  refine ⟨⟨h1, join_ok h1 h2, ?_⟩, h2, join_ok h1 h2, ?_⟩ <;>
  · rcases two h1 h2 with ⟨rfl, rfl⟩ | ⟨⟨rfl, rfl⟩, p⟩ | ⟨p, q⟩
    · rw [join1 h2]; simp
    · rw [join2 h1 p.2.2]; simp
    · rw [join3 h1 p.2.2 h2 q.2.2]; unfold mn mx; (repeat' split) <;> simp only <;> omega
theorem join_is {a b c d : Int} (h1 : okR a b = true) (h2 : okR c d = true) : leqR a b c d = ((joinR a b c d).1 == c && ((joinR a b c d).2 == d)) := by
  rw [Bool.eq_iff_iff, leq_iff, h1, h2]
  rcases two h1 h2 with ⟨rfl, rfl⟩ | ⟨⟨rfl, rfl⟩, p⟩ | ⟨p, q⟩
  · rw [join1 h2]; simp
  · rw [join2 h1 p.2.2]; simp; omega
  · rw [join3 h1 p.2.2 h2 q.2.2]; unfold mn mx; simp only [Bool.and_eq_true, beq_iff_eq, true_and]; (repeat' split) <;> omega
theorem join_least {a b c d e f : Int} (h1 : leqR a b e f = true) (h2 : leqR c d e f = true) : leqR (joinR a b c d).1 (joinR a b c d).2 e f = true := by
  rw [leq_iff] at h1 h2
  obtain ⟨o1, o3, g1⟩ := h1
  obtain ⟨o2, _, g2⟩ := h2
  rw [leq_iff]
  refine ⟨join_ok o1 o2, o3, ?_⟩
  rcases two o1 o2 with ⟨rfl, rfl⟩ | ⟨⟨rfl, rfl⟩, p⟩ | ⟨p, q⟩
  · rw [join1 o2]; exact g2
  · rw [join2 o1 p.2.2]; exact g1
  · rw [join3 o1 p.2.2 o2 q.2.2]; unfold mn mx; (repeat' split) <;> simp only <;> omega
theorem mx_is (a b : Int) : a ≤ mx a b ∧ b ≤ mx a b ∧ (mx a b = a ∨ mx a b = b) := by unfold mx; split <;> omega
theorem mn_is (a b : Int) : mn a b ≤ a ∧ mn a b ≤ b ∧ (mn a b = a ∨ mn a b = b) := by unfold mn; split <;> omega
theorem mkR_two (lo hi : Int) : mkR lo hi = (1, 0) ∨ (mkR lo hi = (mx lo (-1000000), mn hi 1000000) ∧ mx lo (-1000000) ≤ mn hi 1000000) := by
  unfold mkR
  by_cases h : mx lo (-1000000) > mn hi 1000000
  · left; rw [if_pos h]
  · right; rw [if_neg h]; exact ⟨rfl, by omega⟩
theorem meet_le {a b c d : Int} (h1 : okR a b = true) (h2 : okR c d = true) :
    leqR (iteR (smR a b && smR c d) (mx a c) (mn b d)).1 (iteR (smR a b && smR c d) (mx a c) (mn b d)).2 a b = true ∧ leqR (iteR (smR a b && smR c d) (mx a c) (mn b d)).1 (iteR (smR a b && smR c d) (mx a c) (mn b d)).2 c d = true := by
  rw [leq_iff, leq_iff]
  have key : okR (iteR (smR a b && smR c d) (mx a c) (mn b d)).1 (iteR (smR a b && smR c d) (mx a c) (mn b d)).2 = true ∧ ((iteR (smR a b && smR c d) (mx a c) (mn b d)).2 < (iteR (smR a b && smR c d) (mx a c) (mn b d)).1 ∨ (a ≤ (iteR (smR a b && smR c d) (mx a c) (mn b d)).1 ∧ c ≤ (iteR (smR a b && smR c d) (mx a c) (mn b d)).1 ∧ (iteR (smR a b && smR c d) (mx a c) (mn b d)).2 ≤ b ∧ (iteR (smR a b && smR c d) (mx a c) (mn b d)).2 ≤ d)) := by
    unfold iteR
    by_cases hs : (smR a b && smR c d) = true
    · rw [if_pos hs]
      simp only [Bool.and_eq_true, smR_iff] at hs
      have m1 := mx_is a c
      have m2 := mn_is b d
      have m3 := mx_is (mx a c) (-1000000)
      have m4 := mn_is (mn b d) 1000000
      rcases mkR_two (mx a c) (mn b d) with e | ⟨e, g⟩
      · rw [e]; exact ⟨by decide, .inl (by decide)⟩
      · rw [e, okR_iff]
        simp only
        generalize mx (mx a c) (-1000000) = u at *
        generalize mn (mn b d) 1000000 = v at *
        generalize mx a c = u' at *
        generalize mn b d = v' at *
        omega
    · rw [if_neg hs]; exact ⟨by decide, .inl (by decide)⟩
  obtain ⟨k1, k2⟩ := key
  exact ⟨⟨k1, h1, by omega⟩, k1, h2, by omega⟩
theorem wid_le {a b c d : Int} {l : List Int} (h1 : okR a b = true) (h2 : okR c d = true) (h : (widR a b c d l).1 ≤ (widR a b c d l).2) :
    leqR a b (widR a b c d l).1 (widR a b c d l).2 = true ∧ leqR c d (widR a b c d l).1 (widR a b c d l).2 = true := by
  unfold widR at h ⊢
  by_cases hs : stOk l = true
  · simp only [h1, h2, hs, Bool.and_self, if_true] at h ⊢
    rw [leq_iff, leq_iff]
    rcases two h1 h2 with ⟨rfl, rfl⟩ | ⟨⟨rfl, rfl⟩, p⟩ | ⟨p, q⟩
    · simp only [BEq.rfl, Bool.and_self, if_true]
      exact ⟨⟨h1, h2, .inl (by decide)⟩, h2, h2, by omega⟩
    · have e1 : (a == 1 && b == 0) = false := by simp; omega
      simp only [e1, BEq.rfl, Bool.and_self, if_true, Bool.false_eq_true, if_false]
      exact ⟨⟨h1, h1, by omega⟩, h2, h1, .inl (by decide)⟩
    · have e1 : (a == 1 && b == 0) = false := by simp; omega
      have e2 : (c == 1 && d == 0) = false := by simp; omega
      simp only [e1, e2, Bool.false_eq_true, if_false]
      have hs' := hs
      simp only [stOk, Bool.and_eq_true] at hs'
      have hin := st_in hs'.2
      have g1 := loOf_in c q.1 l (-1000000) (by omega) q.1 (fun x hx => (hin x hx).1)
      have g2 := hiOf_in d l 1000000 (by omega) q.2.1 (fun x hx => (hin x hx).2)
      generalize loOf c (-1000000) l = x at g1 ⊢
      generalize hiOf d l 1000000 = y at g2 ⊢
      refine ⟨⟨h1, ?_, ?_⟩, h2, ?_, ?_⟩
      · rw [okR_iff]; (repeat' split) <;> omega
      · (repeat' split) <;> omega
      · rw [okR_iff]; (repeat' split) <;> omega
      · (repeat' split) <;> omega
  · rw [Bool.not_eq_true] at hs
    simp only [hs, Bool.and_false, Bool.false_eq_true, if_false] at h
    omega
theorem drawJoin_ok {code : List Int} (hb : Bytes code) (hl : code.length ≤ 1048576) : ∃ a b c d, spec_DrawRangeJoin.f code = some (a, b, c, d) := by
  unfold spec_DrawRangeJoin.f spec_l01Open.f
  simp only [Option.bind_some]
  obtain ⟨a, b, a1, s1, e, p3, p4, p5, p6⟩ := drawR_ok hb hl (at_ := 0) (seed := 7 + ((code.length : Int) % 1000)) (by omega) (by omega) (by omega) (by omega)
  rw [e]; simp only [Option.bind_some]
  obtain ⟨c, d, a2, s2, e2, q3, q4, q5, q6⟩ := drawR_ok hb hl p3 (by omega) p5 p6
  rw [e2]; exact ⟨_, _, _, _, rfl⟩
theorem order_back (K : Nat) {a b : Int} (h : okR a b = true) : laws_FnRangeOrder.j5 (K + 1) false a b = some true := by
  rw [laws_FnRangeOrder.j5, if_neg (by simp), i_rtext]
  simp only [Option.bind_some]
  rw [i_rread _ (Nat.le_trans (rtext_small a b) (by decide)), rread_rtext h]
  simp
theorem yoursFnRangeOrder : laws_FnRangeOrder.Pure := by
  intro x y hx hy
  have bx := bytes_of hx.2
  have by_ := bytes_of hy.2
  obtain ⟨K, hK⟩ : ∃ K : Nat, K = 1000010 := ⟨_, rfl⟩
  refine ⟨K + 20, ?_⟩
  unfold laws_FnRangeOrder.f laws_big.f
  simp only [Option.bind_some, decide_eq_true_eq]
  by_cases h1 : (x.length : Int) > 1048576
  · rw [if_pos h1, laws_FnRangeOrder.j0, if_pos rfl]
  rw [if_neg h1]
  by_cases h2 : (y.length : Int) > 1048576
  · rw [laws_FnRangeOrder.j0, if_pos (by simpa using h2)]
  rw [laws_FnRangeOrder.j0, if_neg (by simpa using h2)]
  obtain ⟨a, b, c, d, e⟩ := drawJoin_ok bx (by omega)
  obtain ⟨p, q, _, _, l, e2, hl⟩ := drawWiden_ok by_ (by omega) (K + 19) (by omega)
  rw [e]; simp only [Option.bind_some]
  rw [e2]; simp only [Option.bind_some]
  simp only [i_join (K + 18), s_join (K + 18), i_meet (K + 16), s_meet, i_wid (K + 19) a b c d l (by omega) (by omega), s_wid (K + 19) a b c d l (by omega) (by omega), Option.bind_some, BEq.rfl, Bool.not_true, Bool.or_self, Bool.false_eq_true, if_false]
  rw [laws_FnRangeOrder.j1, if_neg (by simp)]
  simp only [s_ok, Option.bind_some]
  by_cases g1 : okR a b = true
  · rw [if_pos g1, laws_FnRangeOrder.j2]
    by_cases g2 : okR c d = true
    · rw [if_neg (by simp [g2])]
      simp only [i_leq, Option.bind_some]
      rw [if_pos (join_le g1 g2).1, if_pos (join_le g1 g2).2, if_pos (meet_le g1 g2).1, if_pos (meet_le g1 g2).2, join_is g1 g2]
      simp only [bne_self_eq_false]
      rw [laws_FnRangeOrder.j3, if_neg (by simp)]
      simp only [s_ok, s_leq, i_leq, Option.bind_some]
      have rest : laws_FnRangeOrder.j4 (K + 16) false a b c d (joinR a b c d).1 (joinR a b c d).2 (widR a b c d l).1 (widR a b c d l).2 = some true := by
        rw [laws_FnRangeOrder.j4, if_neg (by simp), s_rtext _ _ _ (by omega)]
        simp only [Option.bind_some, i_leq]
        have back := order_back (K + 14) (join_ok g1 g2)
        split
        · split
          · rename_i hw
            obtain ⟨w1, w2⟩ := wid_le g1 g2 hw
            rw [if_pos w1, w2]
            exact back
          · exact back
        · exact back
      by_cases g3 : okR p q = true
      · rw [if_pos g3]
        by_cases g4 : leqR a b p q = true
        · rw [if_pos g4]
          by_cases g5 : leqR c d p q = true
          · rw [if_pos g5, join_least g4 g5]; exact rest
          · rw [if_neg g5]; exact rest
        · rw [if_neg g4]; exact rest
      · rw [if_neg g3]; exact rest
    · rw [if_pos (by simp [g2])]
  · rw [if_neg g1, laws_FnRangeOrder.j2, if_pos rfl]
end Go.Proofs.YtmibaaicadgchaaDoor.Q
