/- The law FnVals holds: what is said of cells is ordered by the cells it is so of. No conditions. -/
import Derived.Test.YtmibaaicadgchaaDoorQPureFnVals
import Derived.Test.YtmibaaicadgchaaDoorQTFnVals
import Derived.Test.YtmibaaicadgchaaDoorQOpen
import Derived.Test.YtmibaaicadgchaaDoorQx29
import Derived.Test.YtmibaaicadgchaaDoorQx3
import Derived.Test.YtmibaaicadgchaaDoorQx30
import Derived.Test.YtmibaaicadgchaaDoorQx31
import Derived.Test.YtmibaaicadgchaaDoorQx33
import Derived.Test.YtmibaaicadgchaaDoorQx34
import Derived.Test.YtmibaaicadgchaaDoorQx35
import Derived.Test.YtmibaaicadgchaaDoorQx36
import Derived.Test.YtmibaaicadgchaaDoorQx37
import Derived.Test.YtmibaaicadgchaaDoorQx38
import Derived.Test.YtmibaaicadgchaaDoorQx39
import Derived.Test.YtmibaaicadgchaaDoorQx40
namespace Go.Proofs.YtmibaaicadgchaaDoor.Q
open Go.RowKit Go.Proofs.YtmibaaicadgchaaDoorW.PrintWords Go.Proofs.YtmibaaicadgchaaDoorW.PrintLast Go.Proofs.YtmibaaicadgchaaDoorW.PrintMore
open Go.Proofs.YtmibaaicadgchaaDoor.Open
set_option linter.unusedSimpArgs false
set_option linter.unusedVariables false
/-- Three ways how two ranges that are ok may lie. -/
theorem two {a b c d : Int} (h1 : okR a b = true) (h2 : okR c d = true) : (a = 1 ∧ b = 0) ∨ ((c = 1 ∧ d = 0) ∧ -1000000 ≤ a ∧ b ≤ 1000000 ∧ a ≤ b) ∨ ((-1000000 ≤ a ∧ b ≤ 1000000 ∧ a ≤ b) ∧ -1000000 ≤ c ∧ d ≤ 1000000 ∧ c ≤ d) := by
  rcases (okR_iff a b).1 h1 with p | p
  · exact .inl p
  · rcases (okR_iff c d).1 h2 with q | q
    · exact .inr (.inl ⟨q, p⟩)
    · exact .inr (.inr ⟨p, q⟩)
theorem join1 {c d : Int} (h : okR c d = true) : joinR 1 0 c d = (c, d) := by unfold joinR; rw [h]; rfl
theorem join2 {a b : Int} (h : okR a b = true) (h2 : a ≤ b) : joinR a b 1 0 = (a, b) := by
  unfold joinR
  have : (a == 1 && b == 0) = false := by simp; omega
  rw [h, this]; rfl
theorem join3 {a b c d : Int} (h : okR a b = true) (h1 : a ≤ b) (h' : okR c d = true) (h2 : c ≤ d) : joinR a b c d = (mn a c, mx b d) := by
  unfold joinR
  have e1 : (a == 1 && b == 0) = false := by simp; omega
  have e2 : (c == 1 && d == 0) = false := by simp; omega
  rw [h, h', e1, e2]; rfl
theorem leq_iff (a b c d : Int) : leqR a b c d = true ↔ okR a b = true ∧ okR c d = true ∧ (b < a ∨ (c ≤ a ∧ b ≤ d)) := by
  unfold leqR; simp [and_assoc]
theorem join_ok {a b c d : Int} (h1 : okR a b = true) (h2 : okR c d = true) : okR (joinR a b c d).1 (joinR a b c d).2 = true := by
  rcases two h1 h2 with ⟨rfl, rfl⟩ | ⟨⟨rfl, rfl⟩, p⟩ | ⟨p, q⟩
  · rw [join1 h2]; exact h2
  · rw [join2 h1 p.2.2]; exact h1
  · rw [join3 h1 p.2.2 h2 q.2.2, okR_iff]; unfold mn mx; (repeat' split) <;> omega
theorem join_le {a b c d : Int} (h1 : okR a b = true) (h2 : okR c d = true) : leqR a b (joinR a b c d).1 (joinR a b c d).2 = true ∧ leqR c d (joinR a b c d).1 (joinR a b c d).2 = true := by
  rw [leq_iff, leq_iff]
  refine ⟨⟨h1, join_ok h1 h2, ?_⟩, h2, join_ok h1 h2, ?_⟩ <;>
  · rcases two h1 h2 with ⟨rfl, rfl⟩ | ⟨⟨rfl, rfl⟩, p⟩ | ⟨p, q⟩
    · rw [join1 h2]; simp
    · rw [join2 h1 p.2.2]; simp
    · rw [join3 h1 p.2.2 h2 q.2.2]; unfold mn mx; (repeat' split) <;> simp only <;> omega
theorem join_is {a b c d : Int} (h1 : okR a b = true) (h2 : okR c d = true) : leqR a b c d = ((joinR a b c d).1 == c && ((joinR a b c d).2 == d)) := by
  rw [Bool.eq_iff_iff, leq_iff, h1, h2]
  rcases two h1 h2 with ⟨rfl, rfl⟩ | ⟨⟨rfl, rfl⟩, p⟩ | ⟨p, q⟩
  · rw [join1 h2]; simp
  · rw [join2 h1 p.2.2]; simp; omega
  · rw [join3 h1 p.2.2 h2 q.2.2]; unfold mn mx; simp only [Bool.and_eq_true, beq_iff_eq, true_and]; (repeat' split) <;> omega
theorem join_least {a b c d e f : Int} (h1 : leqR a b e f = true) (h2 : leqR c d e f = true) : leqR (joinR a b c d).1 (joinR a b c d).2 e f = true := by
  rw [leq_iff] at h1 h2
  obtain ⟨o1, o3, g1⟩ := h1
  obtain ⟨o2, _, g2⟩ := h2
  rw [leq_iff]
  refine ⟨join_ok o1 o2, o3, ?_⟩
  rcases two o1 o2 with ⟨rfl, rfl⟩ | ⟨⟨rfl, rfl⟩, p⟩ | ⟨p, q⟩
  · rw [join1 o2]; exact g2
  · rw [join2 o1 p.2.2]; exact g1
  · rw [join3 o1 p.2.2 o2 q.2.2]; unfold mn mx; (repeat' split) <;> simp only <;> omega
def joinV (a b : Int) (s : Bool) (c d : Int) (t : Bool) : Int × Int × Bool := if (okR a b && okR c d) = true then ((joinR a b c d).1, (joinR a b c d).2, s && t) else (1, 0, true)
theorem i_vjoin (k : Nat) (a b : Int) (s : Bool) (c d : Int) (t : Bool) : impl_ValJoin.f (k + 1) a b s c d t = some (joinV a b s c d t) := by
  unfold impl_ValJoin.f joinV
  simp only [i_vok, i_join, Option.bind_some]
  cases okR a b <;> cases okR c d <;> cases s <;> simp
theorem s_vjoin (k : Nat) (a b : Int) (s : Bool) (c d : Int) (t : Bool) : spec_ValJoin.f (k + 2) a b s c d t = some (joinV a b s c d t) := by
  unfold spec_ValJoin.f spec_ValJoin.j0 joinV spec_l09None.f spec_l06None.f
  simp only [s_vok, s_join, Option.bind_some]
  cases okR a b <;> cases okR c d <;> cases s <;> simp
def widV (a b : Int) (s : Bool) (c d : Int) (t : Bool) (l : List Int) : Int × Int × Bool := if (okR a b && okR c d && stOk l) = true then ((widR a b c d l).1, (widR a b c d l).2, s && t) else (1, 0, true)
theorem i_vwid (k : Nat) (a b : Int) (s : Bool) (c d : Int) (t : Bool) (l : List Int) (hn : l.length ≤ 1048576) (hk : 2 * l.length + 8 ≤ k) : impl_ValWiden.f k a b s c d t l = some (widV a b s c d t l) := by
  unfold impl_ValWiden.f widV
  simp only [i_vok, i_wid k a b c d l hn hk, i_steps k l hn (by omega), Option.bind_some]
  cases okR a b <;> cases okR c d <;> cases s <;> cases stOk l <;> simp
theorem s_vwid (k : Nat) (a b : Int) (s : Bool) (c d : Int) (t : Bool) (l : List Int) (hn : l.length ≤ 1048576) (hk : 2 * l.length + 8 ≤ k) : spec_ValWiden.f (k + 1) a b s c d t l = some (widV a b s c d t l) := by
  unfold spec_ValWiden.f spec_ValWiden.j0 widV spec_l09None.f spec_l06None.f
  simp only [s_vok, s_wid k a b c d l hn hk, s_steps (k + 1) l hn (by omega), Option.bind_some]
  cases okR a b <;> cases okR c d <;> cases s <;> cases stOk l <;> simp
/-- Whether what is said is so of a cell. -/
def hasV (a b : Int) (s w : Bool) (n : Int) : Bool := okR a b && (if w then decide (a ≤ n) && decide (n ≤ b) else !s && n == 0)
theorem has_join {a b : Int} {s : Bool} {c d : Int} {t w : Bool} {n : Int} (h1 : okR a b = true) (h2 : okR c d = true) (h : hasV a b s w n = true ∨ hasV c d t w n = true) : hasV (joinR a b c d).1 (joinR a b c d).2 (s && t) w n = true := by
  obtain ⟨j1, j2⟩ := join_le h1 h2
  have jo := join_ok h1 h2
  rw [leq_iff] at j1 j2
  unfold hasV at h ⊢
  rw [jo]
  cases w with
  | true =>
    simp only [Bool.true_and, if_true, Bool.and_eq_true, decide_eq_true_eq] at h ⊢
    rcases h with h | h
    · have := j1.2.2; omega
    · have := j2.2.2; omega
  | false =>
    simp only [Bool.true_and, Bool.false_eq_true, if_false, Bool.and_eq_true] at h ⊢
    rcases h with h | h
    · have := h.2.1; exact ⟨by revert this; cases s <;> simp, h.2.2⟩
    · have := h.2.1; exact ⟨by revert this; cases t <;> simp, h.2.2⟩
theorem once_ok {code : List Int} (hb : Bytes code) (hl : code.length ≤ 1048576) {at_ seed n : Int} (h0 : 0 ≤ at_) (h1 : at_ ≤ 4611686018427387904) (h2 : 0 ≤ seed) (h3 : seed < 65521) (hn : 1 ≤ n) (hn2 : n ≤ 100000000) :
    ∃ v at1 seed1, spec_l01Cur_once.f code at_ seed n = some (v, at1, seed1) ∧ 0 ≤ at1 ∧ at1 ≤ at_ + 2 ∧ 0 ≤ seed1 ∧ seed1 < 65521 := by
  unfold spec_l01Cur_once.f
  obtain ⟨v, a1, s1, e, p1, p2, p3, p4, p5, p6⟩ := pick_ok hb hl h0 h1 h2 h3 hn hn2
  rw [e]; exact ⟨_, _, _, rfl, p3, p4, p5, p6⟩
theorem drawVal_ok {code : List Int} (hb : Bytes code) (hl : code.length ≤ 1048576) (k : Nat) {at_ seed : Int} (h0 : 0 ≤ at_) (h1 : at_ ≤ 4611686018427386000) (h2 : 0 ≤ seed) (h3 : seed < 65521) :
    ∃ a b s at1 seed1, spec_l09DrawVal.f (k + 1) code at_ seed = some (a, b, s, at1, seed1) ∧ 0 ≤ at1 ∧ at1 ≤ at_ + 20 ∧ 0 ≤ seed1 ∧ seed1 < 65521 := by
  unfold spec_l09DrawVal.f
  obtain ⟨a, b, a1, s1, e, p3, p4, p5, p6⟩ := drawR_ok hb hl h0 (by omega) h2 h3
  rw [e]; simp only [Option.bind_some]
  obtain ⟨v, a2, s2, e2, q3, q4, q5, q6⟩ := once_ok hb hl p3 (by omega) p5 p6 (n := 2) (by omega) (by omega)
  rw [e2]; simp only [Option.bind_some, s_ok]
  by_cases c1 : okR a b = true
  · rw [if_pos c1, spec_l09DrawVal.j0]
    rw [if_neg (by simp)]; exact ⟨_, _, _, a2, s2, rfl, q3, by omega, q5, q6⟩
  · rw [if_neg c1]
    obtain ⟨v', a3, s3, e3, r1, r2, r3, r4, r5, r6⟩ := pick_ok hb hl q3 (by omega) q5 q6 (n := 4) (by omega) (by omega)
    rw [e3]; simp only [Option.bind_some]
    rw [spec_l09DrawVal.j0]
    split
    · obtain ⟨v2, a4, s4, e4, u1, u2, u3, u4, u5, u6⟩ := pick_ok hb hl r3 (by omega) r5 r6 (n := 9) (by omega) (by omega)
      rw [e4]; simp only [Option.bind_some, s_make]
      exact ⟨_, _, _, a4, s4, rfl, u3, by omega, u5, u6⟩
    · exact ⟨_, _, _, a3, s3, rfl, r3, by omega, r5, r6⟩
theorem drawCell_ok {code : List Int} (hb : Bytes code) (hl : code.length ≤ 1048576) {at_ seed : Int} (h0 : 0 ≤ at_) (h1 : at_ ≤ 4611686018427386000) (h2 : 0 ≤ seed) (h3 : seed < 65521) :
    ∃ w n at1 seed1, spec_l09DrawCell.f code at_ seed = some (w, n, at1, seed1) ∧ 0 ≤ at1 ∧ at1 ≤ at_ + 10 ∧ 0 ≤ seed1 ∧ seed1 < 65521 := by
  unfold spec_l09DrawCell.f
  obtain ⟨v, a1, s1, e, p1, p2, p3, p4, p5, p6⟩ := pick_ok hb hl h0 (by omega) h2 h3 (n := 4) (by omega) (by omega)
  rw [e]; simp only [Option.bind_some]
  by_cases c1 : v > 0
  · rw [if_pos c1]
    obtain ⟨v', a2, s2, e2, q1, q2, q3, q4, q5, q6⟩ := pick_ok hb hl p3 (by omega) p5 p6 (n := 9) (by omega) (by omega)
    rw [e2]; exact ⟨_, _, a2, s2, rfl, q3, by omega, q5, q6⟩
  · rw [if_neg c1]
    obtain ⟨v', a2, s2, e2, q3, q4, q5, q6⟩ := once_ok hb hl p3 (by omega) p5 p6 (n := 20) (by omega) (by omega)
    rw [e2]; simp only [Option.bind_some]
    split
    · obtain ⟨v2, a3, s3, e3, r1, r2, r3, r4, r5, r6⟩ := pick_ok hb hl q3 (by omega) q5 q6 (n := 9) (by omega) (by omega)
      rw [e3]; exact ⟨_, _, a3, s3, rfl, r3, by omega, r5, r6⟩
    · exact ⟨_, _, a2, s2, rfl, q3, by omega, q5, q6⟩
theorem drawVJoin_ok {code : List Int} (hb : Bytes code) (hl : code.length ≤ 1048576) (k : Nat) : ∃ a b s c d t, spec_DrawValJoin.f (k + 1) code = some (a, b, s, c, d, t) := by
  unfold spec_DrawValJoin.f spec_l01Open.f
  simp only [Option.bind_some]
  obtain ⟨a, b, s, a1, s1, e, p3, p4, p5, p6⟩ := drawVal_ok hb hl k (at_ := 0) (seed := 7 + ((code.length : Int) % 1000)) (by omega) (by omega) (by omega) (by omega)
  rw [e]; simp only [Option.bind_some]
  obtain ⟨c, d, t, a2, s2, e2, q3, q4, q5, q6⟩ := drawVal_ok hb hl k p3 (by omega) p5 p6
  rw [e2]; exact ⟨_, _, _, _, _, _, rfl⟩
theorem drawVHas_ok {code : List Int} (hb : Bytes code) (hl : code.length ≤ 1048576) (k : Nat) : ∃ a b s w n, spec_DrawValHas.f (k + 1) code = some (a, b, s, w, n) := by
  unfold spec_DrawValHas.f spec_l01Open.f
  simp only [Option.bind_some]
  obtain ⟨a, b, s, a1, s1, e, p3, p4, p5, p6⟩ := drawVal_ok hb hl k (at_ := 0) (seed := 7 + ((code.length : Int) % 1000)) (by omega) (by omega) (by omega) (by omega)
  rw [e]; simp only [Option.bind_some]
  obtain ⟨w, n, a2, s2, e2, q3, q4, q5, q6⟩ := drawCell_ok hb hl p3 (by omega) p5 p6
  rw [e2]; simp only [Option.bind_some]
  obtain ⟨v, a3, s3, e3, r3, r4, r5, r6⟩ := once_ok hb hl q3 (by omega) q5 q6 (n := 2) (by omega) (by omega)
  rw [e3]; simp only [Option.bind_some]
  (repeat' split) <;> exact ⟨_, _, _, _, _, rfl⟩
theorem i_vtext (K : Nat) {a b : Int} (s : Bool) (h : okR a b = true) : ∃ x : ByteArray, impl_ValText.f (K + 1) a b s = some x ∧ x.data.toList = vtextL a b s ∧ x.size ≤ 100 := by
  unfold impl_ValText.f
  have l := rtext_small a b
  simp only [i_vok, Option.bind_some]
  rw [if_pos h, impl_ValText.j0]
  simp only [i_rtext, Option.bind_some]
  unfold vtextL
  cases s with
  | true => exact ⟨_, rfl, rfl, by omega⟩
  | false =>
    simp only [Bool.false_eq_true, if_false]
    rw [if_pos (by omega)]
    refine ⟨_, rfl, by rw [app_mk'], ?_⟩
    rw [sizeL, app_mk', List.length_append, ← sizeL]
    exact Nat.le_trans (Nat.add_le_add_right l _) (by decide)
theorem vals_back (K : Nat) {a b c d : Int} {s t : Bool} (h1 : okR a b = true) (h2 : okR c d = true) : laws_FnVals.j4 (K + 2) false a b s c d t (joinR a b c d).1 (joinR a b c d).2 (s && t) = some true := by
  rw [laws_FnVals.j4, if_neg (by simp)]
  obtain ⟨x, e1, e2, e3⟩ := i_vtext K (s && t) (join_ok h1 h2)
  rw [e1]; simp only [Option.bind_some]
  rw [i_vread x (by omega), e2, vread_vtext _ (join_ok h1 h2)]
  simp only [Option.bind_some, BEq.rfl, Bool.and_self, if_true, i_vleq]
  obtain ⟨j1, j2⟩ := join_le h1 h2
  rw [j1, j2, join_is h1 h2]
  cases s <;> cases t <;> simp
theorem yoursFnVals : laws_FnVals.Pure := by
  intro x y hx hy
  have bx := bytes_of hx.2
  have by_ := bytes_of hy.2
  refine ⟨200, ?_⟩
  unfold laws_FnVals.f laws_big.f
  simp only [Option.bind_some, decide_eq_true_eq]
  by_cases h1 : (x.length : Int) > 1048576
  · rw [if_pos h1, laws_FnVals.j0, if_pos rfl]
  rw [if_neg h1]
  by_cases h2 : (y.length : Int) > 1048576
  · rw [laws_FnVals.j0, if_pos (by simpa using h2)]
  rw [laws_FnVals.j0, if_neg (by simpa using h2)]
  obtain ⟨a, b, s, c, d, t, e⟩ := drawVJoin_ok bx (by omega) 198
  obtain ⟨_, _, _, _, l, e2, hl⟩ := drawWiden_ok by_ (by omega) 199 (by omega)
  obtain ⟨p, q, u, w, n, e3⟩ := drawVHas_ok by_ (by omega) 198
  rw [e]; simp only [Option.bind_some]
  rw [e2]; simp only [Option.bind_some]
  rw [e3]; simp only [Option.bind_some]
  simp only [i_vjoin 198, s_vjoin 197, i_vwid 199 a b s c d t l (by omega) (by omega), s_vwid 198 a b s c d t l (by omega) (by omega), i_vhas, s_vhas, Option.bind_some, BEq.rfl, Bool.not_true, Bool.or_self, Bool.false_eq_true, if_false, bne_self_eq_false]
  rw [laws_FnVals.j1, if_neg (by simp)]
  simp only [s_vok, Option.bind_some]
  by_cases g1 : okR a b = true
  · rw [if_pos g1, laws_FnVals.j2]
    by_cases g2 : okR c d = true
    · rw [if_neg (by simp [g2])]
      have ej : joinV a b s c d t = ((joinR a b c d).1, (joinR a b c d).2, s && t) := by unfold joinV; rw [g1, g2]; rfl
      rw [ej]
      have hj := has_join (w := w) (n := n) (s := s) (t := t) g1 g2
      have back := vals_back 193 (s := s) (t := t) g1 g2
      have e1 : ∀ (a b : Int) (s w : Bool) (n : Int), impl_ValHas.f a b s w n = some (hasV a b s w n) := i_vhas
      have e2 : ∀ (a b : Int) (s w : Bool) (n : Int), spec_ValHas.f a b s w n = some (hasV a b s w n) := s_vhas
      simp only [e1, e2, Option.bind_some]
      have third : laws_FnVals.j3 197 false a b s c d t w n (joinR a b c d).1 (joinR a b c d).2 (s && t) = some true := by
        rw [laws_FnVals.j3, if_neg (by simp)]
        simp only [e1, e2, Option.bind_some]
        by_cases k1 : hasV a b s w n = true
        · rw [if_pos k1, hj (.inl k1)]; exact back
        · rw [if_neg k1]
          by_cases k2 : hasV c d t w n = true
          · rw [if_pos k2, hj (.inr k2)]; exact back
          · rw [if_neg k2]; exact back
      by_cases k1 : hasV a b s w n = true
      · rw [if_pos k1, if_pos k1]; exact third
      · rw [if_neg k1, if_neg k1, bne_self_eq_false]; exact third
    · rw [if_pos (by simp [g2])]
  · rw [if_neg g1, laws_FnVals.j2, if_pos rfl]
end Go.Proofs.YtmibaaicadgchaaDoor.Q
