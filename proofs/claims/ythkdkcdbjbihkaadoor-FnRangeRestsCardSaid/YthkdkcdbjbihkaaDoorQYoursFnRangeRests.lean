/- The law FnRangeRests holds: a range that is widened again and again comes to rest. No conditions. -/
import Derived.Test.YthkdkcdbjbihkaaDoorQPureFnRangeRests
import Derived.Test.YthkdkcdbjbihkaaDoorQWiden
import Derived.Test.YthkdkcdbjbihkaaDoorQDrawR
import Derived.Test.YthkdkcdbjbihkaaDoorQPick
import Derived.Test.YthkdkcdbjbihkaaDoorQOpen
import Derived.Test.YthkdkcdbjbihkaaDoorQx27
import Derived.Test.YthkdkcdbjbihkaaDoorQx32
namespace Go.Proofs.YthkdkcdbjbihkaaDoor.Q
open Go.RowKit Go.Proofs.YthkdkcdbjbihkaaDoorW.PrintWords Go.Proofs.YthkdkcdbjbihkaaDoorW.PrintLast Go.Proofs.YthkdkcdbjbihkaaDoorW.PrintMore
open Go.Proofs.YthkdkcdbjbihkaaDoor.Open
set_option linter.unusedSimpArgs false
set_option linter.unusedVariables false
theorem cnt_mono (l : List Int) {a b : Int} (h : a ≤ b) : l.countP (fun x => decide (x < a)) ≤ l.countP (fun x => decide (x < b)) :=
  List.countP_mono_left (fun x _ hx => by simp at hx ⊢; omega)
theorem cnt_lt : ∀ (l : List Int) {a b : Int}, a < b → a ∈ l → l.countP (fun x => decide (x < a)) < l.countP (fun x => decide (x < b))
  | [], _, _, _, hm => by simp at hm
  | y :: t, a, b, h, hm => by
    have hmono := cnt_mono t (show a ≤ b by omega)
    rw [List.countP_cons, List.countP_cons]
    rcases List.mem_cons.1 hm with rfl | hm
    · simp [h]; omega
    · have := cnt_lt t h hm
      by_cases p : y < a
      · simp [p, show y < b by omega]; omega
      · by_cases q : y < b <;> simp [p, q] <;> omega
theorem cnu_mono (l : List Int) {a b : Int} (h : b ≤ a) : l.countP (fun x => decide (a < x)) ≤ l.countP (fun x => decide (b < x)) :=
  List.countP_mono_left (fun x _ hx => by simp at hx ⊢; omega)
theorem cnu_lt : ∀ (l : List Int) {a b : Int}, b < a → a ∈ l → l.countP (fun x => decide (a < x)) < l.countP (fun x => decide (b < x))
  | [], _, _, _, hm => by simp at hm
  | y :: t, a, b, h, hm => by
    have hmono := cnu_mono t (show b ≤ a by omega)
    rw [List.countP_cons, List.countP_cons]
    rcases List.mem_cons.1 hm with rfl | hm
    · simp [h]; omega
    · have := cnu_lt t h hm
      by_cases p : a < y
      · simp [p, show b < y by omega]; omega
      · by_cases q : b < y <;> simp [p, q] <;> omega
/-- How often a lower end may still go down, and an upper end up. -/
def dn (l : List Int) (a : Int) : Nat := l.countP (fun x => decide (x < a)) + (if -1000000 < a then 1 else 0)
def upw (l : List Int) (b : Int) : Nat := l.countP (fun x => decide (b < x)) + (if b < 1000000 then 1 else 0)
theorem dn_le (l : List Int) (a : Int) : dn l a ≤ l.length + 1 := by
  unfold dn
  have := List.countP_le_length (p := fun x => decide (x < a)) (l := l)
  split <;> omega
theorem upw_le (l : List Int) (a : Int) : upw l a ≤ l.length + 1 := by
  unfold upw
  have := List.countP_le_length (p := fun x => decide (a < x)) (l := l)
  split <;> omega
theorem dn_lt {l : List Int} {a b : Int} (h : a < b) (h0 : -1000000 ≤ a) (hm : a = -1000000 ∨ a ∈ l) : dn l a < dn l b := by
  unfold dn
  rcases hm with rfl | hm
  · have := cnt_mono l (show (-1000000 : Int) ≤ b by omega)
    rw [if_neg (by omega), if_pos h]; omega
  · have := cnt_lt l h hm
    rw [if_pos (show -1000000 < b by omega)]
    split <;> omega
theorem upw_lt {l : List Int} {a b : Int} (h : b < a) (h0 : a ≤ 1000000) (hm : a = 1000000 ∨ a ∈ l) : upw l a < upw l b := by
  unfold upw
  rcases hm with rfl | hm
  · have := cnu_mono l (show b ≤ (1000000 : Int) by omega)
    rw [if_neg (by omega), if_pos h]; omega
  · have := cnu_lt l h hm
    rw [if_pos (show b < 1000000 by omega)]
    split <;> omega
theorem loOf_mem (c : Int) : ∀ (t : List Int) (lo : Int), loOf c lo t = lo ∨ loOf c lo t ∈ t
  | [], lo => .inl rfl
  | x :: t, lo => by
    unfold loOf
    split
    · rcases loOf_mem c t x with h | h
      · right; rw [h]; simp
      · right; simp [h]
    · rcases loOf_mem c t lo with h | h
      · left; exact h
      · right; simp [h]
theorem hiOf_mem (d : Int) : ∀ (t : List Int) (hi : Int), hiOf d t hi = hi ∨ hiOf d t hi ∈ t
  | [], hi => .inl rfl
  | x :: t, hi => by
    unfold hiOf
    split
    · right; simp
    · rcases hiOf_mem d t hi with h | h
      · left; exact h
      · right; simp [h]
/-- How often a range may still change. -/
def phi (l : List Int) (a b : Int) : Nat := if stOk l = true then (if a = 1 ∧ b = 0 then 2 * l.length + 3 else dn l a + upw l b) else (if a = 1 ∧ b = 0 then 0 else 1)
theorem phi_le (l : List Int) (a b : Int) : phi l a b ≤ 2 * l.length + 3 := by
  unfold phi
  have := dn_le l a
  have := upw_le l b
  (repeat' split) <;> omega
theorem wid_step (l : List Int) {a b c d : Int} (h1 : okR a b = true) (h2 : okR c d = true) (h3 : c ≤ d) :
    okR (widR a b c d l).1 (widR a b c d l).2 = true ∧ (widR a b c d l = (a, b) ∨ phi l (widR a b c d l).1 (widR a b c d l).2 < phi l a b) := by
  unfold widR
  by_cases hs : stOk l = true
  · simp only [h1, h2, hs, Bool.and_self, if_true]
    rcases (okR_iff c d).1 h2 with ⟨rfl, rfl⟩ | ⟨p4, p5, p6⟩
    · omega
    have q4 : (c == 1 && d == 0) = false := by simp; omega
    rcases (okR_iff a b).1 h1 with ⟨rfl, rfl⟩ | ⟨p1, p2, p3⟩
    · simp only [BEq.rfl, Bool.and_self, if_true]
      refine ⟨h2, .inr ?_⟩
      have := dn_le l c
      have := upw_le l d
      unfold phi
      rw [if_pos hs, if_pos hs, if_neg (by omega), if_pos ⟨rfl, rfl⟩]; omega
    · have q2 : (a == 1 && b == 0) = false := by simp; omega
      simp only [q2, q4, Bool.false_eq_true, if_false]
      have hs' := hs
      simp only [stOk, Bool.and_eq_true] at hs'
      have hin := st_in hs'.2
      have g1 := loOf_in c p4 l (-1000000) (by omega) p4 (fun x hx => (hin x hx).1)
      have g2 := hiOf_in d l 1000000 (by omega) p5 (fun x hx => (hin x hx).2)
      have m1 := loOf_mem c l (-1000000)
      have m2 := hiOf_mem d l 1000000
      generalize loOf c (-1000000) l = x at g1 m1 ⊢
      generalize hiOf d l 1000000 = y at g2 m2 ⊢
      by_cases u1 : c < a
      · have k1 := dn_lt (l := l) (a := x) (b := a) (by omega) g1.1 m1
        by_cases u2 : b < d
        · have k2 := upw_lt (l := l) (a := y) (b := b) (by omega) g2.1 m2
          simp only [u1, u2, if_true]
          refine ⟨(okR_iff x y).2 (.inr ⟨g1.1, g2.1, by omega⟩), .inr ?_⟩
          unfold phi
          rw [if_pos hs, if_pos hs, if_neg (by omega), if_neg (by omega)]; omega
        · simp only [u1, u2, if_true, if_false]
          refine ⟨(okR_iff x b).2 (.inr ⟨g1.1, p2, by omega⟩), .inr ?_⟩
          unfold phi
          rw [if_pos hs, if_pos hs, if_neg (by omega), if_neg (by omega)]; omega
      · by_cases u2 : b < d
        · have k2 := upw_lt (l := l) (a := y) (b := b) (by omega) g2.1 m2
          simp only [u1, u2, if_true, if_false]
          refine ⟨(okR_iff a y).2 (.inr ⟨p1, g2.1, by omega⟩), .inr ?_⟩
          unfold phi
          rw [if_pos hs, if_pos hs, if_neg (by omega), if_neg (by omega)]; omega
        · simp only [u1, u2, if_false]
          exact ⟨h1, by simp⟩
  · rw [Bool.not_eq_true] at hs
    simp only [hs, Bool.and_false, Bool.false_eq_true, if_false]
    refine ⟨rfl, ?_⟩
    by_cases q : a = 1 ∧ b = 0
    · left; rw [q.1, q.2]
    · right; unfold phi
      rw [hs]; simp [q]
theorem rest_l {m : List Int} (hb : Bytes m) (hm : m.length ≤ 1048576) (l : List Int) (hl : l.length ≤ 22) : ∀ (t i n k : Nat) (a b : Int), i + t = 40 → t + 100 < k → okR a b = true → n + phi l a b ≤ 2 * l.length + 3 → laws_FnRangeRests.l0 k m l (n : Int) (i : Int) a b = some true
  | 0, i, n, k + 1, a, b, h, hk, ho, hp => by
    unfold laws_FnRangeRests.l0
    rw [if_neg (by omega), w64 (n := 2 * (l.length : Int)) (by omega) (by omega), w64 (by omega) (by omega), decide_eq_true (by omega)]
  | t + 1, i, n, k + 1, a, b, h, hk, ho, hp => by
    unfold laws_FnRangeRests.l0
    obtain ⟨x, e1, x1, x2⟩ := lpick_ok hb hm (at_ := (i : Int)) (n := 2001) (by omega) (by omega) (by omega) (by omega) k (by omega)
    obtain ⟨y, e2, y1, y2⟩ := lpick_ok hb hm (at_ := (i : Int) + 7) (n := 300) (by omega) (by omega) (by omega) (by omega) k (by omega)
    rw [if_pos (by omega), e1, w64 (n := (i : Int) + 7) (by omega) (by omega), e2]
    simp only [Option.bind_some]
    rw [w64 (n := x - 1000) (by omega) (by omega), w64 (n := x - 1000 + y) (by omega) (by omega), i_wid k a b _ _ l (by omega) (by omega), s_wid k a b _ _ l (by omega) (by omega)]
    simp only [Option.bind_some, s_ok]
    have ho2 : okR (x - 1000) (x - 1000 + y) = true := (okR_iff _ _).2 (.inr ⟨by omega, by omega, by omega⟩)
    obtain ⟨w1, w2⟩ := wid_step l ho ho2 (by omega)
    generalize widR a b (x - 1000) (x - 1000 + y) l = r at w1 w2 ⊢
    obtain ⟨p, q⟩ := r
    simp only [w1, BEq.rfl, Bool.not_true, Bool.or_self, Bool.false_eq_true, if_false, if_true]
    rw [w64s i (by omega)]
    rcases w2 with w2 | w2
    · obtain ⟨rfl, rfl⟩ := Prod.mk.inj w2
      rw [if_neg (by simp)]
      exact rest_l hb hm l hl t (i + 1) n k p q (by omega) (by omega) ho hp
    · have hne : (!(p == a) || !(q == b)) = true := by
        by_cases hpa : p = a
        · by_cases hqb : q = b
          · subst hpa; subst hqb; exact absurd w2 (Nat.lt_irrefl _)
          · simp [hqb]
        · simp [hpa]
      rw [if_pos hne, w64s n (by omega)]
      simp only at w2
      exact rest_l hb hm l hl t (i + 1) (n + 1) k p q (by omega) (by omega) w1 (by omega)
theorem yoursFnRangeRests : laws_FnRangeRests.Pure := by
  intro x y hx hy
  have bx := bytes_of hx.2
  have by_ := bytes_of hy.2
  refine ⟨400, ?_⟩
  unfold laws_FnRangeRests.f laws_big.f laws_FnRangeRests.j0
  simp only [Option.bind_some, decide_eq_true_eq]
  by_cases h1 : (x.length : Int) > 1048576
  · rw [if_pos h1]; rfl
  rw [if_neg h1]
  by_cases h2 : (y.length : Int) > 1048576
  · rw [if_pos h2]
  rw [if_neg h2]
  obtain ⟨a, b, c, d, l, e, hl⟩ := drawWiden_ok bx (by omega) 399 (by omega)
  rw [e]
  simp only [Option.bind_some, s_ok]
  by_cases ho : okR a b = true
  · rw [if_pos ho]
    exact rest_l by_ (by omega) l hl 40 0 0 399 a b (by omega) (by omega) ho (by have := phi_le l a b; omega)
  · rw [if_neg ho, i_wid 399 a b a b l (by omega) (by omega)]
    unfold widR
    rw [Bool.not_eq_true] at ho
    simp [ho]
end Go.Proofs.YthkdkcdbjbihkaaDoor.Q
